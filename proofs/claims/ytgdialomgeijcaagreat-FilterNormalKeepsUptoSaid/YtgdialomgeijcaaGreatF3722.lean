import Derived.ChangeCalls
import Derived.Deep.DeepHandedRow
import Derived.Lib.LaidTab
import Derived.OpenShut
import Derived.ProofKit
import Derived.Test.YtgdialomgeijcaaGreatF3721
import Derived.Test.YtgdialomgeijcaaGreatRows
set_option linter.all false
namespace Go.Proofs.YtgdialomgeijcaaGreat.preds
open Go Go.ChangeShapes Go.WideShapes Go.ChangeAt Go.RowKit Aq Sh
set_option maxRecDepth 100000
theorem own:ownKnob Tryz.prog.godebug=none:=by kernel_rfl
theorem u4:Tryz.prog.underlying 4=some .bool:=by kernel_rfl
theorem glob_ok {W:World}:∀g cs,Sh.E.glob g=some cs->Rel (KA W) (fun _=>0) W (.cref cs 0) (.pointer (some (at_ g 0))):=fun g cs hg=>by cases hg
theorem tys_ok:(rty.all fun x=>tyOK R Tryz.prog x.1 x.2)=true:=by kernel_rfl
theorem look_mem {α:Type}:∀{l:List (Nat×α)} {i:Nat} {x:α},_root_.Aq.look l i=some x->(i,x)∈l
 | [],_,_,h=>by cases h
 | (j,y)::l,i,x,h=>by
   unfold _root_.Aq.look at h
   cases hb:Nat.beq j i
   ·rw[hb] at h;exact RQ _ (look_mem h)
   ·rw[hb] at h
    cases h
    have:=Ti hb
    subst this
    simp
theorem hty:∀t τ,R.ty t=some τ->tyOK R Tryz.prog t τ=true:=fun t τ h=>RZ.1 tys_ok (t,τ) (look_mem h)
theorem laidOut:laidOutB Tryz.prog=true:=by kernel_rfl
theorem rowed:mapsRowed Tryz.prog=true:=by kernel_rfl
theorem kids:Kids Tryz.prog (· <Tryz.prog.types.size):=kids_rows laidOut rowed
theorem full:((List.range Tryz.prog.types.size).all fun t=>match Tryz.prog.underlying t with|some (.slice e)=>decide (0<Tryz.prog.cellsOf e)|_=>true)=true:=by kernel_rfl
theorem bulkOK (H:Type):Bulk H Rows.uptoBulk Rows.uptoBulkAll where
 one d:=by
  cases d with
  |lit l=>cases l<;>simp[Rows.uptoBulk]
  |_=>simp[Rows.uptoBulk]
 str s:=by simp[Rows.uptoBulk]
 agg l:=by simp[Rows.uptoBulk]
 sl l r:=by simp only[Rows.uptoBulk];omega
 nil:=rfl
 cons d l:=by simp only[Rows.uptoBulkAll]
end Go.Proofs.YtgdialomgeijcaaGreat.preds
