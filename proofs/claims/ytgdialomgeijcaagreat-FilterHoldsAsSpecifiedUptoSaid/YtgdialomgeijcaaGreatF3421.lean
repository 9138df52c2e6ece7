/- Part of the proof of a law. -/
import Derived.ChangeCalls
import Derived.Deep.DeepHandedRow
import Derived.Lib.LaidTab
import Derived.OpenShut
import Derived.ProofKit
import Derived.Test.YtgdialomgeijcaaGreatF3412
import Derived.Test.YtgdialomgeijcaaGreatF3420
import Derived.Test.YtgdialomgeijcaaGreatRows
import Derived.WalkKit
set_option linter.all false
set_option linter.unusedSimpArgs false
set_option linter.unusedSectionVars false
namespace Go.Proofs.YtgdialomgeijcaaGreat.UU
open Go Go.ChangeShapes Go.WideShapes Go.ChangeAt Go.RowKit Aq Sh
set_option maxRecDepth 100000
theorem own:ownKnob Tryz.prog.godebug=none:=by kernel_rfl
theorem u4:Tryz.prog.underlying 4=some .bool:=by kernel_rfl
theorem aeI {W:World}:∀g cs,Sh.E.glob g=some cs→Rel (KA W) (fun _=>0) W (.aH cs 0) (.pointer (some (at_ g 0))):=fun g cs hg=>by cases hg
theorem aeJ:(rty.all fun x=>kH R Tryz.prog x.1 x.2)=true:=by kernel_rfl
theorem UW {α:Type}:∀{l:List (Nat×α)} {i:Nat} {x:α},_root_.Aq.look l i=some x→(i,x)∈l
 | [],_,_,h=>by cases h
 | (j,y)::l,i,x,h=>by
   unfold _root_.Aq.look at h
   cases hb:Nat.beq j i
   ·rw[hb] at h;exact List.mem_cons_of_mem _ (UW h)
   ·rw[hb] at h
    cases h
    have:=Nat.eq_of_beq_eq_true hb
    subst this
    simp
theorem hty:∀t τ,R.ty t=some τ→kH R Tryz.prog t τ=true:=fun t τ h=>List.all_eq_true.1 aeJ (t,τ) (UW h)
theorem laidOut:laidOutB Tryz.prog=true:=by kernel_rfl
theorem aeK:mapsRowed Tryz.prog=true:=by kernel_rfl
theorem kids:Kids Tryz.prog (· <Tryz.prog.types.size):=kids_rows laidOut aeK
theorem full:((List.range Tryz.prog.types.size).all fun t=>match Tryz.prog.underlying t with|some (.slice e)=>decide (0<Tryz.prog.cellsOf e)|_=>true)=true:=by kernel_rfl
theorem aeL (H:Type):Bulk H Rows.uptoBulk Rows.uptoBulkAll where
 one d:=by
  cases d with
  |lit l=>cases l<;>simp[Rows.uptoBulk]
  |_=>simp[Rows.uptoBulk]
 str s:=by simp[Rows.uptoBulk]
 agg l:=by simp[Rows.uptoBulk]
 sl l r:=by simp only[Rows.uptoBulk];omega
 nil:=rfl
 cons d l:=by simp only[Rows.uptoBulkAll]
end Go.Proofs.YtgdialomgeijcaaGreat.UU
