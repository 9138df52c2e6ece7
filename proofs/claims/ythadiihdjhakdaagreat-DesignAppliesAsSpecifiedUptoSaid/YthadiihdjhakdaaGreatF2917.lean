import Derived.ChangeCalls
import Derived.Deep.DeepHandedRow
import Derived.Lib.LaidTab
import Derived.OpenShut
import Derived.ProofKit
import Derived.Test.YthadiihdjhakdaaGreatF2914
import Derived.Test.YthadiihdjhakdaaGreatF2916
import Derived.Test.YthadiihdjhakdaaGreatRows
set_option linter.all false
namespace Go.Proofs.YthadiihdjhakdaaGreat.UQ
open Go Go.ChangeShapes Go.WideShapes Go.ChangeAt Go.RowKit aY Sh
set_option maxRecDepth 100000
theorem own:ownKnob Tryz.prog.godebug=none:=aA
theorem u4:Tryz.prog.underlying 4=some .bool:=aA
theorem atg {W:World}:∀g cs,Sh.E.glob g=some cs->Rel (sO W) (fun _=>0) W (.aI cs 0) (.pointer (some (at_ g 0))):=fun g cs hg=>by cases hg
theorem ath:(rty.all fun x=>oN R Tryz.prog x.1 x.2)=true:=aA
theorem aiY {α:Type}:∀{l:List (Nat×α)}{i:Nat}{x:α},_root_.aY.look l i=some x->(i,x)∈l
 | [],_,_,h=>bC| (j,y)::l,i,x,h=>by
   unfold _root_.aY.look at h;cases hb:Nat.beq j i
   ·rw[hb] at h;exact iK _ (aiY h)
   ·rw[hb] at h
    cases h;have:=xE hb;subst this;simp
theorem hty:∀t τ,R.ty t=some τ->oN R Tryz.prog t τ=true:=fun t τ h=>kM.1 ath (t,τ) (aiY h)
theorem laidOut:laidOutB Tryz.prog=true:=aA
theorem ati:mapsRowed Tryz.prog=true:=aA
theorem kids:Kids Tryz.prog (· <Tryz.prog.types.size):=kids_rows laidOut ati
theorem full:((List.range Tryz.prog.types.size).all fun t=>match Tryz.prog.underlying t with|some (.slice e)=>decide (0<Tryz.prog.cellsOf e)|_=>true)=true:=aA
theorem atj (H:Type):Bulk H Rows.uptoBulk Rows.uptoBulkAll where
 one d:=by
  cases d with
  |lit l=>cases l<;>simp[Rows.uptoBulk]|_=>simp[Rows.uptoBulk]
 str s:=by simp[Rows.uptoBulk]
 agg l:=by simp[Rows.uptoBulk]
 sl l r:=by simp only[Rows.uptoBulk];omega
 nil:=rfl
 cons d l:=by simp only[Rows.uptoBulkAll]
end Go.Proofs.YthadiihdjhakdaaGreat.UQ
