/- Part of the proof of a law. -/
import Derived.KernelRfl
import Derived.Test.YtdcnajadcbedkaaGreatDoorS715
set_option linter.all false
set_option linter.unusedSimpArgs false
set_option linter.unusedSectionVars false
open Go Go.Proofs Aq
namespace Sh
set_option maxRecDepth 100000
theorem ags:(Tryz.prog.funcs.toList.all fun fn=>fn.name != "runtime.NumGoroutine")=true:=by kernel_rfl
theorem agt:Tryz.prog.follows .mixedOrders=true:=by kernel_rfl
theorem agu:aP tY=true:=by kernel_rfl
theorem WG (iZ:FuncId→Option (List V→Option V)) (hs:∀f g,iZ f=some g→∀args v,g args=some v→qG (E.sm iZ) f args v):kU (E.sm iZ) where
 name:=fun f fn h hn=>by
  have h1:=List.all_eq_true.1 ags fn (by
   have:Tryz.prog.funcs[f]? =some fn:=h
   rw[Array.getElem?_eq_some_iff] at this
   obtain⟨hlt,he⟩:=this
   rw[←he];exact Array.getElem_mem_toList hlt)
  rw[hn] at h1
  simp at h1
 iZ:=hs
 mixed:=agt
 flat:=fun g cs h=>by
  have h':(bif Nat.beq g 1 then some tY else none)=some cs:=h
  cases hg:Nat.beq g 1
  ·rw[hg] at h';cases h'
  ·rw[hg] at h';cases h';exact agu
theorem agv:kU (E.sm fun _=>none):=WG _ fun _ _ h=>by cases h
theorem agw:kU E:=WG I5 fun f g h args v hv=>by
 unfold I5 at h
 cases h1:Nat.beq f 116
 ·rw[h1,cond_false] at h
  cases h2:Nat.beq f 61
  ·rw[h2] at h;cases h
  ·rw[h2,cond_true] at h
   cases h
   have:=Nat.eq_of_beq_eq_true h2
   subst this
   exact afW rfl agv rfl (fun _ _ h=>h) rfl rfl hv
 ·rw[h1,cond_true] at h
  cases h
  have:=Nat.eq_of_beq_eq_true h1
  subst this
  exact afO rfl hv
end Sh
