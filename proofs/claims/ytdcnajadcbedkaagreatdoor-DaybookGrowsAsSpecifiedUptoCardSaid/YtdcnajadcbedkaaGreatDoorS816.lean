/- Part of the proof of a law. -/
import Derived.KernelRfl
import Derived.Test.YtdcnajadcbedkaaGreatDoorS815
set_option linter.all false
set_option linter.unusedSimpArgs false
set_option linter.unusedSectionVars false
open Go Go.Proofs Aq
namespace Sh
set_option maxRecDepth 100000
theorem aiZ:(Tryz.prog.funcs.toList.all fun fn=>fn.name != "runtime.NumGoroutine")=true:=by kernel_rfl
theorem ai0:Tryz.prog.follows .mixedOrders=true:=by kernel_rfl
theorem YX:aR qc=true:=by kernel_rfl
theorem YZ (iZ:FuncId→Option (List V→Option V)) (hs:∀f g,iZ f=some g→∀args v,g args=some v→qB (E.sm iZ) f args v):kQ (E.sm iZ) where
 name:=fun f fn h hn=>by
  have h1:=List.all_eq_true.1 aiZ fn (by
   have:Tryz.prog.funcs[f]? =some fn:=h
   rw[Array.getElem?_eq_some_iff] at this
   obtain⟨hlt,he⟩:=this
   rw[←he];exact Array.getElem_mem_toList hlt)
  rw[hn] at h1
  simp at h1
 iZ:=hs
 mixed:=ai0
 flat:=fun g cs h=>by
  have h':(bif Nat.beq g 1 then some qc else bif Nat.beq g 2 then some qc else none)=some cs:=h
  cases hg:Nat.beq g 1
  ·rw[hg] at h'
   cases hg0:Nat.beq g 2
   ·rw[hg0] at h';cases h'
   ·rw[hg0] at h';cases h';exact YX
  ·rw[hg] at h';cases h';exact YX
theorem ai1:kQ (E.sm fun _=>none):=YZ _ fun _ _ h=>by cases h
theorem ai2:kQ E:=YZ Jy fun f g h args v hv=>by
 unfold Jy at h
 cases h1:Nat.beq f 116
 ·rw[h1,cond_false] at h
  cases h2:Nat.beq f 61
  ·rw[h2] at h;cases h
  ·rw[h2,cond_true] at h
   cases h
   have:=Nat.eq_of_beq_eq_true h2
   subst this
   exact aix rfl ai1 rfl (fun _ _ h=>h) rfl rfl hv
 ·rw[h1,cond_true] at h
  cases h
  have:=Nat.eq_of_beq_eq_true h1
  subst this
  exact aip rfl hv
end Sh
