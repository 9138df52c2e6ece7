/- Part of the proof of a law. -/
import Derived.KernelRfl
import Derived.Test.YtdcnajadcbedkaaGreatDoorS615
set_option linter.all false
set_option linter.unusedSimpArgs false
set_option linter.unusedSectionVars false
open Go Go.Proofs Aq
namespace Sh
set_option maxRecDepth 100000
theorem ai3:(Tryz.prog.funcs.toList.all fun fn=>fn.name != "runtime.NumGoroutine")=true:=by kernel_rfl
theorem ai4:Tryz.prog.follows .mixedOrders=true:=by kernel_rfl
theorem Y4:aQ qo=true:=by kernel_rfl
theorem Y5 (iV:FuncId→Option (List V→Option V)) (hs:∀f g,iV f=some g→∀args v,g args=some v→qG (E.sm iV) f args v):kV (E.sm iV) where
 name:=fun f fn h hn=>by
  have h1:=List.all_eq_true.1 ai3 fn (by
   have:Tryz.prog.funcs[f]? =some fn:=h
   rw[Array.getElem?_eq_some_iff] at this
   obtain⟨hlt,he⟩:=this
   rw[←he];exact Array.getElem_mem_toList hlt)
  rw[hn] at h1
  simp at h1
 iV:=hs
 mixed:=ai4
 flat:=fun g cs h=>by
  have h':(bif Nat.beq g 1 then some qo else bif Nat.beq g 2 then some qo else none)=some cs:=h
  cases hg:Nat.beq g 1
  ·rw[hg] at h'
   cases hg0:Nat.beq g 2
   ·rw[hg0] at h';cases h'
   ·rw[hg0] at h';cases h';exact Y4
  ·rw[hg] at h';cases h';exact Y4
theorem ai5:kV (E.sm fun _=>none):=Y5 _ fun _ _ h=>by cases h
theorem ai6:kV E:=Y5 Kn fun f g h args v hv=>by
 unfold Kn at h
 cases h1:Nat.beq f 116
 ·rw[h1,cond_false] at h
  cases h2:Nat.beq f 61
  ·rw[h2] at h;cases h
  ·rw[h2,cond_true] at h
   cases h
   have:=Nat.eq_of_beq_eq_true h2
   subst this
   exact aiB rfl ai5 rfl (fun _ _ h=>h) rfl rfl hv
 ·rw[h1,cond_true] at h
  cases h
  have:=Nat.eq_of_beq_eq_true h1
  subst this
  exact ait rfl hv
end Sh
