/- Part of the proof of a law. -/
import Derived.KernelRfl
import Derived.Test.YtdcnajadcbedkaaGreatDoorS1115
set_option linter.all false
set_option linter.unusedSimpArgs false
set_option linter.unusedSectionVars false
open Go Go.Proofs Aq
namespace Sh
set_option maxRecDepth 100000
theorem aha:(Tryz.prog.funcs.toList.all fun fn=>fn.name != "runtime.NumGoroutine")=true:=by kernel_rfl
theorem ahb:Tryz.prog.follows .mixedOrders=true:=by kernel_rfl
theorem ahc:aR vI=true:=by kernel_rfl
theorem Xo (je:FuncId→Option (List V→Option V)) (hs:∀f g,je f=some g→∀args v,g args=some v→rF (E.sm je) f args v):lF (E.sm je) where
 name:=fun f fn h hn=>by
  have h1:=List.all_eq_true.1 aha fn (by
   have:Tryz.prog.funcs[f]? =some fn:=h
   rw[Array.getElem?_eq_some_iff] at this
   obtain⟨hlt,he⟩:=this
   rw[←he];exact Array.getElem_mem_toList hlt)
  rw[hn] at h1
  simp at h1
 je:=hs
 mixed:=ahb
 flat:=fun g cs h=>by
  have h':(bif Nat.beq g 1 then some vI else none)=some cs:=h
  cases hg:Nat.beq g 1
  ·rw[hg] at h';cases h'
  ·rw[hg] at h';cases h';exact ahc
theorem ahd:lF (E.sm fun _=>none):=Xo _ fun _ _ h=>by cases h
theorem ahe:lF E:=Xo JQ fun f g h args v hv=>by
 unfold JQ at h
 cases h1:Nat.beq f 116
 ·rw[h1,cond_false] at h
  cases h2:Nat.beq f 61
  ·rw[h2,cond_false] at h
   cases h3:Nat.beq f 151
   ·rw[h3] at h;cases h
   ·rw[h3,cond_true] at h
    cases h
    have:=Nat.eq_of_beq_eq_true h3
    subst this
    exact agJ rfl hv
  ·rw[h2,cond_true] at h
   cases h
   have:=Nat.eq_of_beq_eq_true h2
   subst this
   exact agM rfl ahd rfl (fun _ _ h=>h) rfl rfl hv
 ·rw[h1,cond_true] at h
  cases h
  have:=Nat.eq_of_beq_eq_true h1
  subst this
  exact agA rfl hv
end Sh
