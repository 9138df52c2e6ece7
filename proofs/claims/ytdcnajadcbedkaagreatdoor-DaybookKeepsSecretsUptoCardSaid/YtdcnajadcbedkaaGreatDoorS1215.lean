/- Part of the proof of a law. -/
import Derived.KernelRfl
import Derived.Test.YtdcnajadcbedkaaGreatDoorS1214
set_option linter.all false
open Go Go.Proofs Aq
namespace Sh
set_option maxRecDepth 100000
theorem akB:(Tryz.prog.funcs.toList.all fun fn=>fn.name != "runtime.NumGoroutine")=true:=by kernel_rfl
theorem akC:Tryz.prog.follows .mixedOrders=true:=by kernel_rfl
theorem akD:aX wu=true:=by kernel_rfl
theorem aaN (jO:FuncId->Option (List V->Option V)) (hs:∀f g,jO f=some g->∀args v,g args=some v->sU (E.sm jO) f args v):mH (E.sm jO) where
 name:=fun f fn h hn=>by
  have h1:=adI.1 akB fn (by
   have:Tryz.prog.funcs[f]? =some fn:=h
   rw[Array.getElem?_eq_some_iff] at this
   obtain⟨hlt,he⟩:=this
   rw[<-he];exact Array.getElem_mem_toList hlt)
  rw[hn] at h1
  simp at h1
 jO:=hs
 mixed:=akC
 flat:=fun g cs h=>by
  have h':(bif Nat.beq g 1 then some wu else none)=some cs:=h
  cases hg:Nat.beq g 1
  ·rw[hg] at h';cases h'
  ·rw[hg] at h';cases h';exact akD
theorem akE:mH (E.sm fun _=>none):=aaN _ fun _ _ h=>by cases h
theorem akF:mH E:=aaN MK fun f g h args v hv=>by
 unfold MK at h
 cases h1:Nat.beq f 116
 ·rw[h1,cond_false] at h
  cases h2:Nat.beq f 61
  ·rw[h2] at h;cases h
  ·rw[h2,cond_true] at h
   cases h
   have:=aml h2
   subst this
   exact akq rfl akE rfl (fun _ _ h=>h) rfl rfl (fun _ h=>h) hv
 ·rw[h1,cond_true] at h
  cases h
  have:=aml h1
  subst this
  exact aki rfl hv
end Sh
