import Derived.Test.YtdcnajadcbedkaaGreatDoorF914
set_option linter.all false
open Go Go.Proofs aR
namespace Sh
set_option maxRecDepth 100000
theorem axo:(Tryz.prog.funcs.toList.all fun fn=>fn.name != "runtime.NumGoroutine")=true:=av
theorem axp:Tryz.prog.follows .mixedOrders=true:=av
theorem alh:cu xD=true:=av
theorem ali (mO:FuncId->Option (List V->Option V))(hs:∀f g,mO f=some g->∀args v,g args=some v->rJ (E.sm mO) f args v):o7 (E.sm mO) where
 name:=fun f fn h hn=>by have h1:=lK.1 axo fn (by have:Tryz.prog.funcs[f]? =some fn:=h;rw[Array.getElem?_eq_some_iff] at this;obtain⟨hlt,he⟩:=this;rw[<-he];exact Array.getElem_mem_toList hlt);rw[hn] at h1;simp at h1
 mO:=hs
 mixed:=axp
 flat:=fun g cs h=>by
  have h':(bif Nat.beq g 1 then some xD else bif Nat.beq g 2 then some xD else none)=some cs:=h;cases hg:Nat.beq g 1
  .rw[hg] at h';cases hg0:Nat.beq g 2
   .rw[hg0] at h';cases h'
   .rw[hg0] at h';cases h';exact alh
  .rw[hg] at h';cases h';exact alh
theorem axq:o7 (E.sm fun _=>none):=ali _ fun _ _ h=>dh
theorem alj:o7 E:=ali TW fun f g h args v hv=>by
 unfold TW at h;cases h0:Nat.beq f 100
 .rw[h0,cond_false] at h;cases h1:Nat.beq f 116
  .rw[h1,cond_false] at h;cases h2:Nat.beq f 61
   .rw[h2] at h;cases h
   .rw[h2,cond_true] at h;cases h;have:=zo h2;subst this;exact awX rfl axq rfl (fun _ _ h=>h) rfl rfl (fun d=>Cc) (fun d=>Cc) hv
  .rw[h1,cond_true] at h;cases h;have:=zo h1;subst this;exact awT rfl hv
 .rw[h0,cond_true] at h;cases h;have:=zo h0;subst this;exact alb rfl (fun _ _ h=>h) (aw0 Eg hv)
end Sh
