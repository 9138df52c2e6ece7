import Derived.Test.YteniejlbjfigdaaGreatDoorF515
set_option linter.all false
open Go Go.Proofs aR
namespace Sh
set_option maxRecDepth 100000
theorem as5:(Tryz.prog.funcs.toList.all fun fn=>fn.name != "runtime.NumGoroutine")=true:=ay
theorem as6:Tryz.prog.follows .mixedOrders=true:=ay
theorem aie:bQ wZ=true:=ay
theorem as7 (mV:FuncId->Option (List V->Option V))(hs:∀f g,mV f=some g->∀args v,g args=some v->tX (E.sm mV) f args v):qg (E.sm mV) where
 name:=fun f fn h hn=>by have h1:=kU.1 as5 fn (by have:Tryz.prog.funcs[f]? =some fn:=h;rw[Array.getElem?_eq_some_iff] at this;obtain⟨hlt,he⟩:=this;rw[<-he];exact Array.getElem_mem_toList hlt);rw[hn] at h1;simp at h1
 mV:=hs
 mixed:=as6
 flat:=fun g cs h=>by
  have h':(bif Nat.beq g 1 then some wZ else bif Nat.beq g 0 then some wZ else none)=some cs:=h;cases hg:Nat.beq g 1
  .rw[hg] at h';cases hg0:Nat.beq g 0
   .rw[hg0] at h';cases h'
   .rw[hg0] at h';cases h';exact aie
  .rw[hg] at h';cases h';exact aie
theorem aif:qg E:=as7 MZ fun f g h args v hv=>by
 unfold MZ at h;cases h0:Nat.beq f 70
 .rw[h0,cond_false] at h;cases h
 .rw[h0,cond_true] at h;cases h;have:=yS h0;subst this;exact ah0 rfl (fun _ _ h=>h) (asM Eg hv)
end Sh
