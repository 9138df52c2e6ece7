import Derived.Test.YtdcnajadcbedkaaGreatDoorF1014
set_option linter.all false
open Go Go.Proofs aQ
namespace Sh
set_option maxRecDepth 100000
theorem aww:(Tryz.prog.funcs.toList.all fun fn=>fn.name != "runtime.NumGoroutine")=true:=av
theorem awx:Tryz.prog.follows .mixedOrders=true:=av
theorem akt:bY xw=true:=av
theorem aku (mP:FuncId->Option (List V->Option V))(hs:∀f g,mP f=some g->∀args v,g args=some v->rT (E.sm mP) f args v):o8 (E.sm mP) where
 name:=fun f fn h hn=>by have h1:=lK.1 aww fn (by have:Tryz.prog.funcs[f]? =some fn:=h;rw[Array.getElem?_eq_some_iff] at this;obtain⟨hlt,he⟩:=this;rw[<-he];exact Array.getElem_mem_toList hlt);rw[hn] at h1;simp at h1
 mP:=hs
 mixed:=awx
 flat:=fun g cs h=>by
  have h':(bif Nat.beq g 1 then some xw else bif Nat.beq g 2 then some xw else none)=some cs:=h;cases hg:Nat.beq g 1
  .rw[hg] at h';cases hg0:Nat.beq g 2
   .rw[hg0] at h';cases h'
   .rw[hg0] at h';cases h';exact akt
  .rw[hg] at h';cases h';exact akt
theorem awy:o8 (E.sm fun _=>none):=aku _ fun _ _ h=>cZ
theorem akv:o8 E:=aku TH fun f g h args v hv=>by
 unfold TH at h;cases h0:Nat.beq f 100
 .rw[h0,cond_false] at h;cases h1:Nat.beq f 116
  .rw[h1,cond_false] at h;cases h2:Nat.beq f 61
   .rw[h2] at h;cases h
   .rw[h2,cond_true] at h;cases h;have:=xZ h2;subst this;exact av3 rfl awy rfl (fun _ _ h=>h) rfl rfl (fun d=>BQ) (fun d=>BQ) hv
  .rw[h1,cond_true] at h;cases h;have:=xZ h1;subst this;exact avZ rfl hv
 .rw[h0,cond_true] at h;cases h;have:=xZ h0;subst this;exact akn rfl (fun _ _ h=>h) (av6 Eg hv)
end Sh
