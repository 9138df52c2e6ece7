import Derived.Test.YtabmooekodficaaGreatDoorF4418
set_option linter.all false
open Go Go.Proofs Aq
namespace Sh
set_option maxRecDepth 100000
theorem aaf:(Tryz.prog.funcs.toList.all fun fn=>fn.name != "runtime.NumGoroutine")=true:=by kernel_rfl
theorem aag:Tryz.prog.follows .mixedOrders=true:=by kernel_rfl
theorem aah (summ:FuncId->Option (List V->Option V)) (hs:∀f g,summ f=some g->∀args v,g args=some v->PureOK (E.sm summ) f args v):EnvOK (E.sm summ) where
 name:=fun f fn h hn=>by
  have h1:=aeP.1 aaf fn (by
   have:Tryz.prog.funcs[f]? =some fn:=h
   rw[Array.getElem?_eq_some_iff] at this
   obtain⟨hlt,he⟩:=this
   rw[<-he];exact Array.getElem_mem_toList hlt)
  rw[hn] at h1
  simp at h1
 summ:=hs
 mixed:=aag
 flat:=fun g cs h=>by
  have h':(bif Nat.beq g 1 then some iT else bif Nat.beq g 0 then some iT else none)=some cs:=h
  cases hg:Nat.beq g 1
  ·rw[hg] at h'
   cases hg0:Nat.beq g 0
   ·rw[hg0] at h';cases h'
   ·rw[hg0] at h';cases h';exact Ck
  ·rw[hg] at h';cases h';exact Ck
theorem envOK:EnvOK E:=aah summS fun f g h args v hv=>by
 unfold summS at h
 cases h0:Nat.beq f 32
 ·rw[h0,cond_false] at h
  cases h1:Nat.beq f 5
  ·rw[h1,cond_false] at h;cases h
  ·rw[h1,cond_true] at h
   cases h
   have:=afx h1
   subst this
   cases args with
   |nil=>cases hv;exact Iz rfl (fun _ _ h=>h) san_pure
   |cons a l=>cases hv
 ·rw[h0,cond_true] at h
  cases h
  have:=afx h0
  subst this
  exact Iz rfl (fun _ _ h=>h) (aac Eg hv)
end Sh
