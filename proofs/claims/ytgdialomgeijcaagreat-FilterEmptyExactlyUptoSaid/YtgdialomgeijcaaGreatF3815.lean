import Derived.Test.YtgdialomgeijcaaGreatF3814
set_option linter.all false
open Go Go.Proofs Aq
namespace Sh
set_option maxRecDepth 100000
def agw (n:Nat):List Nat->Bool
 | []=>false|m::l=>Nat.beq n m||agw n l
def Sm (f:Nat):Option (List V->Option V):=bif Nat.beq f 42 then some acp else none
noncomputable def ES (s:FuncId->Option (List V->Option V)):Env:={P:=Tryz.prog,glob:=aln,imp:=fun f=>agw f [104,69,70,82,106,92,105,107,108,109,111,112,113,114,119,122,127,128,129,131,132,134,135,136,137,140,101,117,126,139,91,103,125,138],om:=fun f=>agw f [77,94,104],Wn:=s}
theorem alo (s:FuncId->Option (List V->Option V))(hs:∀f g,s f=some g->∀args v,g args=some v->Un (ES s) f args v):TQ (ES s) where
 name:=fun f fn h hn=>by
  have h1:Tryz.prog.funcs.all (fun fn=>!(fn.name== "runtime.NumGoroutine"))=true:=by kernel_rfl
  have h2:Tryz.prog.funcs[f]? =some fn:=h;have h3:=Array.all_eq_true_iff_forall_mem.1 h1 fn (Array.mem_of_getElem? h2);rw[hn] at h3;exact absurd h3 (by decide)
 Wn:=hs
 mixed:=by kernel_rfl
 flat:=fun g cs h=>by cases h
theorem es0:TQ (ES Sm):=alo _ fun f g h args v hv=>by
 unfold Sm at h;cases h1:Nat.beq f 42
 .rw[h1,cond_false] at h;cases h
 .rw[h1,cond_true] at h;cases h;have:=QJ h1;subst this;exact agu rfl hv
end Sh
