import Derived.Test.YtgdialomgeijcaaGreatF4014
set_option linter.all false
open Go Go.Proofs Aq
namespace Sh
set_option maxRecDepth 100000
def aiQ (n:Nat):List Nat->Bool
 | []=>false|m::l=>Nat.beq n m||aiQ n l
def SG (f:Nat):Option (List V->Option V):=bif Nat.beq f 42 then some aea else none
noncomputable def ES (s:FuncId->Option (List V->Option V)):Env:={P:=Tryz.prog,glob:=apm,imp:=fun f=>aiQ f [104,69,70,82,106,92,105,107,108,109,111,112,113,114,119,122,127,128,129,131,132,134,135,136,137,140,101,117,126,139,91,103,125,138],om:=fun f=>aiQ f [77,94,104],W9:=s}
theorem apn (s:FuncId->Option (List V->Option V))(hs:∀f g,s f=some g->∀args v,g args=some v->UJ (ES s) f args v):Ul (ES s) where
 name:=fun f fn h hn=>by
  have h1:Tryz.prog.funcs.all (fun fn=>!(fn.name== "runtime.NumGoroutine"))=true:=by kernel_rfl
  have h2:Tryz.prog.funcs[f]? =some fn:=h;have h3:=Array.all_eq_true_iff_forall_mem.1 h1 fn (Array.mem_of_getElem? h2);rw[hn] at h3;exact absurd h3 (by decide)
 W9:=hs
 mixed:=by kernel_rfl
 flat:=fun g cs h=>by cases h
theorem es0:Ul (ES SG):=apn _ fun f g h args v hv=>by
 unfold SG at h;cases h1:Nat.beq f 42
 .rw[h1,cond_false] at h;cases h
 .rw[h1,cond_true] at h;cases h;have:=QK h1;subst this;exact aiO rfl hv
end Sh
