import Derived.Test.YtabmooekodficaaGreatDoorF4417
set_option linter.all false
section
open Go Go.Proofs Aq
namespace Sh
set_option maxRecDepth 100000
def memS (n:Nat):List Nat->Bool
 | []=>false
 |m::l=>Nat.beq n m||memS n l
def impL:List Nat:=[79,76,42,78,45,41,44,82,75,97,96,123,124,125,127,128,129,130,114,115,116,118,119,121,122,142,139,143,144,137,140,141,146,145]
def omL:List Nat:=[45,78]
noncomputable def ES (s:FuncId->Option (List V->Option V)):Env:={P:=Tryz.prog,glob:=globS,imp:=fun f=>memS f impL,om:=fun f=>memS f omL,summ:=s,frz:=fun t=>Nat.beq t 75,frzd:=fun d=>Nat.beq d 75002}
theorem Ck:pcleanL iT=true:=by kernel_rfl
theorem esOK (s:FuncId->Option (List V->Option V)) (hs:∀f g,s f=some g->∀args v,g args=some v->PureOK (ES s) f args v):EnvOK (ES s) where
 name:=fun f fn h hn=>by
  have h1:Tryz.prog.funcs.all (fun fn=>!(fn.name== "runtime.NumGoroutine"))=true:=by kernel_rfl
  have h2:Tryz.prog.funcs[f]? =some fn:=h
  have h3:=Array.all_eq_true_iff_forall_mem.1 h1 fn (Array.mem_of_getElem? h2)
  rw[hn] at h3
  exact absurd h3 (by decide)
 summ:=hs
 mixed:=by kernel_rfl
 flat:=fun g cs h=>by
  have h':(bif Nat.beq g 1 then some iT else bif Nat.beq g 0 then some iT else none)=some cs:=h
  cases hg:Nat.beq g 1
  ·rw[hg] at h'
   cases hg0:Nat.beq g 0
   ·rw[hg0] at h';cases h'
   ·rw[hg0] at h';cases h';exact Ck
  ·rw[hg] at h';cases h';exact Ck
theorem es0:EnvOK (ES fun _=>none):=esOK _ fun f g h=>by cases h
end Sh
end
section
open Go Go.Proofs Aq
namespace Sh
set_option maxRecDepth 100000
theorem san_run:callPure (ES fun _=>none) (evl (ES fun _=>none) 400) 5 []=some (.bool true):=by kernel_rfl
theorem san_pure:PureOK (ES fun _=>none) 5 [] (.bool true):=callPure_sound es0 (evl_sound es0 400).call san_run
end Sh
end
section
open Go Go.Proofs Aq
namespace Sh
set_option maxRecDepth 100000
def aae (g d:Nat):Bool:=bif Nat.beq g 65 then memN d [5,7] else bif Nat.beq g 62 then memN d [5,10] else bif Nat.beq g 61 then memN d [4] else false
noncomputable def Eg:Env:={P:=Tryz.prog,glob:=globS,imp:=fun _=>false,om:=fun _=>false,summ:=fun _=>none}
def sanT:List V->Option V
 | []=>some (.bool true)
 |_::_=>none
noncomputable def summS (f:Nat):Option (List V->Option V):=bif Nat.beq f 32 then some (uD Eg) else bif Nat.beq f 5 then some sanT else none
noncomputable def E:Env:={P:=Tryz.prog,glob:=globS,imp:=fun f=>Nat.beq f 49||Nat.beq f 66||Nat.beq f 67||Nat.beq f 68,om:=fun f=>false,summ:=summS,own:=aae,ownN:=fun f=>false,frz:=fun t=>false}
theorem iU {σ σ':Sig} {loc:Aq.Loc} {s:Nat} (h:σ'.obj loc=σ.obj loc):σ'.cellsAt loc s=σ.cellsAt loc s:=by
 unfold Sig.cellsAt;rw[h]
theorem fzM_E (d:Option Nat):fzM E d=false:=by cases d<;>rfl
theorem bsM_E (d:Option Nat):bsM E d=false:=by cases d<;>rfl
attribute [go_sem] fzM_E bsM_E
end Sh
end
section
open Go Go.Proofs Aq
namespace Sh
noncomputable def iters:IR R:=noI
theorem iters_ok:ItersOK E iters:=noI_ok
end Sh
end
section
open Go Go.Proofs Aq
namespace Sh
noncomputable def regs0 (_:Nat):Nat->List (FR R):=noF
theorem regs0_ok (n:Nat):RegsOK E (regs0 n):=noF_ok
theorem san_call:Pure E 5 [] (.bool true):=⟨0,rfl⟩
theorem sanP (p:PayL R.T []) (x:PayL R.T [.d .bool]) (h:some true=some x):Pure E 5 (encSL R [] p) (retV (encSL R [.d .bool] x)):=by
 cases h
 exact san_call
end Sh
end
section
namespace Aq
open Go
def Env.sm (E:Env) (s:FuncId->Option (List V->Option V)):Env:={E with summ:=s}
section
variable {E:Env} {s:FuncId->Option (List V->Option V)} {S T:bH}
end
end Aq
end
