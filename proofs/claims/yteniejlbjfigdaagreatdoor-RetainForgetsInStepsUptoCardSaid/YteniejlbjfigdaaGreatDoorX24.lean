/- Part of the proof of a law. -/
import Derived.Test.YteniejlbjfigdaaGreatDoorX20
import Derived.Test.YteniejlbjfigdaaGreatDoorX21
import Derived.Test.YteniejlbjfigdaaGreatDoorX23
set_option linter.all false
set_option linter.unusedSimpArgs false
set_option linter.unusedSectionVars false
open Go Go.Proofs Aq
namespace Aq
theorem mO.env {E E':Env} (hP:E'.P=E.P) (hg:∀g cs,E.glob g=some cs→E'.glob g=some cs) {f:FuncId} {args:List V} {v:V} (h:mO E f args v):mO E' f args v:=by
 obtain⟨⟨fn,c,hb⟩,h⟩:=h
 refine⟨⟨fn,c,by rw[hP];exact hb⟩,fun I IM w cB hl hr=> ?_⟩
 rw[hP]
 refine h I IM w cB ?_ hr
 obtain⟨h1,h2,h3⟩:=hl
 exact⟨h1,h2,fun g cs hgc=>h3 g cs (hg g cs hgc)⟩
mutual
def veq:V→V→Bool
 |.int k n,.int k' n'=>if k=k' then if n=n' then true else false else false
 |.str s,.str t=>if s=t then true else false
 |.agg l,.agg m=>wK l m
 |.ak .sh l,.ak .sh m=>wK l m
 |_,_=>false
def wK:List V→List V→Bool
 | [],[]=>true
 |x::l,y::m=>match veq x y with
  |true=>wK l m
  |false=>false
 |_,_=>false
end
mutual
theorem anE:∀(x y:V),veq x y=true→x=y:=by
 intro x y h
 unfold veq at h
 split at h
 ·split at h
  ·split at h
   ·simp_all
   ·cases h
  ·cases h
 ·split at h
  ·simp_all
  ·cases h
 ·rw[Ey _ _ h]
 ·rw[Ey _ _ h]
 ·cases h
theorem Ey:∀(l m:List V),wK l m=true→l=m:=by
 intro l m h
 unfold wK at h
 split at h
 ·rfl
 ·split at h
  ·rename_i h1
   rw[anE _ _ h1,Ey _ _ h]
  ·cases h
 ·cases h
end
end Aq
namespace Sh
set_option maxRecDepth 100000
def JR (f:FuncId):Option (List V→Option V):=
 bif Nat.beq f 102 then some fun args=>match wK args TN with
  |true=>some TM
  |false=>match wK args TP with
   |true=>some JM
   |false=>none
 else bif Nat.beq f 70 then some fun args=>match wK args TU with
  |true=>some (.bool true)
  |false=>none
 else none
theorem acK:(Tryz.prog.funcs.toList.all fun fn=>fn.name != "runtime.NumGoroutine")=true:=by kernel_rfl
theorem acL:Tryz.prog.follows .mixedOrders=true:=by kernel_rfl
theorem acM:aX uG=true:=by kernel_rfl
theorem acN (kJ:FuncId→Option (List V→Option V)) (hs:∀f g,kJ f=some g→∀args v,g args=some v→mO (ES kJ) f args v):jU (ES kJ) where
 name:=fun f fn h hn=>by
  have h1:=List.all_eq_true.1 acK fn (by
   have:Tryz.prog.funcs[f]? =some fn:=h
   rw[Array.getElem?_eq_some_iff] at this
   obtain⟨hlt,he⟩:=this
   rw[←he];exact Array.getElem_mem_toList hlt)
  rw[hn] at h1
  simp at h1
 kJ:=hs
 mixed:=acL
 flat:=fun g cs h=>by
  have h':(bif Nat.beq g 1 then some uG else none)=some cs:=h
  cases hg:Nat.beq g 1
  ·rw[hg] at h';cases h'
  ·rw[hg] at h';cases h';exact acM
theorem TW:jU (ES fun _=>none):=acN _ fun _ _ h=>by cases h
theorem okA:mO (ES fun _=>none) 102 TN TM:=KM TW anq
theorem okB:mO (ES fun _=>none) 102 TP JM:=KM TW of_B
theorem okC:mO (ES fun _=>none) 70 TU (.bool true):=anB TW anD
theorem anH:jU (ES JR):=acN _ fun f g h args v hv=>by
 unfold JR at h
 cases h1:Nat.beq f 102
 ·rw[h1] at h
  cases h2:Nat.beq f 70
  ·rw[h2] at h;cases h
  ·rw[h2] at h
   cases h
   have:=Nat.eq_of_beq_eq_true h2
   subst this
   dsimp only at hv
   split at hv
   ·rename_i he
    cases hv
    rw[Ey _ _ he]
    exact okC.env rfl fun _ _ h=>h
   ·cases hv
 ·rw[h1] at h
  cases h
  have:=Nat.eq_of_beq_eq_true h1
  subst this
  dsimp only at hv
  split at hv
  ·rename_i he
   cases hv
   rw[Ey _ _ he]
   exact okA.env rfl fun _ _ h=>h
  ·split at hv
   ·rename_i he
    cases hv
    rw[Ey _ _ he]
    exact okB.env rfl fun _ _ h=>h
   ·cases hv
theorem anI:nC (ES JR) (bY (ES JR) 900) 11 []=some (.bool true):=by kernel_rfl
theorem anJ:mO (ES JR) 11 [] (.bool true):=KM anH anI
end Sh
