/- Part of the proof of a law. -/
import Derived.Test.YteniejlbjfigdaaGreatDoorV20
import Derived.Test.YteniejlbjfigdaaGreatDoorV21
import Derived.Test.YteniejlbjfigdaaGreatDoorV23
set_option linter.all false
set_option linter.unusedSimpArgs false
set_option linter.unusedSectionVars false
open Go Go.Proofs Aq
namespace Aq
theorem nT.env {E E':Env} (hP:E'.P=E.P) (hg:∀g cs,E.glob g=some cs→E'.glob g=some cs) {f:FuncId} {args:List V} {v:V} (h:nT E f args v):nT E' f args v:=by
 obtain⟨⟨fn,c,hb⟩,h⟩:=h
 refine⟨⟨fn,c,by rw[hP];exact hb⟩,fun I IM w cZ hl hr=> ?_⟩
 rw[hP]
 refine h I IM w cZ ?_ hr
 obtain⟨h1,h2,h3⟩:=hl
 exact⟨h1,h2,fun g cs hgc=>h3 g cs (hg g cs hgc)⟩
mutual
def veq:V→V→Bool
 |.int k n,.int k' n'=>if k=k' then if n=n' then true else false else false
 |.str s,.str t=>if s=t then true else false
 |.agg l,.agg m=>zh l m
 |.aj .sh l,.aj .sh m=>zh l m
 |_,_=>false
def zh:List V→List V→Bool
 | [],[]=>true
 |x::l,y::m=>match veq x y with
  |true=>zh l m
  |false=>false
 |_,_=>false
end
mutual
theorem at0:∀(x y:V),veq x y=true→x=y:=by
 intro x y h
 unfold veq at h
 split at h
 ·split at h
  ·split at h
   ·simp_all
   ·cases h
  ·cases h
 ·split at h
  ·simp_all
  ·cases h
 ·rw[FC _ _ h]
 ·rw[FC _ _ h]
 ·cases h
theorem FC:∀(l m:List V),zh l m=true→l=m:=by
 intro l m h
 unfold zh at h
 split at h
 ·rfl
 ·split at h
  ·rename_i h1
   rw[at0 _ _ h1,FC _ _ h]
  ·cases h
 ·cases h
end
end Aq
namespace Sh
set_option maxRecDepth 100000
def K5 (f:FuncId):Option (List V→Option V):=
 bif Nat.beq f 102 then some fun args=>match zh args YH with
  |true=>some YG
  |false=>match zh args YI with
   |true=>some KX
   |false=>none
 else bif Nat.beq f 70 then some fun args=>match zh args YN with
  |true=>some (.bool true)
  |false=>none
 else none
theorem ahO:(Tryz.prog.funcs.toList.all fun fn=>fn.name != "runtime.NumGoroutine")=true:=by kernel_rfl
theorem ahP:Tryz.prog.follows .mixedOrders=true:=by kernel_rfl
theorem Sq:bf pz=true:=by kernel_rfl
theorem ahQ (kX:FuncId→Option (List V→Option V)) (hs:∀f g,kX f=some g→∀args v,g args=some v→nT (ES kX) f args v):kL (ES kX) where
 name:=fun f fn h hn=>by
  have h1:=List.all_eq_true.1 ahO fn (by
   have:Tryz.prog.funcs[f]? =some fn:=h
   rw[Array.getElem?_eq_some_iff] at this
   obtain⟨hlt,he⟩:=this
   rw[←he];exact Array.getElem_mem_toList hlt)
  rw[hn] at h1
  simp at h1
 kX:=hs
 mixed:=ahP
 flat:=fun g cs h=>by
  have h':(bif Nat.beq g 1 then some pz else bif Nat.beq g 0 then some pz else none)=some cs:=h
  cases hg:Nat.beq g 1
  ·rw[hg] at h'
   cases hg0:Nat.beq g 0
   ·rw[hg0] at h';cases h'
   ·rw[hg0] at h';cases h';exact Sq
  ·rw[hg] at h';cases h';exact Sq
theorem YO:kL (ES fun _=>none):=ahQ _ fun _ _ h=>by cases h
theorem okA:nT (ES fun _=>none) 102 YH YG:=Mk YO atN
theorem okB:nT (ES fun _=>none) 102 YI KX:=Mk YO of_B
theorem okC:nT (ES fun _=>none) 70 YN (.bool true):=atX YO atZ
theorem at6:kL (ES K5):=ahQ _ fun f g h args v hv=>by
 unfold K5 at h
 cases h1:Nat.beq f 102
 ·rw[h1] at h
  cases h2:Nat.beq f 70
  ·rw[h2] at h;cases h
  ·rw[h2] at h
   cases h
   have:=Nat.eq_of_beq_eq_true h2
   subst this
   dsimp only at hv
   split at hv
   ·rename_i he
    cases hv
    rw[FC _ _ he]
    exact okC.env rfl fun _ _ h=>h
   ·cases hv
 ·rw[h1] at h
  cases h
  have:=Nat.eq_of_beq_eq_true h1
  subst this
  dsimp only at hv
  split at hv
  ·rename_i he
   cases hv
   rw[FC _ _ he]
   exact okA.env rfl fun _ _ h=>h
  ·split at hv
   ·rename_i he
    cases hv
    rw[FC _ _ he]
    exact okB.env rfl fun _ _ h=>h
   ·cases hv
theorem at7:oI (ES K5) (bZ (ES K5) 900) 11 []=some (.bool true):=by kernel_rfl
theorem aua:nT (ES K5) 11 [] (.bool true):=Mk at6 at7
end Sh
