/- Part of the proof of a law. -/
import Derived.KernelRfl
import Derived.Test.YtabmooekodficaaF1921
import Derived.Test.YtabmooekodficaaF1922
set_option linter.all false
set_option linter.unusedSimpArgs false
set_option linter.unusedSectionVars false
section
open Go Go.Proofs Aq Pq
namespace Sh
set_option maxRecDepth 100000
set_option linter.all false
theorem sorted_eq {n:Nat} {l:List Int} (hn:400<n) (hl:l.length≤25):∃r:List Int,slices_Sorted_int n ((),l)=some r∧r.Perm l∧r.Pairwise fun x y=> ¬y<x:=by
 have key:∀(xs o:List Int),xs.length+o.length≤25→slices_AppendSeq_int_int_2_R3 n xs ((),((),o))=some ((),((),o++xs)):=by
  intro xs
  induction xs with
  |nil=>intro o _;rw[slices_AppendSeq_int_int_2_R3_0,List.append_nil]
  |cons x xs ih=>
   intro o ho
   rw[List.length_cons] at ho
   rw[slices_AppendSeq_int_int_2_R3_s,room (by simp only[List.length_singleton];omega) (by simp only[List.length_singleton];omega),cond_true,ih _ (by rw[List.length_append];simp only[List.length_singleton];omega),List.append_assoc]
   rfl
 have hv:valF l=some l:=by unfold valF;rw[if_pos (by omega)]
 have e1:slices_AppendSeq_int_int_2 n ((),((),l)) ()=some (l,()):=by
  refine(slices_AppendSeq_int_int_2_eq ..).trans ?_
  refine bs (bs hv (key l [] (by simpa using hl))) ?_
  rfl
 have e2:slices_Collect_int_2 n ((),l) ()=some (l,()):=(slices_Collect_int_2_eq ..).trans (bs e1 rfl)
 obtain⟨r,h1,h2,h3⟩:=sort_int (n:=n) hn (l:=l) (by omega)
 exact⟨r.2,(slices_Sorted_int_eq ..).trans (bs e2 (bs h1 rfl)),h2,h3⟩
def okR (ks:List Int) (w:Int) (k:Int):Bool:=decide (((ks.countP fun x=>decide (x≤k)):Int)≥w)
def radF (ks:List Int) (w:Int):List Int→Int→Int
 | [],r=>r
 |k::zs,r=>radF ks w zs (bif (bif decide (k<r) then okR ks w k else false) then k else r)
theorem radF_eq {ks:List Int} {w x:Int} (hx:okR ks w x=true):∀(zs:List Int) (r:Int),(∀y∈zs,okR ks w y=true→x≤y)→x≤r→(x∈zs∨r=x)→radF ks w zs r=x
 | [],r,_,_,h=>h.elim (fun h=>by cases h) id
 |y::zs,r,h1,h2,h3=>by
  unfold radF
  refine radF_eq hx zs _ (fun z hz=>h1 z (List.mem_cons_of_mem _ hz)) ?_ ?_
  ·by_cases c:(bif decide (y<r) then okR ks w y else false)=true
   ·rw[c,cond_true]
    rw[cF,Bool.and_eq_true] at c
    exact h1 y (List.mem_cons_self ..) c.2
   ·rw[Bool.not_eq_true] at c
    rw[c,cond_false];exact h2
  ·rcases h3 with h3|h3
   ·rcases List.mem_cons.1 h3 with h3|h3
    ·right
     subst h3
     by_cases c:x<r
     ·rw[dT c,hx];rfl
     ·rw[dF c]
      show r=x
      omega
    ·exact .inl h3
   ·right
    subst h3
    by_cases c:(bif decide (y<r) then okR ks w y else false)=true
    ·rw[cF,Bool.and_eq_true,decide_eq_true_iff] at c
     have:=h1 y (List.mem_cons_self ..) c.2
     omega
    ·rw[Bool.not_eq_true] at c
     rw[c,cond_false]
def radS (ks:List Int) (w:Int):Int:=radF ks w ks 134217728
theorem rad_eq {ks s:List Int} {w:Nat} (hp:s.Perm ks) (hs:s.Pairwise fun x y=> ¬y<x) (h1:1≤w) (h2:w≤ks.length) (hb:∀x∈ks,x≤128000000):∃h:w-1<s.length,s[w-1]=radS ks (w:Int):=by
 have hlen:=hp.length_eq
 have hlt:w-1<s.length:=by omega
 refine⟨hlt, ?_⟩
 have hle:∀(i j:Nat) (hi:i<s.length) (hj:j<s.length),i≤j→s[i]≤s[j]:=fun i j hi hj h=>by
  by_cases e:i=j
  ·subst e;exact Int.le_refl _
  ·have:=(List.pairwise_iff_getElem.1 hs) i j hi hj (by omega);omega
 have hxm:s[w-1]∈ks:=hp.mem_iff.1 (List.getElem_mem _)
 have cnt:∀k,(ks.countP fun x=>decide (x≤k))=s.countP fun x=>decide (x≤k):=fun k=>(hp.countP_eq _).symm
 have hx:okR ks (w:Int) s[w-1]=true:=by
  unfold okR
  rw[cnt]
  refine dT ?_
  have e:=List.take_append_drop w s
  have:(s.take w).countP (fun x=>decide (x≤s[w-1]))=(s.take w).length:=by
   rw[List.countP_eq_length]
   intro a ha
   obtain⟨i,hi,rfl⟩:=List.getElem_of_mem ha
   rw[List.length_take] at hi
   rw[List.getElem_take]
   exact dT (hle i (w-1) (by omega) hlt (by omega))
  have h3:s.countP (fun x=>decide (x≤s[w-1]))=(s.take w).countP (fun x=>decide (x≤s[w-1]))+(s.drop w).countP (fun x=>decide (x≤s[w-1])):=by
   rw[←List.countP_append,e]
  rw[h3,this,List.length_take]
  omega
 refine(radF_eq hx ks 134217728 ?_ (by have:=hb _ hxm;omega) (.inl hxm)).symm
 intro y _ hy
 rcases Int.lt_or_le y s[w-1] with c|c
 ·exfalso
  unfold okR at hy
  rw[cnt,decide_eq_true_iff] at hy
  have e:=List.take_append_drop (w-1) s
  have h3:s.countP (fun x=>decide (x≤y))=(s.take (w-1)).countP (fun x=>decide (x≤y))+(s.drop (w-1)).countP (fun x=>decide (x≤y)):=by
   rw[←List.countP_append,e]
  have h4:(s.drop (w-1)).countP (fun x=>decide (x≤y))=0:=by
   rw[List.countP_eq_zero]
   intro a ha
   obtain⟨i,hi,rfl⟩:=List.getElem_of_mem ha
   rw[List.length_drop] at hi
   rw[List.getElem_drop]
   have:=hle (w-1) (w-1+i) hlt (by omega) (by omega)
   rw[dF (by omega)];decide
  have h5:=List.countP_le_length (p:=fun x=>decide (x≤y)) (l:=s.take (w-1))
  rw[List.length_take] at h5
  omega
 ·exact c
def wantS (l:List (List Int)) (want:Int):Int:=imin want ((l.length:Nat):Int)
def hoodS (m:Int) (l:List (List Int)) (want:Int) (v:List Int):Hood:=⟨radS (keysS m l v) (wantS l want),arS (radS (keysS m l v) (wantS l want)) 0 (keysS m l v)⟩
def buildS (m:Int) (l:List (List Int)) (want:Int):List Hood:=l.map (hoodS m l want)
def rightB (m:Int) (l:List (List Int)) (want:Int):Bool:=(mtB m&& fitB l)&& !(decide (want<1)||decide (want>4096))
theorem keysS_len (m:Int) (l:List (List Int)) (v:List Int):(keysS m l v).length=l.length:=by unfold keysS;rw[List.length_map]
theorem keysS_b {m:Int} {l:List (List Int)} {v:List Int} (h:LOK l v):∀x∈keysS m l v,0≤x∧x≤128000000:=by
 intro x hx
 obtain⟨a,ha,rfl⟩:=List.mem_map.1 hx
 exact keyS_b (h.2.2 a ha).1 h.2.1
theorem wantS_b {l:List (List Int)} {want:Int} (h1:1≤want) (h2:1≤l.length):∃w:Nat,wantS l want=(w:Int)∧1≤w∧w≤l.length:=by
 refine⟨(wantS l want).toNat, ?_, ?_, ?_⟩<;>unfold wantS imin<;>split<;>omega
theorem build_eq {n:Nat} {m:Int} {l:List (List Int)} {want:Int} (hn:400<n) (hf:FewL l):graph_Build n (m,(l,want))=some (bif rightB m l want then ((⟨buildS m l want⟩:Graph),(0:Int)) else ((⟨[]⟩:Graph),(1:Int))):=by
 refine(graph_Build_eq ..).trans ?_
 refine bs (right_eq (by omega) hf) ?_
 rw[cT,cT,show (!(mtB m&& fitB l)||decide (want<1)||decide (want>4096))= !rightB m l want from by unfold rightB;cases (mtB m&& fitB l)<;>cases decide (want<1)<;>cases decide (want>4096)<;>rfl]
 cases hr:rightB m l want
 ·rfl
 ·unfold rightB at hr
  rw[Bool.and_eq_true,Bool.and_eq_true] at hr
  obtain⟨⟨hm,hfit⟩,hw⟩:=hr
  have hm3:M3 m:=mtB_iff.1 hm
  have hw1:1≤want∧want≤4096:=by
   rw[Bool.not_eq_true',Bool.or_eq_false_iff,decide_eq_false_iff_not,decide_eq_false_iff_not] at hw;omega
  have h25:=hf.1
  have key:∀c (i mm:Nat) (t:List Hood),i+c=l.length→c<mm→t.length=i→graph_Build_L6 n m l want mm ((i:Int),t)=some ((),t++(l.drop i).map (hoodS m l want)):=by
   intro c
   induction c with
   |zero=>
    intro i mm t hi hmm ht
    obtain⟨mm,rfl⟩:∃m',mm=m'+1:=⟨mm-1,by omega⟩
    have:i=l.length:=by omega
    rw[graph_Build_L6_s,ite_nlt (by omega),this,List.drop_length,List.map_nil,List.append_nil]
   |succ c ih=>
    intro i mm t hi hmm ht
    obtain⟨mm,rfl⟩:∃m',mm=m'+1:=⟨mm-1,by omega⟩
    have hlt:i<l.length:=by omega
    have hok:=fit_iff hfit hf (List.getElem_mem hlt)
    obtain⟨w,e1,w1,w2⟩:=wantS_b (l:=l) hw1.1 (by omega)
    have hkl:=keysS_len m l l[i]
    obtain⟨r,s1,s2,s3⟩:=sorted_eq (n:=n) hn (l:=keysS m l l[i]) (by omega)
    obtain⟨hr1,hr2⟩:=rad_eq s2 s3 w1 (by omega) (fun x hx=>(keysS_b hok x hx).2)
    rw[graph_Build_L6_s,ite_lt (by omega),List.drop_eq_getElem_cons hlt,List.map_cons]
    refine bs (ix hlt) ?_
    refine bs (keys_eq (by omega) hm3 hok) ?_
    refine bs (slices_Values_int_int_eq ..) ?_
    refine bs s1 ?_
    have e2:idxL r (IntKind.wrap .i64 ((imin want (((l.length:Nat):Int)))-1))=some (radS (keysS m l l[i]) (wantS l want)):=by
     have:imin want ((l.length:Nat):Int)=(w:Int):=e1
     rw[this,wr (by omega) (by omega),show (w:Int)-1=((w-1:Nat):Int) by omega,e1,←hr2]
     exact ix hr1
    refine bs e2 ?_
    refine bs (around_eq (by omega) (by omega)) ?_
    rw[room (by simp only[List.length_singleton];omega) (by simp only[List.length_singleton];omega),cond_true,wS (by omega),ih (i+1) mm _ (by omega) (by omega) (by rw[List.length_append];simp only[List.length_singleton];omega),List.append_assoc]
    rfl
  exact bs (key l.length 0 n [] (by omega) (by omega) rfl) rfl
end Sh
end
section
open Go Go.Proofs Aq Pq
namespace Sh
set_option maxRecDepth 100000
set_option linter.all false
def chkS (m:Int) (l:List (List Int)):Nat→List Hood→List (List Int)→Option Nat
 |i,h::hs,v::vs=>bif decide (h.Slots=arS h.Radius 0 (keysS m l v)) then chkS m l (i+1) hs vs else some i
 |_,_,_=>none
def checkS (m:Int) (l:List (List Int)) (hs:List Hood):Int×Int:=bif (mtB m&& fitB l)&& validB ((l.length:Nat):Int) hs then (match chkS m l 0 hs l with
 |none=>(-1,0)
 |some i=>((i:Int),0)) else (0,1)
theorem valid_len {k:Int} {hs:List Hood} (h:validB k hs=true):((hs.length:Nat):Int)=k:=by
 unfold validB at h
 rw[Bool.and_eq_true,Bool.not_eq_true',Bool.or_eq_false_iff] at h
 simpa using h.1.2
theorem check_eq {n:Nat} {m:Int} {l:List (List Int)} {g:Graph} (hn:400<n) (hf:FewL l) (hg:FewG g.Hoods):graph_Check n (m,(l,g))=some (checkS m l g.Hoods):=by
 refine(graph_Check_eq ..).trans ?_
 refine bs (right_eq (by omega) hf) ?_
 have e0:(whenO (!(!(mtB m&& fitB l))) (graph_Valid n (((l.length:Nat):Int),g)) false)=some ((mtB m&& fitB l)&& validB ((l.length:Nat):Int) g.Hoods):=by
  rw[gvalid_eq (by omega) hg];cases (mtB m&& fitB l)<;>rfl
 refine bs e0 ?_
 unfold checkS
 cases hr:(mtB m&& fitB l)
 ·rfl
 ·cases hv:validB ((l.length:Nat):Int) g.Hoods
  ·rfl
  ·rw[Bool.and_eq_true] at hr
   have hm3:M3 m:=mtB_iff.1 hr.1
   have h25:=hf.1
   have hlen:g.Hoods.length=l.length:=by have:=valid_len hv;omega
   have key:∀c (i mm:Nat),i+c=l.length→c<mm→graph_Check_L5 n m l g mm (i:Int)=some (match chkS m l i (g.Hoods.drop i) (l.drop i) with
    |none=>.inl ()
    |some j=>.inr ((j:Int),(0:Int))):=by
    intro c
    induction c with
    |zero=>
     intro i mm hi hmm
     obtain⟨mm,rfl⟩:∃m',mm=m'+1:=⟨mm-1,by omega⟩
     rw[graph_Check_L5_s,ite_nlt (by omega),List.drop_eq_nil_of_le (by omega),List.drop_eq_nil_of_le (by omega)]
     rfl
    |succ c ih=>
     intro i mm hi hmm
     obtain⟨mm,rfl⟩:∃m',mm=m'+1:=⟨mm-1,by omega⟩
     have hlt:i<l.length:=by omega
     have hlg:i<g.Hoods.length:=by omega
     have hok:=fit_iff hr.2 hf (List.getElem_mem hlt)
     rw[graph_Check_L5_s,ite_lt (by omega),List.drop_eq_getElem_cons hlt,List.drop_eq_getElem_cons hlg]
     refine bs (ix hlg) ?_
     refine bs (ix hlt) ?_
     refine bs (keys_eq (by omega) hm3 hok) ?_
     refine bs (around_eq (by omega) (by rw[keysS_len];omega)) ?_
     refine bs (equal_eq (by omega) (hg.2 _ (List.getElem_mem _))) ?_
     unfold chkS
     cases decide (g.Hoods[i].Slots=arS g.Hoods[i].Radius 0 (keysS m l l[i]))
     ·rfl
     ·rw[wS (by omega)]
      exact ih (i+1) mm (by omega) (by omega)
   refine bs (key l.length 0 n (by omega) (by omega)) ?_
   rw[List.drop_zero,List.drop_zero]
   cases chkS m l 0 g.Hoods l<;>rfl
theorem san_eq (n:Nat):law27_sanity n ()=some true:=(law27_sanity_eq n ()).trans rfl
end Sh
end
section
open Go Go.Proofs Aq Pq
namespace Sh
set_option maxRecDepth 100000
set_option linter.all false
theorem bF {α:Type} {c:Bool} {a b r:Option α} (h:c=false) (k:b=r):(bif c then a else b)=r:=by rw[h];exact k
def IsRt (c r:Int):Prop:=0≤r∧r*r≤c∧c< (r+1)*(r+1)
theorem sq_le {a b:Int} (h0:0≤a) (h:a≤b):a*a≤b*b:=Int.mul_le_mul h h h0 (by omega)
theorem IsRt.le {c r x:Int} (h:IsRt c r) (hx:x*x≤c):x≤r:=by
 rcases Int.lt_or_le r x with k|k
 ·have:=sq_le (a:=r+1) (b:=x) (by have:=h.1;omega) (by omega)
  have:=h.2.2;omega
 ·exact k
end Sh
end
section
open Go Go.Proofs Aq Pq
namespace Sh
set_option maxRecDepth 100000
set_option linter.all false
end Sh
end
section
open Go Go.Proofs Aq Pq
namespace Sh
set_option maxRecDepth 100000
set_option linter.all false
end Sh
end
section
open Go Go.Proofs Aq Pq
namespace Sh
set_option linter.all false
set_option maxRecDepth 100000
noncomputable abbrev KO (n:Nat) (s:graph_search) {β:Type} (a b:Int) (f:Bool→Option β):Option β:=(graph_search_order n (s,(a,b))).bind fun (c:Int)=>f (decide (c< (0:Int)))
section
variable {n:Nat} {s:graph_search} {Ok:Int→Prop} {lt:Int→Int→Prop} (hc:CmpO Ok lt (KO n s)) (ho:Ord lt)
include hc ho
end
end Sh
end
section
open Go Go.Proofs Aq Pq
namespace Sh
set_option maxRecDepth 100000
set_option linter.all false
end Sh
end
section
open Go Go.Proofs Aq Pq
namespace Sh
set_option maxRecDepth 100000
set_option linter.all false
end Sh
end
section
open Go Go.Proofs Aq Pq
namespace Sh
set_option maxRecDepth 100000
set_option linter.all false
end Sh
end
section
open Go Go.Proofs Aq Pq
namespace Sh
set_option maxRecDepth 100000
set_option linter.all false
end Sh
end
section
open Go Go.Proofs Aq Pq
namespace Sh
set_option maxRecDepth 100000
set_option linter.all false
end Sh
end
section
open Go Go.Proofs Aq Pq
namespace Sh
set_option maxRecDepth 100000
set_option linter.all false
end Sh
end
section
open Go Go.Proofs Aq Pq
namespace Sh
set_option maxRecDepth 100000
set_option linter.all false
end Sh
end
section
open Go Go.Proofs Aq Pq
namespace Sh
set_option maxRecDepth 100000
set_option linter.all false
end Sh
end
section
open Go Go.Proofs Aq Pq
namespace Sh
set_option maxRecDepth 100000
set_option linter.all false
def kk (m:Int) (l:List (List Int)) (x y:Int):Int:=keyS m (l.getD x.toNat []) (l.getD y.toNat [])
theorem mem_arS {t:Int}:∀(ks:List Int) (i:Nat) (x:Int),x∈arS t i ks↔∃j,∃hj:j<ks.length,x=((i+j:Nat):Int)∧ks[j]≤t
 | [],i,x=>⟨fun h=>(by cases h),fun ⟨j,hj,_⟩=>(by cases hj)⟩
 |k::ks,i,x=>by
  have ih:=mem_arS (t:=t) ks (i+1) x
  have tail:x∈arS t (i+1) ks↔∃j,∃hj:j+1< (k::ks).length,x=((i+(j+1):Nat):Int)∧(k::ks)[j+1]≤t:=by
   rw[ih]
   constructor
   ·rintro⟨j,hj,e1,e2⟩
    exact⟨j,by simpa using hj,by rw[e1];congr 1;omega,by simpa using e2⟩
   ·rintro⟨j,hj,e1,e2⟩
    exact⟨j,by simpa using hj,by rw[e1];congr 1;omega,by simpa using e2⟩
  unfold arS
  by_cases hk:k≤t
  ·rw[dT hk,cond_true,List.mem_cons,tail]
   constructor
   ·rintro (h| ⟨j,hj,e⟩)
    ·exact⟨0,by simp,by simpa using h,by simpa using hk⟩
    ·exact⟨j+1,hj,e⟩
   ·rintro⟨j,hj,e1,e2⟩
    cases j with
    |zero=>exact .inl (by simpa using e1)
    |succ j=>exact .inr ⟨j,hj,e1,e2⟩
  ·rw[dF hk,cond_false,tail]
   constructor
   ·rintro⟨j,hj,e⟩
    exact⟨j+1,hj,e⟩
   ·rintro⟨j,hj,e1,e2⟩
    cases j with
    |zero=>exact absurd (by simpa using e2) hk
    |succ j=>exact⟨j,hj,e1,e2⟩
end Sh
end
section
open Go Go.Proofs Aq Pq
namespace Sh
set_option maxRecDepth 100000
set_option linter.all false
def Exact (m:Int) (l:List (List Int)) (hs:List Hood):Prop:=∀(i:Nat) (hi:i<hs.length),hs[i].Slots=arS hs[i].Radius 0 (keysS m l (l.getD i []))
theorem keysS_get {m:Int} {l:List (List Int)} {v:List Int} {j:Nat} (hj:j< (keysS m l v).length) (hj2:j<l.length):(keysS m l v)[j]=keyS m (l.getD j []) v:=by
 have e1:(keysS m l v)[j]=keyS m l[j] v:=List.getElem_map (fun x=>keyS m x v)
 rw[e1,List.getD_eq_getElem?_getD,List.getElem?_eq_getElem hj2];rfl
end Sh
end
section
open Go Go.Proofs Aq Pq
namespace Sh
set_option maxRecDepth 100000
set_option linter.all false
end Sh
end
section
open Go Go.Proofs Aq Pq
namespace Sh
set_option maxRecDepth 100000
set_option linter.all false
end Sh
end
section
open Go Go.Proofs Aq Pq
namespace Sh
set_option maxRecDepth 100000
set_option linter.all false
theorem key_self (m:Int) (a:List Int):keyS m a a=0:=by
 unfold keyS normS
 have:∀(a:List Int),(subL a a).foldl (stepN m) 0=0:=by
  intro a
  induction a with
  |nil=>rfl
  |cons x a ih=>
   show (subL a a).foldl (stepN m) (stepN m 0 (x-x))=0
   have:stepN m 0 (x-x)=0:=by
    rw[Int.sub_self]
    unfold stepN
    cases decide (m=1)<;>cases decide (m=2)<;>rfl
   rw[this];exact ih
 exact this a
theorem slB_arS {k c:Int}:∀(K:List Int) (i:Nat) (p:Option Int),((i+K.length:Nat):Int)≤k→(∀q,p=some q→q<i)→slB k p (arS c i K)=true
 | [],_,_,_,_=>by unfold arS slB;rfl
 |x::K,i,p,hk,hp=>by
  rw[List.length_cons] at hk
  unfold arS
  cases decide (x≤c)
  ·exact slB_arS K (i+1) p (by omega) (fun q hq=>by have:=hp q hq;omega)
  ·rw[cond_true]
   unfold slB
   rw[slB_arS K (i+1) (some (i:Int)) (by omega) (fun q hq=>by cases hq;omega)]
   have e1:(decide ((i:Int)<0)||decide ((i:Int)≥k))=false:=by rw[dF (by omega),dF (by omega)];rfl
   rw[e1]
   cases p with
   |none=>rfl
   |some q=>
    have:=hp q rfl
    show (!false&& !decide ((i:Int)≤q))&& true=true
    rw[dF (by omega)];rfl
theorem radF_b {ks:List Int} {w:Int}:∀(zs:List Int) (r:Int),(∀z∈zs,0≤z)→0≤r→r≤134217728→0≤radF ks w zs r∧radF ks w zs r≤134217728
 | [],r,_,h1,h2=>⟨h1,h2⟩
 |k::zs,r,h,h1,h2=>by
  unfold radF
  have hk:=h k (List.mem_cons_self ..)
  by_cases c:(bif decide (k<r) then okR ks w k else false)=true
  ·rw[c,cond_true]
   rw[cF,Bool.and_eq_true,decide_eq_true_iff] at c
   exact radF_b zs k (fun z hz=>h z (List.mem_cons_of_mem _ hz)) hk (by omega)
  ·rw[Bool.not_eq_true] at c
   rw[c,cond_false]
   exact radF_b zs r (fun z hz=>h z (List.mem_cons_of_mem _ hz)) h1 h2
theorem build_len (m:Int) (l:List (List Int)) (want:Int):(buildS m l want).length=l.length:=by unfold buildS;rw[List.length_map]
theorem build_get {m:Int} {l:List (List Int)} {want:Int} {i:Nat} (hi:i< (buildS m l want).length) (hi2:i<l.length):(buildS m l want)[i]=hoodS m l want l[i]:=List.getElem_map _
theorem build_exact (m:Int) (l:List (List Int)) (want:Int):Exact m l (buildS m l want):=by
 intro i hi
 have hi2:i<l.length:=by rw[build_len] at hi;exact hi
 rw[build_get hi hi2,List.getD_eq_getElem?_getD,List.getElem?_eq_getElem hi2]
 rfl
theorem build_few {m:Int} {l:List (List Int)} {want:Int} (hf:FewL l):FewG (buildS m l want):=by
 refine⟨by rw[build_len];have:=hf.1;omega,fun h hh=> ?_⟩
 obtain⟨v,hv,rfl⟩:=List.mem_map.1 hh
 show (arS _ 0 _).length≤40
 rw[arS_len]
 refine Nat.le_trans List.countP_le_length ?_
 rw[keysS_len];have:=hf.1;omega
theorem build_hoods {m:Int} {l:List (List Int)} {want:Int} (hm:M3 m) (hfit:fitB l=true) (hf:FewL l):∀(vs:List (List Int)) (i:Nat),(∀j (hj:j<vs.length),∃hj2:i+j<l.length,vs[j]=l[i+j])→hoodsB ((l.length:Nat):Int) i (vs.map (hoodS m l want))=true
 | [],_,_=>rfl
 |v::vs,i,h=>by
  obtain⟨h1,h2⟩:=h 0 (by simp)
  have hiv:v=l[i]'(by omega):=by simpa using h2
  have hmem:v∈l:=by rw[hiv];exact List.getElem_mem _
  have hok:=fit_iff hfit hf hmem
  have kb:=fun x hx=>(keysS_b (m:=m) hok x hx).1
  have hr:=radF_b (ks:=keysS m l v) (w:=wantS l want) (keysS m l v) 134217728 kb (by decide) (Int.le_refl _)
  show (hoodB _ i (hoodS m l want v)&& hoodsB _ (i+1) (vs.map (hoodS m l want)))=true
  rw[build_hoods hm hfit hf vs (i+1) (fun j hj=>by
   obtain⟨a1,a2⟩:=h (j+1) (by simpa using hj)
   refine⟨by omega, ?_⟩
   have:i+(j+1)=i+1+j:=by omega
   simp only[this] at a2
   simpa using a2),Bool.and_true]
  unfold hoodB
  have e1:(decide ((hoodS m l want v).Radius<0)||decide ((hoodS m l want v).Radius>134217728))=false:=by
   show (decide (radS _ _<0)||decide (radS _ _>134217728))=false
   have hr':0≤radS (keysS m l v) (wantS l want)∧radS (keysS m l v) (wantS l want)≤134217728:=hr
   rw[dF (by omega),dF (by omega)];rfl
  have e2:((i:Nat):Int)∈(hoodS m l want v).Slots:=by
   show ((i:Nat):Int)∈arS _ 0 _
   rw[mem_arS]
   have hlt:i< (keysS m l v).length:=by rw[keysS_len];omega
   refine⟨i,hlt,by simp, ?_⟩
   rw[keysS_get hlt (by omega),List.getD_eq_getElem?_getD,List.getElem?_eq_getElem (show i<l.length by omega)]
   show keyS m (l[i]'(by omega)) v≤_
   rw[←hiv,key_self]
   exact hr.1
  have e3:slB ((l.length:Nat):Int) none (hoodS m l want v).Slots=true:=slB_arS _ 0 none (by rw[keysS_len];omega) (fun q hq=>by cases hq)
  rw[e1,dT e2,e3];rfl
theorem build_valid {m:Int} {l:List (List Int)} {want:Int} (hm:M3 m) (hfit:fitB l=true) (hf:FewL l):validB ((l.length:Nat):Int) (buildS m l want)=true:=by
 have h25:=hf.1
 have h1:1≤l.length:=by cases l with
  |nil=>unfold fitB at hfit;cases hfit
  |cons=>simp
 unfold validB
 rw[dF (show¬((l.length:Nat):Int)<1 by omega),dF (show¬((l.length:Nat):Int)>4096 by omega),dT (show (((buildS m l want).length:Nat):Int)=((l.length:Nat):Int) by rw[build_len])]
 exact build_hoods hm hfit hf l 0 (fun j hj=>⟨by omega,by simp⟩)
end Sh
end
section
open Go Go.Proofs Aq Pq
namespace Sh
set_option maxRecDepth 100000
set_option linter.all false
theorem Pt {s:List Int} (hs:s.Pairwise fun x y=> ¬y<x) {w:Nat} (h1:1≤w) (h2:w-1<s.length):w≤s.countP fun x=>decide (x≤s[w-1]):=by
 have e:s.take w++s.drop w=s:=List.take_append_drop w s
 have hall:∀x∈s.take w,decide (x≤s[w-1])=true:=fun x hx=>by
  obtain⟨i,hi,rfl⟩:=List.getElem_of_mem hx
  rw[List.length_take] at hi
  rw[List.getElem_take,decide_eq_true_iff]
  by_cases c:i=w-1
  ·subst c;exact Int.le_refl _
  ·have:=List.pairwise_iff_getElem.1 hs i (w-1) (by omega) h2 (by omega)
   omega
 have h3:=List.countP_eq_length.2 hall
 have h4:(s.take w++s.drop w).countP (fun x=>decide (x≤s[w-1]))=(s.take w).countP (fun x=>decide (x≤s[w-1]))+(s.drop w).countP (fun x=>decide (x≤s[w-1])):=List.countP_append
 rw[e,h3,List.length_take] at h4
 omega
theorem Pv {s:List Int} (hs:s.Pairwise fun x y=> ¬y<x) {w:Nat} (h1:1≤w) (h2:w-1<s.length):s.countP (fun x=>decide (x<s[w-1]))<w:=by
 have e:s.take (w-1)++s.drop (w-1)=s:=List.take_append_drop (w-1) s
 have hall:∀x∈s.drop (w-1),¬decide (x<s[w-1])=true:=fun x hx=>by
  obtain⟨i,hi,rfl⟩:=List.getElem_of_mem hx
  rw[List.length_drop] at hi
  rw[List.getElem_drop,decide_eq_true_iff]
  by_cases c:i=0
  ·subst c;exact Int.lt_irrefl _
  ·exact List.pairwise_iff_getElem.1 hs (w-1) (w-1+i) h2 (by omega) (by omega)
 have h3:=List.countP_eq_zero.2 hall
 have h4:(s.take (w-1)++s.drop (w-1)).countP (fun x=>decide (x<s[w-1]))=(s.take (w-1)).countP (fun x=>decide (x<s[w-1]))+(s.drop (w-1)).countP (fun x=>decide (x<s[w-1])):=List.countP_append
 have h5:(s.take (w-1)).countP (fun x=>decide (x<s[w-1]))≤(s.take (w-1)).length:=List.countP_le_length
 rw[e,h3] at h4
 rw[List.length_take] at h5
 omega
theorem Pw {m:Int} {l:List (List Int)} {want:Int} (hfit:fitB l=true) (hf:FewL l) (h1:1≤want) {v:List Int} (hv:v∈l):
 wantS l want≤(((hoodS m l want v).Slots.length:Nat):Int)∧(((keysS m l v).countP fun x=>decide (x< (hoodS m l want v).Radius):Nat):Int)<wantS l want:=by
 have hok:=fit_iff hfit hf hv
 have h25:=hf.1
 have hl1:1≤l.length:=List.length_pos_of_mem hv
 obtain⟨w,w1,w2,w3⟩:=wantS_b h1 hl1
 obtain⟨s,_,s2,s3⟩:=sorted_eq (n:=401) (by decide) (l:=keysS m l v) (by rw[keysS_len];exact h25)
 obtain⟨h,r1⟩:=rad_eq s2 s3 w2 (by rw[keysS_len];exact w3) (fun x hx=>(keysS_b hok x hx).2)
 have er:(hoodS m l want v).Radius=s[w-1]:=by
  show radS (keysS m l v) (wantS l want)=_
  rw[w1];exact r1.symm
 have es:(hoodS m l want v).Slots.length=s.countP fun x=>decide (x≤s[w-1]):=by
  show (arS (radS (keysS m l v) (wantS l want)) 0 (keysS m l v)).length=_
  rw[arS_len,w1,←r1]
  exact(s2.countP_eq _).symm
 rw[es,er,w1]
 have c1:=Pt s3 w2 h
 have c2:=Pv s3 w2 h
 rw[s2.countP_eq] at c2
 omega
theorem FP {m:Int} {l:List (List Int)}:∀(hs:List Hood) (vs:List (List Int)) (i:Nat),hs.length=vs.length→(∀(j:Nat) (hj:j<hs.length) (hj2:j<vs.length),hs[j].Slots=arS hs[j].Radius 0 (keysS m l vs[j]))→chkS m l i hs vs=none
 | [],[],_,_,_=>rfl
 | [],_::_,_,hl,_=>by cases hl
 |_::_,[],_,hl,_=>by cases hl
 |h::hs,v::vs,i,hl,hc=>by
  unfold chkS
  have h0:h.Slots=arS h.Radius 0 (keysS m l v):=hc 0 (by simp) (by simp)
  rw[dT h0,cond_true]
  exact FP hs vs (i+1) (by simpa using hl) fun j hj hj2=>by
   have:=hc (j+1) (by simpa using hj) (by simpa using hj2)
   simpa using this
theorem Px {m:Int} {l:List (List Int)} {hs:List Hood} (hm:M3 m) (hfit:fitB l=true) (hv:validB ((l.length:Nat):Int) hs=true) (he:Exact m l hs):checkS m l hs=(-1,0):=by
 have hlen:=valid_len hv
 unfold checkS
 rw[mtB_iff.2 hm,hfit,hv]
 have:=FP (m:=m) (l:=l) hs l 0 (by omega) fun j hj hj2=>by
  have:=he j hj
  rw[List.getD_eq_getElem?_getD,List.getElem?_eq_getElem hj2] at this
  exact this
 rw[this];rfl
theorem Py {n:Nat} {m:Int} {l:List (List Int)} {hs:List Hood} (hn:400<n) (hf:FewL l) (hg:FewG hs) (h:checkS m l hs=(-1,0)):graph_Check n (m,(l,(⟨hs⟩:Graph)))=some ((-1:Int),(0:Int)):=
 (check_eq (g:=⟨hs⟩) hn hf hg).trans (congrArg some h)
end Sh
end
section
open Go Go.Proofs Aq Pq
namespace Sh
set_option maxRecDepth 100000
set_option linter.all false
end Sh
end
section
open Go Go.Proofs Aq Pq
namespace Sh
set_option maxRecDepth 100000
set_option linter.all false
end Sh
end
section
open Go Go.Proofs Aq Pq
namespace Sh
set_option maxRecDepth 100000
set_option linter.all false
theorem Pz {n:Nat} {m w:Int} {l:List (List Int)} {r8:Graph×Int} {h:Hood} {i:Nat} (hn:400<n) (hm:M3 m) (hi:i<l.length) (hok:LOK l l[i]):∀c (k mm o:Nat),k+c=l.length→c<mm→o≤k→law27_GraphBuildIsExact_L14 n m l w r8 (i:Int) h mm ((o:Int),(k:Int))=some (((o+((keysS m l l[i]).drop k).countP (fun x=>decide (x<h.Radius)):Nat):Int)):=by
 have h25:=hok.1
 have hkl:=keysS_len m l l[i]
 intro c
 induction c with
 |zero=>
  intro k mm o hk hmm ho
  obtain⟨mm,rfl⟩:∃m',mm=m'+1:=⟨mm-1,by omega⟩
  rw[law27_GraphBuildIsExact_L14_s,ite_nlt (by omega),List.drop_eq_nil_of_le (by omega)];rfl
 |succ c ih=>
  intro k mm o hk hmm ho
  obtain⟨mm,rfl⟩:∃m',mm=m'+1:=⟨mm-1,by omega⟩
  have hlt:k<l.length:=by omega
  have hx:=hok.2.2 l[k] (List.getElem_mem _)
  have hkey:=vkey_eq (n:=n) (by omega) hm hok.2.1 hx.1 hx.2.symm
  have hget:(keysS m l l[i])[k]'(by omega)=keyS m l[i] l[k]:=(List.getElem_map (fun x=>keyS m x l[i])).trans (keyS_comm ..)
  rw[law27_GraphBuildIsExact_L14_s,ite_lt (by omega),List.drop_eq_getElem_cons (show k< (keysS m l l[i]).length by omega),List.countP_cons,hget,wS (i:=k) (by omega)]
  refine bs (ix hi) (bs (ix hlt) (bs hkey ?_))
  cases hc:decide (keyS m l[i] l[k]<h.Radius)
  ·rw[cond_false]
   refine(ih (k+1) mm o (by omega) (by omega) (by omega)).trans ?_
   simp only[Bool.false_eq_true,if_false,Nat.add_zero]
  ·rw[cond_true,wS (i:=o) (by omega)]
   refine(ih (k+1) mm (o+1) (by omega) (by omega) (by omega)).trans ?_
   simp only[if_true]
   congr 2;omega
theorem PD {n:Nat} {m w want:Int} {l:List (List Int)} (hn:400<n) (hm:M3 m) (hfit:fitB l=true) (hf:FewL l) (h1:1≤want) (hw:IntKind.wrap .i64 (1+IntKind.wrap .i64 w)=want):∀c (i mm:Nat),i+c=l.length→c<mm→law27_GraphBuildIsExact_L9 n m l w (⟨buildS m l want⟩,0) mm (i:Int)=some (.inl ()):=by
 have h25:=hf.1
 intro c
 induction c with
 |zero=>
  intro i mm hi hmm
  obtain⟨mm,rfl⟩:∃m',mm=m'+1:=⟨mm-1,by omega⟩
  rw[law27_GraphBuildIsExact_L9_s,ite_nlt (by omega)]
 |succ c ih=>
  intro i mm hi hmm
  obtain⟨mm,rfl⟩:∃m',mm=m'+1:=⟨mm-1,by omega⟩
  have hlt:i<l.length:=by omega
  have hlb:i< (buildS m l want).length:=by rw[build_len];exact hlt
  have hok:=fit_iff hfit hf (List.getElem_mem hlt)
  have hc:=Pw (m:=m) hfit hf h1 (List.getElem_mem hlt)
  have hget:(buildS m l want)[i]=hoodS m l want l[i]:=build_get hlb hlt
  have hin:=Pz (n:=n) (m:=m) (w:=w) (l:=l) (r8:=(⟨buildS m l want⟩,0)) (h:=hoodS m l want l[i]) (by omega) hm hlt hok l.length 0 n 0 (by omega) (by omega) (by omega)
  rw[law27_GraphBuildIsExact_L9_s,ite_lt (by omega)]
  refine bs (a:=hoodS m l want l[i]) (by show idxL (buildS m l want) _=_;rw[ix hlb,hget]) ?_
  refine bs hin ?_
  have ew:imin want ((l.length:Nat):Int)=wantS l want:=rfl
  rw[List.drop_zero,Nat.zero_add,hw,ew,wS (by omega)]
  refine bF ?_ (ih (i+1) mm (by omega) (by omega))
  rw[dF (by omega),dF (by omega)];rfl
theorem PE {n:Nat} (hn:2^34<n) (m:Int) (l:List (List Int)) (want:Int) (hw:0≤want∧want≤255):law27_GraphBuildIsExact n (m,(l,want))=some true:=by
 refine(law27_GraphBuildIsExact_eq ..).trans ?_
 obtain⟨b1,e1,f1⟩:=few_eq (n:=n) (l:=l) (by omega)
 refine bs e1 ?_
 rw[rmetric_eq]
 cases b1
 ·refine bs (a:=false) rfl (bs (a:=false) rfl ?_)
  exact bs (san_eq n) rfl
 have hf:=f1 rfl
 rw[fit_eq (by omega) hf]
 refine bs (a:=mtB m) rfl ?_
 cases hm:mtB m
 ·refine bs (a:=false) rfl ?_
  exact bs (san_eq n) rfl
 refine bs (a:=fitB l) rfl ?_
 cases hfit:fitB l
 ·exact bs (san_eq n) rfl
 have h25:=hf.1
 have hm3:M3 m:=mtB_iff.1 hm
 have ew:IntKind.wrap .i64 (1+IntKind.wrap .i64 want)=1+want:=by rw[wr (i:=want) (by omega) (by omega),wr (by omega) (by omega)]
 have hr:rightB m l (1+want)=true:=by
  unfold rightB
  rw[hm,hfit,dF (show¬1+want<1 by omega),dF (show¬1+want>4096 by omega)];rfl
 have hbld:graph_Build n (m,(l,IntKind.wrap .i64 (1+IntKind.wrap .i64 want)))=some ((⟨buildS m l (1+want)⟩:Graph),(0:Int)):=by
  rw[ew]
  refine(build_eq (by omega) hf).trans ?_
  rw[hr];rfl
 have hval:=build_valid (m:=m) (want:=1+want) hm3 hfit hf
 have FQ:FewG (buildS m l (1+want)):=build_few hf
 have hchk:=Py (n:=n) (by omega) hf FQ (Px hm3 hfit hval (build_exact m l (1+want)))
 refine bF rfl ?_
 refine bs hbld (bs hchk ?_)
 have hgv:graph_Valid n (((l.length:Nat):Int),(⟨buildS m l (1+want)⟩:Graph))=some true:=(gvalid_eq (g:=⟨buildS m l (1+want)⟩) (by omega) FQ).trans (congrArg some hval)
 refine bs (a:=true) hgv ?_
 have PG:((((buildS m l (1+want)).length:Nat):Int) !=((l.length:Nat):Int))=false:=by rw[build_len];simp
 refine bF PG ?_
 refine bs (PD (by omega) hm3 hfit hf (by omega) ew l.length 0 n (by omega) (by omega)) ?_
 exact bs (san_eq n) rfl
end Sh
end
