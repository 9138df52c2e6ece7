/- Part of the proof of a law. -/
import Derived.Test.YtabmooekodficaaGreatF1821
import Derived.Test.YtabmooekodficaaGreatF1822
set_option linter.all false
set_option linter.unusedSimpArgs false
set_option linter.unusedSectionVars false
section
open Go Go.Proofs Aq Pq
namespace Sh
set_option maxRecDepth 100000
set_option linter.all false
theorem sorted_eq {n:Nat} {l:List Int} (hn:400<n) (hl:l.length≤25):∃r:List Int,slices_Sorted_int n ((),l)=some r∧r.Perm l∧r.Pairwise fun x y=> ¬y<x:=by
 have key:∀(xs o:List Int),xs.length+o.length≤25→slices_AppendSeq_int_int_R3 n xs ((),((),o))=some ((),((),o++xs)):=by
  intro xs
  induction xs with
  |nil=>intro o _;rw[slices_AppendSeq_int_int_R3_0,List.append_nil]
  |cons x xs ih=>
   intro o ho
   rw[List.length_cons] at ho
   rw[slices_AppendSeq_int_int_R3_s,room (by simp only[List.length_singleton];omega) (by simp only[List.length_singleton];omega),cond_true,ih _ (by rw[List.length_append];simp only[List.length_singleton];omega),List.append_assoc]
   rfl
 have hv:valF l=some l:=by unfold valF;rw[if_pos (by omega)]
 have e1:slices_AppendSeq_int_int n ((),((),l)) ()=some (l,()):=by
  refine(slices_AppendSeq_int_int_eq ..).trans ?_
  refine bs (bs hv (key l [] (by simpa using hl))) ?_
  rfl
 have e2:slices_Collect_int n ((),l) ()=some (l,()):=(slices_Collect_int_eq ..).trans (bs e1 rfl)
 obtain⟨r,h1,h2,h3⟩:=sort_int (n:=n) hn (l:=l) (by omega)
 exact⟨r.2,(slices_Sorted_int_eq ..).trans (bs e2 (bs h1 rfl)),h2,h3⟩
def okR (ks:List Int) (w:Int) (k:Int):Bool:=decide (((ks.countP fun x=>decide (x≤k)):Int)≥w)
def radF (ks:List Int) (w:Int):List Int→Int→Int
 | [],r=>r
 |k::zs,r=>radF ks w zs (bif (bif decide (k<r) then okR ks w k else false) then k else r)
theorem radF_eq {ks:List Int} {w x:Int} (hx:okR ks w x=true):∀(zs:List Int) (r:Int),(∀y∈zs,okR ks w y=true→x≤y)→x≤r→(x∈zs∨r=x)→radF ks w zs r=x
 | [],r,_,_,h=>h.elim (fun h=>by cases h) id
 |y::zs,r,h1,h2,h3=>by
  unfold radF
  refine radF_eq hx zs _ (fun z hz=>h1 z (List.mem_cons_of_mem _ hz)) ?_ ?_
  ·by_cases c:(bif decide (y<r) then okR ks w y else false)=true
   ·rw[c,cond_true]
    rw[cF,Bool.and_eq_true] at c
    exact h1 y (List.mem_cons_self ..) c.2
   ·rw[Bool.not_eq_true] at c
    rw[c,cond_false];exact h2
  ·rcases h3 with h3|h3
   ·rcases List.mem_cons.1 h3 with h3|h3
    ·right
     subst h3
     by_cases c:x<r
     ·rw[dT c,hx];rfl
     ·rw[dF c]
      show r=x
      omega
    ·exact .inl h3
   ·right
    subst h3
    by_cases c:(bif decide (y<r) then okR ks w y else false)=true
    ·rw[cF,Bool.and_eq_true,decide_eq_true_iff] at c
     have:=h1 y (List.mem_cons_self ..) c.2
     omega
    ·rw[Bool.not_eq_true] at c
     rw[c,cond_false]
def radS (ks:List Int) (w:Int):Int:=radF ks w ks 134217728
theorem rad_eq {ks s:List Int} {w:Nat} (hp:s.Perm ks) (hs:s.Pairwise fun x y=> ¬y<x) (h1:1≤w) (h2:w≤ks.length) (hb:∀x∈ks,x≤128000000):∃h:w-1<s.length,s[w-1]=radS ks (w:Int):=by
 have hlen:=hp.length_eq
 have hlt:w-1<s.length:=by omega
 refine⟨hlt, ?_⟩
 have hle:∀(i j:Nat) (hi:i<s.length) (hj:j<s.length),i≤j→s[i]≤s[j]:=fun i j hi hj h=>by
  by_cases e:i=j
  ·subst e;exact Int.le_refl _
  ·have:=(List.pairwise_iff_getElem.1 hs) i j hi hj (by omega);omega
 have hxm:s[w-1]∈ks:=hp.mem_iff.1 (List.getElem_mem _)
 have cnt:∀k,(ks.countP fun x=>decide (x≤k))=s.countP fun x=>decide (x≤k):=fun k=>(hp.countP_eq _).symm
 have hx:okR ks (w:Int) s[w-1]=true:=by
  unfold okR
  rw[cnt]
  refine dT ?_
  have e:=List.take_append_drop w s
  have:(s.take w).countP (fun x=>decide (x≤s[w-1]))=(s.take w).length:=by
   rw[List.countP_eq_length]
   intro a ha
   obtain⟨i,hi,rfl⟩:=List.getElem_of_mem ha
   rw[List.length_take] at hi
   rw[List.getElem_take]
   exact dT (hle i (w-1) (by omega) hlt (by omega))
  have h3:s.countP (fun x=>decide (x≤s[w-1]))=(s.take w).countP (fun x=>decide (x≤s[w-1]))+(s.drop w).countP (fun x=>decide (x≤s[w-1])):=by
   rw[←List.countP_append,e]
  rw[h3,this,List.length_take]
  omega
 refine(radF_eq hx ks 134217728 ?_ (by have:=hb _ hxm;omega) (.inl hxm)).symm
 intro y _ hy
 rcases Int.lt_or_le y s[w-1] with c|c
 ·exfalso
  unfold okR at hy
  rw[cnt,decide_eq_true_iff] at hy
  have e:=List.take_append_drop (w-1) s
  have h3:s.countP (fun x=>decide (x≤y))=(s.take (w-1)).countP (fun x=>decide (x≤y))+(s.drop (w-1)).countP (fun x=>decide (x≤y)):=by
   rw[←List.countP_append,e]
  have h4:(s.drop (w-1)).countP (fun x=>decide (x≤y))=0:=by
   rw[List.countP_eq_zero]
   intro a ha
   obtain⟨i,hi,rfl⟩:=List.getElem_of_mem ha
   rw[List.length_drop] at hi
   rw[List.getElem_drop]
   have:=hle (w-1) (w-1+i) hlt (by omega) (by omega)
   rw[dF (by omega)];decide
  have h5:=List.countP_le_length (p:=fun x=>decide (x≤y)) (l:=s.take (w-1))
  rw[List.length_take] at h5
  omega
 ·exact c
def wantS (l:List (List Int)) (want:Int):Int:=imin want ((l.length:Nat):Int)
def hoodS (m:Int) (l:List (List Int)) (want:Int) (v:List Int):Hood:=⟨radS (keysS m l v) (wantS l want),arS (radS (keysS m l v) (wantS l want)) 0 (keysS m l v)⟩
def buildS (m:Int) (l:List (List Int)) (want:Int):List Hood:=l.map (hoodS m l want)
def rightB (m:Int) (l:List (List Int)) (want:Int):Bool:=(mtB m&& fitB l)&& !(decide (want<1)||decide (want>4096))
theorem keysS_len (m:Int) (l:List (List Int)) (v:List Int):(keysS m l v).length=l.length:=by unfold keysS;rw[List.length_map]
theorem keysS_b {m:Int} {l:List (List Int)} {v:List Int} (h:LOK l v):∀x∈keysS m l v,0≤x∧x≤128000000:=by
 intro x hx
 obtain⟨a,ha,rfl⟩:=List.mem_map.1 hx
 exact keyS_b (h.2.2 a ha).1 h.2.1
theorem wantS_b {l:List (List Int)} {want:Int} (h1:1≤want) (h2:1≤l.length):∃w:Nat,wantS l want=(w:Int)∧1≤w∧w≤l.length:=by
 refine⟨(wantS l want).toNat, ?_, ?_, ?_⟩<;>unfold wantS imin<;>split<;>omega
theorem build_eq {n:Nat} {m:Int} {l:List (List Int)} {want:Int} (hn:400<n) (hf:FewL l):graph_Build n (m,(l,want))=some (bif rightB m l want then ((⟨buildS m l want⟩:Graph),(0:Int)) else ((⟨[]⟩:Graph),(1:Int))):=by
 refine(graph_Build_eq ..).trans ?_
 refine bs (right_eq (by omega) hf) ?_
 rw[cT,cT,show (!(mtB m&& fitB l)||decide (want<1)||decide (want>4096))= !rightB m l want from by unfold rightB;cases (mtB m&& fitB l)<;>cases decide (want<1)<;>cases decide (want>4096)<;>rfl]
 cases hr:rightB m l want
 ·rfl
 ·unfold rightB at hr
  rw[Bool.and_eq_true,Bool.and_eq_true] at hr
  obtain⟨⟨hm,hfit⟩,hw⟩:=hr
  have hm3:M3 m:=mtB_iff.1 hm
  have hw1:1≤want∧want≤4096:=by
   rw[Bool.not_eq_true',Bool.or_eq_false_iff,decide_eq_false_iff_not,decide_eq_false_iff_not] at hw;omega
  have h25:=hf.1
  have key:∀c (i mm:Nat) (t:List Hood),i+c=l.length→c<mm→t.length=i→graph_Build_L6 n m l want mm ((i:Int),t)=some ((),t++(l.drop i).map (hoodS m l want)):=by
   intro c
   induction c with
   |zero=>
    intro i mm t hi hmm ht
    obtain⟨mm,rfl⟩:∃m',mm=m'+1:=⟨mm-1,by omega⟩
    have:i=l.length:=by omega
    rw[graph_Build_L6_s,ite_nlt (by omega),this,List.drop_length,List.map_nil,List.append_nil]
   |succ c ih=>
    intro i mm t hi hmm ht
    obtain⟨mm,rfl⟩:∃m',mm=m'+1:=⟨mm-1,by omega⟩
    have hlt:i<l.length:=by omega
    have hok:=fit_iff hfit hf (List.getElem_mem hlt)
    obtain⟨w,e1,w1,w2⟩:=wantS_b (l:=l) hw1.1 (by omega)
    have hkl:=keysS_len m l l[i]
    obtain⟨r,s1,s2,s3⟩:=sorted_eq (n:=n) hn (l:=keysS m l l[i]) (by omega)
    obtain⟨hr1,hr2⟩:=rad_eq s2 s3 w1 (by omega) (fun x hx=>(keysS_b hok x hx).2)
    rw[graph_Build_L6_s,ite_lt (by omega),List.drop_eq_getElem_cons hlt,List.map_cons]
    refine bs (ix hlt) ?_
    refine bs (keys_eq (by omega) hm3 hok) ?_
    refine bs (slices_Values_int_int_eq ..) ?_
    refine bs s1 ?_
    have e2:idxL r (IntKind.wrap .i64 ((imin want (((l.length:Nat):Int)))-1))=some (radS (keysS m l l[i]) (wantS l want)):=by
     have:imin want ((l.length:Nat):Int)=(w:Int):=e1
     rw[this,wr (by omega) (by omega),show (w:Int)-1=((w-1:Nat):Int) by omega,e1,←hr2]
     exact ix hr1
    refine bs e2 ?_
    refine bs (around_eq (by omega) (by omega)) ?_
    rw[room (by simp only[List.length_singleton];omega) (by simp only[List.length_singleton];omega),cond_true,wS (by omega),ih (i+1) mm _ (by omega) (by omega) (by rw[List.length_append];simp only[List.length_singleton];omega),List.append_assoc]
    rfl
  exact bs (key l.length 0 n [] (by omega) (by omega) rfl) rfl
theorem rbuild_eq {n:Nat} {m:Int} {l:List (List Int)} {want:Int} (hn:400<n) (hf:FewL l):ref27_Build n (m,(l,want))=some (bif rightB m l want then ⟨⟨buildS m l want⟩,0⟩ else ⟨⟨[]⟩,1⟩):=by
 refine(ref27_Build_eq ..).trans ?_
 refine bs (rmetric_eq n m) ?_
 have e0:(whenO (!(!mtB m)) (ref09_Fit n l) false)=some (mtB m&& fitB l):=by
  rw[fit_eq (by omega) hf];cases mtB m<;>rfl
 refine bs e0 ?_
 rw[cT,cT,cT,show (!mtB m|| !(mtB m&& fitB l)||decide (want<1)||decide (want>4096))= !rightB m l want from by unfold rightB;cases mtB m<;>cases fitB l<;>cases decide (want<1)<;>cases decide (want>4096)<;>rfl]
 cases hr:rightB m l want
 ·rfl
 ·unfold rightB at hr
  rw[Bool.and_eq_true,Bool.and_eq_true] at hr
  obtain⟨⟨hm,hfit⟩,hw⟩:=hr
  have hm3:M3 m:=mtB_iff.1 hm
  have h25:=hf.1
  have inner:∀(i:Nat) (hi0:i<l.length) (hs:List Hood) c (j mm:Nat) (r:Int),j+c=l.length→c<mm→ref27_Build_L9 n m l want (i:Int) mm ((r,(j:Int)),hs)=some (radF (keysS m l l[i]) (wantS l want) ((l.drop j).map fun x=>keyS m x l[i]) r,hs):=by
   intro i hi0 hs c
   have hok:=fit_iff hfit hf (List.getElem_mem hi0)
   induction c with
   |zero=>
    intro j mm r hj hmm
    obtain⟨mm,rfl⟩:∃m',mm=m'+1:=⟨mm-1,by omega⟩
    have:j=l.length:=by omega
    rw[ref27_Build_L9_s,ite_nlt (by omega),this,List.drop_length];rfl
   |succ c ih=>
    intro j mm r hj hmm
    obtain⟨mm,rfl⟩:∃m',mm=m'+1:=⟨mm-1,by omega⟩
    have hlt:j<l.length:=by omega
    have hx:=hok.2.2 l[j] (List.getElem_mem _)
    rw[ref27_Build_L9_s,ite_lt (by omega),List.drop_eq_getElem_cons hlt,List.map_cons]
    refine bs (ix hi0) ?_
    refine bs (ix hlt) ?_
    refine bs (rkey_eq (by omega) hm3 hok.2.1 hx.1 hx.2.symm) ?_
    rw[keyS_comm m l[i] l[j],wS (by omega)]
    show _=some (radF (keysS m l l[i]) (wantS l want) _ (bif (bif decide (keyS m l[j] l[i]<r) then okR (keysS m l l[i]) (wantS l want) (keyS m l[j] l[i]) else false) then keyS m l[j] l[i] else r),hs)
    cases hc:decide (keyS m l[j] l[i]<r)
    ·refine bs (a:=[]) rfl ?_
     refine bs (a:=[]) rfl ?_
     exact ih (j+1) mm r (by omega) (by omega)
    ·refine bs (ix hi0) ?_
     refine bs (raround_eq (by omega) hm3 hok) ?_
     rw[arS_len]
     show (bif okR (keysS m l l[i]) (wantS l want) (keyS m l[j] l[i]) then _ else _)=_
     cases okR (keysS m l l[i]) (wantS l want) (keyS m l[j] l[i])
     ·exact ih (j+1) mm r (by omega) (by omega)
     ·exact ih (j+1) mm _ (by omega) (by omega)
  have key:∀c (i mm:Nat) (t:List Hood),i+c=l.length→c<mm→t.length=i→ref27_Build_L5 n m l want mm ((i:Int),t)=some ((),t++(l.drop i).map (hoodS m l want)):=by
   intro c
   induction c with
   |zero=>
    intro i mm t hi hmm ht
    obtain⟨mm,rfl⟩:∃m',mm=m'+1:=⟨mm-1,by omega⟩
    have:i=l.length:=by omega
    rw[ref27_Build_L5_s,ite_nlt (by omega),this,List.drop_length,List.map_nil,List.append_nil]
   |succ c ih=>
    intro i mm t hi hmm ht
    obtain⟨mm,rfl⟩:∃m',mm=m'+1:=⟨mm-1,by omega⟩
    have hlt:i<l.length:=by omega
    have hok:=fit_iff hfit hf (List.getElem_mem hlt)
    rw[ref27_Build_L5_s,ite_lt (by omega),List.drop_eq_getElem_cons hlt,List.map_cons]
    refine bs (inner i hlt t l.length 0 n 134217728 (by omega) (by omega)) ?_
    refine bs (ix hlt) ?_
    refine bs (raround_eq (by omega) hm3 hok) ?_
    rw[room (by simp only[List.length_singleton];omega) (by simp only[List.length_singleton];omega),cond_true,wS (by omega)]
    refine(ih (i+1) mm _ (by omega) (by omega) (by rw[List.length_append];simp only[List.length_singleton];omega)).trans ?_
    rw[List.append_assoc]
    rfl
  exact bs (key l.length 0 n [] (by omega) (by omega) rfl) rfl
end Sh
end
section
open Go Go.Proofs Aq Pq
namespace Sh
set_option maxRecDepth 100000
set_option linter.all false
def chkS (m:Int) (l:List (List Int)):Nat→List Hood→List (List Int)→Option Nat
 |i,h::hs,v::vs=>bif decide (h.Slots=arS h.Radius 0 (keysS m l v)) then chkS m l (i+1) hs vs else some i
 |_,_,_=>none
def checkS (m:Int) (l:List (List Int)) (hs:List Hood):Int×Int:=bif (mtB m&& fitB l)&& validB ((l.length:Nat):Int) hs then (match chkS m l 0 hs l with
 |none=>(-1,0)
 |some i=>((i:Int),0)) else (0,1)
theorem valid_len {k:Int} {hs:List Hood} (h:validB k hs=true):((hs.length:Nat):Int)=k:=by
 unfold validB at h
 rw[Bool.and_eq_true,Bool.not_eq_true',Bool.or_eq_false_iff] at h
 simpa using h.1.2
theorem check_eq {n:Nat} {m:Int} {l:List (List Int)} {g:Graph} (hn:400<n) (hf:FewL l) (hg:FewG g.Hoods):graph_Check n (m,(l,g))=some (checkS m l g.Hoods):=by
 refine(graph_Check_eq ..).trans ?_
 refine bs (right_eq (by omega) hf) ?_
 have e0:(whenO (!(!(mtB m&& fitB l))) (graph_Valid n (((l.length:Nat):Int),g)) false)=some ((mtB m&& fitB l)&& validB ((l.length:Nat):Int) g.Hoods):=by
  rw[gvalid_eq (by omega) hg];cases (mtB m&& fitB l)<;>rfl
 refine bs e0 ?_
 unfold checkS
 cases hr:(mtB m&& fitB l)
 ·rfl
 ·cases hv:validB ((l.length:Nat):Int) g.Hoods
  ·rfl
  ·rw[Bool.and_eq_true] at hr
   have hm3:M3 m:=mtB_iff.1 hr.1
   have h25:=hf.1
   have hlen:g.Hoods.length=l.length:=by have:=valid_len hv;omega
   have key:∀c (i mm:Nat),i+c=l.length→c<mm→graph_Check_L5 n m l g mm (i:Int)=some (match chkS m l i (g.Hoods.drop i) (l.drop i) with
    |none=>.inl ()
    |some j=>.inr ((j:Int),(0:Int))):=by
    intro c
    induction c with
    |zero=>
     intro i mm hi hmm
     obtain⟨mm,rfl⟩:∃m',mm=m'+1:=⟨mm-1,by omega⟩
     rw[graph_Check_L5_s,ite_nlt (by omega),List.drop_eq_nil_of_le (by omega),List.drop_eq_nil_of_le (by omega)]
     rfl
    |succ c ih=>
     intro i mm hi hmm
     obtain⟨mm,rfl⟩:∃m',mm=m'+1:=⟨mm-1,by omega⟩
     have hlt:i<l.length:=by omega
     have hlg:i<g.Hoods.length:=by omega
     have hok:=fit_iff hr.2 hf (List.getElem_mem hlt)
     rw[graph_Check_L5_s,ite_lt (by omega),List.drop_eq_getElem_cons hlt,List.drop_eq_getElem_cons hlg]
     refine bs (ix hlg) ?_
     refine bs (ix hlt) ?_
     refine bs (keys_eq (by omega) hm3 hok) ?_
     refine bs (around_eq (by omega) (by rw[keysS_len];omega)) ?_
     refine bs (equal_eq (by omega) (hg.2 _ (List.getElem_mem _))) ?_
     unfold chkS
     cases decide (g.Hoods[i].Slots=arS g.Hoods[i].Radius 0 (keysS m l l[i]))
     ·rfl
     ·rw[wS (by omega)]
      exact ih (i+1) mm (by omega) (by omega)
   refine bs (key l.length 0 n (by omega) (by omega)) ?_
   rw[List.drop_zero,List.drop_zero]
   cases chkS m l 0 g.Hoods l<;>rfl
theorem rright_eq {n:Nat} {m:Int} {l:List (List Int)} {g:Graph} (hn:400<n) (hf:FewL l) (hg:FewG g.Hoods):ref27_Right n (m,(l,g))=some ((mtB m&& fitB l)&& validB ((l.length:Nat):Int) g.Hoods):=by
 refine(ref27_Right_eq ..).trans ?_
 refine bs (rmetric_eq n m) ?_
 rw[fit_eq (by omega) hf,rgvalid_eq (by omega) hg]
 cases mtB m<;>cases fitB l<;>cases validB ((l.length:Nat):Int) g.Hoods<;>rfl
theorem rcheck_eq {n:Nat} {m:Int} {l:List (List Int)} {g:Graph} (hn:400<n) (hf:FewL l) (hg:FewG g.Hoods):ref27_Check n (m,(l,g))=some ⟨(checkS m l g.Hoods).1,(checkS m l g.Hoods).2⟩:=by
 refine(ref27_Check_eq ..).trans ?_
 refine bs (rright_eq hn hf hg) ?_
 unfold checkS
 cases hr:(mtB m&& fitB l)
 ·rfl
 ·cases hv:validB ((l.length:Nat):Int) g.Hoods
  ·rfl
  ·rw[Bool.and_eq_true] at hr
   have hm3:M3 m:=mtB_iff.1 hr.1
   have h25:=hf.1
   have hlen:g.Hoods.length=l.length:=by have:=valid_len hv;omega
   have key:∀c (i mm:Nat),i+c=l.length→c<mm→ref27_Check_L5 n m l g mm ((i:Int),⟨0,0⟩)=some (match chkS m l i (g.Hoods.drop i) (l.drop i) with
    |none=>.inl ((),⟨0,0⟩)
    |some j=>.inr ((),⟨(j:Int),0⟩)):=by
    intro c
    induction c with
    |zero=>
     intro i mm hi hmm
     obtain⟨mm,rfl⟩:∃m',mm=m'+1:=⟨mm-1,by omega⟩
     rw[ref27_Check_L5_s,ite_nlt (by omega),List.drop_eq_nil_of_le (by omega),List.drop_eq_nil_of_le (by omega)]
     rfl
    |succ c ih=>
     intro i mm hi hmm
     obtain⟨mm,rfl⟩:∃m',mm=m'+1:=⟨mm-1,by omega⟩
     have hlt:i<l.length:=by omega
     have hlg:i<g.Hoods.length:=by omega
     have hok:=fit_iff hr.2 hf (List.getElem_mem hlt)
     rw[ref27_Check_L5_s,ite_lt (by omega),List.drop_eq_getElem_cons hlt,List.drop_eq_getElem_cons hlg]
     refine bs (ix hlg) ?_
     refine bs (ix hlt) ?_
     refine bs (ix hlg) ?_
     refine bs (raround_eq (by omega) hm3 hok) ?_
     refine bs (rsame_eq (by omega) (hg.2 _ (List.getElem_mem _))) ?_
     unfold chkS
     cases decide (g.Hoods[i].Slots=arS g.Hoods[i].Radius 0 (keysS m l l[i]))
     ·rfl
     ·rw[wS (by omega)]
      exact ih (i+1) mm (by omega) (by omega)
   refine bs (key l.length 0 n (by omega) (by omega)) ?_
   rw[List.drop_zero,List.drop_zero]
   cases chkS m l 0 g.Hoods l<;>rfl
theorem samegraph {n:Nat} {hs:List Hood} (hn:100<n) (hl:hs.length≤40) (h:∀x∈hs,x.Slots.length≤40):ref27_SameGraph n (⟨hs⟩,⟨hs⟩)=some true:=by
 have key:∀c (i m:Nat),i+c=hs.length→c<m→ref27_SameGraph_L4 n ⟨hs⟩ ⟨hs⟩ m (i:Int)=some (.inl ()):=by
  intro c
  induction c with
  |zero=>
   intro i m hi hm
   obtain⟨m,rfl⟩:∃m',m=m'+1:=⟨m-1,by omega⟩
   rw[ref27_SameGraph_L4_s,ite_nlt (by dsimp only;omega)]
  |succ c ih=>
   intro i m hi hm
   obtain⟨m,rfl⟩:∃m',m=m'+1:=⟨m-1,by omega⟩
   have hlt:i<hs.length:=by omega
   rw[ref27_SameGraph_L4_s,ite_lt (by dsimp only;omega),wS (by omega)]
   refine bs (ix hlt) ?_
   refine bs (ix hlt) ?_
   rw[show (hs[i].Radius !=hs[i].Radius)=false by simp]
   refine bs (ix hlt) ?_
   refine bs (ix hlt) ?_
   refine bs (rsame_eq hn (h _ (List.getElem_mem _))) ?_
   rw[dT rfl]
   exact ih (i+1) m (by omega) (by omega)
 refine(ref27_SameGraph_eq ..).trans ?_
 dsimp only
 rw[show ((((hs.length:Nat):Int)) !=((hs.length:Nat):Int))=false by simp]
 exact bs (key hs.length 0 n (by omega) (by omega)) rfl
theorem san_eq (n:Nat):law27_sanity n ()=some true:=(law27_sanity_eq n ()).trans rfl
theorem law18 {n:Nat} (hn:400<n) (m:Int) (l:List (List Int)) (want k:Int) (g:Graph):law27_GraphBuildsAsSpecified n (m,(l,(want,(k,g))))=some true:=by
 refine(law27_GraphBuildsAsSpecified_eq ..).trans ?_
 obtain⟨b1,e1,f1⟩:=few_eq (n:=n) (l:=l) (by omega)
 obtain⟨b2,e2,f2⟩:=fewg_eq (n:=n) (g:=g) (by omega)
 refine bs e1 ?_
 rw[e2]
 cases b1
 ·refine bs (a:=false) rfl ?_
  exact bs (san_eq n) rfl
 cases b2
 ·refine bs (a:=false) rfl ?_
  exact bs (san_eq n) rfl
 have hf:=f1 rfl
 have hg:=f2 rfl
 have h25:=hf.1
 refine bs (a:=true) rfl ?_
 refine bs (build_eq hn hf) ?_
 refine bs (check_eq hn hf hg) ?_
 refine bs (rbuild_eq hn hf) ?_
 refine bs (rcheck_eq hn hf hg) ?_
 refine bs (san_eq n) ?_
 have hv:((graph_Valid n (k,g)).bind fun (r15:Bool)=>(ref27_Valid n (k,g)).bind fun (r16:Bool)=>some (r15==r16))=some true:=by
  refine bs (gvalid_eq (by omega) hg) (bs (rgvalid_eq (by omega) hg) ?_)
  rw[beq_self_eq_true]
 cases rightB m l want
 ·refine bs (samegraph (hs:=[]) (by omega) (by decide) (fun x hx=>by cases hx)) ?_
  rw[show (((checkS m l g.Hoods).1:Int)==(checkS m l g.Hoods).1)=true from beq_self_eq_true _,show (((checkS m l g.Hoods).2:Int)==(checkS m l g.Hoods).2)=true from beq_self_eq_true _]
  exact hv
 ·refine bs (samegraph (hs:=buildS m l want) (by omega) (by unfold buildS;rw[List.length_map];omega) (fun x hx=> ?_)) ?_
  ·obtain⟨v,hv',rfl⟩:=List.mem_map.1 hx
   show (arS _ 0 _).length≤40
   rw[arS_len]
   refine Nat.le_trans List.countP_le_length ?_
   rw[keysS_len];omega
  ·rw[show (((checkS m l g.Hoods).1:Int)==(checkS m l g.Hoods).1)=true from beq_self_eq_true _,show (((checkS m l g.Hoods).2:Int)==(checkS m l g.Hoods).2)=true from beq_self_eq_true _]
   exact hv
end Sh
end
