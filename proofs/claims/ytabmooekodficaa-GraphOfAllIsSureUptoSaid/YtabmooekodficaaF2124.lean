import Derived.Test.YtabmooekodficaaF2123
set_option linter.all false
section
open Go Go.Proofs Aq Pq
namespace Sh
set_option maxRecDepth 100000
theorem PD {s:List Int} (hs:s.Pairwise fun x y=>¬y<x) {w:Nat} (h1:1<=w) (h2:w-1<s.length):w<=s.countP fun x=>decide (x<=s[w-1]):=by
 have e:s.take w++s.drop w=s:=Rt w s
 have hall:∀x∈s.take w,decide (x<=s[w-1])=true:=fun x hx=>by
  obtain⟨i,hi,rfl⟩:=List.getElem_of_mem hx
  rw[QE] at hi
  rw[List.getElem_take,decide_eq_true_iff]
  by_cases c:i=w-1
  ·subst c;exact QC _
  ·have:=List.pairwise_iff_getElem.1 hs i (w-1) (by omega) h2 (by omega)
   omega
 have h3:=List.countP_eq_length.2 hall
 have h4:(s.take w++s.drop w).countP (fun x=>decide (x<=s[w-1]))=(s.take w).countP (fun x=>decide (x<=s[w-1]))+(s.drop w).countP (fun x=>decide (x<=s[w-1])):=List.countP_append
 rw[e,h3,QE] at h4
 omega
theorem PE {s:List Int} (hs:s.Pairwise fun x y=>¬y<x) {w:Nat} (h1:1<=w) (h2:w-1<s.length):s.countP (fun x=>decide (x<s[w-1]))<w:=by
 have e:s.take (w-1)++s.drop (w-1)=s:=Rt (w-1) s
 have hall:∀x∈s.drop (w-1),¬decide (x<s[w-1])=true:=fun x hx=>by
  obtain⟨i,hi,rfl⟩:=List.getElem_of_mem hx
  rw[Q9] at hi
  rw[List.getElem_drop,decide_eq_true_iff]
  by_cases c:i=0
  ·subst c;exact Int.lt_irrefl _
  ·exact List.pairwise_iff_getElem.1 hs (w-1) (w-1+i) h2 (by omega) (by omega)
 have h3:=List.countP_eq_zero.2 hall
 have h4:(s.take (w-1)++s.drop (w-1)).countP (fun x=>decide (x<s[w-1]))=(s.take (w-1)).countP (fun x=>decide (x<s[w-1]))+(s.drop (w-1)).countP (fun x=>decide (x<s[w-1])):=List.countP_append
 have h5:(s.take (w-1)).countP (fun x=>decide (x<s[w-1]))<=(s.take (w-1)).length:=List.countP_le_length
 rw[e,h3] at h4
 rw[QE] at h5
 omega
theorem PG {m:Int} {l:List (List Int)} {want:Int} (hfit:fitB l=true) (hf:FewL l) (h1:1<=want) {v:List Int} (hv:v∈l):
 wantS l want<=(((hoodS m l want v).Slots.length:Nat):Int)/\(((keysS m l v).countP fun x=>decide (x< (hoodS m l want v).Radius):Nat):Int)<wantS l want:=by
 have hok:=fit_iff hfit hf hv
 have h25:=hf.1
 have hl1:1<=l.length:=List.length_pos_of_mem hv
 obtain⟨w,w1,w2,w3⟩:=wantS_b h1 hl1
 obtain⟨s,_,s2,s3⟩:=sorted_eq (n:=401) (by decide) (l:=keysS m l v) (by rw[keysS_len];exact h25)
 obtain⟨h,r1⟩:=rad_eq s2 s3 w2 (by rw[keysS_len];exact w3) (fun x hx=>(keysS_b hok x hx).2)
 have er:(hoodS m l want v).Radius=s[w-1]:=by
  show radS (keysS m l v) (wantS l want)=_
  rw[w1];exact r1.symm
 have es:(hoodS m l want v).Slots.length=s.countP fun x=>decide (x<=s[w-1]):=by
  show (arS (radS (keysS m l v) (wantS l want)) 0 (keysS m l v)).length=_
  rw[arS_len,w1,<-r1]
  exact(s2.countP_eq _).symm
 rw[es,er,w1]
 have c1:=PD s3 w2 h
 have c2:=PE s3 w2 h
 rw[s2.countP_eq] at c2
 omega
theorem FV {m:Int} {l:List (List Int)} (hfit:fitB l=true) (hf:FewL l) {i:Nat} (hi:i< (buildS m l ((l.length:Nat):Int)).length):(buildS m l ((l.length:Nat):Int))[i].Slots=allS 0 l.length:=by
 have hi2:i<l.length:=by rw[build_len] at hi;exact hi
 have hc:=(PG (m:=m) (want:=((l.length:Nat):Int)) hfit hf (by omega) (QG hi2)).1
 refine full_eq (build_exact m l _) i hi ?_
 rw[build_get hi hi2]
 have e1:wantS l ((l.length:Nat):Int)=((l.length:Nat):Int):=by unfold wantS imin;split<;>rfl
 rw[e1] at hc
 have h2:(hoodS m l ((l.length:Nat):Int) l[i]).Slots.length<=l.length:=by
  show (arS _ 0 _).length<=_
  rw[arS_len]
  exact Qw List.countP_le_length (Rs (keysS_len ..))
 omega
theorem FX {m:Int} {l:List (List Int)}:∀(hs:List Hood) (vs:List (List Int)) (i:Nat),hs.length=vs.length->(∀(j:Nat) (hj:j<hs.length) (hj2:j<vs.length),hs[j].Slots=arS hs[j].Radius 0 (keysS m l vs[j]))->chkS m l i hs vs=none
 | [],[],_,_,_=>rfl
 | [],_::_,_,hl,_=>by cases hl
 |_::_,[],_,hl,_=>by cases hl
 |h::hs,v::vs,i,hl,hc=>by
  unfold chkS
  have h0:h.Slots=arS h.Radius 0 (keysS m l v):=hc 0 (by simp) (by simp)
  rw[dT h0,cond_true]
  exact FX hs vs (i+1) (by simpa using hl) fun j hj hj2=>by
   have:=hc (j+1) (by simpa using hj) (by simpa using hj2)
   simpa using this
theorem PI {m:Int} {l:List (List Int)} {hs:List Hood} (hm:M3 m) (hfit:fitB l=true) (hv:validB ((l.length:Nat):Int) hs=true) (he:Exact m l hs):checkS m l hs=(-1,0):=by
 have hlen:=valid_len hv
 unfold checkS
 rw[mtB_iff.2 hm,hfit,hv]
 have:=FX (m:=m) (l:=l) hs l 0 (by omega) fun j hj hj2=>by
  have:=he j hj
  rw[Q0,QT hj2] at this
  exact this
 rw[this];rfl
theorem PK {n:Nat} {m:Int} {l:List (List Int)} {hs:List Hood} (hn:400<n) (hf:FewL l) (hg:FewG hs) (h:checkS m l hs=(-1,0)):Zy n (m,(l,(⟨hs⟩:Graph)))=some ((-1:Int),(0:Int)):=
 (check_eq (g:=⟨hs⟩) hn hf hg).trans (congrArg some h)
def iL (hs:List Hood):List Hood:=hs.map fun h=>⟨134217728,h.Slots⟩
theorem FY {k:Int}:∀(hs:List Hood) (i:Nat),hoodsB k i hs=true->hoodsB k i (iL hs)=true
 | [],_,_=>rfl
 |h::hs,i,hb=>by
  unfold hoodsB at hb
  rw[iP] at hb
  show (hoodB k i ⟨134217728,h.Slots⟩&& hoodsB k (i+1) (iL hs))=true
  rw[FY hs (i+1) hb.2,Bool.and_true]
  have h1:=hb.1
  unfold hoodB at h1⊢
  rw[iP,iP] at h1
  rw[h1.1.2,h1.2];rfl
theorem PN {k:Int} {hs:List Hood} (h:validB k hs=true):validB k (iL hs)=true:=by
 unfold validB at h⊢
 rw[iP] at h
 rw[FY hs 0 h.2,Bool.and_true]
 have e:(iL hs).length=hs.length:=by unfold iL;rw[Qy]
 rw[e];exact h.1
theorem PO {hs:List Hood} (h:FewG hs):FewG (iL hs):=by
 refine⟨by unfold iL;rw[Qy];exact h.1,fun x hx=>?_⟩
 obtain⟨y,hy,rfl⟩:=Rx.1 hx
 exact h.2 y hy
theorem PS {m:Int} {l:List (List Int)} (hfit:fitB l=true) (hf:FewL l):Exact m l (iL (buildS m l ((l.length:Nat):Int))):=by
 intro i hi
 have hi1:i< (buildS m l ((l.length:Nat):Int)).length:=by unfold iL at hi;rw[Qy] at hi;exact hi
 have hi2:i<l.length:=by rw[build_len] at hi1;exact hi1
 have e1:(iL (buildS m l ((l.length:Nat):Int)))[i]=⟨134217728,(buildS m l ((l.length:Nat):Int))[i].Slots⟩:=Ro _
 rw[e1]
 show (buildS m l ((l.length:Nat):Int))[i].Slots=arS 134217728 0 _
 rw[FV hfit hf hi1,Q0,QT hi2]
 have hok:=fit_iff hfit hf (QG hi2)
 refine((arS_big (c:=134217728) (K:=keysS m l l[i]) (fun x hx=>by have:=(keysS_b hok x hx).2;omega) 0).trans ?_).symm
 rw[keysS_len]
end Sh
end
section
open Go Go.Proofs Aq Pq
namespace Sh
set_option maxRecDepth 100000
theorem zl {hs:List Hood} {ke:List Int} {nn:Nat} {c:Int} {L:List Int} (h:walkG hs ke (nn+1) c=some L):∃(hd:Hood) (a:Int) (sl:List Int),hs[c.toNat]? =some hd/\hd.Slots=a::sl/\((kyS ke c<=kyS ke (minS ke a sl)/\L=[c])\/(¬kyS ke c<=kyS ke (minS ke a sl)/\∃L',walkG hs ke nn (minS ke a sl)=some L'/\L=c::L')):=by
 unfold walkG at h
 cases hh:hs[c.toNat]? with
 |none=>rw[hh] at h;cases h
 |some hd=>
  rw[hh] at h
  dsimp only at h
  cases hsl:hd.Slots with
  |nil=>rw[hsl] at h;cases h
  |cons a sl=>
   rw[hsl] at h
   dsimp only at h
   cases hg:(inS ke.length c&& (a::sl).all (inS ke.length)&& decide ((a::sl).length<2^62))
   ·rw[hg] at h;cases h
   ·rw[hg,cond_true] at h
    change (bif decide (kyS ke c<=kyS ke (minS ke a sl)) then some [c] else (walkG hs ke nn (minS ke a sl)).map (c:: ·))=some L at h
    refine⟨hd,a,sl,rfl,hsl,?_⟩
    by_cases hle:kyS ke c<=kyS ke (minS ke a sl)
    ·rw[dT hle] at h
     exact .inl ⟨hle,(QL h).symm⟩
    ·rw[dF hle,cond_false] at h
     obtain⟨L',h1,h2⟩:=Qu.1 h
     exact .inr ⟨hle,L',h1,h2.symm⟩
theorem PU {hs:List Hood} {ke:List Int} {nn:Nat} {c:Int} {L:List Int} (h:walkG hs ke nn c=some L):∃L',L=c::L':=by
 cases nn with
 |zero=>cases h
 |succ nn=>
  obtain⟨_,_,_,_,_,h| ⟨_,L',_,h⟩⟩:=zl h
  ·exact⟨[],h.2⟩
  ·exact⟨L',h⟩
theorem PV {m:Int} {l:List (List Int)} {hs:List Hood} {v:List Int} (h:Asked m l hs v) (hall:∀hd∈hs,hd.Slots=allS 0 l.length) {nn:Nat} {c:Int} {L:List Int} (hc:OkS (keysS m l v) c) (hw:walkG hs (keysS m l v) nn c=some L):L.length<=2:=by
 cases nn with
 |zero=>cases hw
 |succ nn=>
  obtain⟨hd,a,sl,f1,f2,⟨_,rfl⟩| ⟨hlt,L',hw',rfl⟩⟩:=zl hw
  ·simp
  ·obtain⟨hd',a',sl',g1,g2,g3,g4,_⟩:=hood_at h hc
   rw[g1] at f1;cases f1
   rw[g3] at f2;cases f2
   have hm:=g4 _ (minS_mem (keysS m l v) sl a)
   cases nn with
   |zero=>cases hw'
   |succ nn=>
    obtain⟨hd2,a2,sl2,k1,k2,⟨_,rfl⟩| ⟨hlt2,_⟩⟩:=zl hw'
    ·simp
    ·have e1:=hall hd (Ru g1)
     have e2:=hall hd2 (Ru k1)
     rw[g3] at e1
     rw[k2] at e2
     rw[e2.symm] at e1
     cases e1
     exact absurd (QC _) hlt2
theorem PW {n:Nat} {m:Int} {l:List (List Int)} {g:Graph} {v:List Int} {t:Int} (hn:2^34<n) (h:Asked m l g.Hoods v) (ht:K27 t) (L:List Int) {x:Int} (hx:OkS (keysS m l v) x):
 ((∀hd,g.Hoods[x.toNat]? =some hd->hd.Radius≠134217728)/\∀last,Zh_R7 n m g (x::L) ((),(t,(((0:Int),(0:Int)),((0:Int),(false,((0:Int),((⟨⟨m,l⟩,g,keysS m l v⟩:graph_search),(last,[]))))))))=Zh_R7 n m g L ((),(t,(((0:Int),(0:Int)),((0:Int),(false,((0:Int),((⟨⟨m,l⟩,g,keysS m l v⟩:graph_search),(x,[])))))))))\/
 (∀last,∃(w:Int) (D:List Int),Zh_R7 n m g (x::L) ((),(t,(((0:Int),(0:Int)),((0:Int),(false,((0:Int),((⟨⟨m,l⟩,g,keysS m l v⟩:graph_search),(last,[]))))))))=some (.inr ((),(t,(((0:Int),w),(x,(true,((0:Int),((⟨⟨m,l⟩,g,keysS m l v⟩:graph_search),(x,D)))))))))):=by
 obtain⟨hd,a,sl,f1,f2,f3,f4,f5,f6,f7⟩:=hood_at h hx
 have hkb:=keysS_b h.ok _ (ky_mem hx)
 obtain⟨r,hr⟩:=isrt_ex (c:=4*kyS (keysS m l v) x*t) (Int.mul_nonneg (by omega) ht.1)
 have hcv:=covers_val (n:=n) (m:=m) (c:=hd.Radius) hn (a:=kyS (keysS m l v) x) (b:=t) ⟨hkb.1,by omega⟩ ht hr
 by_cases hc:hiS m (kyS (keysS m l v) x) t r<=hd.Radius
 ·rw[dT hc] at hcv
  refine .inr fun last=>?_
  have ecl:ZU n hd.Slots ()=some (a::sl,()):=by
   rw[f3]
   refine(ZU_eq ..).trans ?_
   exact bT rfl (bT (room (by omega) (by omega)) rfl)
  obtain⟨w,D,k1,k2⟩:=del_eq (n:=n) (by omega) (s:=⟨⟨m,l⟩,g,keysS m l v⟩) (t:=t) (sl:=a::sl) f5 f4
  refine⟨w,D,?_⟩
  refine(Zh_R7_s ..).trans ?_
  exact bs f2 (bs (idx_ky hx) (bs hcv (bs ecl (bs k1 rfl))))
 ·rw[dF hc] at hcv
  refine .inl ⟨fun hd' hh PX=>?_,fun last=>?_⟩
  ·rw[f1] at hh;cases hh
   apply hc
   rw[PX]
   unfold hiS imin
   cases decide (m=2)<;>dsimp only[cond_true,cond_false]<;>split<;>omega
  ·refine(Zh_R7_s ..).trans ?_
   exact bs f2 (bs (idx_ky hx) (bs hcv rfl))
theorem PY {n:Nat} {m:Int} {l:List (List Int)} {g:Graph} {v:List Int} {t:Int} (hn:2^34<n) (h:Asked m l g.Hoods v) (ht:K27 t):∀(L:List Int),(∀x∈L,OkS (keysS m l v) x)->
 ((∀x L',L=x::L'->∀hd,g.Hoods[x.toNat]? =some hd->hd.Radius≠134217728)/\∀last,Zh_R7 n m g L ((),(t,(((0:Int),(0:Int)),((0:Int),(false,((0:Int),((⟨⟨m,l⟩,g,keysS m l v⟩:graph_search),(last,[]))))))))=some (.inl ((),(t,(((0:Int),(0:Int)),((0:Int),(false,((0:Int),((⟨⟨m,l⟩,g,keysS m l v⟩:graph_search),(lastD last L,[]))))))))))\/
 (∃x∈L,∀last,∃(w:Int) (D:List Int),Zh_R7 n m g L ((),(t,(((0:Int),(0:Int)),((0:Int),(false,((0:Int),((⟨⟨m,l⟩,g,keysS m l v⟩:graph_search),(last,[]))))))))=some (.inr ((),(t,(((0:Int),w),(x,(true,((0:Int),((⟨⟨m,l⟩,g,keysS m l v⟩:graph_search),(x,D)))))))))):=by
 intro L
 induction L with
 |nil=>intro _;exact .inl ⟨fun x L' e=>(by cases e),fun last=>Zh_R7_0 ..⟩
 |cons x L ih=>
  intro hok
  have i1:=ih (fun y hy=>hok y (QB _ hy))
  rcases PW hn h ht L (hok x (Qz ..)) with ⟨hr,hs⟩|hs
  ·rcases i1 with ⟨_,i1⟩| ⟨z,hz,i1⟩
   ·exact .inl ⟨fun y L' e=>(by cases e;exact hr),fun last=>(hs last).trans (i1 x)⟩
   ·refine .inr ⟨z,QB _ hz,fun last=>?_⟩
    obtain⟨w,D,k1⟩:=i1 x
    exact⟨w,D,(hs last).trans k1⟩
  ·exact .inr ⟨x,Qz ..,hs⟩
theorem PZ {n:Nat} {m:Int} {l:List (List Int)} {g:Graph} {v:List Int} {c t:Int} (hn:2^34<n) (hf:FewL l) (hg:FewG g.Hoods) (hv:v.length<=40) (ha:askB m l g.Hoods v c=true) (ht:K27 t) {L:List Int} (w1:walkG g.Hoods (keysS m l v) (g.Hoods.length+1) c=some L) (w4:∀x∈L,OkS (keysS m l v) x):
 ∃(L2:List Int) (x:Int) (b:Bool),Zh n (m,(l,(g,(v,(c,t)))))=some (L2,(x,(b,(0:Int))))/\x∈L/\((∀hd∈g.Hoods,hd.Radius=134217728)->b=true):=by
 have hb:=begin_eq (n:=n) (m:=m) (l:=l) (g:=g) (v:=v) (c:=c) (by omega) hf hg hv
 rw[ha] at hb
 have hA:=asked_of hf hg ha
 obtain⟨L',rfl⟩:=PU w1
 have ht1:=ht.1
 have ht2:=ht.2
 have d1:decide (t<0)=false:=dF (by omega)
 have d2:decide (t>134217728)=false:=dF (by omega)
 have eg:∀z,Zh_R7 n m g (c::L') ((),(t,(((0:Int),(0:Int)),((0:Int),(false,((0:Int),((⟨⟨m,l⟩,g,keysS m l v⟩:graph_search),(c,[]))))))))=some z->Zh n (m,(l,(g,(v,(c,t)))))=Sum.elim (fun (q35:PUnit×Int×(Int×Int)×Int×Bool×Int×graph_search×Int×List Int)=>some (([]:List Int),(q35.2.2.2.2.2.2.2.1,(false,(0:Int))))) (fun (q36:PUnit×Int×(Int×Int)×Int×Bool×Int×graph_search×Int×List Int)=>some (subI q36.2.2.2.2.2.2.2.2 q36.2.2.1.1 q36.2.2.1.2,(q36.2.2.2.1,(q36.2.2.2.2.1,q36.2.2.2.2.2.1)))) z:=by
  intro z hz
  refine(Zh_eq ..).trans (bs hb ?_)
  rw[d1,d2]
  refine bs (ZW_eq ..) ?_
  exact bs (bs (walkR_some hA.1 w1) hz) rfl
 rcases PY hn hA.1 ht (c::L') w4 with ⟨hr,h⟩| ⟨x,hx,h⟩
 ·refine⟨[],lastD c L',false,(eg _ (h c)).trans rfl,lastD_mem ..,fun hw=>?_⟩
  obtain⟨hd,_,_,f1,_⟩:=hood_at hA.1 hA.2
  exact absurd (hw hd (Ru f1)) (hr c L' rfl hd f1)
 ·obtain⟨w,D,k1⟩:=h c
  exact⟨subI D 0 w,x,true,(eg _ k1).trans rfl,hx,fun _=>rfl⟩
theorem P6 {n:Nat} {m:Int} {l:List (List Int)} {g:Graph} {v:List Int} {c k:Int} (hn:2^34<n) (hf:FewL l) (hg:FewG g.Hoods) (hv:v.length<=40) (ha:askB m l g.Hoods v c=true) (hk:1<=k/\k<=64) {L':List Int} (w1:walkG g.Hoods (keysS m l v) (g.Hoods.length+1) c=some (c::L')) (w4:∀x∈c::L',OkS (keysS m l v) x):
 ∃(L:List Int) (b:Bool),Zq n (m,(l,(g,(v,(c,k)))))=some (L,(lastD c L',(b,(0:Int))))/\((∀hd∈g.Hoods,hd.Slots.length=l.length)->b=true):=by
 have hb:=begin_eq (n:=n) (m:=m) (l:=l) (g:=g) (v:=v) (c:=c) (by omega) hf hg hv
 rw[ha] at hb
 have hA:=asked_of hf hg ha
 have d1:decide (k<1)=false:=dF (by omega)
 have d2:decide (k>64)=false:=dF (by omega)
 have hat:=w4 _ (lastD_mem L' c)
 obtain⟨hd,a,sl,f1,f2,f3,f4,f5,f6,f7⟩:=hood_at hA.1 hat
 obtain⟨o,o2,o3,o4⟩:=sorted_slot (n:=n) (by omega) (s:=⟨⟨m,l⟩,g,keysS m l v⟩) (l:=a::sl) (by simp) f5 f4
 have hol:o.length<=40:=by rw[o3.length_eq];exact f5
 have hok:∀x∈o,OkS (keysS m l v) x:=fun x hx=>f4 x (o3.mem_iff.1 hx)
 have hkb:=keysS_b hA.1.ok _ (ky_mem hat)
 have hfull:(∀hd∈g.Hoods,hd.Slots.length=l.length)->o.length=l.length:=fun hh=>by
  rw[o3.length_eq,<-f3];exact hh hd (Ru f1)
 have gstart:Zq n (m,(l,(g,(v,(c,k)))))=(bif decide (((o.length:Nat):Int)>=k) then (bif inB k o.length then (bif !(((o.length:Nat):Int)==((l.length:Nat):Int)) then (idxL (keysS m l v) (lastD c L')).bind fun (r16:Int)=>(idxL (List.take k.toNat o) (IntKind.wrap .i64 (k-1))).bind fun (r17:Int)=>(idxL (keysS m l v) r17).bind fun (r18:Int)=>(Xh n (m,(r16,(r18,hd.Radius)))).bind fun (r19:Bool)=>some (List.take k.toNat o,(lastD c L',(r19,(0:Int)))) else some (List.take k.toNat o,(lastD c L',(true,(0:Int))))) else none) else some (o,(lastD c L',((((o.length:Nat):Int)==((l.length:Nat):Int)),(0:Int))))):=by
  refine(Zq_eq ..).trans (bs hb ?_)
  rw[d1,d2]
  refine bs (ZW_eq ..) ?_
  refine bs (bs (walkR_some hA.1 w1) (near_loop (c::L') c)) ?_
  refine bs f2 ?_
  refine bs (a:=o) (by rw[f3];exact o2) ?_
  rfl
 by_cases hge:((o.length:Nat):Int)>=k
 ·have e2:inB k o.length=true:=dT ⟨by omega,by omega⟩
  have hkl:k.toNat-1<o.length:=by omega
  have hokk:=hok o[k.toNat-1] (QG _)
  have hkk:=keysS_b hA.1.ok _ (ky_mem hokk)
  have ew:IntKind.wrap .i64 (k-1)=((k.toNat-1:Nat):Int):=by rw[wr (by omega) (by omega)];omega
  have i2:idxL (List.take k.toNat o) (IntKind.wrap .i64 (k-1))=some o[k.toNat-1]:=by
   rw[ew,ix (by rw[QE];omega),List.getElem_take]
  by_cases hq:o.length=l.length
  ·refine⟨o.take k.toNat,true,gstart.trans ?_,fun _=>rfl⟩
   rw[dT hge,cond_true,e2,cond_true,show (((o.length:Nat):Int)==((l.length:Nat):Int))=true from by rw[hq];simp]
   rfl
  ·obtain⟨r,hr⟩:=isrt_ex (c:=4*kyS (keysS m l v) (lastD c L')*kyS (keysS m l v) o[k.toNat-1]) (Int.mul_nonneg (by omega) hkk.1)
   have hcv:=covers_val (n:=n) (m:=m) (c:=hd.Radius) hn (a:=kyS (keysS m l v) (lastD c L')) (b:=kyS (keysS m l v) o[k.toNat-1]) ⟨hkb.1,by omega⟩ ⟨hkk.1,by omega⟩ hr
   refine⟨o.take k.toNat,decide (hiS m (kyS (keysS m l v) (lastD c L')) (kyS (keysS m l v) o[k.toNat-1]) r<=hd.Radius),gstart.trans ?_,fun hh=>absurd (hfull hh) hq⟩
   rw[dT hge,cond_true,e2,cond_true,show (((o.length:Nat):Int)==((l.length:Nat):Int))=false from by simp;omega]
   exact bs (idx_ky hat) (bs i2 (bs (idx_ky hokk) (bs hcv rfl)))
 ·refine⟨o,(((o.length:Nat):Int)==((l.length:Nat):Int)),gstart.trans ?_,fun hh=>by rw[hfull hh];simp⟩
  rw[dF hge,cond_false]
end Sh
end
section
open Go Go.Proofs Aq Pq
namespace Sh
set_option maxRecDepth 100000
theorem rvalid_big {n:Nat} {a:List Int} (hn:a.length<n) (hl:a.length<2^59):Zk n a=some (vokB a):=by
 rw[Zk_eq]
 have key:∀k (i m:Nat),i+k=a.length->k<m->Zk_L2 n a m (i:Int)=some (bif (a.drop i).all inR then .inl () else .inr false):=by
  intro k
  induction k with
  |zero=>
   intro i m hi hm
   obtain⟨m,rfl⟩:∃m',m=m'+1:=⟨m-1,by omega⟩
   have:i=a.length:=by omega
   rw[Zk_L2_s,ite_nlt (by omega),this,List.drop_length];rfl
  |succ k ih=>
   intro i m hi hm
   obtain⟨m,rfl⟩:∃m',m=m'+1:=⟨m-1,by omega⟩
   have hlt:i<a.length:=by omega
   rw[Zk_L2_s,ite_lt (by omega)]
   refine bs (ix hlt) ?_
   rw[QO hlt,List.all_cons]
   by_cases h1:a[i]< -1000
   ·rw[dT h1]
    refine bs rfl ?_
    have:inR a[i]=false:=by unfold inR;rw[dF (by omega)];rfl
    rw[this];rfl
   ·rw[dF h1]
    refine bs (ix hlt) ?_
    by_cases h2:a[i]>1000
    ·have:inR a[i]=false:=by unfold inR;rw[Bool.and_eq_false_iff];right;rw[dF (by omega)]
     rw[this,dT h2];rfl
    ·have:inR a[i]=true:=by unfold inR;rw[dT (by omega),dT (by omega)];rfl
     rw[this,dF h2,Bool.true_and]
     show Zk_L2 n a m _=_
     rw[wS (by omega)]
     exact ih (i+1) m (by omega) (by omega)
 refine bs (key a.length 0 n (by omega) (by omega)) ?_
 rw[Rk,vokB_def]
 cases a.all inR
 ·rfl
 ·show some (bif decide (((a.length:Nat):Int)>=1) then decide (((a.length:Nat):Int)<=32) else false)=_
  rw[cF,Bool.true_and,show decide (((a.length:Nat):Int)>=1)=decide (1<=a.length) from decide_eq_decide.2 (by omega),show decide (((a.length:Nat):Int)<=32)=decide (a.length<=32) from decide_eq_decide.2 (by omega)]
theorem ralike_big {n:Nat} {a b:List Int} (hn:100<n) (ha:a.length<=40) (hb:b.length<n) (hb2:b.length<2^59):XD n (a,b)=some (alikeB a b):=by
 rw[XD_eq,rvalid_eq hn ha,rvalid_big hb hb2,len_beq]
 unfold alikeB
 cases decide (a.length=b.length)<;>cases vokB a<;>cases vokB b<;>rfl
end Sh
end
section
open Go Go.Proofs Aq Pq
namespace Sh
set_option maxRecDepth 100000
theorem P7 {n:Nat} {m:Int} {l:List (List Int)} {v:List Int} {c t:Int} {r13:Graph×Int} (hn:400<n) (hl:r13.1.Hoods.length<=40):∀k (i mm:Nat) (o:List Hood),i+k=r13.1.Hoods.length->k<mm->o.length<=i->ZT_L11 n m l v c t r13 mm ((i:Int),o)=some ((),o++iL (r13.1.Hoods.drop i)):=by
 intro k
 induction k with
 |zero=>
  intro i mm o hi hmm ho
  obtain⟨mm,rfl⟩:∃m',mm=m'+1:=⟨mm-1,by omega⟩
  rw[ZT_L11_s,ite_nlt (by omega),RF (by omega)]
  show some ((),o)=some ((),o++[])
  rw[QX]
 |succ k ih=>
  intro i mm o hi hmm ho
  obtain⟨mm,rfl⟩:∃m',mm=m'+1:=⟨mm-1,by omega⟩
  have hlt:i<r13.1.Hoods.length:=by omega
  rw[ZT_L11_s,ite_lt (by omega),QO hlt,wS (by omega)]
  refine bs (ix hlt) ?_
  rw[room (by simp only[List.length_singleton];omega) (by simp only[List.length_singleton];omega),cond_true]
  refine(ih (i+1) mm _ (by omega) (by omega) (by rw[QI];simp only[List.length_singleton];omega)).trans ?_
  rw[QS];rfl
theorem P8 {n:Nat} (hn:2^34<n) (m:Int) (l:List (List Int)) (v:List Int) (from_ t k:Int) (hfr:0<=from_/\from_<=255) (hk:0<=k/\k<=255) (hvn:v.length<n) (hv2:v.length<2^59):ZT n (m,(l,(v,(from_,(t,k)))))=some true:=by
 refine(ZT_eq ..).trans ?_
 obtain⟨b1,e1,f1⟩:=few_eq (n:=n) (l:=l) (by omega)
 refine bs e1 ?_
 rw[rmetric_eq]
 cases b1
 ·refine bs (a:=false) rfl (bs (a:=false) rfl (bs (a:=[]) rfl (bs (a:=false) rfl ?_)))
  exact bs (san_eq n) rfl
 have hf:=f1 rfl
 rw[fit_eq (by omega) hf]
 refine bs (a:=mtB m) rfl ?_
 cases hm:mtB m
 ·refine bs (a:=false) rfl (bs (a:=[]) rfl (bs (a:=false) rfl ?_))
  exact bs (san_eq n) rfl
 refine bs (a:=fitB l) rfl ?_
 cases hfit:fitB l
 ·refine bs (a:=[]) rfl (bs (a:=false) rfl ?_)
  exact bs (san_eq n) rfl
 obtain⟨a,l',hl⟩:∃a l',l=a::l':=by
  cases l with
  |nil=>unfold fitB at hfit;cases hfit
  |cons a l'=>exact⟨a,l',rfl⟩
 have h0:idxL l (0:Int)=some a:=by rw[hl];exact ix0 a l'
 have hmem:a∈l:=by rw[hl];exact Qz ..
 have hal:=ralike_big (n:=n) (a:=a) (b:=v) (by omega) (hf.2 a hmem) hvn hv2
 refine bs h0 ?_
 rw[hal]
 refine bs (a:=alikeB a v) rfl ?_
 cases hav:alikeB a v
 ·exact bs (san_eq n) rfl
 by_cases ht:K27 t
 ·have ht1:=ht.1
  have ht2:=ht.2
  rw[dF (show¬t<0 by omega),dF (show¬t>134217728 by omega)]
  have h25:=hf.1
  have h1l:1<=l.length:=by rw[hl];simp
  have hvok:VOK v:=by
   unfold alikeB at hav
   rw[iP,iP,vokB_iff,vokB_iff] at hav
   exact hav.2.2
  have hv40:v.length<=40:=by have:=hvok.2.2;omega
  have hm3:M3 m:=mtB_iff.1 hm
  have hr:rightB m l ((l.length:Nat):Int)=true:=by
   unfold rightB
   rw[hm,hfit,dF (show¬((l.length:Nat):Int)<1 by omega),dF (show¬((l.length:Nat):Int)>4096 by omega)];rfl
  have hbld:Zx n (m,(l,((l.length:Nat):Int)))=some ((⟨buildS m l ((l.length:Nat):Int)⟩:Graph),(0:Int)):=by
   refine(build_eq (by omega) hf).trans ?_
   rw[hr];rfl
  have ec:IntKind.wrap .i64 from_=from_:=wr (by omega) (by omega)
  have ek:IntKind.wrap .i64 (1+Int.tmod (IntKind.wrap .i64 k) 64)=1+k% 64:=by
   rw[wr (i:=k) (by omega) (by omega),Int.tmod_eq_emod_of_nonneg hk.1,wr (by omega) (by omega)]
  have ed:Int.tmod from_ ((l.length:Nat):Int)=from_% ((l.length:Nat):Int):=Int.tmod_eq_emod_of_nonneg hfr.1
  have hc0:0<=from_% ((l.length:Nat):Int):=Int.emod_nonneg _ (by omega)
  have hc1:from_% ((l.length:Nat):Int)< ((l.length:Nat):Int):=Int.emod_lt_of_pos _ (by omega)
  have hask:∀hs:List Hood,validB ((l.length:Nat):Int) hs=true->askB m l hs v (from_% ((l.length:Nat):Int))=true:=by
   intro hs hv'
   unfold askB
   rw[hm,hfit,hv',dT hc0,dT hc1,show l.headD []=a by rw[hl];rfl,hav];rfl
  have hk64:1<=1+k% 64/\1+k% 64<=64:=by omega
  have hval:=build_valid (m:=m) (want:=((l.length:Nat):Int)) hm3 hfit hf
  have nU:FewG (buildS m l ((l.length:Nat):Int)):=build_few hf
  have hall:∀hd∈buildS m l ((l.length:Nat):Int),hd.Slots=allS 0 l.length:=fun hd hh=>by
   obtain⟨i,hi,rfl⟩:=List.getElem_of_mem hh
   exact FV hfit hf hi
  have zm:=hask _ hval
  have hA:=asked_of hf nU zm
  obtain⟨L,w1,w2,⟨L',rfl⟩,w4⟩:=walk_tot hA.1 hA.2
  have P9:=(gwalk_eq (n:=n) (m:=m) (l:=l) (g:=⟨buildS m l ((l.length:Nat):Int)⟩) (v:=v) (c:=from_% ((l.length:Nat):Int)) (by omega) hf nU hv40).2 zm _ w1 w2
  have Qs:=PV hA.1 hall hA.2 w1
  obtain⟨L3,b3,n1,n2⟩:=P6 (n:=n) (g:=⟨buildS m l ((l.length:Nat):Int)⟩) (k:=1+k% 64) hn hf nU hv40 zm hk64 w1 w4
  have hb3:=n2 fun hd hh=>by rw[hall hd hh,allS_len]
  subst hb3
  have hwv:=PN hval
  have hwf:=PO nU
  have FZ:=hask _ hwv
  have hA2:=asked_of hf hwf FZ
  obtain⟨M,u1,u2,_,u4⟩:=walk_tot hA2.1 hA2.2
  obtain⟨L4,x4,b4,v1,_,v2⟩:=PZ (n:=n) (g:=⟨iL (buildS m l ((l.length:Nat):Int))⟩) (t:=t) hn hf hwf hv40 FZ ht u1 u4
  have hb4:=v2 fun hd hh=>by
   obtain⟨y,_,rfl⟩:=Rx.1 hh
   rfl
  subst hb4
  have hchk:=PK (n:=n) (by omega) hf hwf (PI hm3 hfit hwv (PS hfit hf))
  have hloop:=P7 (n:=n) (m:=m) (l:=l) (v:=v) (c:=from_) (t:=t) (r13:=(⟨buildS m l ((l.length:Nat):Int)⟩,0)) (by omega) (by have:=nU.1;show (buildS m l _).length<=40;omega) (buildS m l ((l.length:Nat):Int)).length 0 n [] (by show 0+(buildS m l ((l.length:Nat):Int)).length=(buildS m l ((l.length:Nat):Int)).length;omega) (by have:=nU.1;omega) (by simp)
  rw[ec,ek,ed,show (((l.length:Nat):Int)==(0:Int))=false from beq_eq_false_iff_ne.2 (by omega)]
  refine bF rfl ?_
  refine bT rfl ?_
  refine bs hbld (bs P9 ?_)
  refine bT rfl ?_
  refine bs n1 ?_
  refine bF (by dsimp only;rw[dF (by omega)];rfl) ?_
  refine bs hloop ?_
  refine bs hchk (bs v1 (bs (san_eq n) rfl))
 ·refine bT ?_ (bs (san_eq n) rfl)
  unfold K27 at ht
  by_cases h0:t<0
  ·rw[dT h0];cases decide (t>134217728)<;>rfl
  ·rw[dF h0,dT (show t>134217728 by omega)];rfl
end Sh
end
