import Derived.Test.YtabmooekodficaaGreatF2023
set_option linter.all false
section
open Go Go.Proofs Aq Pq
namespace Sh
set_option maxRecDepth 100000
def hiS (m a b r:Int):Int:=bif decide (m=2) then imin (a+b+r) 134217728 else imin (a+b) 134217728
theorem high_val {n:Nat}{m a b r:Int}(hn:2^34<n)(ha:K27 a)(hb:K27 b)(hr:IsRt (4*a*b) r):XO n (m,(a,b))=some (hiS m a b r):=by
 have ha1:=ha.1;have ha2:=ha.2;have hb1:=hb.1;have hb2:=hb.2;have hm0:0<=4*a*b:=Int.mul_nonneg (by omega) hb1;have hm1:4*a*b<=2^56:=by have:=Int.mul_le_mul (show 4*a<=536870912 by omega) hb2 hb1 (by omega);simpa using this
 have hr2:r<=2^28:=by
  rcases Int.lt_or_le (2^28) r with k|k
  ·have:=sq_lt (a:=2^28) (b:=r) (by decide) k
   have:=hr.2.1;omega
  ·exact k
 have hr1:=hr.1;have ew:IntKind.wrap .i64 (IntKind.wrap .i64 (4*a)*b)=4*a*b:=by rw[wr (i:=4*a) (by omega) (by omega),wr (by omega) (by omega)]
 refine(XO_eq ..).trans ?_;unfold highF hi2 hiS;cases decide (m=2)
 ·refine bs (a:=a+b) ?_ rfl
  show Xl n (a,b)=_;rw[Xl_eq,wr (by omega) (by omega)]
 ·refine bs (a:=a+b+r) ?_ rfl
  show Xk n (a,(b,(1:Int)))=_;rw[Xk_eq,ew];refine bs (isqrt_eq hn hr hm1) ?_;rw[Int.one_mul,wr (i:=r) (by omega) (by omega),wr (i:=a+b) (by omega) (by omega),wr (by omega) (by omega)]
theorem covers_val {n:Nat}{m a b c r:Int}(hn:2^34<n)(ha:K27 a)(hb:K27 b)(hr:IsRt (4*a*b) r):Xm n (m,(a,(b,c)))=some (decide (hiS m a b r<=c)):=
 (Xm_eq ..).trans (bs (high_val hn ha hb hr) rfl)
theorem rt_mono {c c' r r':Int}(h:IsRt c r)(h':IsRt c' r')(hc:c<=c'):r<=r':=h'.le (Int.le_trans h.2.1 hc)
def kk (m:Int)(l:List (List Int))(x y:Int):Int:=keyS m (l.getD x.toNat []) (l.getD y.toNat [])
theorem ky_key {m:Int}{l:List (List Int)}{v:List Int}{x:Int}(hx:OkS (keysS m l v) x):kyS (keysS m l v) x=keyS m (l.getD x.toNat []) v:=by have h1:=hx.1;have h2:=hx.2;rw[keysS_len] at h2;unfold kyS keysS;rw[Qq,Qq,List.getElem?_map,Ql (show x.toNat<l.length by omega)];rfl
theorem vec_ok {m:Int}{l:List (List Int)}{v:List Int}(h:LOK l v){x:Int}(hx:OkS (keysS m l v) x):VOK (l.getD x.toNat [])/\(l.getD x.toNat []).length=v.length/\l.getD x.toNat []∈l:=by
 have h1:=hx.1;have h2:=hx.2;rw[keysS_len] at h2;have e:l.getD x.toNat []=l[x.toNat]'(by omega):=by rw[Qq,Ql (show x.toNat<l.length by omega)];rfl
 rw[e];have:=h.2.2 (l[x.toNat]'(by omega)) (P9 _);exact⟨this.1,this.2,P9 _⟩
theorem cover_key {m:Int}{l:List (List Int)}{v:List Int}(hm:M3 m)(h:LOK l v){t c r x p:Int}(hp:OkS (keysS m l v) p)(hx:OkS (keysS m l v) x)(hr:IsRt (4*kyS (keysS m l v) p*t) r)(hc:hiS m (kyS (keysS m l v) p) t r<=c)(hxt:kyS (keysS m l v) x<=t):kk m l x p<=c:=by
 obtain⟨v1,v2,_⟩:=vec_ok h hx;obtain⟨w1,w2,_⟩:=vec_ok h hp;have kb:=keyS_b (m:=m) v1 w1;have e1:=ky_key hx;have e2:=ky_key hp;have xb:=keysS_b h _ (ky_mem hx);have pb:=keysS_b h _ (ky_mem hp);obtain⟨r0,hr0⟩:=isrt_ex (c:=4*keyS m (l.getD x.toNat []) v*keyS m v (l.getD p.toNat [])) (Int.mul_nonneg (by rw[<-e1];omega) (by rw[keyS_comm,<-e2];omega));have ht:=tri hm v2 w2.symm hr0;rw[keyS_comm m v,<-e1,<-e2] at ht hr0;have hle:r0<=r:=rt_mono hr0 hr (by
  have a1:4*kyS (keysS m l v) x*kyS (keysS m l v) p=4*kyS (keysS m l v) p*kyS (keysS m l v) x:=by ac_rfl
  rw[a1];exact Int.mul_le_mul_of_nonneg_left hxt (by omega))
 unfold kk;unfold hiS imin at hc;cases hd:decide (m=2)
 ·rw[hd,cond_false] at ht hc
  revert hc;split<;>intro hc<;>omega
 ·rw[hd,cond_true] at ht hc
  revert hc;split<;>intro hc<;>omega
theorem arS_filter {t c:Int}(f:Int->Bool):∀(K ks:List Int)(i:Nat),K.length=ks.length->(∀j (hj:j<ks.length) (hj':j<K.length),(f ((i+j:Nat):Int)=decide (ks[j]<=t))/\(ks[j]<=t->K[j]<=c))->(arS c i K).filter f=arS t i ks
 | [],[],_,_,_=>rfl|a::K,b::ks,i,hl,h=>by
  have h0:=h 0 (by simp) (by simp);have ih:=arS_filter f K ks (i+1) (by simpa using hl) (fun j hj hj'=>by have:=h (j+1) (by simpa using hj) (by simpa using hj');rw[show i+(j+1)=i+1+j by omega] at this;simpa using this);simp only[List.getElem_cons_zero,Nat.add_zero] at h0;unfold arS;by_cases hb:b<=t
  ·rw[dT (h0.2 hb),dT hb,cond_true,cond_true,List.filter_cons_of_pos (by rw[h0.1];exact dT hb),ih]
  ·rw[dF hb,cond_false]
   cases decide (a<=c)
   ·exact ih
   ·rw[cond_true,List.filter_cons_of_neg (by rw[h0.1,dF hb];decide),ih]
 | [],_::_,_,h,_=>by cases h|_::_,[],_,h,_=>by cases h
theorem mem_arS {t:Int}:∀(ks:List Int)(i:Nat)(x:Int),x∈arS t i ks↔∃j,∃hj:j<ks.length,x=((i+j:Nat):Int)/\ks[j]<=t
 | [],i,x=>⟨fun h=>(by cases h),fun ⟨j,hj,_⟩=>(by cases hj)⟩
 |k::ks,i,x=>by
  have ih:=mem_arS (t:=t) ks (i+1) x;have tail:x∈arS t (i+1) ks↔∃j,∃hj:j+1< (k::ks).length,x=((i+(j+1):Nat):Int)/\(k::ks)[j+1]<=t:=by
   rw[ih];constructor
   ·rintro⟨j,hj,e1,e2⟩
    exact⟨j,by simpa using hj,by rw[e1];congr 1;omega,by simpa using e2⟩
   ·rintro⟨j,hj,e1,e2⟩
    exact⟨j,by simpa using hj,by rw[e1];congr 1;omega,by simpa using e2⟩
  unfold arS;by_cases hk:k<=t
  ·rw[dT hk,cond_true,Qk,tail]
   constructor
   ·rintro (h| ⟨j,hj,e⟩)
    ·exact⟨0,by simp,by simpa using h,by simpa using hk⟩
    ·exact⟨j+1,hj,e⟩
   ·rintro⟨j,hj,e1,e2⟩
    cases j with
    |zero=>exact .inl (by simpa using e1)|succ j=>exact .inr ⟨j,hj,e1,e2⟩
  ·rw[dF hk,cond_false,tail]
   constructor
   ·rintro⟨j,hj,e⟩
    exact⟨j+1,hj,e⟩
   ·rintro⟨j,hj,e1,e2⟩
    cases j with
    |zero=>exact absurd (by simpa using e2) hk|succ j=>exact⟨j,hj,e1,e2⟩
end Sh
end
section
open Go Go.Proofs Aq Pq
namespace Sh
set_option maxRecDepth 100000
def Exact (m:Int)(l:List (List Int))(hs:List Hood):Prop:=∀(i:Nat)(hi:i<hs.length),hs[i].Slots=arS hs[i].Radius 0 (keysS m l (l.getD i []))
theorem keysS_get {m:Int}{l:List (List Int)}{v:List Int}{j:Nat}(hj:j< (keysS m l v).length)(hj2:j<l.length):(keysS m l v)[j]=keyS m (l.getD j []) v:=by have e1:(keysS m l v)[j]=keyS m l[j] v:=QO (fun x=>keyS m x v);rw[e1,Qq,Ql hj2];rfl
theorem near_all {m:Int}{l:List (List Int)}{hs:List Hood}{v:List Int}(h:Asked m l hs v)(he:Exact m l hs){p t r:Int}(hp:OkS (keysS m l v) p)(hi:p.toNat<hs.length)(hr:IsRt (4*kyS (keysS m l v) p*t) r)(hc:hiS m (kyS (keysS m l v) p) t r<=hs[p.toNat].Radius):
 hs[p.toNat].Slots.filter (nrB (keysS m l v) t)=arS t 0 (keysS m l v):=by
 rw[he p.toNat hi];refine arS_filter _ _ _ 0 (by rw[keysS_len,keysS_len]) fun j hj hj'=>?_;have hj2:=hj;rw[keysS_len] at hj2;have hx:OkS (keysS m l v) ((j:Nat):Int):=⟨by omega,by rw[keysS_len];omega⟩;have ekj:kyS (keysS m l v) ((j:Nat):Int)=(keysS m l v)[j]:=by unfold kyS;rw[Int.toNat_natCast,Qq,Ql hj];rfl
 refine⟨?_,fun hle=>?_⟩
 ·unfold nrB
  rw[Qx,ekj]
 ·have:=cover_key h.m3 h.ok hp hx hr hc (by rw[ekj];exact hle)
  unfold kk at this;rw[Int.toNat_natCast] at this;rw[keysS_get hj' hj2];exact this
theorem within_sure {n:Nat}{m:Int}{l:List (List Int)}{g:Graph}{v:List Int}{t:Int}(hn:2^34<n)(h:Asked m l g.Hoods v)(he:Exact m l g.Hoods)(ht:K27 t):∀(L:List Int),(∀x∈L,OkS (keysS m l v) x)->
 (∀last,Zi_R7 n m g L ((),(t,(((0:Int),(0:Int)),((0:Int),(false,((0:Int),((⟨⟨m,l⟩,g,keysS m l v⟩:graph_search),(last,[]))))))))=some (.inl ((),(t,(((0:Int),(0:Int)),((0:Int),(false,((0:Int),((⟨⟨m,l⟩,g,keysS m l v⟩:graph_search),(lastD last L,[]))))))))))\/
 (∀last,∃(x w:Int) (D:List Int),Zi_R7 n m g L ((),(t,(((0:Int),(0:Int)),((0:Int),(false,((0:Int),((⟨⟨m,l⟩,g,keysS m l v⟩:graph_search),(last,[]))))))))=some (.inr ((),(t,(((0:Int),w),(x,(true,((0:Int),((⟨⟨m,l⟩,g,keysS m l v⟩:graph_search),(x,D)))))))))/\subI D 0 w=arS t 0 (keysS m l v)):=by
 intro L;induction L with
 |nil=>intro _;exact .inl fun last=>Zi_R7_0 ..
 |cons x L ih=>
  intro hok;have i1:=ih (fun y hy=>hok y (Qd _ hy));have hx:=hok x (P8 ..);obtain⟨hd,a,sl,f1,f2,f3,f4,f5,f6,f7⟩:=hood_at h hx;have hkb:=keysS_b h.ok _ (ky_mem hx);obtain⟨r,hr⟩:=isrt_ex (c:=4*kyS (keysS m l v) x*t) (Int.mul_nonneg (by omega) ht.1);have hcv:=covers_val (n:=n) (m:=m) (c:=hd.Radius) hn (a:=kyS (keysS m l v) x) (b:=t) ⟨hkb.1,by omega⟩ ht hr;by_cases hc:hiS m (kyS (keysS m l v) x) t r<=hd.Radius
  ·rw[dT hc] at hcv
   refine .inr fun last=>?_;have ecl:Xa n hd.Slots ()=some (a::sl,()):=by rw[f3];refine(Xa_eq ..).trans ?_;exact bT rfl (bT (room (by omega) (by omega)) rfl)
   obtain⟨w,D,k1,k2⟩:=del_eq (n:=n) (by omega) (s:=⟨⟨m,l⟩,g,keysS m l v⟩) (t:=t) (sl:=a::sl) f5 f4;refine⟨x,w,D,?_,?_⟩
   ·refine(Zi_R7_s ..).trans ?_
    exact bs f2 (bs (idx_ky hx) (bs hcv (bs ecl (bs k1 rfl))))
   ·have hi:x.toNat<g.Hoods.length:=by
     rcases Nat.lt_or_ge x.toNat g.Hoods.length with k|k
     ·exact k
     ·rw[List.getElem?_eq_none k] at f1;cases f1
    have hget:g.Hoods[x.toNat]=hd:=(by rw[Ql hi] at f1;exact Qm f1);have:=near_all h he hx hi hr (by rw[hget];exact hc);rw[hget,f3] at this;rw[k2];exact this
  ·rw[dF hc] at hcv
   have gstep:∀last,Zi_R7 n m g (x::L) ((),(t,(((0:Int),(0:Int)),((0:Int),(false,((0:Int),((⟨⟨m,l⟩,g,keysS m l v⟩:graph_search),(last,[]))))))))=Zi_R7 n m g L ((),(t,(((0:Int),(0:Int)),((0:Int),(false,((0:Int),((⟨⟨m,l⟩,g,keysS m l v⟩:graph_search),(x,[])))))))):=by intro last;refine(Zi_R7_s ..).trans ?_;exact bs f2 (bs (idx_ky hx) (bs hcv rfl))
   rcases i1 with i1|i1
   ·exact .inl fun last=>(gstep last).trans (i1 x)
   ·refine .inr fun last=>?_
    obtain⟨z,w,D,k1,k2⟩:=i1 x;exact⟨z,w,D,(gstep last).trans k1,k2⟩
theorem within_all {n:Nat}{m:Int}{l:List (List Int)}{g:Graph}{v:List Int}{c t:Int}(hn:2^34<n)(hf:FewL l)(hg:FewG g.Hoods)(hv:v.length<=40)(ha:askB m l g.Hoods v c=true)(he:Exact m l g.Hoods)(ht:K27 t):
 ∃(L:List Int) (x:Int) (b:Bool),Zi n (m,(l,(g,(v,(c,t)))))=some (L,(x,(b,(0:Int))))/\(b=true->L=arS t 0 (keysS m l v))/\(b=false->L=[]):=by
 have hb:=begin_eq (n:=n) (m:=m) (l:=l) (g:=g) (v:=v) (c:=c) (by omega) hf hg hv;rw[ha] at hb;have hA:=asked_of hf hg ha;obtain⟨L,w1,w2,_,w4⟩:=walk_tot hA.1 hA.2;have ht1:=ht.1;have ht2:=ht.2;have d1:decide (t<0)=false:=dF (by omega);have d2:decide (t>134217728)=false:=dF (by omega);have eg:∀z,Zi_R7 n m g L ((),(t,(((0:Int),(0:Int)),((0:Int),(false,((0:Int),((⟨⟨m,l⟩,g,keysS m l v⟩:graph_search),(c,[]))))))))=some z->Zi n (m,(l,(g,(v,(c,t)))))=Sum.elim (fun (q35:PUnit×Int×(Int×Int)×Int×Bool×Int×graph_search×Int×List Int)=>some (([]:List Int),(q35.2.2.2.2.2.2.2.1,(false,(0:Int))))) (fun (q36:PUnit×Int×(Int×Int)×Int×Bool×Int×graph_search×Int×List Int)=>some (subI q36.2.2.2.2.2.2.2.2 q36.2.2.1.1 q36.2.2.1.2,(q36.2.2.2.1,(q36.2.2.2.2.1,q36.2.2.2.2.2.1)))) z:=by intro z hz;refine(Zi_eq ..).trans (bs hb ?_);rw[d1,d2];refine bs (Xj_eq ..) ?_;exact bs (bs (walkR_some hA.1 w1) hz) rfl
 rcases within_sure hn hA.1 he ht L w4 with h|h
 ·exact⟨[],_,false,(eg _ (h c)).trans rfl,fun k=>(by cases k),fun _=>rfl⟩
 ·obtain⟨x,w,D,k1,k2⟩:=h c
  exact⟨subI D 0 w,x,true,(eg _ k1).trans rfl,fun _=>k2,fun k=>(by cases k)⟩
end Sh
end
section
open Go Go.Proofs Aq Pq
namespace Sh
set_option maxRecDepth 100000
def allS (i k:Nat):List Int:=(List.range' i k).map fun (j:Nat)=>(j:Int)
theorem arS_full {c:Int}:∀(K:List Int)(i:Nat),(arS c i K).length=K.length->arS c i K=allS i K.length
 | [],_,_=>rfl|k::K,i,h=>by
  have hle:(arS c (i+1) K).length<=K.length:=by rw[arS_len];exact List.countP_le_length
  unfold arS at h⊢;cases hk:decide (k<=c)
  ·rw[hk,cond_false,List.length_cons] at h;omega
  ·rw[hk,cond_true,List.length_cons,List.length_cons] at h
   rw[cond_true,arS_full K (i+1) (by omega)];rfl
theorem arS_big {c:Int}{K:List Int}(h:∀x∈K,x<=c)(i:Nat):arS c i K=allS i K.length:=
 arS_full K i (by rw[arS_len,List.countP_eq_length];exact fun x hx=>dT (h x hx))
theorem allS_mem {k:Nat}{x:Int}(h:x∈allS 0 k):0<=x/\x<k:=by unfold allS at h;obtain⟨j,hj,rfl⟩:=Q0.1 h;rw[List.mem_range'] at hj;obtain⟨i,h1,h2⟩:=hj;omega
theorem first_eq {n:Nat}{m:Int}{l:List (List Int)}{hs:List Hood}{v:List Int}(hn:400<n)(h:Asked m l hs v)(he:Exact m l hs){p:Int}(hp:OkS (keysS m l v) p)(hi:p.toNat<hs.length){o P:List Int}(o3:o.Perm hs[p.toNat].Slots)(o4:o.Pairwise fun x y=>¬LtS (keysS m l v) y x)(P3:P.Perm (allS 0 l.length))(P4:P.Pairwise fun x y=>¬LtS (keysS m l v) y x){k:Nat}(hk:1<=k)(hko:k<=o.length){r:Int}(hr:IsRt (4*kyS (keysS m l v) p*kyS (keysS m l v) (o[k-1]'(by omega))) r)(hc:hiS m (kyS (keysS m l v) p) (kyS (keysS m l v) (o[k-1]'(by omega))) r<=hs[p.toNat].Radius):o.take k=P.take k:=by
 have hl25:=h.ok.1;have pb:=vec_ok h.ok hp;have hKl:(keysS m l (l.getD p.toNat [])).length=l.length:=keysS_len ..;have hlok:LOK l (l.getD p.toNat []):=⟨h.ok.1,pb.1,fun x hx=>⟨(h.ok.2.2 x hx).1,(h.ok.2.2 x hx).2.trans pb.2.1.symm⟩⟩;have kb:∀x∈keysS m l (l.getD p.toNat []),x<=2^30:=fun x hx=>by have:=(keysS_b hlok x hx).2;omega
 have hall:arS (2^30) 0 (keysS m l (l.getD p.toNat []))=allS 0 l.length:=by rw[arS_big kb,hKl]
 have hsl:(allS 0 l.length).filter (fun x=>decide (kyS (keysS m l (l.getD p.toNat [])) x<=hs[p.toNat].Radius))=hs[p.toNat].Slots:=by rw[he p.toNat hi,<-hall];refine arS_filter _ _ _ 0 rfl fun j hj hj'=>⟨?_,fun _=>kb _ (P9 _)⟩;rw[Qx];unfold kyS;rw[Int.toNat_natCast,Qq,Ql hj];rfl
 have hperm:=List.filter_append_perm (fun x=>decide (kyS (keysS m l (l.getD p.toNat [])) x<=hs[p.toNat].Radius)) (allS 0 l.length);rw[hsl] at hperm;have hok:∀x∈allS 0 l.length,OkS (keysS m l v) x:=fun x hx=>by have:=allS_mem hx;exact⟨this.1,by rw[keysS_len];exact this.2⟩
 generalize hrest:(allS 0 l.length).filter (fun x=>!(decide (kyS (keysS m l (l.getD p.toNat [])) x<=hs[p.toNat].Radius)))=rest at hperm;have hrok:∀x∈rest,OkS (keysS m l v) x/\¬kyS (keysS m l (l.getD p.toNat [])) x<=hs[p.toNat].Radius:=fun x hx=>by rw[<-hrest,List.mem_filter] at hx;refine⟨hok x hx.1,?_⟩;have:=hx.2;rw[Qz,decide_eq_false_iff_not] at this;exact this
 have hoo:∀x∈o,OkS (keysS m l v) x:=fun x hx=>(h.slot p.toNat hi).2.1 x (o3.mem_iff.1 hx);have far:∀x∈rest,kyS (keysS m l v) (o[k-1]'(by omega))<kyS (keysS m l v) x:=fun x hx=>by
  obtain⟨x1,x2⟩:=hrok x hx;rcases Int.lt_or_le (kyS (keysS m l v) (o[k-1]'(by omega))) (kyS (keysS m l v) x) with c|c
  ·exact c
  ·exfalso
   apply x2;have hx':OkS (keysS m l (l.getD p.toNat [])) x:=⟨x1.1,by have:=x1.2;rw[keysS_len] at this⊢;exact this⟩;rw[ky_key hx'];exact cover_key h.m3 h.ok hp x1 hr hc c
 have hlen:(o.drop k++rest).length<=40:=by
  have h1:=hperm.length_eq;have h2:=o3.length_eq;rw[Qe] at h1;rw[Qe,QC];have h3:(allS 0 l.length).length=l.length:=by unfold allS;rw[P7,List.length_range']
  omega
 obtain⟨q,_,q2,q3⟩:=rorder_ex (n:=n) hn h.m3 h.ok (s:=o.drop k++rest) hlen (fun x hx=>by
  rcases Rj.1 hx with e|e
  ·exact hoo x (List.mem_of_mem_drop e)
  ·exact(hrok x e).1)
 have hsplit:o.take k++o.drop k=o:=QT k o;have ho4:=o4;rw[<-hsplit,List.pairwise_append] at ho4;have hQ:(o.take k++q).Pairwise fun x y=>¬LtS (keysS m l v) y x:=by
  rw[List.pairwise_append];refine⟨ho4.1,q3,fun a ha b hb=>?_⟩;rcases Rj.1 (q2.mem_iff.1 hb) with e|e
  ·exact ho4.2.2 a ha b e
  ·have f1:=far b e
   have f2:kyS (keysS m l v) a<=kyS (keysS m l v) (o[k-1]'(by omega)):=by
    obtain⟨i,hi',rfl⟩:=List.getElem_of_mem ha;rw[Qc] at hi';rw[List.getElem_take];by_cases e2:i=k-1
    ·subst e2;exact Qb _
    ·have:=(List.pairwise_iff_getElem.1 o4) i (k-1) (by omega) (by omega) (by omega)
     unfold LtS at this;omega
   unfold LtS;omega
 have hQp:(o.take k++q).Perm P:=by
  have a1:(o.take k++q).Perm (o.take k++(o.drop k++rest)):=List.Perm.append_left _ q2;have a2:(o.take k++(o.drop k++rest))=o++rest:=by rw[<-Qp,hsplit]
  rw[a2] at a1;exact a1.trans ((List.Perm.append_right _ o3).trans (hperm.trans P3.symm))
 have hE:o.take k++q=P:=hQp.eq_of_pairwise (le:=fun x y=>¬LtS (keysS m l v) y x) (fun a b _ _ h1 h2=>antiS h2 h1) hQ P4;rw[<-hE,Ra (by rw[Qc];omega),List.take_take,Nat.min_self]
end Sh
end
section
open Go Go.Proofs Aq Pq
namespace Sh
set_option maxRecDepth 100000
theorem allS_len (i k:Nat):(allS i k).length=k:=by unfold allS;rw[P7,List.length_range']
theorem full_eq {m:Int}{l:List (List Int)}{hs:List Hood}(he:Exact m l hs)(i:Nat)(hi:i<hs.length)(h:hs[i].Slots.length=l.length):hs[i].Slots=allS 0 l.length:=by have e:=he i hi;rw[e] at h⊢;have hk:(keysS m l (l.getD i [])).length=l.length:=keysS_len ..;rw[arS_full _ _ (by rw[h,hk]),hk]
theorem nearest_all {n:Nat}{m:Int}{l:List (List Int)}{g:Graph}{v:List Int}{c k:Int}(hn:2^34<n)(hf:FewL l)(hg:FewG g.Hoods)(hv:v.length<=40)(ha:askB m l g.Hoods v c=true)(he:Exact m l g.Hoods)(hk:1<=k/\k<=64){P:List Int}(P3:P.Perm (allS 0 l.length))(P4:P.Pairwise fun x y=>¬LtS (keysS m l v) y x):
 ∃(L:List Int) (x:Int) (b:Bool),Zp n (m,(l,(g,(v,(c,k)))))=some (L,(x,(b,(0:Int))))/\L.length<=40/\(b=true->L=P.take (imin k ((l.length:Nat):Int)).toNat):=by
 have hb:=begin_eq (n:=n) (m:=m) (l:=l) (g:=g) (v:=v) (c:=c) (by omega) hf hg hv;rw[ha] at hb;have hA:=asked_of hf hg ha;obtain⟨L,w1,w2,⟨L',rfl⟩,w4⟩:=walk_tot hA.1 hA.2;have d1:decide (k<1)=false:=dF (by omega);have d2:decide (k>64)=false:=dF (by omega);have hat:=w4 _ (lastD_mem L' c);obtain⟨hd,a,sl,f1,f2,f3,f4,f5,f6,f7⟩:=hood_at hA.1 hat;have hi:(lastD c L').toNat<g.Hoods.length:=by
  rcases Nat.lt_or_ge (lastD c L').toNat g.Hoods.length with k|k
  ·exact k
  ·rw[List.getElem?_eq_none k] at f1;cases f1
 have hget:g.Hoods[(lastD c L').toNat]=hd:=by rw[Ql hi] at f1;exact Qm f1
 obtain⟨o,o1,o2,o3,o4⟩:=order_ex (n:=n) (g:=g) (by omega) hA.1.m3 hA.1.ok (s:=a::sl) (by simp) f5 f4;have hol:o.length<=40:=by rw[o3.length_eq];exact f5
 have hok:∀x∈o,OkS (keysS m l v) x:=fun x hx=>f4 x (o3.mem_iff.1 hx);have hkb:=keysS_b hA.1.ok _ (ky_mem hat);have o3':o.Perm g.Hoods[(lastD c L').toNat].Slots:=by rw[hget,f3];exact o3
 have hPl:P.length=l.length:=by rw[P3.length_eq,allS_len]
 have full:o.length=l.length->o=P:=fun hol'=>by
  have hs:g.Hoods[(lastD c L').toNat].Slots.length=l.length:=by rw[<-o3'.length_eq];exact hol'
  have e:=full_eq he _ hi hs;rw[e] at o3';exact(o3'.trans P3.symm).eq_of_pairwise (le:=fun x y=>¬LtS (keysS m l v) y x) (fun a b _ _ h1 h2=>antiS h2 h1) o4 P4
 have hole:o.length<=l.length:=by rw[o3'.length_eq,he _ hi,arS_len];exact PZ List.countP_le_length (QN (keysS_len ..))
 have gstart:Zp n (m,(l,(g,(v,(c,k)))))=(bif decide (((o.length:Nat):Int)>=k) then (bif inB k o.length then (bif !(((o.length:Nat):Int)==((l.length:Nat):Int)) then (idxL (keysS m l v) (lastD c L')).bind fun (r16:Int)=>(idxL (List.take k.toNat o) (IntKind.wrap .i64 (k-1))).bind fun (r17:Int)=>(idxL (keysS m l v) r17).bind fun (r18:Int)=>(Xm n (m,(r16,(r18,hd.Radius)))).bind fun (r19:Bool)=>some (List.take k.toNat o,(lastD c L',(r19,(0:Int)))) else some (List.take k.toNat o,(lastD c L',(true,(0:Int))))) else none) else some (o,(lastD c L',((((o.length:Nat):Int)==((l.length:Nat):Int)),(0:Int))))):=by refine(Zp_eq ..).trans (bs hb ?_);rw[d1,d2];refine bs (Xj_eq ..) ?_;refine bs (bs (walkR_some hA.1 w1) (near_loop (c::L') c)) ?_;refine bs f2 ?_;refine bs (a:=o) (by rw[f3];exact o2) ?_;rfl
 by_cases hge:((o.length:Nat):Int)>=k
 ·have e2:inB k o.length=true:=dT ⟨by omega,by omega⟩
  have hkl:k.toNat-1<o.length:=by omega
  have hokk:=hok o[k.toNat-1] (P9 _);have hkk:=keysS_b hA.1.ok _ (ky_mem hokk);have ew:IntKind.wrap .i64 (k-1)=((k.toNat-1:Nat):Int):=by rw[wr (by omega) (by omega)];omega
  have i2:idxL (List.take k.toNat o) (IntKind.wrap .i64 (k-1))=some o[k.toNat-1]:=by rw[ew,ix (by rw[Qc];omega),List.getElem_take]
  have emin:imin k ((l.length:Nat):Int)=k:=by unfold imin;rw[if_neg (by omega)]
  by_cases hq:o.length=l.length
  ·refine⟨o.take k.toNat,lastD c L',true,gstart.trans ?_,by rw[Qc];omega,fun _=>by rw[emin,full hq]⟩
   rw[dT hge,cond_true,e2,cond_true,show (((o.length:Nat):Int)==((l.length:Nat):Int))=true from by rw[hq];simp];rfl
  ·obtain⟨r,hr⟩:=isrt_ex (c:=4*kyS (keysS m l v) (lastD c L')*kyS (keysS m l v) o[k.toNat-1]) (Int.mul_nonneg (by omega) hkk.1)
   have hcv:=covers_val (n:=n) (m:=m) (c:=hd.Radius) hn (a:=kyS (keysS m l v) (lastD c L')) (b:=kyS (keysS m l v) o[k.toNat-1]) ⟨hkb.1,by omega⟩ ⟨hkk.1,by omega⟩ hr;refine⟨o.take k.toNat,lastD c L',decide (hiS m (kyS (keysS m l v) (lastD c L')) (kyS (keysS m l v) o[k.toNat-1]) r<=hd.Radius),gstart.trans ?_,by rw[Qc];omega,fun hs=>?_⟩
   ·rw[dT hge,cond_true,e2,cond_true,show (((o.length:Nat):Int)==((l.length:Nat):Int))=false from by simp;omega]
    exact bs (idx_ky hat) (bs i2 (bs (idx_ky hokk) (bs hcv rfl)))
   ·rw[decide_eq_true_iff] at hs
    rw[emin];exact first_eq (n:=n) (by omega) hA.1 he hat hi o3' o4 P3 P4 (k:=k.toNat) (by omega) (by omega) hr (by rw[hget];exact hs)
 ·refine⟨o,lastD c L',(((o.length:Nat):Int)==((l.length:Nat):Int)),gstart.trans ?_,hol,fun hs=>?_⟩
  ·rw[dF hge,cond_false]
  ·have hq:o.length=l.length:=by have:((o.length:Nat):Int)=((l.length:Nat):Int):=by simpa using hs
                                 omega
   have emin:imin k ((l.length:Nat):Int)=((l.length:Nat):Int):=by unfold imin;rw[if_pos (by omega)]
   rw[emin,Int.toNat_natCast,<-hPl,List.take_length,full hq]
end Sh
end
section
open Go Go.Proofs Aq Pq
namespace Sh
set_option maxRecDepth 100000
theorem key_self (m:Int)(a:List Int):keyS m a a=0:=by
 unfold keyS normS;have:∀(a:List Int),(subL a a).foldl (stepN m) 0=0:=by
  intro a;induction a with
  |nil=>rfl|cons x a ih=>
   show (subL a a).foldl (stepN m) (stepN m 0 (x-x))=0;have:stepN m 0 (x-x)=0:=by rw[Int.sub_self];unfold stepN;cases decide (m=1)<;>cases decide (m=2)<;>rfl
   rw[this];exact ih
 exact this a
theorem slB_arS {k c:Int}:∀(K:List Int)(i:Nat)(p:Option Int),((i+K.length:Nat):Int)<=k->(∀q,p=some q->q<i)->slB k p (arS c i K)=true
 | [],_,_,_,_=>by unfold arS slB;rfl|x::K,i,p,hk,hp=>by
  rw[List.length_cons] at hk;unfold arS;cases decide (x<=c)
  ·exact slB_arS K (i+1) p (by omega) (fun q hq=>by have:=hp q hq;omega)
  ·rw[cond_true]
   unfold slB;rw[slB_arS K (i+1) (some (i:Int)) (by omega) (fun q hq=>by cases hq;omega)];have e1:(decide ((i:Int)<0)||decide ((i:Int)>=k))=false:=by rw[dF (by omega),dF (by omega)];rfl
   rw[e1];cases p with
   |none=>rfl|some q=>have:=hp q rfl;show (!false&& !decide ((i:Int)<=q))&& true=true;rw[dF (by omega)];rfl
theorem radF_b {ks:List Int}{w:Int}:∀(zs:List Int)(r:Int),(∀z∈zs,0<=z)->0<=r->r<=134217728->0<=radF ks w zs r/\radF ks w zs r<=134217728
 | [],r,_,h1,h2=>⟨h1,h2⟩|k::zs,r,h,h1,h2=>by
  unfold radF;have hk:=h k (P8 ..);by_cases c:(bif decide (k<r) then okR ks w k else false)=true
  ·rw[c,cond_true]
   rw[cF,iP,decide_eq_true_iff] at c;exact radF_b zs k (fun z hz=>h z (Qd _ hz)) hk (by omega)
  ·rw[Bool.not_eq_true] at c
   rw[c,cond_false];exact radF_b zs r (fun z hz=>h z (Qd _ hz)) h1 h2
theorem build_len (m:Int)(l:List (List Int))(want:Int):(buildS m l want).length=l.length:=by unfold buildS;rw[P7]
theorem build_get {m:Int}{l:List (List Int)}{want:Int}{i:Nat}(hi:i< (buildS m l want).length)(hi2:i<l.length):(buildS m l want)[i]=hoodS m l want l[i]:=QO _
theorem build_exact (m:Int)(l:List (List Int))(want:Int):Exact m l (buildS m l want):=by
 intro i hi;have hi2:i<l.length:=by rw[build_len] at hi;exact hi
 rw[build_get hi hi2,Qq,Ql hi2];rfl
theorem build_few {m:Int}{l:List (List Int)}{want:Int}(hf:FewL l):FewG (buildS m l want):=by refine⟨by rw[build_len];have:=hf.1;omega,fun h hh=>?_⟩;obtain⟨v,hv,rfl⟩:=Q0.1 hh;show (arS _ 0 _).length<=40;rw[arS_len];refine PZ List.countP_le_length ?_;rw[keysS_len];have:=hf.1;omega
theorem build_hoods {m:Int}{l:List (List Int)}{want:Int}(hm:M3 m)(hfit:fitB l=true)(hf:FewL l):∀(vs:List (List Int))(i:Nat),(∀j (hj:j<vs.length),∃hj2:i+j<l.length,vs[j]=l[i+j])->hoodsB ((l.length:Nat):Int) i (vs.map (hoodS m l want))=true
 | [],_,_=>rfl|v::vs,i,h=>by
  obtain⟨h1,h2⟩:=h 0 (by simp);have hiv:v=l[i]'(by omega):=by simpa using h2
  have hmem:v∈l:=by rw[hiv];exact P9 _
  have hok:=fit_iff hfit hf hmem;have kb:=fun x hx=>(keysS_b (m:=m) hok x hx).1;have hr:=radF_b (ks:=keysS m l v) (w:=wantS l want) (keysS m l v) 134217728 kb (by decide) (Qb _);show (hoodB _ i (hoodS m l want v)&& hoodsB _ (i+1) (vs.map (hoodS m l want)))=true;rw[build_hoods hm hfit hf vs (i+1) (fun j hj=>by
   obtain⟨a1,a2⟩:=h (j+1) (by simpa using hj);refine⟨by omega,?_⟩;have:i+(j+1)=i+1+j:=by omega
   simp only[this] at a2;simpa using a2),Bool.and_true]
  unfold hoodB;have e1:(decide ((hoodS m l want v).Radius<0)||decide ((hoodS m l want v).Radius>134217728))=false:=by show (decide (radS _ _<0)||decide (radS _ _>134217728))=false;have hr':0<=radS (keysS m l v) (wantS l want)/\radS (keysS m l v) (wantS l want)<=134217728:=hr;rw[dF (by omega),dF (by omega)];rfl
  have e2:((i:Nat):Int)∈(hoodS m l want v).Slots:=by
   show ((i:Nat):Int)∈arS _ 0 _;rw[mem_arS];have hlt:i< (keysS m l v).length:=by rw[keysS_len];omega
   refine⟨i,hlt,by simp,?_⟩;rw[keysS_get hlt (by omega),Qq,Ql (show i<l.length by omega)];show keyS m (l[i]'(by omega)) v<=_;rw[<-hiv,key_self];exact hr.1
  have e3:slB ((l.length:Nat):Int) none (hoodS m l want v).Slots=true:=slB_arS _ 0 none (by rw[keysS_len];omega) (fun q hq=>by cases hq);rw[e1,dT e2,e3];rfl
theorem build_valid {m:Int}{l:List (List Int)}{want:Int}(hm:M3 m)(hfit:fitB l=true)(hf:FewL l):validB ((l.length:Nat):Int) (buildS m l want)=true:=by
 have h25:=hf.1;have h1:1<=l.length:=by cases l with
  |nil=>unfold fitB at hfit;cases hfit|cons=>simp
 unfold validB;rw[dF (show¬((l.length:Nat):Int)<1 by omega),dF (show¬((l.length:Nat):Int)>4096 by omega),dT (show (((buildS m l want).length:Nat):Int)=((l.length:Nat):Int) by rw[build_len])];exact build_hoods hm hfit hf l 0 (fun j hj=>⟨by omega,by simp⟩)
theorem chk_exact {m:Int}{l:List (List Int)}:∀(hs:List Hood)(vs:List (List Int))(i:Nat),hs.length=vs.length->chkS m l i hs vs=none->∀(j:Nat)(hj:j<hs.length)(hj2:j<vs.length),hs[j].Slots=arS hs[j].Radius 0 (keysS m l vs[j])
 | [],_,_,_,_,j,hj,_=>by cases hj|h::hs,[],_,hl,_,_,_,_=>by cases hl|h::hs,v::vs,i,hl,hc,j,hj,hj2=>by
  unfold chkS at hc;by_cases e:h.Slots=arS h.Radius 0 (keysS m l v)
  ·rw[dT e,cond_true] at hc
   cases j with
   |zero=>exact e|succ j=>exact chk_exact hs vs (i+1) (by simpa using hl) hc j (by simpa using hj) (by simpa using hj2)
  ·rw[dF e] at hc;cases hc
end Sh
end
section
open Go Go.Proofs Aq Pq
namespace Sh
set_option maxRecDepth 100000
theorem all_loop {n:Nat}{m:Int}{l:List (List Int)}{v:List Int}{t x8:Int}{r19 r20:(List Int)×Int×Bool×Int}(hn:400<n)(hm:M3 m)(h:LOK l v):∀c (i mm:Nat) (o q:List Int),i+c=l.length->c<mm->o.length<=i->q.length<=i->ZP_L21 n m l v t x8 r19 r20 mm (o,(q,(i:Int)))=some (o++arS t i (keysS m (l.drop i) v),q++allS i c):=by
 have h25:=h.1;intro c;induction c with
 |zero=>intro i mm o q hi hmm ho hq;obtain⟨mm,rfl⟩:∃m',mm=m'+1:=⟨mm-1,by omega⟩;rw[ZP_L21_s,ite_nlt (by omega),Q5 (by omega)];show some (o,q)=some (o++[],q++[]);rw[Qv,Qv]
 |succ c ih=>
  intro i mm o q hi hmm ho hq;obtain⟨mm,rfl⟩:∃m',mm=m'+1:=⟨mm-1,by omega⟩;have hlt:i<l.length:=by omega
  have hx:=h.2.2 l[i] (P9 _);rw[ZP_L21_s,ite_lt (by omega),room (by simp only[List.length_singleton];omega) (by simp only[List.length_singleton];omega),cond_true,Qi hlt,wS (by omega)];refine bs (ix hlt) (bs (vkey_eq (by omega) hm hx.1 h.2.1 hx.2) ?_);rw[room (by simp only[List.length_singleton];omega) (by simp only[List.length_singleton];omega),cond_true];show _=some (o++arS t i (keyS m l[i] v::keysS m (l.drop (i+1)) v),q++((i:Int)::allS (i+1) c));unfold arS;cases decide (keyS m l[i] v<=t)
  ·refine(ih (i+1) mm o (q++[(i:Int)]) (by omega) (by omega) (by omega) (by rw[Qe];simp only[List.length_singleton];omega)).trans ?_
   rw[Qp];rfl
  ·refine(ih (i+1) mm (o++[(i:Int)]) (q++[(i:Int)]) (by omega) (by omega) (by rw[Qe];simp only[List.length_singleton];omega) (by rw[Qe];simp only[List.length_singleton];omega)).trans ?_
   rw[Qp,Qp];rfl
theorem tail20 {n:Nat}{m:Int}{l:List (List Int)}{g:Graph}{v:List Int}{c t k x8:Int}(hn:2^34<n)(hf:FewL l)(hg:FewG g.Hoods)(hv:v.length<=40)(ha:askB m l g.Hoods v c=true)(he:Exact m l g.Hoods)(ht:K27 t)(hk:1<=k/\k<=64):((Zi n (m,(l,(g,(v,(c,t)))))).bind fun (r19:(List Int)×Int×Bool×Int)=>(Zp n (m,(l,(g,(v,(c,k)))))).bind fun (r20:(List Int)×Int×Bool×Int)=>bif bif r19.2.2.2 !=(0:Int) then true else r20.2.2.2 !=(0:Int) then some false else (ZP_L21 n m l v t x8 r19 r20 n (([]:List Int),(([]:List Int),(0:Int)))).bind fun (r26:(List Int)×List Int)=>(whenO r19.2.2.1 (Zh n (r19.1,r26.1)) false).bind fun (r27:Bool)=>bif bif bif r19.2.2.1 then !r27 else false then true else bif !r19.2.2.1 then decide (((r19.1.length:Nat):Int)> (0:Int)) else false then some false else (Za n (m,(l,(v,r26.2)))).bind fun (r28:List Int)=>bif inB (imin k ((l.length:Nat):Int)) r28.length then (Xi n ()).bind fun (r29:Bool)=>(whenO (bif r29 then !(!r20.2.2.1) else false) (Zh n (r20.1,List.take (Int.toNat (imin k ((l.length:Nat):Int))) r28)) false).bind fun (r30:Bool)=>some (bif r29 then bif !r20.2.2.1 then true else r30 else false) else none)=some true:=by
 have hA:=asked_of hf hg ha;have h25:=hf.1;obtain⟨P,p1,p2,p3⟩:=rorder_ex (n:=n) (by omega) hA.1.m3 hA.1.ok (s:=allS 0 l.length) (by rw[allS_len];omega) (fun x hx=>by have:=allS_mem hx;exact⟨this.1,by rw[keysS_len];exact this.2⟩);obtain⟨L1,x1,b1,w1,w2,w3⟩:=within_all hn hf hg hv ha he ht;obtain⟨L2,x2,b2,n1,n2,n3⟩:=nearest_all hn hf hg hv ha he hk p2 p3;have hPl:P.length=l.length:=by rw[p2.length_eq,allS_len]
 have hL:=all_loop (n:=n) (t:=t) (x8:=x8) (r19:=(L1,(x1,(b1,(0:Int))))) (r20:=(L2,(x2,(b2,(0:Int))))) (by omega) hA.1.m3 hA.1.ok l.length 0 n [] [] (by omega) (by omega) (by simp) (by simp);refine bs w1 (bs n1 ?_);refine bF rfl ?_;refine bs hL ?_;have s1:(whenO b1 (Zh n (L1,arS t 0 (keysS m (l.drop 0) v))) false)=some b1:=by
  cases b1
  ·rfl
  ·have e:=w2 rfl
   rw[QA,<-e];refine(rsame_eq (by omega) ?_).trans (by rw[dT rfl]);rw[e,arS_len];refine PZ List.countP_le_length ?_;rw[keysS_len];omega
 refine bs s1 ?_;have c1:(bif bif b1 then !b1 else false then true else bif !b1 then decide (((L1.length:Nat):Int)> (0:Int)) else false)=false:=by
  cases b1
  ·rw[w3 rfl];rfl
  ·rfl
 refine bF c1 ?_;refine bs (a:=P) p1 ?_;have i1:1<=imin k ((l.length:Nat):Int)/\imin k ((l.length:Nat):Int)<=P.length:=by
  have:=hA.1.ok;have hl1:1<=l.length:=by have h1:=hA.2.1;have h2:=hA.2.2;rw[keysS_len] at h2;omega
  unfold imin;split<;>omega
 refine bT (dT ⟨by omega,by omega⟩) ?_;refine bs (san_eq n) ?_;have s2:(whenO (bif true then !(!b2) else false) (Zh n (L2,List.take (Int.toNat (imin k ((l.length:Nat):Int))) P)) false)=some b2:=by
  cases b2
  ·rfl
  ·have e:=n3 rfl
   have h2:Zh n (L2,L2)=some true:=(rsame_eq (by omega) n2).trans (by rw[dT rfl]);show Zh n (L2,List.take (Int.toNat (imin k ((l.length:Nat):Int))) P)=some true;exact(congrArg (fun z:List Int=>Zh n (L2,z)) e.symm).trans h2
 refine bs s2 ?_;cases b2<;>rfl
theorem rvalid_big {n:Nat}{a:List Int}(hn:a.length<n)(hl:a.length<2^59):Zl n a=some (vokB a):=by
 rw[Zl_eq];have key:∀k (i m:Nat),i+k=a.length->k<m->Zl_L2 n a m (i:Int)=some (bif (a.drop i).all inR then .inl () else .inr false):=by
  intro k;induction k with
  |zero=>
   intro i m hi hm;obtain⟨m,rfl⟩:∃m',m=m'+1:=⟨m-1,by omega⟩;have:i=a.length:=by omega
   rw[Zl_L2_s,ite_nlt (by omega),this,List.drop_length];rfl
  |succ k ih=>
   intro i m hi hm;obtain⟨m,rfl⟩:∃m',m=m'+1:=⟨m-1,by omega⟩;have hlt:i<a.length:=by omega
   rw[Zl_L2_s,ite_lt (by omega)];refine bs (ix hlt) ?_;rw[Qi hlt,List.all_cons];by_cases h1:a[i]< -1000
   ·rw[dT h1]
    refine bs rfl ?_;have:inR a[i]=false:=(by unfold inR;rw[dF (by omega)];rfl);rw[this];rfl
   ·rw[dF h1]
    refine bs (ix hlt) ?_;by_cases h2:a[i]>1000
    ·have:inR a[i]=false:=by unfold inR;rw[Bool.and_eq_false_iff];right;rw[dF (by omega)]
     rw[this,dT h2];rfl
    ·have:inR a[i]=true:=by unfold inR;rw[dT (by omega),dT (by omega)];rfl
     rw[this,dF h2,Bool.true_and];show Zl_L2 n a m _=_;rw[wS (by omega)];exact ih (i+1) m (by omega) (by omega)
 refine bs (key a.length 0 n (by omega) (by omega)) ?_;rw[QA,vokB_def];cases a.all inR
 ·rfl
 ·show some (bif decide (((a.length:Nat):Int)>=1) then decide (((a.length:Nat):Int)<=32) else false)=_
  rw[cF,Bool.true_and,show decide (((a.length:Nat):Int)>=1)=decide (1<=a.length) from decide_eq_decide.2 (by omega),show decide (((a.length:Nat):Int)<=32)=decide (a.length<=32) from decide_eq_decide.2 (by omega)]
theorem ralike_big {n:Nat}{a b:List Int}(hn:100<n)(ha:a.length<=40)(hb:b.length<n)(hb2:b.length<2^59):XB n (a,b)=some (alikeB a b):=by rw[XB_eq,rvalid_eq hn ha,rvalid_big hb hb2,len_beq];unfold alikeB;cases decide (a.length=b.length)<;>cases vokB a<;>cases vokB b<;>rfl
theorem law20 {n:Nat}(hn:2^34<n)(m:Int)(l:List (List Int))(want:Int)(g:Graph)(v:List Int)(from_ t k:Int)(hw:0<=want/\want<=255)(hfr:0<=from_/\from_<=255)(hk:0<=k/\k<=255)(hvn:v.length<n)(hv2:v.length<2^59):ZP n (m,(l,(want,(g,(v,(from_,(t,k)))))))=some true:=by
 refine(ZP_eq ..).trans ?_;obtain⟨b1,e1,f1⟩:=few_eq (n:=n) (l:=l) (by omega);obtain⟨b2,e2,f2⟩:=fewg_eq (n:=n) (g:=g) (by omega);refine bs e1 ?_;rw[rmetric_eq,e2];cases b1
 ·refine bs (a:=false) rfl (bs (a:=false) rfl (bs (a:=[]) rfl (bs (a:=false) rfl (bs (a:=false) rfl ?_))))
  exact bs (san_eq n) rfl
 have hf:=f1 rfl;rw[fit_eq (by omega) hf];refine bs (a:=mtB m) rfl ?_;cases hm:mtB m
 ·refine bs (a:=false) rfl (bs (a:=[]) rfl (bs (a:=false) rfl (bs (a:=false) rfl ?_)))
  exact bs (san_eq n) rfl
 refine bs (a:=fitB l) rfl ?_;cases hfit:fitB l
 ·refine bs (a:=[]) rfl (bs (a:=false) rfl (bs (a:=false) rfl ?_))
  exact bs (san_eq n) rfl
 obtain⟨a,l',hl⟩:∃a l',l=a::l':=by
  cases l with
  |nil=>unfold fitB at hfit;cases hfit|cons a l'=>exact⟨a,l',rfl⟩
 have h0:idxL l (0:Int)=some a:=by rw[hl];exact ix0 a l'
 have hmem:a∈l:=by rw[hl];exact P8 ..
 have hal:=ralike_big (n:=n) (a:=a) (b:=v) (by omega) (hf.2 a hmem) hvn hv2;refine bs h0 ?_;rw[hal];refine bs (a:=alikeB a v) rfl ?_;cases hav:alikeB a v
 ·refine bs (a:=false) rfl ?_
  exact bs (san_eq n) rfl
 by_cases ht:K27 t
 ·have ht1:=ht.1
  have ht2:=ht.2;rw[dF (show¬t<0 by omega),dF (show¬t>134217728 by omega)];refine bs (a:=b2) rfl ?_;cases b2
  ·exact bs (san_eq n) rfl
  have hg:=f2 rfl;have h25:=hf.1;have h1l:1<=l.length:=by rw[hl];simp
  have hvok:VOK v:=by unfold alikeB at hav;rw[iP,iP,vokB_iff,vokB_iff] at hav;exact hav.2.2
  have hv40:v.length<=40:=by have:=hvok.2.2;omega
  have hm3:M3 m:=mtB_iff.1 hm;have ew:IntKind.wrap .i64 (1+IntKind.wrap .i64 want)=1+want:=by rw[wr (i:=want) (by omega) (by omega),wr (by omega) (by omega)]
  have hr:rightB m l (1+want)=true:=by unfold rightB;rw[hm,hfit,dF (show¬1+want<1 by omega),dF (show¬1+want>4096 by omega)];rfl
  have hbld:ZB n (m,(l,IntKind.wrap .i64 (1+IntKind.wrap .i64 want)))=some ((⟨buildS m l (1+want)⟩:Graph),(0:Int)):=by rw[ew];refine(build_eq (by omega) hf).trans ?_;rw[hr];rfl
  have ec:IntKind.wrap .i64 from_=from_:=wr (by omega) (by omega);have ek:IntKind.wrap .i64 (1+Int.tmod (IntKind.wrap .i64 k) 64)=1+k% 64:=by rw[wr (i:=k) (by omega) (by omega),Int.tmod_eq_emod_of_nonneg hk.1,wr (by omega) (by omega)]
  have ed:Int.tmod from_ ((l.length:Nat):Int)=from_% ((l.length:Nat):Int):=Int.tmod_eq_emod_of_nonneg hfr.1;have hc0:0<=from_% ((l.length:Nat):Int):=Int.emod_nonneg _ (by omega);have hc1:from_% ((l.length:Nat):Int)< ((l.length:Nat):Int):=Int.emod_lt_of_pos _ (by omega);have hask:∀hs:List Hood,validB ((l.length:Nat):Int) hs=true->askB m l hs v (from_% ((l.length:Nat):Int))=true:=by intro hs hv';unfold askB;rw[hm,hfit,hv',dT hc0,dT hc1,show l.headD []=a by rw[hl];rfl,hav];rfl
  have hk64:1<=1+k% 64/\1+k% 64<=64:=by omega
  have tail:∀g':Graph,FewG g'.Hoods->validB ((l.length:Nat):Int) g'.Hoods=true->Exact m l g'.Hoods->_:=fun g' hg' hv' he'=>tail20 (n:=n) (g:=g') (v:=v) (c:=from_% ((l.length:Nat):Int)) (t:=t) (k:=1+k% 64) (x8:=k) hn hf hg' hv40 (hask _ hv') he' ht hk64;have tB:=tail ⟨buildS m l (1+want)⟩ (build_few hf) (build_valid hm3 hfit hf) (build_exact m l (1+want));refine bF rfl ?_;refine bs hbld ?_;refine bF rfl ?_;refine bs (rgvalid_eq (by omega) hg) ?_;rw[ec,ek,ed,show (((l.length:Nat):Int)==(0:Int))=false from beq_eq_false_iff_ne.2 (by omega)];cases hvv:validB ((l.length:Nat):Int) g.Hoods
  ·exact tB
  ·refine bs (check_eq (by omega) hf hg) ?_
   have hchk:checkS m l g.Hoods=(match chkS m l 0 g.Hoods l with
    |none=>((-1:Int),(0:Int))|some i=>((i:Int),(0:Int))):=by unfold checkS;rw[hm,hfit,hvv];rfl
   rw[hchk];cases hcs:chkS m l 0 g.Hoods l with
   |none=>have hlen:g.Hoods.length=l.length:=(by have:=valid_len hvv;omega);refine tail g hg hvv fun i hi=>?_;have hi2:i<l.length:=(by omega);rw[chk_exact g.Hoods l 0 hlen hcs i hi hi2,Qq,Ql hi2];rfl
   |some i=>refine bF rfl ?_;refine bF (show (((i:Nat):Int)==(-1:Int))=false by simp) ?_;exact tB
 ·have hd:(bif decide (t<0) then true else decide (t>134217728))=true:=by
   unfold K27 at ht;by_cases h0:t<0
   ·rw[dT h0];rfl
   ·rw[dF h0,dT (show t>134217728 by omega)];rfl
  rw[cT] at hd;cases h1:decide (t<0)
  ·rw[h1,Bool.false_or] at hd
   rw[hd];exact bs (a:=false) rfl (bs (san_eq n) rfl)
  ·exact bs (a:=false) rfl (bs (san_eq n) rfl)
end Sh
end
