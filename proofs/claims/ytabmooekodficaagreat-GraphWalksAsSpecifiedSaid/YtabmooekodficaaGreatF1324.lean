import Derived.Test.YtabmooekodficaaGreatF1323
set_option linter.all false
section
open Go Go.Proofs Aq Pq
namespace Sh
set_option maxRecDepth 100000
def dZ:Int->List Int->Int
 |d,[]=>d
 |_,x::l=>dZ x l
theorem G8:∀(L:List Int) (c:Int),(c::L).length<=100->idxL (c::L) (IntKind.wrap .i64 ((((c::L).length:Nat):Int)-1))=some (dZ c L):=by
 intro L c hl
 rw[wr (by omega) (by omega),show (((c::L).length:Nat):Int)-1=((L.length:Nat):Int) by rw[List.length_cons];omega,ix (by rw[List.length_cons];omega)]
 congr 1
 induction L generalizing c with
 |nil=>rfl
 |cons x L ih=>
  have:=ih x (by simp at hl⊢;omega)
  rw[show dZ c (x::L)=dZ x L from rfl]
  simpa using this
theorem G9:∀(L:List Int) (c:Int),dZ c L∈c::L
 | [],c=>Sz.2 rfl
 |x::L,c=>R5 _ (G9 L x)
theorem Ri {n:Nat} {m:Int} {l:List (List Int)} {g:Graph} {v:List Int} {t x:Int} {x9:ref27_Slots} (hn:400<n) (h:lJ m l g.Hoods v) {hd:Hood} (hx:idxL g.Hoods x=some hd) (hl:hd.Slots.length<=40) (hal:Al (bN (keysS m l v)) hd.Slots):
 ∀c (i mm:Nat) (o:List Int),i+c=hd.Slots.length->c<mm->o.length<=i->Za_L11 n m l g v t x9 x mm ((i:Int),(o,(x,(true,(0:Int)))))=some ((),(o++(hd.Slots.drop i).filter (dY (keysS m l v) t),(x,(true,(0:Int))))):=by
 intro c
 induction c with
 |zero=>
  intro i mm o hi hm ho
  obtain⟨mm,rfl⟩:∃m',mm=m'+1:=⟨mm-1,by omega⟩
  refine(Za_L11_s ..).trans (bs hx ?_)
  rw[ite_nlt (by omega),TH (by omega)]
  simp
 |succ c ih=>
  intro i mm o hi hm ho
  obtain⟨mm,rfl⟩:∃m',mm=m'+1:=⟨mm-1,by omega⟩
  have hlt:i<hd.Slots.length:=by omega
  have hok:=hal hd.Slots[i] (R7 _)
  obtain⟨y1,y2,y3⟩:=oP (n:=n) (by omega) h.m3 h.ok hok
  refine(Za_L11_s ..).trans (bs hx ?_)
  rw[ite_lt (by omega),wS (by omega),Sq hlt]
  refine bs hx (bs (ix hlt) (bs y2 (bs y3 ?_)))
  rw[room (by simp only[List.length_singleton];omega) (by simp only[List.length_singleton];omega),cond_true]
  cases hb:dY (keysS m l v) t hd.Slots[i]
  ·rw[show decide (aM (keysS m l v) hd.Slots[i]<=t)=false from hb,List.filter_cons_of_neg (by rw[hb];decide)]
   exact ih (i+1) mm o (by omega) (by omega) (by omega)
  ·rw[show decide (aM (keysS m l v) hd.Slots[i]<=t)=true from hb,List.filter_cons_of_pos hb]
   refine(ih (i+1) mm (o++[hd.Slots[i]]) (by omega) (by omega) (by rw[R8];simp only[List.length_singleton];omega)).trans ?_
   rw[Sv];rfl
def mM (hs:List Hood) (x:Int):List Int:=((hs[x.toNat]?).getD ⟨0,[]⟩).Slots
theorem Rj {n:Nat} {m:Int} {l:List (List Int)} {g:Graph} {v:List Int} {t:Int} (hn:2^34<n) (h:lJ m l g.Hoods v) (ht:K27 t) (W:ref27_Slots):∀(L:List Int),(∀x∈L,bN (keysS m l v) x)->∃res:Option Int,
 (match res with
   |none=>∀last,Zg_R7 n m g L ((),(t,(((0:Int),(0:Int)),((0:Int),(false,((0:Int),((⟨⟨m,l⟩,g,keysS m l v⟩:graph_search),(last,[]))))))))=some (.inl ((),(t,(((0:Int),(0:Int)),((0:Int),(false,((0:Int),((⟨⟨m,l⟩,g,keysS m l v⟩:graph_search),(dZ last L,[])))))))))
   |some x=>∀last,∃(w:Int) (D:List Int),Zg_R7 n m g L ((),(t,(((0:Int),(0:Int)),((0:Int),(false,((0:Int),((⟨⟨m,l⟩,g,keysS m l v⟩:graph_search),(last,[]))))))))=some (.inr ((),(t,(((0:Int),w),(x,(true,((0:Int),((⟨⟨m,l⟩,g,keysS m l v⟩:graph_search),(x,D)))))))))/\subI D 0 w=(mM g.Hoods x).filter (dY (keysS m l v) t))/\
 (∀(pre:List Int) (mm:Nat) (x9:ref27_Slots),W.L=pre++L->W.L.length<=100->L.length<mm->Za_L5 n m l g v t W mm (((pre.length:Nat):Int),x9)=(match res with
   |none=>some (.inl ((),x9))
   |some x=>some (.inr ((),(⟨(mM g.Hoods x).filter (dY (keysS m l v) t),x,true,0⟩:ref27_Slots))))):=by
 intro L
 induction L with
 |nil=>
  intro _
  refine⟨none,fun last=>Zg_R7_0 ..,fun pre mm x9 hW oQ hmm=>?_⟩
  obtain⟨mm,rfl⟩:∃m',mm=m'+1:=⟨mm-1,by omega⟩
  rw[Za_L5_s,ite_nlt (by rw[hW,SI];omega)]
 |cons x L ih=>
  intro hok
  obtain⟨res,i1,i2⟩:=ih (fun y hy=>hok y (R5 _ hy))
  have hx:=hok x (RZ ..)
  obtain⟨hd,a,sl,f1,f2,f3,f4,f5,f6,f7⟩:=Ac h hx
  obtain⟨y1,y2,y3⟩:=oP (n:=n) (by omega) h.m3 h.ok hx
  have hkb:=keysS_b h.ok _ (vC hx)
  obtain⟨b,b1,b2⟩:=covers_ex (n:=n) (m:=m) (a:=aM (keysS m l v) x) (b:=t) hd.Radius hn ⟨hkb.1,by omega⟩ ht
  have hslt:mM g.Hoods x=a::sl:=by unfold mM;rw[f1];exact f3
  have refs:∀(pre:List Int) (mm:Nat) (x9:ref27_Slots),W.L=pre++x::L->W.L.length<=100->Za_L5 n m l g v t W (mm+1) (((pre.length:Nat):Int),x9)=bif !b then Za_L5 n m l g v t W mm ((((pre++[x]).length:Nat):Int),x9) else some (.inr ((),(⟨(mM g.Hoods x).filter (dY (keysS m l v) t),x,true,0⟩:ref27_Slots))):=by
   intro pre mm x9 hW oQ
   have hwl:W.L.length=pre.length+(L.length+1):=by rw[hW,R8,List.length_cons]
   have hget:idxL W.L ((pre.length:Nat):Int)=some x:=by
    rw[ix (by omega)]
    simp[hW]
   refine(Za_L5_s ..).trans ?_
   rw[ite_lt (by omega)]
   refine bs hget (bs y2 (bs y3 (bs f2 (bs b2 ?_))))
   cases b
   ·rw[wS (by omega),R8];rfl
   ·have:=Ri (n:=n) (t:=t) (x9:=x9) (by omega) h f2 (by rw[f3];exact f5) (by rw[f3];exact f4) hd.Slots.length 0 n [] (by omega) (by rw[f3];omega) (by simp)
    refine bs this ?_
    rw[hslt,S9,f3];rfl
  cases b
  ·refine⟨res,?_,fun pre mm x9 hW oQ hmm=>?_⟩
   ·have He:∀last,Zg_R7 n m g (x::L) ((),(t,(((0:Int),(0:Int)),((0:Int),(false,((0:Int),((⟨⟨m,l⟩,g,keysS m l v⟩:graph_search),(last,[]))))))))=Zg_R7 n m g L ((),(t,(((0:Int),(0:Int)),((0:Int),(false,((0:Int),((⟨⟨m,l⟩,g,keysS m l v⟩:graph_search),(x,[])))))))):=by
     intro last
     refine(Zg_R7_s ..).trans ?_
     exact bs f2 (bs (lI hx) (bs b1 rfl))
    cases res with
    |none=>intro last;exact(He last).trans (i1 x)
    |some z=>
     intro last
     obtain⟨w,D,k1,k2⟩:=i1 x
     exact⟨w,D,(He last).trans k1,k2⟩
   ·obtain⟨mm,rfl⟩:∃m',mm=m'+1:=⟨mm-1,by omega⟩
    rw[refs pre mm x9 hW oQ]
    exact i2 (pre++[x]) mm x9 (by rw[hW,Sv];rfl) oQ (by rw[List.length_cons] at hmm;omega)
  ·refine⟨some x,fun last=>?_,fun pre mm x9 hW oQ hmm=>?_⟩
   ·have Rk:ZO n hd.Slots ()=some (a::sl,()):=by
     rw[f3]
     refine(ZO_eq ..).trans ?_
     exact bT rfl (bT (room (by omega) (by omega)) rfl)
    obtain⟨w,D,k1,k2⟩:=del_eq (n:=n) (by omega) (s:=⟨⟨m,l⟩,g,keysS m l v⟩) (t:=t) (sl:=a::sl) f5 f4
    refine⟨w,D,?_,by rw[k2,hslt]⟩
    refine(Zg_R7_s ..).trans ?_
    exact bs f2 (bs (lI hx) (bs b1 (bs Rk (bs k1 rfl))))
   ·obtain⟨mm,rfl⟩:∃m',mm=m'+1:=⟨mm-1,by omega⟩
    rw[refs pre mm x9 hW oQ];rfl
theorem Rm {n:Nat} {m:Int} {l:List (List Int)} {g:Graph} {v:List Int} {c:Int} (t:Int) (hn:2^34<n) (hf:FewL l) (hg:FewG g.Hoods) (hv:v.length<=40):
 ∃(L:List Int) (x:Int) (b:Bool) (e:Int),Zg n (m,(l,(g,(v,(c,t)))))=some (L,(x,(b,e)))/\Za n (m,(l,(g,(v,(c,t)))))=some ⟨L,x,b,e⟩/\L.length<=40:=by
 have hb:=z8 (n:=n) (m:=m) (l:=l) (g:=g) (v:=v) (c:=c) (by omega) hf hg hv
 have hw:=Ad (n:=n) (m:=m) (l:=l) (g:=g) (v:=v) (c:=c) (by omega) hf hg hv
 cases ha:dU m l g.Hoods v c
 ·rw[ha] at hb
  exact⟨[],0,false,1,(Zg_eq ..).trans (bs hb rfl),(Za_eq ..).trans (bs (hw.1 ha) rfl),by decide⟩
 ·rw[ha] at hb
  have hA:=oO hf hg ha
  obtain⟨L,w1,w2,⟨L',rfl⟩,w4⟩:=Aa hA.1 hA.2
  have hw2:=hw.2 ha _ w1 w2
  by_cases ht:K27 t
  ·have ht1:=ht.1
   have ht2:=ht.2
   have d1:decide (t<0)=false:=dF (by omega)
   have d2:decide (t>134217728)=false:=dF (by omega)
   obtain⟨res,r1,r2⟩:=Rj (n:=n) hn hA.1 ht (⟨c::L',0,false,0⟩:ref27_Slots) (c::L') w4
   have r3:=r2 [] n ⟨[],0,false,0⟩ rfl (by simp at w2⊢;omega) (by omega)
   have eg:∀z,Zg_R7 n m g (c::L') ((),(t,(((0:Int),(0:Int)),((0:Int),(false,((0:Int),((⟨⟨m,l⟩,g,keysS m l v⟩:graph_search),(c,[]))))))))=some z->Zg n (m,(l,(g,(v,(c,t)))))=Sum.elim (fun (q35:PUnit×Int×(Int×Int)×Int×Bool×Int×graph_search×Int×List Int)=>some (([]:List Int),(q35.2.2.2.2.2.2.2.1,(false,(0:Int))))) (fun (q36:PUnit×Int×(Int×Int)×Int×Bool×Int×graph_search×Int×List Int)=>some (subI q36.2.2.2.2.2.2.2.2 q36.2.2.1.1 q36.2.2.1.2,(q36.2.2.2.1,(q36.2.2.2.2.1,q36.2.2.2.2.2.1)))) z:=by
    intro z hz
    refine(Zg_eq ..).trans (bs hb ?_)
    rw[d1,d2]
    refine bs (ZQ_eq ..) ?_
    exact bs (bs (Ab hA.1 w1) hz) rfl
   have er:∀z,Za_L5 n m l g v t ⟨c::L',0,false,0⟩ n ((0:Int),⟨[],0,false,0⟩)=some z->Za n (m,(l,(g,(v,(c,t)))))=Sum.elim (fun (q27:PUnit×ref27_Slots)=>some (⟨[],dZ c L',false,(0:Int)⟩:ref27_Slots)) (fun (q28:PUnit×ref27_Slots)=>some q28.2) z:=by
    intro z hz
    refine(Za_eq ..).trans (bs hw2 ?_)
    rw[d1,d2]
    refine bs hz ?_
    have hlast:=G8 L' c (by omega)
    cases z with
    |inl q=>exact bs hlast rfl
    |inr q=>rfl
   cases res with
   |none=>
    exact⟨[],dZ c L',false,0,(eg _ (r1 c)).trans rfl,(er _ r3).trans rfl,by decide⟩
   |some x=>
    obtain⟨w,D,k1,k2⟩:=r1 c
    refine⟨(mM g.Hoods x).filter (dY (keysS m l v) t),x,true,0,(eg _ k1).trans ?_,(er _ r3).trans rfl,?_⟩
    ·show some (subI D 0 w,(x,(true,(0:Int))))=_
     rw[k2]
    ·refine RV (List.length_filter_le ..) ?_
     unfold mM
     cases hgx:g.Hoods[x.toNat]? with
     |none=>exact SS _
     |some hd=>exact hg.2 hd (Tw hgx)
  ·have hd:(bif bif bif !true then true else decide (t<0) then true else decide (t>134217728) then (true:Bool) else false)=true:=by
    unfold K27 at ht
    by_cases h0:t<0
    ·rw[dT h0];rfl
    ·rw[dF h0,dT (show t>134217728 by omega)];rfl
   have hd':(bif bif !true then true else decide (t<0) then true else decide (t>134217728))=true:=by
    cases hq:(bif bif !true then true else decide (t<0) then true else decide (t>134217728))
    ·rw[hq] at hd;cases hd
    ·rfl
   have hd2:(bif bif (0:Int) !=0 then true else decide (t<0) then true else decide (t>134217728))=true:=hd'
   refine⟨[],0,false,1,(Zg_eq ..).trans (bs hb ?_),(Za_eq ..).trans (bs hw2 ?_),by decide⟩
   ·exact bT hd' rfl
   ·exact bT hd2 rfl
end Sh
end
section
open Go Go.Proofs Aq Pq
namespace Sh
set_option maxRecDepth 100000
theorem Hf {n:Nat} {m:Int} {l:List (List Int)} {g:Graph} {k:Int} {r7:graph_search×Bool}:∀(L:List Int) (last:Int),Zk_R7 n m l g k r7 L ((),last)=some ((),dZ last L)
 | [],last=>Zk_R7_0 ..
 |x::L,last=>(Zk_R7_s ..).trans (Hf L x)
theorem Rn {n:Nat} {m:Int} {l:List (List Int)} {g:Graph} {v:List Int} {c:Int} (k:Int) (hn:2^34<n) (hf:FewL l) (hg:FewG g.Hoods) (hv:v.length<=40):
 ∃(L:List Int) (x:Int) (b:Bool) (e:Int),Zk n (m,(l,(g,(v,(c,k)))))=some (L,(x,(b,e)))/\ZX n (m,(l,(g,(v,(c,k)))))=some ⟨L,x,b,e⟩/\L.length<=40:=by
 have hb:=z8 (n:=n) (m:=m) (l:=l) (g:=g) (v:=v) (c:=c) (by omega) hf hg hv
 have hw:=Ad (n:=n) (m:=m) (l:=l) (g:=g) (v:=v) (c:=c) (by omega) hf hg hv
 cases ha:dU m l g.Hoods v c
 ·rw[ha] at hb
  exact⟨[],0,false,1,(Zk_eq ..).trans (bs hb rfl),(ZX_eq ..).trans (bs (hw.1 ha) rfl),by decide⟩
 ·rw[ha] at hb
  have hA:=oO hf hg ha
  obtain⟨L,w1,w2,⟨L',rfl⟩,w4⟩:=Aa hA.1 hA.2
  have hw2:=hw.2 ha _ w1 w2
  by_cases hk:1<=k/\k<=64
  ·have d1:decide (k<1)=false:=dF (by omega)
   have d2:decide (k>64)=false:=dF (by omega)
   have hat:=w4 _ (G9 L' c)
   have hlast:=G8 L' c (by omega)
   obtain⟨hd,a,sl,f1,f2,f3,f4,f5,f6,f7⟩:=Ac hA.1 hat
   obtain⟨o,o1,o2,o3,o4⟩:=GV (n:=n) (g:=g) (by omega) hA.1.m3 hA.1.ok (s:=a::sl) (by simp) f5 f4
   have hol:o.length<=40:=by rw[o3.length_eq];exact f5
   have hok:∀x∈o,bN (keysS m l v) x:=fun x hx=>f4 x (o3.mem_iff.1 hx)
   obtain⟨y1,y2,y3⟩:=oP (n:=n) (by omega) hA.1.m3 hA.1.ok hat
   have hkb:=keysS_b hA.1.ok _ (vC hat)
   have Hg:Zk n (m,(l,(g,(v,(c,k)))))=(bif decide (((o.length:Nat):Int)>=k) then (bif inB k o.length then (bif !(((o.length:Nat):Int)==((l.length:Nat):Int)) then (idxL (keysS m l v) (dZ c L')).bind fun (r16:Int)=>(idxL (List.take k.toNat o) (IntKind.wrap .i64 (k-1))).bind fun (r17:Int)=>(idxL (keysS m l v) r17).bind fun (r18:Int)=>(ZR n (m,(r16,(r18,hd.Radius)))).bind fun (r19:Bool)=>some (List.take k.toNat o,(dZ c L',(r19,(0:Int)))) else some (List.take k.toNat o,(dZ c L',(true,(0:Int))))) else none) else some (o,(dZ c L',((((o.length:Nat):Int)==((l.length:Nat):Int)),(0:Int))))):=by
    refine(Zk_eq ..).trans (bs hb ?_)
    rw[d1,d2]
    refine bs (ZQ_eq ..) ?_
    refine bs (bs (Ab hA.1 w1) (Hf (c::L') c)) ?_
    refine bs f2 ?_
    refine bs (a:=o) (by rw[f3];exact o2) ?_
    rfl
   have rstart:ZX n (m,(l,(g,(v,(c,k)))))=(bif inB (imin k ((o.length:Nat):Int)) o.length then (bif decide (((o.length:Nat):Int)>=k) then (idxL l (dZ c L')).bind fun (r11:List Int)=>(ZG n (m,(r11,v))).bind fun (r12:Int)=>(idxL o (IntKind.wrap .i64 (k-1))).bind fun (r13:Int)=>(idxL l r13).bind fun (r14:List Int)=>(ZG n (m,(r14,v))).bind fun (r15:Int)=>(ZV n (m,(r12,(r15,hd.Radius)))).bind fun (r16:Bool)=>bif r16 then some (⟨List.take (imin k ((o.length:Nat):Int)).toNat o,dZ c L',true,(0:Int)⟩:ref27_Slots) else some (⟨List.take (imin k ((o.length:Nat):Int)).toNat o,dZ c L',(((o.length:Nat):Int)==((l.length:Nat):Int)),(0:Int)⟩:ref27_Slots) else some (⟨List.take (imin k ((o.length:Nat):Int)).toNat o,dZ c L',(((o.length:Nat):Int)==((l.length:Nat):Int)),(0:Int)⟩:ref27_Slots)) else none):=by
    refine(ZX_eq ..).trans (bs hw2 ?_)
    rw[d1,d2]
    refine bs hlast (bs f2 ?_)
    refine bs (a:=o) (by rw[f3];exact o1) ?_
    rfl
   by_cases hge:((o.length:Nat):Int)>=k
   ·have e1:imin k ((o.length:Nat):Int)=k:=by unfold imin;rw[if_neg (by omega)]
    have e2:inB k o.length=true:=dT ⟨by omega,by omega⟩
    have hkl:k.toNat-1<o.length:=by omega
    have Af:=hok o[k.toNat-1] (R7 _)
    have hkk:=keysS_b hA.1.ok _ (vC Af)
    obtain⟨z1,z2,z3⟩:=oP (n:=n) (by omega) hA.1.m3 hA.1.ok Af
    obtain⟨b,b1,b2⟩:=covers_ex (n:=n) (m:=m) (a:=aM (keysS m l v) (dZ c L')) (b:=aM (keysS m l v) o[k.toNat-1]) hd.Radius hn ⟨hkb.1,by omega⟩ ⟨hkk.1,by omega⟩
    have ew:IntKind.wrap .i64 (k-1)=((k.toNat-1:Nat):Int):=by rw[wr (by omega) (by omega)];omega
    have i1:idxL o (IntKind.wrap .i64 (k-1))=some o[k.toNat-1]:=by rw[ew];exact ix hkl
    have i2:idxL (List.take k.toNat o) (IntKind.wrap .i64 (k-1))=some o[k.toNat-1]:=by
     rw[ew,ix (by rw[Sc];omega),List.getElem_take]
    refine⟨o.take k.toNat,dZ c L',b||(((o.length:Nat):Int)==((l.length:Nat):Int)),0,Hg.trans ?_,rstart.trans ?_,by rw[Sc];omega⟩
    ·rw[dT hge,cond_true,e2,cond_true]
     cases hq:(((o.length:Nat):Int)==((l.length:Nat):Int))
     ·refine bs (lI hat) (bs i2 (bs (lI Af) (bs b1 ?_)))
      rw[Bool.or_false]
     ·rw[Bool.or_true];rfl
    ·rw[e1,e2,cond_true,dT hge,cond_true]
     refine bs y2 (bs y3 (bs i1 (bs z2 (bs z3 (bs b2 ?_)))))
     cases b
     ·rw[Bool.false_or];rfl
     ·rw[Bool.true_or];rfl
   ·have e1:imin k ((o.length:Nat):Int)=((o.length:Nat):Int):=by unfold imin;rw[if_pos (by omega)]
    have e2:inB ((o.length:Nat):Int) o.length=true:=dT ⟨by omega,by omega⟩
    refine⟨o,dZ c L',(((o.length:Nat):Int)==((l.length:Nat):Int)),0,Hg.trans ?_,rstart.trans ?_,hol⟩
    ·rw[dF hge,cond_false]
    ·rw[e1,e2,cond_true,dF hge,cond_false,Int.toNat_natCast,List.take_length]
     rfl
  ·have hd':(bif bif !true then true else decide (k<1) then true else decide (k>64))=true:=by
    by_cases h0:k<1
    ·rw[dT h0];rfl
    ·rw[dF h0,dT (show k>64 by omega)];rfl
   have hd2:(bif bif (0:Int) !=0 then true else decide (k<1) then true else decide (k>64))=true:=hd'
   refine⟨[],0,false,1,(Zk_eq ..).trans (bs hb ?_),(ZX_eq ..).trans (bs hw2 ?_),by decide⟩
   ·exact bT hd' rfl
   ·exact bT hd2 rfl
theorem Ro {n:Nat} {m:Int} {l:List (List Int)} {g:Graph} {v:List Int} {c:Int} (hn:2^34<n) (hf:FewL l) (hg:FewG g.Hoods) (hv:v.length<=40):
 ∃(L:List Int) (e:Int),ZW n (m,(l,(g,(v,c))))=some (L,e)/\Zl n (m,(l,(g,(v,c))))=some ⟨L,0,false,e⟩/\L.length<=40:=by
 have hb:=Ra (n:=n) (m:=m) (l:=l) (g:=g) (v:=v) (c:=c) (by omega) hf hg hv
 have hw:=Ad (n:=n) (m:=m) (l:=l) (g:=g) (v:=v) (c:=c) (by omega) hf hg hv
 cases ha:dU m l g.Hoods v c
 ·exact⟨[],1,hb.1 ha,hw.1 ha,by decide⟩
 ·have hA:=oO hf hg ha
  obtain⟨L,w1,w2,_,_⟩:=Aa hA.1 hA.2
  exact⟨L,0,hb.2 ha L w1 w2,hw.2 ha L w1 w2,w2⟩
theorem Rq {n:Nat} (hn:2^34<n) (m:Int) (l:List (List Int)) (g:Graph) (v:List Int) (c t k:Int):XG n (m,(l,(g,(v,(c,(t,k))))))=some true:=by
 refine(XG_eq ..).trans ?_
 obtain⟨b1,e1,f1⟩:=few_eq (n:=n) (l:=l) (by omega)
 obtain⟨b2,e2,f2⟩:=fewg_eq (n:=n) (g:=g) (by omega)
 refine bs e1 ?_
 rw[e2]
 cases b1
 ·refine bs (a:=false) rfl ?_
  exact bs (san_eq n) rfl
 cases b2
 ·refine bs (a:=false) rfl ?_
  exact bs (san_eq n) rfl
 have hf:=f1 rfl
 have hg:=f2 rfl
 refine bs (a:=true) rfl ?_
 by_cases hv:((v.length:Nat):Int)>40
 ·rw[dT hv]
  exact bs (san_eq n) rfl
 rw[dF hv]
 have hv':v.length<=40:=by omega
 obtain⟨L1,x1,p1,p2,p3⟩:=Ro (n:=n) (m:=m) (c:=c) hn hf hg hv'
 obtain⟨L2,s2,y2,x2,q1,q2,q3⟩:=Rm (n:=n) (m:=m) (c:=c) t hn hf hg hv'
 obtain⟨L3,s3,y3,x3,r1,r2,r3⟩:=Rn (n:=n) (m:=m) (c:=c) k hn hf hg hv'
 refine bs p1 (bs q1 (bs r1 (bs p2 (bs q2 (bs r2 ?_)))))
 have s1:=rsame_eq (n:=n) (a:=L1) (b:=L1) (by omega) p3
 have s2':=rsame_eq (n:=n) (a:=L2) (b:=L2) (by omega) q3
 have s3':=rsame_eq (n:=n) (a:=L3) (b:=L3) (by omega) r3
 rw[dT rfl] at s1 s2' s3'
 refine bs s1 ?_
 have bq:∀x:Int,(x==x)=true:=fun x=>by simp
 rw[show (bif true then (x1==x1) else false)=true from by rw[bq];rfl]
 refine bs (a:=true) (by exact s2') ?_
 refine bs s3' ?_
 refine bs (rmetric_eq n m) ?_
 have hc:∃z:Bool,(whenO (bif bif bif bif mtB m then decide (t>=0) else false then decide (t<=134217728) else false then decide (k>=0) else false then decide (k<=134217728) else false) (ZR n (m,(t,(k,c)))) false)=some z/\(whenO (bif bif bif bif mtB m then decide (t>=0) else false then decide (t<=134217728) else false then decide (k>=0) else false then decide (k<=134217728) else false) (ZV n (m,(t,(k,c)))) false)=some z:=by
  cases hq:(bif bif bif bif mtB m then decide (t>=0) else false then decide (t<=134217728) else false then decide (k>=0) else false then decide (k<=134217728) else false)
  ·exact⟨false,rfl,rfl⟩
  ·rw[cF,cF,cF,cF,iP,iP,iP,iP,decide_eq_true_iff,decide_eq_true_iff,decide_eq_true_iff,decide_eq_true_iff] at hq
   obtain⟨z,z1,z2⟩:=covers_ex (n:=n) (m:=m) (a:=t) (b:=k) c hn ⟨hq.1.1.1.2,hq.1.1.2⟩ ⟨hq.1.2,hq.2⟩
   exact⟨z,z1,z2⟩
 obtain⟨z,z1,z2⟩:=hc
 refine bs z1 (bs z2 ?_)
 rw[show (!(z==z))=false from by simp]
 refine bF (by cases (bif bif bif bif mtB m then decide (t>=0) else false then decide (t<=134217728) else false then decide (k>=0) else false then decide (k<=134217728) else false)<;>rfl) ?_
 refine bs (san_eq n) ?_
 dsimp only
 rw[bq x2,bq x3,bq s2,bq s3,show (y2==y2)=true from by simp,show (y3==y3)=true from by simp]
 rfl
end Sh
end
