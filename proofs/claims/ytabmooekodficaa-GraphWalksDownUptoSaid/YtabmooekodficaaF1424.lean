import Derived.Test.YtabmooekodficaaF1423
set_option linter.all false
open Go Go.Proofs Aq Pq
namespace Sh
set_option maxRecDepth 100000
theorem FV {n:Nat} {m:Int} {l:List (List Int)} {v:List Int} (hn:100<n) (hm:M3 m) (h:LOK l v) {x:Int} (hx:OkS (keysS m l v) x):∃y:List Int,idxL l x=some y/\ZN n (m,(y,v))=some (kyS (keysS m l v) x):=by
 have hx0:=hx.1
 have hx1:=hx.2
 rw[keysS_len] at hx1
 have hy:=h.2.2 (l[x.toNat]'(by omega)) (Qu _)
 refine⟨_,ixI hx0 hx1,(vkey_eq hn hm hy.1 h.2.1 hy.2).trans ?_⟩
 congr 1
 unfold kyS
 rw[QV,QK (by rw[keysS_len];omega)]
 unfold keysS
 simp
theorem PI {n:Nat} {m:Int} {l:List (List Int)} {g:Graph} {v:List Int} {L:List Int} {e:Int} {r15:(List Int)×Int×Bool×Int} {at_:Bool} {r23:Int} (hn:400<n) (hm:M3 m) (hok:LOK l v) (hL:L.length<=40) {i:Nat} (hi:i<L.length) {hd:Hood} (hh:idxL g.Hoods L[i]=some hd) (hs:hd.Slots.length<=40) (hal:Al (OkS (keysS m l v)) hd.Slots)
 (hlast:i+1=L.length->∀y∈hd.Slots,¬kyS (keysS m l v) y<kyS (keysS m l v) L[i]):∀c (j mm:Nat) (nx:Bool),j+c=hd.Slots.length->c<mm->
 ∃b:Bool,Ze_L19 n m l g v (L,e) r15 at_ (i:Int) r23 (kyS (keysS m l v) L[i]) mm (nx,(j:Int))=some (.inl b)/\(nx=true->b=true)/\(∀h:i+1<L.length,kyS (keysS m l v) L[i+1]<kyS (keysS m l v) L[i]->L[i+1]∈hd.Slots.drop j->b=true):=by
 have ew:IntKind.wrap .i64 (((L.length:Nat):Int)-1)=((L.length:Nat):Int)-1:=wr (by omega) (by omega)
 intro c
 induction c with
 |zero=>
  intro j mm nx hj hmm
  obtain⟨mm,rfl⟩:∃m',mm=m'+1:=⟨mm-1,by omega⟩
  refine⟨nx,?_,fun h=>h,fun _ _ hmem=>?_⟩
  ·refine(Ze_L19_s ..).trans (bs (ix hi) (bs hh ?_))
   rw[ite_nlt (by omega)]
  ·rw[Rt (by omega)] at hmem;cases hmem
 |succ c ih=>
  intro j mm nx hj hmm
  obtain⟨mm,rfl⟩:∃m',mm=m'+1:=⟨mm-1,by omega⟩
  have hlt:j<hd.Slots.length:=by omega
  have hx:=hal hd.Slots[j] (Qu _)
  obtain⟨y,y1,y2⟩:=FV (n:=n) (by omega) hm hok hx
  have start:∀R:Option (Bool⊕Bool),(bif bif decide (kyS (keysS m l v) hd.Slots[j]<kyS (keysS m l v) L[i]) then (i:Int)==((L.length:Nat):Int)-1 else false then
   some (.inr false)
   else
    (whenO (bif !nx then bif decide (kyS (keysS m l v) hd.Slots[j]<kyS (keysS m l v) L[i]) then decide ((i:Int)< ((L.length:Nat):Int)-1) else false else false) (idxL L (IntKind.wrap .i64 ((i:Int)+1))) (0:Int)).bind fun (r36:Int)=>
    Ze_L19 n m l g v (L,e) r15 at_ (i:Int) r23 (kyS (keysS m l v) L[i]) mm ((bif nx then true else bif bif decide (kyS (keysS m l v) hd.Slots[j]<kyS (keysS m l v) L[i]) then decide ((i:Int)< ((L.length:Nat):Int)-1) else false then hd.Slots[j]==r36 else false,((j+1:Nat):Int))))=R->Ze_L19 n m l g v (L,e) r15 at_ (i:Int) r23 (kyS (keysS m l v) L[i]) (mm+1) (nx,(j:Int))=R:=by
   intro R hR
   refine(Ze_L19_s ..).trans (bs (ix hi) (bs hh ?_))
   rw[ite_lt (by omega)]
   refine bs (ix hi) (bs hh (bs (ix hlt) (bs y1 (bs y2 ?_))))
   rw[wS (i:=j) (by omega)]
   dsimp only
   rw[ew]
   exact hR
  have hdrop:=QC hlt
  by_cases hless:kyS (keysS m l v) hd.Slots[j]<kyS (keysS m l v) L[i]
  ·by_cases hi1:i+1<L.length
   ·cases nx with
    |true=>
     obtain⟨b,k1,k2,k3⟩:=ih (j+1) mm true (by omega) (by omega)
     refine⟨b,start _ ?_,fun _=>k2 rfl,fun _ _ _=>k2 rfl⟩
     refine bF (by rw[dT hless,cond_true];simp;omega) ?_
     exact bs (a:=(0:Int)) rfl k1
    |false=>
     obtain⟨b,k1,k2,k3⟩:=ih (j+1) mm (hd.Slots[j]==L[i+1]) (by omega) (by omega)
     refine⟨b,start _ ?_,fun h=>(by cases h),fun h hk hmem=>?_⟩
     ·refine bF (by rw[dT hless,cond_true];simp;omega) ?_
      rw[dT hless,dT (show (i:Int)< ((L.length:Nat):Int)-1 by omega),wS (i:=i) (by omega)]
      exact bs (a:=L[i+1]) (ix hi1) k1
     ·rw[hdrop] at hmem
      rcases Qt.1 hmem with h'|h'
      ·exact k2 (by rw[h'];simp)
      ·exact k3 h hk h'
   ·exact absurd hless (hlast (by omega) _ (Qu _))
  ·obtain⟨b,k1,k2,k3⟩:=ih (j+1) mm nx (by omega) (by omega)
   refine⟨b,start _ ?_,k2,fun h hk hmem=>?_⟩
   ·rw[dF hless]
    refine bF rfl ?_
    refine bs (a:=(0:Int)) (by cases nx<;>rfl) ?_
    have:(bif nx then true else bif bif false then decide ((i:Int)< ((L.length:Nat):Int)-1) else false then hd.Slots[j]==(0:Int) else false)=nx:=by cases nx<;>rfl
    rw[this];exact k1
   ·rw[hdrop] at hmem
    rcases Qt.1 hmem with h'|h'
    ·rw[h'] at hk;exact absurd hk hless
    ·exact k3 h hk h'
theorem PK {n:Nat} {m:Int} {l:List (List Int)} {g:Graph} {v:List Int} {L:List Int} {e:Int} {r15:(List Int)×Int×Bool×Int} (hn:400<n) (h:Asked m l g.Hoods v) (hL:L.length<=40) (hok:∀x∈L,OkS (keysS m l v) x) (hst:FT g.Hoods (keysS m l v) L):∀c (i mm:Nat) (at_:Bool),i+c=L.length->c<mm->
 ∃b:Bool,Ze_L11 n m l g v (L,e) r15 mm (at_,(i:Int))=some (.inl b)/\(at_=true->b=true)/\(r15.2.1∈L.drop i->b=true):=by
 have ew:IntKind.wrap .i64 (((L.length:Nat):Int)-1)=((L.length:Nat):Int)-1:=wr (by omega) (by omega)
 intro c
 induction c with
 |zero=>
  intro i mm at_ hi hmm
  obtain⟨mm,rfl⟩:∃m',mm=m'+1:=⟨mm-1,by omega⟩
  refine⟨at_,?_,fun h=>h,fun hmem=>?_⟩
  ·refine(Ze_L11_s ..).trans ?_
   rw[ite_nlt (by dsimp only;omega)]
  ·rw[Rt (by omega)] at hmem;cases hmem
 |succ c ih=>
  intro i mm at_ hi hmm
  obtain⟨mm,rfl⟩:∃m',mm=m'+1:=⟨mm-1,by omega⟩
  have hlt:i<L.length:=by omega
  have hx:=hok L[i] (Qu _)
  have hx0:=hx.1
  have hx1:=hx.2
  rw[keysS_len] at hx1
  obtain⟨y,y1,y2⟩:=FV (n:=n) (by omega) h.m3 h.ok hx
  obtain⟨hd,a,sl,f1,f2,f3,f4,f5,f6,f7⟩:=hood_at h hx
  have hslt:sltAt g.Hoods L[i]=hd.Slots:=by unfold sltAt;rw[f1];rfl
  have hin:=fun r23=>PI (n:=n) (e:=e) (r15:=r15) (at_:=at_) (r23:=r23) hn h.m3 h.ok hL hlt f2 (by rw[f3];exact f5) (by rw[f3];exact f4) (fun hl y hy=>hst.2 i hlt hl y (by rw[hslt];exact hy)) hd.Slots.length 0 n false (by omega) (by rw[f3];omega)
  have key:∀r23:Int,(whenO (!at_) (idxL L (i:Int)) (0:Int))=some r23->∃q:Bool,(i+1<L.length->q=true)/\Ze_L11 n m l g v (L,e) r15 (mm+1) (at_,(i:Int))=Ze_L11 n m l g v (L,e) r15 mm (bif at_ then true else r23==r15.2.1,((i+1:Nat):Int)):=by
   intro r23 h23
   obtain⟨q,q1,_,q2⟩:=hin r23
   have hq:i+1<L.length->q=true:=fun h1=>by
    have:=hst.1 i h1
    exact q2 h1 this.2 (by rw[Q5,<-hslt];exact this.1)
   refine⟨q,hq,(Ze_L11_s ..).trans ?_⟩
   rw[ite_lt (by dsimp only;omega)]
   refine bs (ix hlt) ?_
   rw[dF (show¬L[i]<0 by omega)]
   refine bs (a:=L[i]) (ix hlt) ?_
   refine bF (by rw[dF (by omega)];rfl) ?_
   refine bs h23 (bs (ix hlt) (bs y1 (bs y2 (bs q1 ?_))))
   show (bif bif decide ((i:Int)<IntKind.wrap .i64 (((L.length:Nat):Int)-1)) then !q else false then _ else _)=_
   rw[ew]
   refine bF ?_ (by rw[wS (by omega)])
   by_cases h1:i+1<L.length
   ·rw[hq h1];cases decide ((i:Int)< ((L.length:Nat):Int)-1)<;>rfl
   ·rw[dF (by omega)];rfl
  have hdrop:=QC hlt
  cases at_ with
  |true=>
   obtain⟨b,k1,k2,_⟩:=ih (i+1) mm true (by omega) (by omega)
   obtain⟨q,_,k⟩:=key 0 rfl
   exact⟨b,k.trans k1,fun _=>k2 rfl,fun _=>k2 rfl⟩
  |false=>
   obtain⟨b,k1,k2,k3⟩:=ih (i+1) mm (L[i]==r15.2.1) (by omega) (by omega)
   obtain⟨q,_,k⟩:=key L[i] (ix hlt)
   refine⟨b,k.trans k1,fun h'=>(by cases h'),fun hmem=>?_⟩
   rw[hdrop] at hmem
   rcases Qt.1 hmem with h'|h'
   ·exact k2 (by rw[h'];simp)
   ·exact k3 h'
theorem PN {n:Nat} (hn:2^34<n) (m:Int) (l:List (List Int)) (g:Graph) (v:List Int) (from_ t k:Int) (hfr:0<=from_/\from_<=255) (hk:0<=k/\k<=255) (hvn:v.length<n) (hv2:v.length<2^59):Ze n (m,(l,(g,(v,(from_,(t,k))))))=some true:=by
 refine(Ze_eq ..).trans ?_
 obtain⟨b1,e1,f1⟩:=few_eq (n:=n) (l:=l) (by omega)
 obtain⟨b2,e2,f2⟩:=fewg_eq (n:=n) (g:=g) (by omega)
 refine bs e1 ?_
 rw[e2]
 cases b1
 ·refine bs (a:=false) rfl (bs (a:=false) rfl (bs (a:=[]) rfl (bs (a:=false) rfl ?_)))
  exact bs (san_eq n) rfl
 cases b2
 ·refine bs (a:=false) rfl (bs (a:=false) rfl (bs (a:=[]) rfl (bs (a:=false) rfl ?_)))
  exact bs (san_eq n) rfl
 have hf:=f1 rfl
 have hg:=f2 rfl
 refine bs (a:=true) rfl ?_
 rw[rright_eq (by omega) hf hg]
 cases hr:((mtB m&& fitB l)&& validB ((l.length:Nat):Int) g.Hoods)
 ·refine bs (a:=false) rfl (bs (a:=[]) rfl (bs (a:=false) rfl ?_))
  exact bs (san_eq n) rfl
 refine bs (a:=true) rfl ?_
 rw[iP,iP] at hr
 obtain⟨⟨hm,hfit⟩,hval⟩:=hr
 obtain⟨a,l',hl⟩:∃a l',l=a::l':=by
  cases l with
  |nil=>unfold fitB at hfit;cases hfit
  |cons a l'=>exact⟨a,l',rfl⟩
 have h0:idxL l (0:Int)=some a:=by rw[hl];exact ix0 a l'
 have hmem:a∈l:=by rw[hl];exact Qn ..
 have hal:=ralike_big (n:=n) (a:=a) (b:=v) (by omega) (hf.2 a hmem) hvn hv2
 refine bs h0 ?_
 rw[hal]
 refine bs (a:=alikeB a v) rfl ?_
 cases hav:alikeB a v
 ·exact bs (san_eq n) rfl
 by_cases ht:K27 t
 ·have ht1:=ht.1
  have ht2:=ht.2
  rw[dF (show¬t<0 by omega),dF (show¬t>134217728 by omega)]
  have h25:=hf.1
  have h1l:1<=l.length:=by rw[hl];simp
  have hvok:VOK v:=by
   unfold alikeB at hav
   rw[iP,iP,vokB_iff,vokB_iff] at hav
   exact hav.2.2
  have hv40:v.length<=40:=by have:=hvok.2.2;omega
  have hm3:M3 m:=mtB_iff.1 hm
  have ec:IntKind.wrap .i64 from_=from_:=wr (by omega) (by omega)
  have ek:IntKind.wrap .i64 (1+Int.tmod (IntKind.wrap .i64 k) 64)=1+k% 64:=by
   rw[wr (i:=k) (by omega) (by omega),Int.tmod_eq_emod_of_nonneg hk.1,wr (by omega) (by omega)]
  have ed:Int.tmod from_ ((l.length:Nat):Int)=from_% ((l.length:Nat):Int):=Int.tmod_eq_emod_of_nonneg hfr.1
  have hc0:0<=from_% ((l.length:Nat):Int):=Int.emod_nonneg _ (by omega)
  have hc1:from_% ((l.length:Nat):Int)< ((l.length:Nat):Int):=Int.emod_lt_of_pos _ (by omega)
  have hask:askB m l g.Hoods v (from_% ((l.length:Nat):Int))=true:=by
   unfold askB
   rw[hm,hfit,hval,dT hc0,dT hc1,show l.headD []=a by rw[hl];rfl,hav];rfl
  have hk64:1<=1+k% 64/\1+k% 64<=64:=by omega
  rw[ec,ek,ed,show (((l.length:Nat):Int)==(0:Int))=false from beq_eq_false_iff_ne.2 (by omega)]
  generalize hcc:from_% ((l.length:Nat):Int)=c at hask hc0 hc1
  have hA:=asked_of hf hg hask
  obtain⟨L,w1,w2,⟨L',rfl⟩,w4⟩:=walk_tot hA.1 hA.2
  have PO:=(gwalk_eq (n:=n) (m:=m) (l:=l) (g:=g) (v:=v) (c:=c) (by omega) hf hg hv40).2 hask _ w1 w2
  have hlen:=Px hA.1 hA.2 w1
  have hsteps:=(FU hA.1 _ _ _ hA.2 w1).1
  obtain⟨L3,b3,n1,_⟩:=PG (n:=n) (k:=1+k% 64) hn hf hg hv40 hask hk64 w1 w4
  obtain⟨L4,x4,b4,v1,v2,_⟩:=PE (n:=n) (t:=t) hn hf hg hv40 hask ht w1 w4
  have hlast:=lastD_eq L' c (by omega)
  obtain⟨b,k1,_,k3⟩:=PK (n:=n) (e:=0) (r15:=(L4,(x4,(b4,(0:Int))))) (by omega) hA.1 w2 w4 hsteps (c::L').length 0 n false (by omega) (by omega)
  have hb:=k3 (by rw[Q5];exact v2)
  subst hb
  refine bF rfl ?_
  refine bT rfl ?_
  refine bs PO (bs v1 ?_)
  refine bT rfl ?_
  refine bs n1 ?_
  have g1:(bif bif bif bif (0:Int) !=0 then true else (0:Int) !=0 then true else (0:Int) !=0 then true else (((c::L').length:Nat):Int)==0 then true else decide ((((c::L').length:Nat):Int)> ((l.length:Nat):Int)))=false:=by
   rw[dF (by omega),show ((((c::L').length:Nat):Int)==0)=false from beq_eq_false_iff_ne.2 (by rw[List.length_cons];omega)];rfl
  refine bs (a:=c) ?_ ?_
  ·show whenO (!(bif bif bif bif (0:Int) !=0 then true else (0:Int) !=0 then true else (0:Int) !=0 then true else (((c::L').length:Nat):Int)==0 then true else decide ((((c::L').length:Nat):Int)> ((l.length:Nat):Int)))) (idxL (c::L') (0:Int)) (0:Int)=some c
   rw[g1];exact ix0 c L'
  ·have g2:(bif bif bif bif bif (0:Int) !=0 then true else (0:Int) !=0 then true else (0:Int) !=0 then true else (((c::L').length:Nat):Int)==0 then true else decide ((((c::L').length:Nat):Int)> ((l.length:Nat):Int)) then true else c !=c)=false:=by rw[g1];simp
   refine bs (a:=lastD c L') ?_ ?_
   ·show whenO (!(bif bif bif bif bif (0:Int) !=0 then true else (0:Int) !=0 then true else (0:Int) !=0 then true else (((c::L').length:Nat):Int)==0 then true else decide ((((c::L').length:Nat):Int)> ((l.length:Nat):Int)) then true else c !=c)) (idxL (c::L') (IntKind.wrap .i64 ((((c::L').length:Nat):Int)-1))) (0:Int)=some (lastD c L')
    rw[g2];exact hlast
   ·refine bF ?_ ?_
    ·show (bif bif bif bif bif bif (0:Int) !=0 then true else (0:Int) !=0 then true else (0:Int) !=0 then true else (((c::L').length:Nat):Int)==0 then true else decide ((((c::L').length:Nat):Int)> ((l.length:Nat):Int)) then true else c !=c then true else lastD c L' !=lastD c L')=false
     rw[g2];simp
    ·exact bs k1 (bs (san_eq n) rfl)
 ·refine bT ?_ (bs (san_eq n) rfl)
  unfold K27 at ht
  by_cases h0:t<0
  ·rw[dT h0];cases decide (t>134217728)<;>rfl
  ·rw[dF h0,dT (show t>134217728 by omega)];rfl
end Sh
