import Derived.Test.YtdcnajadcbedkaaGreatDoorF1026
set_option linter.all false
open Go.IntKind (wrap)
section
open Go aQ
namespace tQ
variable {U:Type}
theorem VF {L:Nat->Int->Option Int}{T:Int->Prop}{i j:Int}(hs:∀m x (Q:Int->Prop),i<=x->x<=j->(T x->∃r,L m (x+1)=some r/\Q r)->(¬T x->Q x)->∃r,L (m+1) x=some r/\Q r)(he:∀m x,j<x->L (m+1) x=some x)(hij:i<=j+1){m:Nat}(hm:(j+1-i).toNat<m):∃r,L m i=some r/\i<=r/\r<=j+1/\(∀k,i<=k->k<r->T k)/\(r<=j->¬T r):=by
 refine mu (τ:=Int) (L:=L) (fun x=>i<=x/\x<=j+1/\∀k,i<=k->k<x->T k) (fun x=>(j+1-x).toNat) _ ?_ m i ⟨lN _,hij,fun k k1 k2=>RS⟩ hm;rintro m x ⟨i1,i2,i3⟩ gV;by_cases hx:x<=j
 .exact hs m x _ i1 hx (fun ht=>gV (x+1) ⟨RS,RS,fun k k1 k2=>by
   by_cases e:k=x
   .rw[e];exact ht
   .exact i3 k k1 RS⟩ RS) fun ht=>⟨i1,RS,i3,fun _=>ht⟩
 .exact⟨x,he m x RS,i1,i2,i3,fun h=>absurd h hx⟩
theorem afL {L:Nat->Int->Option Int}{T:Int->Prop}{i j:Int}(hs:∀m x (Q:Int->Prop),i<=x->x<=j->(T x->∃r,L m (x-1)=some r/\Q r)->(¬T x->Q x)->∃r,L (m+1) x=some r/\Q r)(he:∀m x,x<i->L (m+1) x=some x)(hij:i<=j+1){m:Nat}(hm:(j+1-i).toNat<m):∃r,L m j=some r/\r<=j/\i-1<=r/\(∀k,r<k->k<=j->T k)/\(i<=r->¬T r):=by
 refine mu (τ:=Int) (L:=L) (fun x=>x<=j/\i-1<=x/\∀k,x<k->k<=j->T k) (fun x=>(x+1-i).toNat) _ ?_ m j ⟨lN _,RS,fun k k1 k2=>RS⟩ RS;rintro m x ⟨i1,i2,i3⟩ gV;by_cases hx:i<=x
 .exact hs m x _ hx i1 (fun ht=>gV (x-1) ⟨RS,RS,fun k k1 k2=>by
   by_cases e:k=x
   .rw[e];exact ht
   .exact i3 k RS k2⟩ RS) fun ht=>⟨i1,i2,i3,fun _=>ht⟩
 .exact⟨x,he m x RS,i1,i2,i3,fun h=>absurd h hx⟩
structure Parts (lt:U->U->Prop)(d:U)(a b mid:Int)(l l':List U):Prop where
 lo:a<=mid
 hi:mid<b
 rp:eF d a b l l'
 left:∀k,a<=k->k<mid->¬lt (aL d l' mid) (aL d l' k)
 right:∀k,mid<k->k<b->¬lt (aL d l' k) (aL d l' mid)
section
variable {n:Nat}{d:U}{Ok:U->Prop}{lt:U->U->Prop}{K:{β:Type}->U->U->(Bool->Option β)->Option β}(hc:Af Ok lt K)(ho:Ord lt){P3:Int->Int->Int->(List U)->U->U->Nat->Int->Option (Int)}{Qd:Int->Int->(List U)->U->U->Int->Nat->Int->Option (Int)}{Qe:Int->Int->(List U)->Nat->Int->Option (Int)}{Qf:Int->(List U)->Int->Nat->Int->Option (Int)}{PM:Int->Nat->((Int×Int)×List U)->Option (Int×List U)}{prt:Unit×Int×Int×Int×(Unit×Unit)->List U->Option ((Int×Bool)×List U)}(h3:∀(x1 x2 x3:Int) (x4:List U) (r5:U) (r6:U) (m:Nat) (bU:Int),P3 x1 x2 x3 x4 r5 r6 (m+1) bU=bif decide (bU<=(wrap .i64 (x2-(1:Int)))) then bif decide (0<=bU/\bU< (((bf (bf x4 x1 r5) x3 r6).length:Nat):Int)) then (aG (bf (bf x4 x1 r5) x3 r6) bU).bind fun (dB:U)=>bif decide (0<=x1/\x1< (((bf (bf x4 x1 r5) x3 r6).length:Nat):Int)) then (aG (bf (bf x4 x1 r5) x3 r6) x1).bind fun (bG:U)=>
      K dB bG fun (gP:Bool)=>bif gP then P3 x1 x2 x3 x4 r5 r6 m (wrap .i64 (bU+(1:Int)))else some bU else none else none else some bU)(h5:∀(x1 x3:Int) (x4:List U) (r5:U) (r6:U) (eO:Int) (m:Nat) (D9:Int),Qd x1 x3 x4 r5 r6 eO (m+1) D9=bif decide (eO<=D9) then bif decide (0<=D9/\D9< (((bf (bf x4 x1 r5) x3 r6).length:Nat):Int)) then (aG (bf (bf x4 x1 r5) x3 r6) D9).bind fun (kE:U)=>bif decide (0<=x1/\x1< (((bf (bf x4 x1 r5) x3 r6).length:Nat):Int)) then (aG (bf (bf x4 x1 r5) x3 r6) x1).bind fun (r16:U)=>
      K kE r16 fun (lZ:Bool)=>bif !(lZ) then Qd x1 x3 x4 r5 r6 eO m (wrap .i64 (D9-(1:Int)))else some D9 else none else none else some D9)(Qg:∀(x1 x28:Int) (x29:List U) (m:Nat) (x30:Int),Qe x1 x28 x29 (m+1) x30=bif decide (x30<=x28) then bif decide (0<=x30/\x30< (x29.length:Int)) then (aG x29 x30).bind fun (Gl:U)=>bif decide (0<=x1/\x1< (x29.length:Int)) then (aG x29 x1).bind fun (r32:U)=>
      K Gl r32 fun (afM:Bool)=>bif afM then Qe x1 x28 x29 m (wrap .i64 (x30+(1:Int)))else some x30 else none else none else some x30)(Qh:∀(x1:Int) (x29:List U) (qb:Int) (m:Nat) (Ea:Int),Qf x1 x29 qb (m+1) Ea=bif decide (qb<=Ea) then bif decide (0<=Ea/\Ea< (x29.length:Int)) then (aG x29 Ea).bind fun (afN:U)=>bif decide (0<=x1/\x1< (x29.length:Int)) then (aG x29 x1).bind fun (afO:U)=>
      K afN afO fun (aEr:Bool)=>bif !(aEr) then Qf x1 x29 qb m (wrap .i64 (Ea-(1:Int)))else some Ea else none else none else some Ea)(hM:∀(x1:Int) (m:Nat) (x27 x28:Int) (x29:List U),PM x1 (m+1) ((x27,x28),x29)=
   (Qe x1 x28 x29 n x27).bind fun (qb:Int)=>(Qf x1 x29 qb n x28).bind fun (Ag:Int)=>bif decide (qb>Ag) then some ((Ag,x29))else bif decide (0<=Ag/\Ag< (x29.length:Int)) then (aG x29 Ag).bind fun (afP:U)=>bif decide (0<=qb/\qb< (x29.length:Int)) then (aG x29 qb).bind fun (aEs:U)=>bif decide (0<=qb/\qb< (x29.length:Int)) then (aG x29 qb).bind fun (aGe:U)=>bif decide (0<=Ag/\Ag< (((bf x29 qb afP).length:Nat):Int)) then (aG (bf x29 qb afP) Ag).bind fun (aGf:U)=>
        PM x1 m (((wrap .i64 (qb+(1:Int)),wrap .i64 (Ag-(1:Int))),bf (bf x29 qb afP) Ag aEs))else none else none else none else none)(hP:∀(x1 x2 x3:Int) (x4:List U),prt (((),(x1,(x2,(x3,((),())))))) (x4)=bif decide (0<=x3/\x3< (x4.length:Int)) then (aG x4 x3).bind fun (r5:U)=>bif decide (0<=x1/\x1< (x4.length:Int)) then (aG x4 x1).bind fun (r6:U)=>bif decide (0<=x1/\x1< (x4.length:Int)) then (aG x4 x1).bind fun (r7:U)=>bif decide (0<=x3/\x3< (((bf x4 x1 r5).length:Nat):Int)) then (aG (bf x4 x1 r5) x3).bind fun (r8:U)=>(P3 x1 x2 x3 x4 r5 r6 n (wrap .i64 (x1+(1:Int)))).bind fun (eO:Int)=>(Qd x1 x3 x4 r5 r6 eO n (wrap .i64 (x2-(1:Int)))).bind fun (gD:Int)=>bif decide (eO>gD) then bif decide (0<=x1/\x1< (((bf (bf x4 x1 r5) x3 r6).length:Nat):Int)) then (aG (bf (bf x4 x1 r5) x3 r6) x1).bind fun (jR:U)=>bif decide (0<=gD/\gD< (((bf (bf x4 x1 r5) x3 r6).length:Nat):Int)) then (aG (bf (bf x4 x1 r5) x3 r6) gD).bind fun (BF:U)=>bif decide (0<=gD/\gD< (((bf (bf x4 x1 r5) x3 r6).length:Nat):Int)) then (aG (bf (bf x4 x1 r5) x3 r6) gD).bind fun (oG:U)=>bif decide (0<=x1/\x1< (((bf (bf (bf x4 x1 r5) x3 r6) gD jR).length:Nat):Int)) then (aG (bf (bf (bf x4 x1 r5) x3 r6) gD jR) x1).bind fun (wz:U)=>some (((gD,true),bf (bf (bf (bf x4 x1 r5) x3 r6) gD jR) x1 BF))else none else none else none else none else bif decide (0<=gD/\gD< (((bf (bf x4 x1 r5) x3 r6).length:Nat):Int)) then (aG (bf (bf x4 x1 r5) x3 r6) gD).bind fun (tN:U)=>bif decide (0<=eO/\eO< (((bf (bf x4 x1 r5) x3 r6).length:Nat):Int)) then (aG (bf (bf x4 x1 r5) x3 r6) eO).bind fun (lI:U)=>bif decide (0<=eO/\eO< (((bf (bf x4 x1 r5) x3 r6).length:Nat):Int)) then (aG (bf (bf x4 x1 r5) x3 r6) eO).bind fun (yY:U)=>bif decide (0<=gD/\gD< (((bf (bf (bf x4 x1 r5) x3 r6) eO tN).length:Nat):Int)) then (aG (bf (bf (bf x4 x1 r5) x3 r6) eO tN) gD).bind fun (oQ:U)=>(PM x1 n (((wrap .i64 (eO+(1:Int)),wrap .i64 (gD-(1:Int))),bf (bf (bf (bf x4 x1 r5) x3 r6) eO tN) gD lI))).bind fun (qh:Int×List U)=>bif decide (0<=x1/\x1< (qh.2.length:Int)) then (aG qh.2 x1).bind fun (afQ:U)=>bif decide (0<=qh.1/\qh.1< (qh.2.length:Int)) then (aG qh.2 qh.1).bind fun (aEt:U)=>bif decide (0<=qh.1/\qh.1< (qh.2.length:Int)) then (aG qh.2 qh.1).bind fun (aGg:U)=>bif decide (0<=x1/\x1< (((bf qh.2 qh.1 afQ).length:Nat):Int)) then (aG (bf qh.2 qh.1 afQ) x1).bind fun (aGh:U)=>some (((qh.1,false),bf (bf qh.2 qh.1 afQ) x1 aEt))else none else none else none else none else none else none else none else none else none else none else none else none)
include hc ho Qg Qh hM
theorem aEu {a b:Int}{l:List U}{i j:Int}{m:Nat}(h0:0<=a)(hbl:b<=l.length)(hb:l.length<2^57)(hal:kG Ok l)(hn:(b-a).toNat<n)(h1:a<i)(h2:j<b)(hij:i<=j+1)(hl:∀k,a<k->k<i->lt (aL d l k) (aL d l a))(hr:∀k,j<k->k<b->¬lt (aL d l k) (aL d l a))(hm:(j+1-i).toNat<m):
 ∃r,PM a m ((i,j),l)=some r/\a<=r.1/\r.1<b/\eF d a b l r.2/\aL d r.2 a=aL d l a/\(∀k,a<k->k<=r.1->lt (aL d r.2 k) (aL d r.2 a))/\(∀k,r.1<k->k<b->¬lt (aL d r.2 k) (aL d r.2 a)):=by
 refine mu (τ:=(Int×Int)×List U) (L:=PM a) (fun p=>a<p.1.1/\p.1.2<b/\p.1.1<=p.1.2+1/\eF d a b l p.2/\aL d p.2 a=aL d l a/\(∀k,a<k->k<p.1.1->lt (aL d p.2 k) (aL d p.2 a))/\(∀k,p.1.2<k->k<b->¬lt (aL d p.2 k) (aL d p.2 a))) (fun p=>(p.1.2+1-p.1.1).toNat) _ ?_ m ((i,j),l)
  ⟨h1,h2,hij,.refl _ _ _ _,rfl,hl,hr⟩ hm
 rintro m ⟨⟨i,j⟩,D⟩ ⟨i1,i2,i3,i4,i5,i6,i7⟩ gV;dsimp only at i1 i2 i3 i4 i5 i6 i7 gV⊢;have hl:=i4.len;have jS:=i4.al hal;rw[hM];refine tB (VF (L:=Qe a j D) (T:=fun x=>lt (aL d D x) (aL d D a)) (i:=i) (j:=j) (fun m x Q k1 k2 ht hf=>?_) (fun m x k1=>?_) i3 RS) fun i'=>?_
 .rw[Qg];refine tD (fun _=>tI RS RS (tE (dD d RS RS) (tI RS RS (tE (dD d RS RS) (tM hc (jS.at d RS RS) (jS.at d RS RS) fun r hr=>tD (fun h=>?_) (fun h=>tS (hf fun k=>h (hr.2 k)))))))) (fun h=>RS);rw[wr RS RS];exact ht (hr.1 h)
 .rw[Qg,decide_eq_false RS];rfl
 rintro⟨u1,u2,u3,u4⟩;refine tB (afL (L:=Qf a D i') (T:=fun x=>¬lt (aL d D x) (aL d D a)) (i:=i') (j:=j) (fun m x Q k1 k2 ht hf=>?_) (fun m x k1=>?_) u2 RS) fun j'=>?_
 .rw[Qh];refine tD (fun _=>tI RS RS (tE (dD d RS RS) (tI RS RS (tE (dD d RS RS) (tM hc (jS.at d RS RS) (jS.at d RS RS) fun r hr=>D7 (fun h=>?_) (fun h=>tS (hf fun k=>k (hr.1 h)))))))) (fun h=>RS);rw[wr RS RS];exact ht fun k=>h (hr.2 k)
 .rw[Qh,decide_eq_false RS];rfl
 rintro⟨v1,v2,v3,v4⟩;have left:∀k,a<k->k<i'->lt (aL d D k) (aL d D a):=fun k k1 k2=>by
  by_cases e:k<i
  .exact i6 k k1 e
  .exact u3 k RS k2
 have right:∀k,j'<k->k<b->¬lt (aL d D k) (aL d D a):=fun k k1 k2=>by
  by_cases e:j<k
  .exact i7 k e k2
  .exact v3 k k1 RS
 refine tD (fun hgt=>tS ⟨RS,RS,i4,i5,fun k k1 k2=>left k k1 RS,right⟩) (fun hgt=>?_);have t1:=u4 RS;have t2:lt (aL d D j') (aL d D a):=Classical.byContradiction (v4 RS);have hne:i'≠j':=fun e=>t1 (by rw[e];exact t2);refine tI RS ig (tE (dD d RS ig) ?_);refine tI RS ig (tE (dD d RS ig) ?_);refine tI RS ig (tE (dD d RS ig) ?_);refine tI RS ig (tE (dD d RS ig) ?_);rw[wr RS RS,wr RS RS];have l9:∀k,0<=k->aL d (swp d D i' j') k=if k=j' then aL d D i' else if k=i' then aL d D j' else aL d D k:=fun k hk=>qg RS RS RS RS hk
 have sa:aL d (swp d D i' j') a=aL d D a:=by rw[l9 a h0,if_neg RS,if_neg RS]
 refine gV ((i'+1,j'-1),swp d D i' j') ⟨dz,dz,dz,i4.swp h0 RS RS RS RS RS,sa.trans i5,fun k k1 k2=>?_,fun k k1 k2=>?_⟩ dz
 .dsimp only at k2⊢;rw[sa,l9 k RS,if_neg RS];by_cases e:k=i'
  .rw[if_pos e];exact t2
  .rw[if_neg e];exact left k k1 RS
 .dsimp only at k1⊢;rw[sa,l9 k RS];by_cases e:k=j'
  .rw[if_pos e];exact t1
  .rw[if_neg e,if_neg RS];exact right k RS k2
omit hc Qg Qh hM in
theorem aoJ {a b r:Int}{l D:List U}(h0:0<=a)(hbl:b<=l.length)(h1:a<=r)(h2:r<b)(h3:eF d a b l D)(hl:∀k,a<k->k<=r->lt (aL d D k) (aL d D a))(hr:∀k,r<k->k<b->¬lt (aL d D k) (aL d D a)):Parts lt d a b r l (swp d D r a):=by
 have hlen:=h3.len;have l9:∀k,0<=k->aL d (swp d D r a) k=if k=a then aL d D r else if k=r then aL d D a else aL d D k:=fun k hk=>qg RS RS RS RS hk
 have sr:aL d (swp d D r a) r=aL d D a:=by
  rw[l9 r RS];by_cases e:r=a
  .rw[if_pos e,e]
  .rw[if_neg e,if_pos rfl]
 refine⟨h1,h2,h3.swp h0 RS h1 h2 (lN _) RS,fun k k1 k2=>?_,fun k k1 k2=>?_⟩
 .rw[sr,l9 k RS];by_cases e:k=a
  .rw[if_pos e];exact ho.asym _ _ (hl r RS (lN _))
  .rw[if_neg e,if_neg RS];exact ho.asym _ _ (hl k RS RS)
 .rw[sr,l9 k RS,if_neg RS,if_neg RS];exact hr k k1 k2
include h3 h5 hP
theorem aEv {a b p:Int}{l:List U}(h0:0<=a)(hbl:b<=l.length)(hb:l.length<2^57)(hal:kG Ok l)(hn:(b-a).toNat+1<n)(h1:a<=p)(h2:p<b):
 ∃r,prt ((),a,b,p,((),())) l=some r/\Parts lt d a b r.1.1 l r.2:=by
 rw[hP];refine tI RS ig (tE (dD d RS ig) ?_);refine tI RS ig (tE (dD d RS ig) ?_);refine tI RS ig (tE (dD d RS ig) ?_);refine tI RS ig (tE (dD d RS ig) ?_);have hw1:wrap .i64 (a+1)=a+1:=wr RS RS;have hw2:wrap .i64 (b-1)=b-1:=wr RS RS;have r0:eF d a b l (swp d l a p):=(eF.refl d a b l).swp h0 hbl RS RS h1 h2;have hl:=r0.len;have jS:=r0.al hal;change∃r,(P3 a b p l (aL d l p) (aL d l a) n (wrap .i64 (a+1))).bind _=some r/\_;rw[hw1,hw2];refine tB (VF (L:=P3 a b p l (aL d l p) (aL d l a)) (T:=fun x=>lt (aL d (swp d l a p) x) (aL d (swp d l a p) a)) (i:=a+1) (j:=b-1) (fun m x Q k1 k2 ht hf=>?_) (fun m x k1=>?_) RS RS) fun i'=>?_
 .rw[h3,hw2];change∃r,(bif _ then (bif decide (0<=x/\x< (((swp d l a p).length:Nat):Int)) then (aG (swp d l a p) x).bind _ else none) else _)=some r/\_;refine tD (fun _=>tI RS RS (tE (dD d RS RS) (tI RS ji (tE (dD d RS ji) (tM hc (jS.at d RS RS) (jS.at d RS RS) fun r hr=>tD (fun h=>?_) (fun h=>tS (hf fun k=>h (hr.2 k)))))))) (fun h=>RS);rw[wr RS RS];exact ht (hr.1 h)
 .rw[h3,hw2,decide_eq_false RS];rfl
 rintro⟨u1,u2,u3,u4⟩;refine tB (afL (L:=Qd a p l (aL d l p) (aL d l a) i') (T:=fun x=>¬lt (aL d (swp d l a p) x) (aL d (swp d l a p) a)) (i:=i') (j:=b-1) (fun m x Q k1 k2 ht hf=>?_) (fun m x k1=>?_) u2 RS) fun j'=>?_
 .rw[h5];change∃r,(bif _ then (bif decide (0<=x/\x< (((swp d l a p).length:Nat):Int)) then (aG (swp d l a p) x).bind _ else none) else _)=some r/\_;refine tD (fun _=>tI RS RS (tE (dD d RS RS) (tI RS ji (tE (dD d RS ji) (tM hc (jS.at d RS RS) (jS.at d RS RS) fun r hr=>D7 (fun h=>?_) (fun h=>tS (hf fun k=>k (hr.1 h)))))))) (fun h=>RS);rw[wr RS RS];exact ht fun k=>h (hr.2 k)
 .rw[h5,decide_eq_false RS];rfl
 rintro⟨v1,v2,v3,v4⟩;change∃r,(bif _ then (bif decide (0<=a/\a< (((swp d l a p).length:Nat):Int)) then (aG (swp d l a p) a).bind _ else none) else (bif decide (0<=j'/\j'< (((swp d l a p).length:Nat):Int)) then (aG (swp d l a p) j').bind _ else none))=some r/\_;refine tD (fun hgt=>?_) (fun hgt=>?_)
 .refine tI RS ig (tE (dD d RS ig) ?_);refine tI RS wE (tE (dD d RS wE) ?_);refine tI RS wE (tE (dD d RS wE) ?_);refine tI RS wE (tE (dD d RS wE) ?_);refine tS ?_;exact aoJ ho (r:=j') h0 hbl RS RS r0 (fun k k1 k2=>u3 k RS RS) (fun k k1 k2=>v3 k k1 RS)
 .have t1:=u4 RS;have t2:lt (aL d (swp d l a p) j') (aL d (swp d l a p) a):=Classical.byContradiction (v4 RS);have hne:i'≠j':=fun e=>t1 (by rw[e];exact t2);refine tI RS ig (tE (dD d RS ig) ?_);refine tI RS wE (tE (dD d RS wE) ?_);refine tI RS wE (tE (dD d RS wE) ?_);refine tI RS wE (tE (dD d RS wE) ?_);rw[wr RS RS,wr RS RS];have s1:eF d a b l (swp d (swp d l a p) i' j'):=r0.swp h0 RS RS RS RS RS;have l9:∀k,0<=k->aL d (swp d (swp d l a p) i' j') k=if k=j' then aL d (swp d l a p) i' else if k=i' then aL d (swp d l a p) j' else aL d (swp d l a p) k:=fun k hk=>qg RS RS RS RS hk
  have sa:aL d (swp d (swp d l a p) i' j') a=aL d (swp d l a p) a:=by rw[l9 a h0,if_neg RS,if_neg RS]
  have hl1:=s1.len;refine tB (aEu hc ho Qg Qh hM (n:=n) (d:=d) (a:=a) (b:=b) (l:=swp d (swp d l a p) i' j') (i:=i'+1) (j:=j'-1) (m:=n) h0 RS RS (s1.al hal) RS RS RS RS (fun k k1 k2=>?_) (fun k k1 k2=>?_) RS) fun r=>?_
  .rw[sa,l9 k RS,if_neg RS];by_cases e:k=i'
   .rw[if_pos e];exact t2
   .rw[if_neg e];exact u3 k RS RS
  .rw[sa,l9 k RS];by_cases e:k=j'
   .rw[if_pos e];exact t1
   .rw[if_neg e,if_neg RS];exact v3 k RS RS
  .rintro⟨q1,q2,q3,q4,q5,q6⟩;have hl2:=q3.len;refine tI RS ig (tE (dD d RS ig) ?_);refine tI RS ig (tE (dD d RS ig) ?_);refine tI RS ig (tE (dD d RS ig) ?_);refine tI RS ig (tE (dD d RS ig) ?_);exact tS (aoJ ho (r:=r.1) h0 hbl q1 q2 (s1.trans q3) q5 q6)
end
section
variable {n:Nat}{d:U}{Ok:U->Prop}{lt:U->U->Prop}{K:{β:Type}->U->U->(Bool->Option β)->Option β}(hc:Af Ok lt K){E3:Int->Int->(List U)->Nat->Int->Option (Int)}{Qi:Int->(List U)->Int->Nat->Int->Option (Int)}{KZ:Int->Nat->((Int×Int)×List U)->Option (Int×List U)}{peq:Unit×Int×Int×Int×(Unit×Unit)->List U->Option (Int×List U)}(h3:∀(x1 x10:Int) (eU:List U) (m:Nat) (pJ:Int),E3 x1 x10 eU (m+1) pJ=bif decide (pJ<=x10) then bif decide (0<=x1/\x1< (eU.length:Int)) then (aG eU x1).bind fun (eO:U)=>bif decide (0<=pJ/\pJ< (eU.length:Int)) then (aG eU pJ).bind fun (fF:U)=>
      K eO fF fun (kE:Bool)=>bif !(kE) then E3 x1 x10 eU m (wrap .i64 (pJ+(1:Int)))else some pJ else none else none else some pJ)(h5:∀(x1:Int) (eU:List U) (r16:Int) (m:Nat) (ny:Int),Qi x1 eU r16 (m+1) ny=bif decide (r16<=ny) then bif decide (0<=x1/\x1< (eU.length:Int)) then (aG eU x1).bind fun (gD:U)=>bif decide (0<=ny/\ny< (eU.length:Int)) then (aG eU ny).bind fun (jR:U)=>
      K gD jR fun (BF:Bool)=>bif BF then Qi x1 eU r16 m (wrap .i64 (ny-(1:Int)))else some ny else none else none else some ny)(hM:∀(x1:Int) (m:Nat) (bU x10:Int) (eU:List U),KZ x1 (m+1) ((bU,x10),eU)=
   (E3 x1 x10 eU n bU).bind fun (r16:Int)=>(Qi x1 eU r16 n x10).bind fun (oG:Int)=>bif decide (r16>oG) then some ((r16,eU))else bif decide (0<=oG/\oG< (eU.length:Int)) then (aG eU oG).bind fun (wz:U)=>bif decide (0<=r16/\r16< (eU.length:Int)) then (aG eU r16).bind fun (tN:U)=>bif decide (0<=r16/\r16< (eU.length:Int)) then (aG eU r16).bind fun (lI:U)=>bif decide (0<=oG/\oG< (((bf eU r16 wz).length:Nat):Int)) then (aG (bf eU r16 wz) oG).bind fun (yY:U)=>
        KZ x1 m (((wrap .i64 (r16+(1:Int)),wrap .i64 (oG-(1:Int))),bf (bf eU r16 wz) oG tN))else none else none else none else none)(hP:∀(x1 x2 x3:Int) (x4:List U),peq (((),(x1,(x2,(x3,((),())))))) (x4)=bif decide (0<=x3/\x3< (x4.length:Int)) then (aG x4 x3).bind fun (r5:U)=>bif decide (0<=x1/\x1< (x4.length:Int)) then (aG x4 x1).bind fun (r6:U)=>bif decide (0<=x1/\x1< (x4.length:Int)) then (aG x4 x1).bind fun (r7:U)=>bif decide (0<=x3/\x3< (((bf x4 x1 r5).length:Nat):Int)) then (aG (bf x4 x1 r5) x3).bind fun (r8:U)=>(KZ x1 n (((wrap .i64 (x1+(1:Int)),wrap .i64 (x2-(1:Int))),bf (bf x4 x1 r5) x3 r6))).bind fun (oQ:Int×List U)=>some ((oQ.1,oQ.2))else none else none else none else none)
include hc h3 h5 hM
theorem aEw {a b:Int}{l:List U}{i j:Int}{m:Nat}(h0:0<=a)(hbl:b<=l.length)(hb:l.length<2^57)(hal:kG Ok l)(hn:(b-a).toNat<n)(h1:a<i)(h2:j<b)(hij:i<=j+1)(hl:∀k,a<k->k<i->¬lt (aL d l a) (aL d l k))(hr:∀k,j<k->k<b->lt (aL d l a) (aL d l k))(hm:(j+1-i).toNat<m):
 ∃r,KZ a m ((i,j),l)=some r/\a<r.1/\r.1<=b/\eF d a b l r.2/\aL d r.2 a=aL d l a/\(∀k,a<k->k<r.1->¬lt (aL d r.2 a) (aL d r.2 k))/\(∀k,r.1<=k->k<b->lt (aL d r.2 a) (aL d r.2 k)):=by
 refine mu (τ:=(Int×Int)×List U) (L:=KZ a) (fun p=>a<p.1.1/\p.1.2<b/\p.1.1<=p.1.2+1/\eF d a b l p.2/\aL d p.2 a=aL d l a/\(∀k,a<k->k<p.1.1->¬lt (aL d p.2 a) (aL d p.2 k))/\(∀k,p.1.2<k->k<b->lt (aL d p.2 a) (aL d p.2 k))) (fun p=>(p.1.2+1-p.1.1).toNat) _ ?_ m ((i,j),l)
  ⟨h1,h2,hij,.refl _ _ _ _,rfl,hl,hr⟩ hm
 rintro m ⟨⟨i,j⟩,D⟩ ⟨i1,i2,i3,i4,i5,i6,i7⟩ gV;dsimp only at i1 i2 i3 i4 i5 i6 i7 gV⊢;have hl:=i4.len;have jS:=i4.al hal;rw[hM];refine tB (VF (L:=E3 a j D) (T:=fun x=>¬lt (aL d D a) (aL d D x)) (i:=i) (j:=j) (fun m x Q k1 k2 ht hf=>?_) (fun m x k1=>?_) i3 RS) fun i'=>?_
 .rw[h3];refine tD (fun _=>tI RS RS (tE (dD d RS RS) (tI RS RS (tE (dD d RS RS) (tM hc (jS.at d RS RS) (jS.at d RS RS) fun r hr=>D7 (fun h=>?_) (fun h=>tS (hf fun k=>k (hr.1 h)))))))) (fun h=>RS);rw[wr RS RS];exact ht fun k=>h (hr.2 k)
 .rw[h3,decide_eq_false RS];rfl
 rintro⟨u1,u2,u3,u4⟩;refine tB (afL (L:=Qi a D i') (T:=fun x=>lt (aL d D a) (aL d D x)) (i:=i') (j:=j) (fun m x Q k1 k2 ht hf=>?_) (fun m x k1=>?_) u2 RS) fun j'=>?_
 .rw[h5];refine tD (fun _=>tI RS RS (tE (dD d RS RS) (tI RS RS (tE (dD d RS RS) (tM hc (jS.at d RS RS) (jS.at d RS RS) fun r hr=>tD (fun h=>?_) (fun h=>tS (hf fun k=>h (hr.2 k)))))))) (fun h=>RS);rw[wr RS RS];exact ht (hr.1 h)
 .rw[h5,decide_eq_false RS];rfl
 rintro⟨v1,v2,v3,v4⟩;have left:∀k,a<k->k<i'->¬lt (aL d D a) (aL d D k):=fun k k1 k2=>by
  by_cases e:k<i
  .exact i6 k k1 e
  .exact u3 k RS k2
 have right:∀k,j'<k->k<b->lt (aL d D a) (aL d D k):=fun k k1 k2=>by
  by_cases e:j<k
  .exact i7 k e k2
  .exact v3 k k1 RS
 refine tD (fun hgt=>tS ⟨RS,RS,i4,i5,left,fun k k1 k2=>right k RS k2⟩) (fun hgt=>?_);have t1:lt (aL d D a) (aL d D i'):=Classical.byContradiction (u4 RS);have t2:=v4 RS;have hne:i'≠j':=fun e=>t2 (by rw[<-e];exact t1);refine tI RS ig (tE (dD d RS ig) ?_);refine tI RS ig (tE (dD d RS ig) ?_);refine tI RS ig (tE (dD d RS ig) ?_);refine tI RS ig (tE (dD d RS ig) ?_);rw[wr RS RS,wr RS RS];have l9:∀k,0<=k->aL d (swp d D i' j') k=if k=j' then aL d D i' else if k=i' then aL d D j' else aL d D k:=fun k hk=>qg RS RS RS RS hk
 have sa:aL d (swp d D i' j') a=aL d D a:=by rw[l9 a h0,if_neg RS,if_neg RS]
 refine gV ((i'+1,j'-1),swp d D i' j') ⟨dz,dz,dz,i4.swp h0 RS RS RS RS RS,sa.trans i5,fun k k1 k2=>?_,fun k k1 k2=>?_⟩ dz
 .dsimp only at k2⊢;rw[sa,l9 k RS,if_neg RS];by_cases e:k=i'
  .rw[if_pos e];exact t2
  .rw[if_neg e];exact left k k1 RS
 .dsimp only at k1⊢;rw[sa,l9 k RS];by_cases e:k=j'
  .rw[if_pos e];exact t1
  .rw[if_neg e,if_neg RS];exact right k RS k2
include hP
theorem aEx {a b p:Int}{l:List U}(h0:0<=a)(hbl:b<=l.length)(hb:l.length<2^57)(hal:kG Ok l)(hn:(b-a).toNat+1<n)(h1:a<=p)(h2:p<b):
 ∃r,peq ((),a,b,p,((),())) l=some r/\a<r.1/\r.1<=b/\eF d a b l r.2/\aL d r.2 a=aL d l p/\(∀k,a<k->k<r.1->¬lt (aL d r.2 a) (aL d r.2 k))/\(∀k,r.1<=k->k<b->lt (aL d r.2 a) (aL d r.2 k)):=by
 rw[hP];refine tI RS ig (tE (dD d RS ig) ?_);refine tI RS ig (tE (dD d RS ig) ?_);refine tI RS ig (tE (dD d RS ig) ?_);refine tI RS ig (tE (dD d RS ig) ?_);rw[wr RS RS,wr RS RS];have r0:eF d a b l (swp d l a p):=(eF.refl d a b l).swp h0 hbl RS RS h1 h2;have hl:=r0.len;have jS:=r0.al hal;refine tB (aEw hc h3 h5 hM (n:=n) (d:=d) (a:=a) (b:=b) (l:=swp d l a p) (i:=a+1) (j:=b-1) (m:=n) h0 RS RS jS RS RS RS RS (fun k k1 k2=>RS) (fun k k1 k2=>RS) RS) fun r=>?_;rintro⟨q1,q2,q3,q4,q5,q6⟩;refine tS ⟨q1,q2,r0.trans q3,q4.trans ?_,q5,q6⟩;rw[qg RS RS RS RS h0];by_cases e:a=p
 .rw[if_pos e,e]
 .rw[if_neg e,if_pos rfl]
end
end tQ
end
section
open Go aQ
namespace tQ
variable {U:Type}
section
variable {n:Nat}{d:U}{Ok:U->Prop}{lt:U->U->Prop}{K:{β:Type}->U->U->(Bool->Option β)->Option β}(hc:Af Ok lt K)(ho:Ord lt){Qj:Int->Int->Int->(List U)->Nat->Int->Option (Int)}{K3:Int->Int->Int->Int->Nat->(Int×List U)->Option (PUnit×List U)}{K4:Int->Int->Int->Int->Nat->(Int×List U)->Option (PUnit×List U)}{IM:Int->Int->Nat->((Int×Int)×List U)->Option ((PUnit×List U)⊕(Bool×List U))}{pin:Unit×Int×Int×(Unit×Unit)->List U->Option (Bool×List U)}(h5:∀(x1 x2 x5:Int) (x6:List U) (m:Nat) (x7:Int),Qj x1 x2 x5 x6 (m+1) x7=bif decide (x7<x2) then bif decide (0<=x7/\x7< (x6.length:Int)) then (aG x6 x7).bind fun (r8:U)=>bif decide (0<=(wrap .i64 (x7-(1:Int)))/\(wrap .i64 (x7-(1:Int)))< (x6.length:Int)) then (aG x6 (wrap .i64 (x7-(1:Int)))).bind fun (cK:U)=>
      K r8 cK fun (dB:Bool)=>bif !(dB) then Qj x1 x2 x5 x6 m (wrap .i64 (x7+(1:Int)))else some x7 else none else none else some x7)(Qk:∀(x1 x2 x5 bG:Int) (m:Nat) (kN:Int) (ny:List U),K3 x1 x2 x5 bG (m+1) (kN,ny)=bif decide (kN>=(1:Int)) then bif decide (0<=kN/\kN< (ny.length:Int)) then (aG ny kN).bind fun (gD:U)=>bif decide (0<=(wrap .i64 (kN-(1:Int)))/\(wrap .i64 (kN-(1:Int)))< (ny.length:Int)) then (aG ny (wrap .i64 (kN-(1:Int)))).bind fun (jR:U)=>
      K gD jR fun (BF:Bool)=>bif !(BF) then some (((),ny))else bif decide (0<=(wrap .i64 (kN-(1:Int)))/\(wrap .i64 (kN-(1:Int)))< (ny.length:Int)) then (aG ny (wrap .i64 (kN-(1:Int)))).bind fun (oG:U)=>bif decide (0<=kN/\kN< (ny.length:Int)) then (aG ny kN).bind fun (wz:U)=>bif decide (0<=kN/\kN< (ny.length:Int)) then (aG ny kN).bind fun (tN:U)=>bif decide (0<=(wrap .i64 (kN-(1:Int)))/\(wrap .i64 (kN-(1:Int)))< (((bf ny kN oG).length:Nat):Int)) then (aG (bf ny kN oG) (wrap .i64 (kN-(1:Int)))).bind fun (lI:U)=>
           K3 x1 x2 x5 bG m ((wrap .i64 (kN-(1:Int)),bf (bf ny kN oG) (wrap .i64 (kN-(1:Int))) wz))else none else none else none else none else none else none else some (((),ny)))(h20:∀(x1 x2 x5 bG:Int) (m:Nat) (x27:Int) (x28:List U),K4 x1 x2 x5 bG (m+1) (x27,x28)=bif decide (x27<x2) then bif decide (0<=x27/\x27< (x28.length:Int)) then (aG x28 x27).bind fun (sw:U)=>bif decide (0<=(wrap .i64 (x27-(1:Int)))/\(wrap .i64 (x27-(1:Int)))< (x28.length:Int)) then (aG x28 (wrap .i64 (x27-(1:Int)))).bind fun (PY:U)=>
      K sw PY fun (Gl:Bool)=>bif !(Gl) then some (((),x28))else bif decide (0<=(wrap .i64 (x27-(1:Int)))/\(wrap .i64 (x27-(1:Int)))< (x28.length:Int)) then (aG x28 (wrap .i64 (x27-(1:Int)))).bind fun (r32:U)=>bif decide (0<=x27/\x27< (x28.length:Int)) then (aG x28 x27).bind fun (afM:U)=>bif decide (0<=x27/\x27< (x28.length:Int)) then (aG x28 x27).bind fun (qb:U)=>bif decide (0<=(wrap .i64 (x27-(1:Int)))/\(wrap .i64 (x27-(1:Int)))< (((bf x28 x27 r32).length:Nat):Int)) then (aG (bf x28 x27 r32) (wrap .i64 (x27-(1:Int)))).bind fun (aog:U)=>
           K4 x1 x2 x5 bG m ((wrap .i64 (x27+(1:Int)),bf (bf x28 x27 r32) (wrap .i64 (x27-(1:Int))) afM))else none else none else none else none else none else none else some (((),x28)))(hM:∀(x1 x2:Int) (m:Nat) (x4 x5:Int) (x6:List U),IM x1 x2 (m+1) ((x4,x5),x6)=bif decide (x5< (5:Int)) then (Qj x1 x2 x5 x6 n x4).bind fun (bG:Int)=>bif bG==x2 then some (.inr ((true,x6)))else bif decide ((wrap .i64 (x2-x1))< (50:Int)) then some (.inr ((false,x6)))else bif decide (0<=(wrap .i64 (bG-(1:Int)))/\(wrap .i64 (bG-(1:Int)))< (x6.length:Int)) then (aG x6 (wrap .i64 (bG-(1:Int)))).bind fun (gP:U)=>bif decide (0<=bG/\bG< (x6.length:Int)) then (aG x6 bG).bind fun (eO:U)=>bif decide (0<=bG/\bG< (x6.length:Int)) then (aG x6 bG).bind fun (fF:U)=>bif decide (0<=(wrap .i64 (bG-(1:Int)))/\(wrap .i64 (bG-(1:Int)))< (((bf x6 bG gP).length:Nat):Int)) then (aG (bf x6 bG gP) (wrap .i64 (bG-(1:Int)))).bind fun (kE:U)=>
          Option.bind (α:=PUnit×List U) ( bif decide ((wrap .i64 (bG-x1))>=(2:Int)) then (K3 x1 x2 x5 bG n ((wrap .i64 (bG-(1:Int)),bf (bf x6 bG gP) (wrap .i64 (bG-(1:Int))) eO))).bind fun (yY:PUnit×List U)=>some (((),yY.2))else some (((),bf (bf x6 bG gP) (wrap .i64 (bG-(1:Int))) eO))) fun (oQ:PUnit×List U)=>bif decide ((wrap .i64 (x2-bG))>=(2:Int)) then (K4 x1 x2 x5 bG n ((wrap .i64 (bG+(1:Int)),oQ.2))).bind fun (afN:PUnit×List U)=>
           IM x1 x2 m (((bG,wrap .i64 (x5+(1:Int))),afN.2))else IM x1 x2 m (((bG,wrap .i64 (x5+(1:Int))),oQ.2))else none else none else none else none else some (.inl (((),x6))))(hP:∀(x1 x2:Int) (x3:List U),pin (((),(x1,(x2,((),()))))) (x3)=
   (IM x1 x2 n (((wrap .i64 (x1+(1:Int)),(0:Int)),x3))).bind fun (afO:(PUnit×List U)⊕(Bool×List U))=>
   Sum.elim (fun (aEy:PUnit×List U)=>some ((false,aEy.2)))
    (fun (aoK:Bool×List U)=>some ((aoK.1,aoK.2))) afO)
include hc ho Qk
theorem aEz {a b c r:Int}{D:List U}{m:Nat}(h0:0<=a)(h1:a<r)(h2:r<=D.length)(hb:D.length<2^57)(hal:kG Ok D)(hs:lJ lt d a (r-1) D)(hp:0<a->∀k,a<=k->k<r->¬lt (aL d D k) (aL d D (a-1)))(hm:(r-a).toNat<m):
 ∃s,K3 a b c r m (r-1,D)=some s/\eF d a r D s.2/\lJ lt d a r s.2:=by
 refine mu (τ:=Int×List U) (L:=K3 a b c r) (fun p=>a<=p.1/\p.1<=r-1/\eF d a r D p.2/\(∀u v,a<=u->u<v->v<=r-1->u≠p.1->v≠p.1->¬lt (aL d p.2 v) (aL d p.2 u))/\(∀v,p.1<v->v<=r-1->¬lt (aL d p.2 v) (aL d p.2 p.1))) (fun p=>(p.1-a).toNat) _ ?_ m (r-1,D)
  ⟨dz,lN _,.refl _ _ _ _,fun u v k1 k2 k3 k4 k5=>hs u v k1 k2 (by dsimp only at k5;omega),fun v k1 k2=>by dsimp only at k1;omega⟩ dz
 rintro m ⟨j,D'⟩ ⟨i1,i2,i3,i4,i5⟩ gV;dsimp only at i1 i2 i3 i4 i5 gV⊢;have hl:=i3.len;have jS:=i3.al hal;rw[Qk];simp (disch:=omega) only[wr];have fin:(j=a\/¬lt (aL d D' j) (aL d D' (j-1)))->lJ lt d a r D':=fun hh u v k1 k2 k3=>by
  by_cases e2:u=j
  .rw[e2];exact i5 v RS RS
  .by_cases e1:v=j
   .have hj:a<j:=RS;have hlt:¬lt (aL d D' j) (aL d D' (j-1)):=by
     rcases hh with h|h
     .omega
     .exact h
    rw[e1];by_cases e3:u=j-1
    .rw[e3];exact hlt
    .exact ho.neg _ _ _ hlt (i4 u (j-1) k1 RS RS e2 RS)
   .exact i4 u v k1 k2 RS e2 e1
 refine tD (fun hj=>?_) (fun hj=>tS ⟨i3,fin (.inl RS)⟩);refine tI RS RS (tE (dD d RS RS) (tI RS RS (tE (dD d RS RS) (tM hc (jS.at d RS RS) (jS.at d RS RS) fun q hq=>?_))));refine D7 (fun h=>tS ⟨i3,fin (.inr fun k=>h (hq.2 k))⟩) (fun h=>?_);have hlt:=hq.1 h;have hja:a<j:=by
  rcases Int.lt_or_eq_of_le i1 with h|h
  .exact h
  .exfalso;rw[<-h] at hlt;have h3:=i3.all (fun x=>¬lt x (aL d D (a-1))) (hp RS) a (lN _) h1;rw[i3.out (a-1) RS (.inl RS)] at hlt;exact h3 hlt
 refine tI RS ji (tE (dD d RS ji) ?_);refine tI RS ji (tE (dD d RS ji) ?_);refine tI RS ji (tE (dD d RS ji) ?_);refine tI RS ji (tE (dD d RS ji) ?_);refine gV (j-1,swp d D' j (j-1)) ⟨dz,dz,i3.swp h0 RS RS RS RS RS,fun u v k1 k2 k3 k4 k5=>?_,fun v k1 k2=>?_⟩ dz
 .dsimp only at k4 k5⊢;rw[qg RS RS RS RS RS,qg RS RS RS RS RS,if_neg k5,if_neg k4];by_cases e1:v=j
  .rw[if_pos e1];by_cases e2:u=j
   .omega
   .rw[if_neg e2];exact i4 u (j-1) k1 RS RS e2 RS
  .rw[if_neg e1];by_cases e2:u=j
   .rw[if_pos e2];exact i4 (j-1) v RS RS k3 RS e1
   .rw[if_neg e2];exact i4 u v k1 k2 k3 e2 e1
 .dsimp only at k1 k2⊢;rw[qg RS RS RS RS RS,qg RS RS RS RS RS,if_neg RS,if_pos rfl];by_cases e1:v=j
  .rw[if_pos e1];exact ho.asym _ _ hlt
  .rw[if_neg e1];exact i5 v RS k2
omit Qk ho
include h20
theorem aEA {a b c r:Int}{D:List U}{m:Nat}(h0:0<=r)(h2:b<=D.length)(hb:D.length<2^57)(hal:kG Ok D)(hm:(b-r).toNat<m):
 ∃s,K4 a b c r m (r+1,D)=some s/\eF d r b D s.2:=by
 refine mu (τ:=Int×List U) (L:=K4 a b c r) (fun p=>r<p.1/\eF d r b D p.2) (fun p=>(b-p.1).toNat) _ ?_ m (r+1,D) ⟨dz,.refl _ _ _ _⟩ dz;rintro m ⟨j,D'⟩ ⟨i1,i3⟩ gV;dsimp only at i1 i3 gV⊢;have hl:=i3.len;have jS:=i3.al hal;rw[h20];refine tD (fun hj=>?_) (fun hj=>tS i3);simp (disch:=omega) only[wr];refine tI RS RS (tE (dD d RS RS) (tI RS RS (tE (dD d RS RS) (tM hc (jS.at d RS RS) (jS.at d RS RS) fun q hq=>?_))));refine D7 (fun h=>tS i3) (fun h=>?_);refine tI RS ji (tE (dD d RS ji) ?_);refine tI RS ji (tE (dD d RS ji) ?_);refine tI RS ji (tE (dD d RS ji) ?_);refine tI RS ji (tE (dD d RS ji) ?_);exact gV (j+1,swp d D' j (j-1)) ⟨dz,i3.swp h0 RS RS RS RS RS⟩ dz
include ho h5 Qk hM hP
theorem aEB {a b:Int}{l:List U}(h0:0<=a)(hab:a<b)(hbl:b<=l.length)(hb:l.length<2^57)(hal:kG Ok l)(hn:(b-a).toNat+8<n)(hp:0<a->∀k,a<=k->k<b->¬lt (aL d l k) (aL d l (a-1))):
 ∃r,pin ((),a,b,((),())) l=some r/\eF d a b l r.2/\(r.1=true->lJ lt d a b r.2):=by
 rw[hP];refine tB (Q:=fun s=>Sum.elim (fun q:PUnit×List U=>eF d a b l q.2) (fun q:Bool×List U=>eF d a b l q.2/\(q.1=true->lJ lt d a b q.2)) s) ?_ fun s=>?_
 .rw[wr RS RS];refine mu (τ:=(Int×Int)×List U) (L:=IM a b) (fun p=>a<p.1.1/\p.1.1<=b/\0<=p.1.2/\p.1.2<=5/\eF d a b l p.2/\lJ lt d a p.1.1 p.2) (fun p=>(5-p.1.2).toNat) _ ?_ n ((a+1,0),l) ⟨dz,dz,lN _,dz,.refl _ _ _ _,fun u v k1 k2 k3=>by dsimp only at k3;omega⟩ dz;rintro m ⟨⟨i,j⟩,D⟩ ⟨i1,i2,i3,i4,i5,i6⟩ gV;dsimp only at i1 i2 i3 i4 i5 i6 gV⊢;have hl:=i5.len;have jS:=i5.al hal;rw[hM];refine tD (fun hj=>?_) (fun hj=>tS i5);refine tB (VF (L:=Qj a b j D) (T:=fun x=>¬lt (aL d D x) (aL d D (x-1))) (i:=i) (j:=b-1) (fun m x Q k1 k2 ht hf=>?_) (fun m x k1=>?_) RS RS) fun r=>?_
  .rw[h5];simp (disch:=omega) only[wr];exact tD (fun _=>tI RS RS (tE (dD d RS RS) (tI RS RS (tE (dD d RS RS) (tM hc (jS.at d RS RS) (jS.at d RS RS) fun r hr=>D7 (fun h=>ht fun k=>h (hr.2 k)) (fun h=>tS (hf fun k=>k (hr.1 h)))))))) (fun h=>RS)
  .rw[h5,decide_eq_false RS];rfl
  rintro⟨u1,u2,u3,u4⟩;have hsr:lJ lt d a r D:=lJ.aEl ho fun k k1 k2=>by
   by_cases e:k<i
   .exact i6 (k-1) k RS RS e
   .exact u3 k RS k2
  refine D8 (fun e=>?_) (fun e=>?_)
  .have e':r=b:=by simpa using e
   rw[e'] at hsr;exact tS ⟨i5,fun _=>hsr⟩
  .have e':¬r=b:=by simpa using e
   refine tD (fun _=>tS ⟨i5,fun h=>cZ⟩) (fun _=>?_);simp (disch:=omega) only[wr];refine tI RS ji (tE (dD d RS ji) ?_);refine tI RS ji (tE (dD d RS ji) ?_);refine tI RS ji (tE (dD d RS ji) ?_);refine tI RS ji (tE (dD d RS ji) ?_);have s1:eF d a b l (swp d D r (r-1)):=i5.swp h0 RS RS RS RS RS;have hl1:=s1.len;refine tB (Q:=fun s:PUnit×List U=>eF d a b l s.2/\lJ lt d a r s.2) ?_ fun s=>?_
   .refine tD (fun h2=>?_) (fun h2=>tS ⟨s1,fun u v k1 k2 k3=>RS⟩);refine tB (aEz hc ho Qk (d:=d) (b:=b) (c:=j) (r:=r) (D:=swp d D r (r-1)) h0 RS RS RS (s1.al hal) (fun u v k1 k2 k3=>?_) (fun ha k k1 k2=>?_) RS) fun s=>?_
    .rw[qg RS RS RS RS RS,qg RS RS RS RS RS,if_neg RS,if_neg RS,if_neg RS,if_neg RS];exact hsr u v k1 k2 RS
    .rw[s1.out (a-1) RS (.inl RS)];exact s1.all (fun x=>¬lt x (aL d l (a-1))) (hp ha) k k1 RS
    .rintro⟨q1,q2⟩;exact tS ⟨s1.trans (q1.wide (lN _) RS h0),q2⟩
   .rintro⟨q1,q2⟩;have hl2:=q1.len;refine tD (fun h2=>?_) (fun h2=>?_)
    .refine tB (aEA hc h20 (d:=d) (a:=a) (b:=b) (c:=j) (r:=r) (D:=s.2) RS RS RS (q1.al hal) RS) fun t=>?_;intro t1;refine gV ((r,j+1),t.2) ⟨dz,dz,dz,dz,q1.trans (t1.wide RS (lN _) h0),fun u v k1 k2 k3=>?_⟩ dz;dsimp only at k3⊢;rw[t1.out u RS (.inl RS),t1.out v RS (.inl RS)];exact q2 u v k1 k2 k3
    .exact gV ((r,j+1),s.2) ⟨dz,dz,dz,dz,q1,q2⟩ dz
 .intro hs;rcases s with s|s
  .exact tS ⟨hs,fun h=>cZ⟩
  .exact tS hs
end
theorem aEC {x y:Int}(h0:0<=y)(h1:y<2^62):0<=iJ .u64 x y/\iJ .u64 x y<=y:=by
 have e:iJ .u64 x y=wrap .u64 (((BitVec.ofInt 64 x&&& BitVec.ofInt 64 y).toNat:Nat):Int):=rfl;have h2:(BitVec.ofInt 64 x&&& BitVec.ofInt 64 y).toNat<=(BitVec.ofInt 64 y).toNat:=by rw[BitVec.toNat_and];exact Nat.and_le_right
 have h3:(BitVec.ofInt 64 y).toNat=y.toNat:=by rw[BitVec.toNat_ofInt];omega
 rw[e,IntKind.wrap_u64];omega
section
variable {n:Nat}{d:U}{np:Int->Option Int}{xs:Unit->Int->Option (Int×Int)}(hN:∀k,8<=k->k<131072->∃M,np k=some M/\0<M/\M<=2*k)(hX:∀x,∃r,xs () x=some r){B5:Int->Int->Int->Nat->(Int×Int×List U)->Option (PUnit×List U)}{brk:Unit×Int×Int×(Unit×Unit)->List U->Option (PUnit×List U)}(h5:∀(x1 x2 r4:Int) (m:Nat) (x5 x6:Int) (x7:List U),B5 x1 x2 r4 (m+1) (x5,(x6,x7))=bif !((4:Int)==(0:Int)) then bif decide (x5<=(wrap .i64 ((wrap .i64 (x1+(wrap .i64 ((wrap .i64 (Int.tdiv (wrap .i64 (x2-x1)) (4:Int)))*(2:Int)))))+(1:Int)))) then (xs (()) x6).bind fun (r8:Int×Int)=>
     Option.bind (α:=Int) ( bif decide ((wrap .i64 (iJ .u64 r8.1 (wrap .u64 (r4-(1:Int)))))>=(wrap .i64 (x2-x1))) then some (wrap .i64 ((wrap .i64 (iJ .u64 r8.1 (wrap .u64 (r4-(1:Int)))))-(wrap .i64 (x2-x1))))else some (wrap .i64 (iJ .u64 r8.1 (wrap .u64 (r4-(1:Int)))))) fun (cK:Int)=>bif decide (0<=(wrap .i64 (x1+cK))/\(wrap .i64 (x1+cK))< (x7.length:Int)) then (aG x7 (wrap .i64 (x1+cK))).bind fun (dB:U)=>bif decide (0<=x5/\x5< (x7.length:Int)) then (aG x7 x5).bind fun (bG:U)=>bif decide (0<=x5/\x5< (x7.length:Int)) then (aG x7 x5).bind fun (gP:U)=>bif decide (0<=(wrap .i64 (x1+cK))/\(wrap .i64 (x1+cK))< (((bf x7 x5 dB).length:Nat):Int)) then (aG (bf x7 x5 dB) (wrap .i64 (x1+cK))).bind fun (eO:U)=>
         B5 x1 x2 r4 m ((wrap .i64 (x5+(1:Int)),(r8.2,bf (bf x7 x5 dB) (wrap .i64 (x1+cK)) bG)))else none else none else none else none else some (((),x7))else none)(hP:∀(x1 x2:Int) (x3:List U),brk (((),(x1,(x2,((),()))))) (x3)=bif decide ((wrap .i64 (x2-x1))>=(8:Int)) then (np (wrap .i64 (x2-x1))).bind fun (r4:Int)=>bif !((4:Int)==(0:Int)) then (B5 x1 x2 r4 n ((wrap .i64 ((wrap .i64 (x1+(wrap .i64 ((wrap .i64 (Int.tdiv (wrap .i64 (x2-x1)) (4:Int)))*(2:Int)))))-(1:Int)),(wrap .u64 (wrap .i64 (x2-x1)),x3)))).bind fun (fF:PUnit×List U)=>some (((),fF.2))else none else some (((),x3)))
include hN hX h5 hP
theorem aED {a b:Int}{l:List U}(h0:0<=a)(hab:a<=b)(hbl:b<=l.length)(hb:l.length<131072)(hn:8<n):
 ∃r,brk ((),a,b,((),())) l=some r/\eF d a b l r.2:=by
 have ht:Int.tdiv (b-a) 4=(b-a)/4:=Int.tdiv_eq_ediv_of_nonneg RS;rw[hP];simp (disch:=omega) only[wr];refine tD (fun h8=>?_) (fun h8=>tS (.refl _ _ _ _));obtain⟨M,e,m1,m2⟩:=hN (b-a) h8 RS;refine tE e (tG aK ?_);simp (disch:=omega) only[wr,ht];refine tB (Q:=fun s:PUnit×List U=>eF d a b l s.2) ?_ fun s hs=>tS hs;generalize wrap .u64 (b-a)=z;refine mu (τ:=Int×Int×List U) (L:=B5 a b M) (fun p=>a+(b-a)/4*2-1<=p.1/\p.1<=a+(b-a)/4*2+2/\eF d a b l p.2.2) (fun p=>(a+(b-a)/4*2+2-p.1).toNat) _ ?_ n (a+(b-a)/4*2-1,(z,l)) ⟨lN _,dz,.refl _ _ _ _⟩ dz;rintro m ⟨x,y,D⟩ ⟨i1,i2,i3⟩ gV;dsimp only at i1 i2 i3 gV⊢;have hl:=i3.len;rw[h5];refine tG aK ?_;simp (disch:=omega) only[wr,ht];refine tD (fun hx=>?_) (fun hx=>tS i3);obtain⟨q,hq⟩:=hX y;refine tE hq ?_;have hw:wrap .u64 (M-1)=M-1:=Ld
 rw[hw];obtain⟨b1,b2⟩:=aEC (x:=q.1) (y:=M-1) RS RS;generalize iJ .u64 q.1 (M-1)=v at*;simp (disch:=omega) only[wr];refine tB (Q:=fun o:Int=>0<=o/\o<b-a) ?_ fun o=>?_
 .exact tD (fun h=>tS RS) (fun h=>tS RS)
 .rintro⟨o1,o2⟩;simp (disch:=omega) only[wr];refine tI RS ji (tE (dD d RS ji) ?_);refine tI RS ji (tE (dD d RS ji) ?_);refine tI RS ji (tE (dD d RS ji) ?_);refine tI RS ji (tE (dD d RS ji) ?_);exact gV (x+1,(q.2,swp d D x (a+o))) ⟨dz,dz,i3.swp h0 RS RS RS RS RS⟩ dz
end
section
variable {n:Nat}(d:U){Ok:U->Prop}{lt:U->U->Prop}{K:{β:Type}->U->U->(Bool->Option β)->Option β}(hc:Af Ok lt K){o2:List U×Int×Int×Unit×Unit×Unit->Int->Option ((Int×Int)×Int)}{med:List U×Int×Int×Int×Unit×Unit×Unit->Int->Option (Int×Int)}{K5:List U×Int×Unit×Unit×Unit->Int->Option (Int×Int)}{Gr:List U×Int×Int×Unit×Unit->Option (Int×Int)}(h2:∀(x1:List U) (x2 x3 x4:Int),o2 ((x1,(x2,(x3,((),((),())))))) (x4)=
   (aG x1 x3).bind fun (r5:U)=>(aG x1 x2).bind fun (r6:U)=>
   K r5 r6 fun (r7:Bool)=>bif r7 then some (((x3,x2),wrap .i64 (x4+(1:Int))))else some (((x2,x3),x4)))(h3:∀(x1:List U) (x2 x3 x4 x5:Int),med ((x1,(x2,(x3,(x4,((),((),()))))))) (x5)=
   (o2 ((x1,(x2,(x3,((),((),())))))) x5).bind fun (r6:(Int×Int)×Int)=>(o2 ((x1,(r6.1.2,(x4,((),((),())))))) r6.2).bind fun (r7:(Int×Int)×Int)=>(o2 ((x1,(r6.1.1,(r7.1.1,((),((),())))))) r7.2).bind fun (r8:(Int×Int)×Int)=>some ((r8.1.2,r8.2)))(h4:∀(x1:List U) (x2 x3:Int),K5 ((x1,(x2,((),((),()))))) (x3)=
   (med ((x1,(wrap .i64 (x2-(1:Int)),(x2,(wrap .i64 (x2+(1:Int)),((),((),()))))))) x3).bind fun (r4:Int×Int)=>some ((r4.1,r4.2)))(hP:∀(x1:List U) (x2 x3:Int),Gr (x1,(x2,(x3,((),()))))=bif !((4:Int)==(0:Int)) then bif !((4:Int)==(0:Int)) then bif !((4:Int)==(0:Int)) then bif decide ((wrap .i64 (x3-x2))>=(8:Int)) then bif decide ((wrap .i64 (x3-x2))>=(50:Int)) then (K5 ((x1,(wrap .i64 (x2+(wrap .i64 ((wrap .i64 (Int.tdiv (wrap .i64 (x3-x2)) (4:Int)))*(1:Int)))),((),((),()))))) (0:Int)).bind fun (r4:Int×Int)=>(K5 ((x1,(wrap .i64 (x2+(wrap .i64 ((wrap .i64 (Int.tdiv (wrap .i64 (x3-x2)) (4:Int)))*(2:Int)))),((),((),()))))) r4.2).bind fun (r5:Int×Int)=>(K5 ((x1,(wrap .i64 (x2+(wrap .i64 ((wrap .i64 (Int.tdiv (wrap .i64 (x3-x2)) (4:Int)))*(3:Int)))),((),((),()))))) r5.2).bind fun (r6:Int×Int)=>(med ((x1,(r4.1,(r5.1,(r6.1,((),((),()))))))) r6.2).bind fun (r7:Int×Int)=>bif r7.2==(0:Int) then some ((r7.1,(1:Int)))else bif r7.2==(12:Int) then some ((r7.1,(2:Int)))else some ((r7.1,(0:Int)))else (med ((x1,(wrap .i64 (x2+(wrap .i64 ((wrap .i64 (Int.tdiv (wrap .i64 (x3-x2)) (4:Int)))*(1:Int)))),(wrap .i64 (x2+(wrap .i64 ((wrap .i64 (Int.tdiv (wrap .i64 (x3-x2)) (4:Int)))*(2:Int)))),(wrap .i64 (x2+(wrap .i64 ((wrap .i64 (Int.tdiv (wrap .i64 (x3-x2)) (4:Int)))*(3:Int)))),((),((),()))))))) (0:Int)).bind fun (r8:Int×Int)=>bif r8.2==(0:Int) then some ((r8.1,(1:Int)))else bif r8.2==(12:Int) then some ((r8.1,(2:Int)))else some ((r8.1,(0:Int)))else bif (0:Int)==(0:Int) then some ((wrap .i64 (x2+(wrap .i64 ((wrap .i64 (Int.tdiv (wrap .i64 (x3-x2)) (4:Int)))*(2:Int)))),(1:Int)))else bif (0:Int)==(12:Int) then some ((wrap .i64 (x2+(wrap .i64 ((wrap .i64 (Int.tdiv (wrap .i64 (x3-x2)) (4:Int)))*(2:Int)))),(2:Int)))else some ((wrap .i64 (x2+(wrap .i64 ((wrap .i64 (Int.tdiv (wrap .i64 (x3-x2)) (4:Int)))*(2:Int)))),(0:Int)))else none else none else none)
include d hc h2
theorem afR {l:List U}{x y z:Int}(hal:kG Ok l)(h1:0<=x)(h3:x<l.length)(h4:0<=y)(h5:y<l.length):∃r,o2 (l,x,y,(),(),()) z=some r/\((r.1.1=y/\r.1.2=x)\/(r.1.1=x/\r.1.2=y)):=by rw[h2];refine tE (dD d RS RS) (tE (dD d RS RS) (tM hc (hal.at d RS RS) (hal.at d RS RS) fun q hq=>?_));exact tD (fun _=>tS (.inl ⟨rfl,rfl⟩)) (fun _=>tS (.inr ⟨rfl,rfl⟩))
include h3
theorem afS {l:List U}{x y w z a b:Int}(hal:kG Ok l)(h0:0<=a)(hb:b<=l.length)(k1:a<=x/\x<b)(k2:a<=y/\y<b)(k3:a<=w/\w<b):∃r,med (l,x,y,w,(),(),()) z=some r/\a<=r.1/\r.1<b:=by
 rw[h3];refine tB (afR hc h2 (d:=d) hal RS RS RS RS) fun r hr=>?_;have r1:a<=r.1.1/\r.1.1<b/\a<=r.1.2/\r.1.2<b:=RS
 refine tB (afR hc h2 (d:=d) hal RS RS RS RS) fun s hs=>?_;have s1:a<=s.1.1/\s.1.1<b/\a<=s.1.2/\s.1.2<b:=RS
 refine tB (afR hc h2 (d:=d) hal RS RS RS RS) fun t ht=>?_;exact tS dz
include h4
theorem afT {l:List U}{x z a b:Int}(hal:kG Ok l)(h0:0<=a)(hb:b<=l.length)(hl:l.length<2^57)(k1:a<x/\x+1<b):∃r,K5 (l,x,(),(),()) z=some r/\a<=r.1/\r.1<b:=by rw[h4];simp (disch:=omega) only[wr];exact tB (afS hc h2 h3 (d:=d) (a:=a) (b:=b) hal h0 hb RS RS RS) fun r hr=>tS hr
include hP
theorem aEE {l:List U}{a b:Int}(hal:kG Ok l)(h0:0<=a)(hb:b<=l.length)(hl:l.length<2^57)(hab:12<b-a):∃r,Gr (l,a,b,(),())=some r/\a<=r.1/\r.1<b:=by
 have ht:Int.tdiv (b-a) 4=(b-a)/4:=Int.tdiv_eq_ediv_of_nonneg RS;rw[hP];refine tG aK (tG aK (tG aK ?_));simp (disch:=omega) only[wr,ht];have fin:∀q:Int×Int,a<=q.1/\q.1<b->∃r,(bif q.2==(0:Int) then some ((q.1,(1:Int))) else bif q.2==(12:Int) then some ((q.1,(2:Int))) else some ((q.1,(0:Int))))=some r/\a<=r.1/\r.1<b:=fun q hq=>D8 (fun _=>tS hq) (fun _=>D8 (fun _=>tS hq) (fun _=>tS hq));refine tD (fun _=>?_) (fun h=>RS);refine tD (fun h50=>?_) (fun _=>?_)
 .refine tB (afT hc h2 h3 h4 (d:=d) (a:=a) (b:=b) hal h0 hb hl RS) fun r hr=>?_;refine tB (afT hc h2 h3 h4 (d:=d) (a:=a) (b:=b) hal h0 hb hl RS) fun s hs=>?_;refine tB (afT hc h2 h3 h4 (d:=d) (a:=a) (b:=b) hal h0 hb hl RS) fun t ht=>?_;exact tB (afS hc h2 h3 (d:=d) (a:=a) (b:=b) hal h0 hb hr hs ht) fun u hu=>fin u hu
 .exact tB (afS hc h2 h3 (d:=d) (a:=a) (b:=b) hal h0 hb RS RS RS) fun u hu=>fin u hu
end
end tQ
end
section
open Go aQ
namespace tQ
variable {U:Type}
def Pa (lt:U->U->Prop)(d:U)(a b x y:Int)(l:List U):Prop:=∀u v,a<=u->u<v->v<b->(u<x\/y<=v)->¬lt (aL d l v) (aL d l u)
theorem Pa.rp {lt:U->U->Prop}{d:U}{a b x y:Int}{l l':List U}(h:Pa lt d a b x y l)(k:eF d x y l l')(ha:a<=x)(hb:y<=b)(h0:0<=a):Pa lt d a b x y l':=by
 intro u v k1 k2 k3 k4;by_cases e1:x<=u/\u<y
 .have hv:y<=v:=RS
  rw[k.out v RS (.inr hv)];exact k.all (fun z=>¬lt (aL d l v) z) (fun w w1 w2=>h w v RS RS k3 (.inr hv)) u e1.1 e1.2
 .rw[k.out u RS RS];by_cases e2:x<=v/\v<y
  .exact k.all (fun z=>¬lt z (aL d l u)) (fun w w1 w2=>h u w k1 RS RS (.inl RS)) v e2.1 e2.2
  .rw[k.out v RS RS];exact h u v k1 k2 k3 k4
theorem Pa.fin {lt:U->U->Prop}{d:U}{a b x y:Int}{l l':List U}(h:Pa lt d a b x y l)(k:eF d x y l l')(ha:a<=x)(hb:y<=b)(h0:0<=a)(hs:lJ lt d x y l'):lJ lt d a b l':=by
 intro u v k1 k2 k3;by_cases e:u<x\/y<=v
 .exact h.rp k ha hb h0 u v k1 k2 k3 e
 .exact hs u v RS k2 RS
section
variable {n:Nat}{d:U}{Ok:U->Prop}{lt:U->U->Prop}{K:{β:Type}->U->U->(Bool->Option β)->Option β}(hc:Af Ok lt K)(ho:Ord lt){ins heap brk rev:Unit×Int×Int×(Unit×Unit)->List U->Option (PUnit×List U)}{Gr:List U×Int×Int×Unit×Unit->Option (Int×Int)}{pin:Unit×Int×Int×(Unit×Unit)->List U->Option (Bool×List U)}{peq:Unit×Int×Int×Int×(Unit×Unit)->List U->Option (Int×List U)}{prt:Unit×Int×Int×Int×(Unit×Unit)->List U->Option ((Int×Bool)×List U)}(aoL:∀{a b:Int} {l:List U},0<=a->a<=b->b<=l.length->l.length<131072->kG Ok l->∃r,ins ((),a,b,((),())) l=some r/\eF d a b l r.2/\lJ lt d a b r.2)(aoM:∀{a b:Int} {l:List U},0<=a->a<=b->b<=l.length->l.length<131072->kG Ok l->∃r,heap ((),a,b,((),())) l=some r/\eF d a b l r.2/\lJ lt d a b r.2)(aoN:∀{a b:Int} {l:List U},0<=a->a<=b->b<=l.length->l.length<131072->∃r,brk ((),a,b,((),())) l=some r/\eF d a b l r.2)(aoO:∀{a b:Int} {l:List U},kG Ok l->0<=a->b<=l.length->l.length<131072->12<b-a->∃r,Gr (l,a,b,(),())=some r/\a<=r.1/\r.1<b)(aoP:∀{a b:Int} {l:List U},0<=a->a<=b->b<=l.length->l.length<131072->∃r,rev ((),a,b,((),())) l=some r/\eF d a b l r.2)(aoQ:∀{a b:Int} {l:List U},0<=a->a<b->b<=l.length->l.length<131072->kG Ok l->(0<a->∀k,a<=k->k<b->¬lt (aL d l k) (aL d l (a-1)))->∃r,pin ((),a,b,((),())) l=some r/\eF d a b l r.2/\(r.1=true->lJ lt d a b r.2))(aoR:∀{a b p:Int} {l:List U},0<=a->b<=l.length->l.length<131072->kG Ok l->a<=p->p<b->∃r,peq ((),a,b,p,((),())) l=some r/\a<r.1/\r.1<=b/\eF d a b l r.2/\aL d r.2 a=aL d l p/\(∀k,a<k->k<r.1->¬lt (aL d r.2 a) (aL d r.2 k))/\(∀k,r.1<=k->k<b->lt (aL d r.2 a) (aL d r.2 k)))(afU:∀{a b p:Int} {l:List U},0<=a->b<=l.length->l.length<131072->kG Ok l->a<=p->p<b->∃r,prt ((),a,b,p,((),())) l=some r/\Parts lt d a b r.1.1 l r.2){BL:Nat->Nat->(Int×Int×Int×Bool×Bool)×List U->Option (PUnit×List U)}{pd:Nat->Unit×Int×Int×Int×(Unit×Unit)->List U->Option (PUnit×List U)}(aoS:∀(g m:Nat) (x5 x6 x7:Int) (x8 bU:Bool) (x10:List U),BL g (m+1) ((x5,(x6,(x7,(x8,bU)))),x10)=bif decide ((wrap .i64 (x6-x5))<=(12:Int)) then (ins (((),(x5,(x6,((),()))))) x10).bind fun (bG:PUnit×List U)=>some (((),bG.2))else bif x7==(0:Int) then (heap (((),(x5,(x6,((),()))))) x10).bind fun (gP:PUnit×List U)=>some (((),gP.2))else Option.bind (α:=Int×List U) ( bif !x8 then (brk (((),(x5,(x6,((),()))))) x10).bind fun (eO:PUnit×List U)=>some ((wrap .i64 (x7-(1:Int)),eO.2))else some ((x7,x10))) fun (fF:Int×List U)=>(Gr ((fF.2,(x5,(x6,((),())))))).bind fun (kE:Int×Int)=>
     Option.bind (α:=(Int×Int)×List U) ( bif kE.2==(2:Int) then (rev (((),(x5,(x6,((),()))))) fF.2).bind fun (r16:PUnit×List U)=>some (((wrap .i64 ((wrap .i64 (x6-(1:Int)))-(wrap .i64 (kE.1-x5))),(1:Int)),r16.2))else some (((kE.1,kE.2),fF.2))) fun (lZ:(Int×Int)×List U)=>
     Option.bind (α:=(PUnit×List U)⊕(PUnit×List U)) ( bif bif bif x8 then bU else false then lZ.1.2==(1:Int) else false then (pin (((),(x5,(x6,((),()))))) lZ.2).bind fun (gD:Bool×List U)=>bif gD.1 then some (.inr (((),gD.2)))else some (.inl (((),gD.2)))else some (.inl (((),lZ.2)))) fun (jR:(PUnit×List U)⊕(PUnit×List U))=>
     Sum.elim (fun (BK:PUnit×List U)=>bif decide (x5> (0:Int)) then bif decide (0<=(wrap .i64 (x5-(1:Int)))/\(wrap .i64 (x5-(1:Int)))< (BK.2.length:Int)) then (aG BK.2 (wrap .i64 (x5-(1:Int)))).bind fun (wz:U)=>bif decide (0<=lZ.1.1/\lZ.1.1< (BK.2.length:Int)) then (aG BK.2 lZ.1.1).bind fun (tN:U)=>
         K wz tN fun (lI:Bool)=>bif !(lI) then (peq (((),(x5,(x6,(lZ.1.1,((),())))))) BK.2).bind fun (yY:Int×List U)=>
          BL g m (((yY.1,(x6,(fF.1,(x8,bU)))),yY.2))else (prt (((),(x5,(x6,(lZ.1.1,((),())))))) BK.2).bind fun (oQ:(Int×Bool)×List U)=>bif !((8:Int)==(0:Int)) then bif decide ((wrap .i64 (oQ.1.1-x5))< (wrap .i64 (x6-oQ.1.1))) then (pd g (((),(x5,(oQ.1.1,(fF.1,((),())))))) oQ.2).bind fun (afo:PUnit×List U)=>
            BL g m (((wrap .i64 (oQ.1.1+(1:Int)),(x6,(fF.1,(decide ((wrap .i64 (oQ.1.1-x5))>=(wrap .i64 (Int.tdiv (wrap .i64 (x6-x5)) (8:Int)))),oQ.1.2)))),afo.2))else (pd g (((),(wrap .i64 (oQ.1.1+(1:Int)),(x6,(fF.1,((),())))))) oQ.2).bind fun (afp:PUnit×List U)=>
            BL g m (((x5,(oQ.1.1,(fF.1,(decide ((wrap .i64 (x6-oQ.1.1))>=(wrap .i64 (Int.tdiv (wrap .i64 (x6-x5)) (8:Int)))),oQ.1.2)))),afp.2))else none else none else none else (prt (((),(x5,(x6,(lZ.1.1,((),())))))) BK.2).bind fun (sw:(Int×Bool)×List U)=>bif !((8:Int)==(0:Int)) then bif decide ((wrap .i64 (sw.1.1-x5))< (wrap .i64 (x6-sw.1.1))) then (pd g (((),(x5,(sw.1.1,(fF.1,((),())))))) sw.2).bind fun (PY:PUnit×List U)=>
         BL g m (((wrap .i64 (sw.1.1+(1:Int)),(x6,(fF.1,(decide ((wrap .i64 (sw.1.1-x5))>=(wrap .i64 (Int.tdiv (wrap .i64 (x6-x5)) (8:Int)))),sw.1.2)))),PY.2))else (pd g (((),(wrap .i64 (sw.1.1+(1:Int)),(x6,(fF.1,((),())))))) sw.2).bind fun (Gl:PUnit×List U)=>
         BL g m (((x5,(sw.1.1,(fF.1,(decide ((wrap .i64 (x6-sw.1.1))>=(wrap .i64 (Int.tdiv (wrap .i64 (x6-x5)) (8:Int)))),sw.1.2)))),Gl.2))else none)
      (fun (aEF:PUnit×List U)=>some (((),aEF.2))) jR)(aoT:∀(g:Nat) (x1 x2 x3:Int) (x4:List U),pd (g+1) (((),(x1,(x2,(x3,((),())))))) (x4)=
   (BL g n (((x1,(x2,(x3,(true,true)))),x4))).bind fun (r32:PUnit×List U)=>some (((),r32.2)))
include hc ho aoL aoM aoN aoO aoP aoQ aoR afU aoS aoT
theorem aEG (hn:150000<n):∀(g:Nat)(a b lim:Int)(l:List U),(b-a).toNat<g->0<=a->a<=b->b<=l.length->l.length<131072->kG Ok l->(0<a->∀k,a<=k->k<b->¬lt (aL d l k) (aL d l (a-1)))->∃r,pd g ((),a,b,lim,((),())) l=some r/\eF d a b l r.2/\lJ lt d a b r.2:=by
 intro g;induction g with
 |zero=>intro a b lim l h;omega|succ g ih=>
  intro a b lim l hg h0 hab hbl hb hal hp;rw[aoT];refine tB (Q:=fun r:PUnit×List U=>eF d a b l r.2/\lJ lt d a b r.2) ?_ fun r hr=>tS hr;refine mu (τ:=(Int×Int×Int×Bool×Bool)×List U) (L:=BL g) (fun p=>a<=p.1.1/\p.1.1<=p.1.2.1/\p.1.2.1<=b/\eF d a b l p.2/\Pa lt d a b p.1.1 p.1.2.1 p.2) (fun p=>(p.1.2.1-p.1.1).toNat) _ ?_ n ((a,(b,(lim,(true,true)))),l)
   ⟨lN _,hab,lN _,.refl _ _ _ _,fun u v k1 k2 k3 k4=>by dsimp only at k4;omega⟩ dz
  rintro m ⟨⟨x5,x6,x7,x8,bU⟩,D⟩ ⟨i1,i2,i3,i4,i5⟩ gV;dsimp only at i1 i2 i3 i4 i5 gV⊢;have hl:=i4.len;have pre:∀{D':List U},eF d x5 x6 D D'->0<x5->∀k,x5<=k->k<x6->¬lt (aL d D' k) (aL d D' (x5-1)):=fun {D'} hD hx k k1 k2=>by
   have hP:=i5.rp hD i1 i3 h0;by_cases e:a<x5
   .exact hP (x5-1) k RS RS RS (.inl RS)
   .have e':x5=a:=RS;have hw:=i4.trans (hD.wide i1 i3 h0);rw[e',hw.out (a-1) RS (.inl RS)];exact hw.all (fun z=>¬lt z (aL d l (a-1))) (hp RS) k RS RS
  rw[aoS];simp (disch:=omega) only[wr];refine tD (fun _=>?_) (fun h12=>?_)
  .refine tB (aoL (a:=x5) (b:=x6) (l:=D) RS i2 RS RS (i4.al hal)) fun r=>?_;rintro⟨r1,r2⟩;exact tS ⟨i4.trans (r1.wide i1 i3 h0),i5.fin r1 i1 i3 h0 r2⟩
  refine D8 (fun _=>?_) (fun _=>?_)
  .refine tB (aoM (a:=x5) (b:=x6) (l:=D) RS i2 RS RS (i4.al hal)) fun r=>?_;rintro⟨r1,r2⟩;exact tS ⟨i4.trans (r1.wide i1 i3 h0),i5.fin r1 i1 i3 h0 r2⟩
  refine tB (Q:=fun s:Int×List U=>eF d x5 x6 D s.2) ?_ fun s hs=>?_
  .refine D8 (fun _=>?_) (fun _=>tS (.refl _ _ _ _));exact tB (aoN (a:=x5) (b:=x6) (l:=D) RS i2 RS RS) fun r hr=>tS hr
  have hl1:=hs.len;refine tB (aoO (a:=x5) (b:=x6) (l:=s.2) (hs.al (i4.al hal)) RS RS RS RS) fun c=>?_;rintro⟨c1,c2⟩;refine tB (Q:=fun t:(Int×Int)×List U=>x5<=t.1.1/\t.1.1<x6/\eF d x5 x6 D t.2) ?_ fun t=>?_
  .refine D8 (fun _=>?_) (fun _=>tS ⟨c1,c2,hs⟩);refine tB (aoP (a:=x5) (b:=x6) (l:=s.2) RS i2 RS RS) fun r hr=>?_;simp (disch:=omega) only[wr];exact tS ⟨dz,dz,hs.trans hr⟩
  rintro⟨t1,t2,t3⟩;have hl2:=t3.len;refine tB (Q:=fun w:(PUnit×List U)⊕(PUnit×List U)=>Sum.elim (fun q:PUnit×List U=>eF d x5 x6 D q.2) (fun q:PUnit×List U=>eF d x5 x6 D q.2/\lJ lt d x5 x6 q.2) w) ?_ fun w hw=>?_
  .refine D8 (fun _=>?_) (fun _=>tS t3);refine tB (aoQ (a:=x5) (b:=x6) (l:=t.2) RS RS RS RS (t3.al (i4.al hal)) (pre t3)) fun r=>?_;rintro⟨r1,r2⟩;exact D8 (fun h=>tS ⟨t3.trans r1,r2 h⟩) (fun _=>tS (t3.trans r1))
  rcases w with q|q
  .have d1:eF d x5 x6 D q.2:=hw;have hl1:=d1.len;change∃r,(bif decide (x5>0) then _ else _)=some r/\_;generalize q.2=D1 at*;refine tD (fun hx0=>?_) (fun hx0=>?_)
   .refine tI RS RS (tE (dD d RS RS) (tI RS RS (tE (dD d RS RS) (tM hc ((d1.al (i4.al hal)).at d RS RS) ((d1.al (i4.al hal)).at d RS RS) fun z hz=>?_))));refine D7 (fun hlt=>?_) (fun hlt=>?_)
    .have hlt':¬lt (aL d D1 (x5-1)) (aL d D1 t.1.1):=fun k=>hlt (hz.2 k);refine tB (aoR (a:=x5) (b:=x6) (p:=t.1.1) (l:=D1) RS RS RS (d1.al (i4.al hal)) t1 t2) fun r=>?_;rintro⟨r1,r2,r3,r4,r5,r6⟩;have hl3:=r3.len;have d2:=d1.trans r3;have P2:=i5.rp (x:=x5) (y:=x6) d2 i1 i3 h0;refine gV _ ⟨dz,dz,dz,i4.trans (d2.wide i1 i3 h0),fun u v k1 k2 k3 k4=>?_⟩ dz;dsimp only at k4⊢;by_cases e:u<x5\/x6<=v
     .exact P2 u v k1 k2 k3 e
     .have hu:¬lt (aL d r.2 x5) (aL d r.2 u):=by
       by_cases e2:u=x5
       .rw[e2];exact ho.wC _
       .exact r5 u RS RS
      have hv:¬lt (aL d r.2 v) (aL d r.2 x5):=by
       by_cases e2:v<r.1
       .have h1:=pre d2 hx0 v RS RS;rw[r3.out (x5-1) RS (.inl RS)] at h1;rw[r4];exact ho.neg _ _ _ h1 hlt'
       .exact ho.asym _ _ (r6 v RS RS)
      exact ho.neg _ _ _ hv hu
    .refine tB (afU (a:=x5) (b:=x6) (p:=t.1.1) (l:=D1) RS RS RS (d1.al (i4.al hal)) t1 t2) fun r=>?_;intro hr;obtain⟨p1,p2,p3,p4,p5⟩:=hr;have hl3:=p3.len;have d2:=d1.trans p3;have P2:=i5.rp (x:=x5) (y:=x6) d2 i1 i3 h0;have Ql:=d2.al (i4.al hal);refine tG aK ?_;simp (disch:=omega) only[wr];refine tD (fun hlt=>?_) (fun hlt=>?_)
     .refine tB (ih x5 r.1.1 _ r.2 RS RS RS RS RS Ql (fun hx k k1 k2=>?_)) fun s=>?_
      .exact pre d2 hx k k1 RS
      .rintro⟨s1,s2⟩;have hl4:=s1.len;have em:aL d s.2 r.1.1=aL d r.2 r.1.1:=s1.out _ RS (.inr RS);have s1':=s1.wide (a':=x5) (b':=x6) RS RS RS;refine gV _ ⟨dz,dz,dz,i4.trans ((d2.trans s1').wide RS RS h0),fun u v k1 k2 k3 k4=>?_⟩ dz;dsimp only at k4⊢;by_cases e:u<x5\/x6<=v
       .exact P2.rp s1' i1 i3 h0 u v k1 k2 k3 e
       .by_cases e1:v<r.1.1
        .exact s2 u v RS k2 e1
        .have hu:¬lt (aL d s.2 r.1.1) (aL d s.2 u):=by
          by_cases e2:u=r.1.1
          .rw[e2];exact ho.wC _
          .rw[em];exact s1.all (fun z=>¬lt (aL d r.2 r.1.1) z) (fun w w1 w2=>p4 w w1 w2) u RS RS
         have hv:¬lt (aL d s.2 v) (aL d s.2 r.1.1):=by
          by_cases e2:v=r.1.1
          .rw[e2];exact ho.wC _
          .rw[em,s1.out v RS (.inr RS)];exact p5 v RS RS
         exact ho.neg _ _ _ hv hu
     .refine tB (ih (r.1.1+1) x6 _ r.2 RS RS RS RS RS Ql (fun hx k k1 k2=>?_)) fun s=>?_
      .rw[show r.1.1+1-1=r.1.1 by omega];exact p5 k RS k2
      .rintro⟨s1,s2⟩;have hl4:=s1.len;have em:aL d s.2 r.1.1=aL d r.2 r.1.1:=s1.out _ RS (.inl RS);have s1':=s1.wide (a':=x5) (b':=x6) RS RS RS;refine gV _ ⟨dz,dz,dz,i4.trans ((d2.trans s1').wide RS RS h0),fun u v k1 k2 k3 k4=>?_⟩ dz;dsimp only at k4⊢;by_cases e:u<x5\/x6<=v
       .exact P2.rp s1' i1 i3 h0 u v k1 k2 k3 e
       .by_cases e1:r.1.1<u
        .exact s2 u v RS k2 RS
        .have hu:¬lt (aL d s.2 r.1.1) (aL d s.2 u):=by
          by_cases e2:u=r.1.1
          .rw[e2];exact ho.wC _
          .rw[em,s1.out u RS (.inl RS)];exact p4 u RS RS
         have hv:¬lt (aL d s.2 v) (aL d s.2 r.1.1):=by
          by_cases e2:v=r.1.1
          .rw[e2];exact ho.wC _
          .rw[em];exact s1.all (fun z=>¬lt z (aL d r.2 r.1.1)) (fun w w1 w2=>p5 w RS w2) v RS RS
         exact ho.neg _ _ _ hv hu
   .refine tB (afU (a:=x5) (b:=x6) (p:=t.1.1) (l:=D1) RS RS RS (d1.al (i4.al hal)) t1 t2) fun r=>?_;intro hr;obtain⟨p1,p2,p3,p4,p5⟩:=hr;have hl3:=p3.len;have d2:=d1.trans p3;have P2:=i5.rp (x:=x5) (y:=x6) d2 i1 i3 h0;have Ql:=d2.al (i4.al hal);refine tG aK ?_;simp (disch:=omega) only[wr];refine tD (fun hlt=>?_) (fun hlt=>?_)
    .refine tB (ih x5 r.1.1 _ r.2 RS RS RS RS RS Ql (fun hx k k1 k2=>?_)) fun s=>?_
     .exact pre d2 hx k k1 RS
     .rintro⟨s1,s2⟩;have hl4:=s1.len;have em:aL d s.2 r.1.1=aL d r.2 r.1.1:=s1.out _ RS (.inr RS);have s1':=s1.wide (a':=x5) (b':=x6) RS RS RS;refine gV _ ⟨dz,dz,dz,i4.trans ((d2.trans s1').wide RS RS h0),fun u v k1 k2 k3 k4=>?_⟩ dz;dsimp only at k4⊢;by_cases e:u<x5\/x6<=v
      .exact P2.rp s1' i1 i3 h0 u v k1 k2 k3 e
      .by_cases e1:v<r.1.1
       .exact s2 u v RS k2 e1
       .have hu:¬lt (aL d s.2 r.1.1) (aL d s.2 u):=by
         by_cases e2:u=r.1.1
         .rw[e2];exact ho.wC _
         .rw[em];exact s1.all (fun z=>¬lt (aL d r.2 r.1.1) z) (fun w w1 w2=>p4 w w1 w2) u RS RS
        have hv:¬lt (aL d s.2 v) (aL d s.2 r.1.1):=by
         by_cases e2:v=r.1.1
         .rw[e2];exact ho.wC _
         .rw[em,s1.out v RS (.inr RS)];exact p5 v RS RS
        exact ho.neg _ _ _ hv hu
    .refine tB (ih (r.1.1+1) x6 _ r.2 RS RS RS RS RS Ql (fun hx k k1 k2=>?_)) fun s=>?_
     .rw[show r.1.1+1-1=r.1.1 by omega];exact p5 k RS k2
     .rintro⟨s1,s2⟩;have hl4:=s1.len;have em:aL d s.2 r.1.1=aL d r.2 r.1.1:=s1.out _ RS (.inl RS);have s1':=s1.wide (a':=x5) (b':=x6) RS RS RS;refine gV _ ⟨dz,dz,dz,i4.trans ((d2.trans s1').wide RS RS h0),fun u v k1 k2 k3 k4=>?_⟩ dz;dsimp only at k4⊢;by_cases e:u<x5\/x6<=v
      .exact P2.rp s1' i1 i3 h0 u v k1 k2 k3 e
      .by_cases e1:r.1.1<u
       .exact s2 u v RS k2 RS
       .have hu:¬lt (aL d s.2 r.1.1) (aL d s.2 u):=by
         by_cases e2:u=r.1.1
         .rw[e2];exact ho.wC _
         .rw[em,s1.out u RS (.inl RS)];exact p4 u RS RS
        have hv:¬lt (aL d s.2 v) (aL d s.2 r.1.1):=by
         by_cases e2:v=r.1.1
         .rw[e2];exact ho.wC _
         .rw[em];exact s1.all (fun z=>¬lt z (aL d r.2 r.1.1)) (fun w w1 w2=>p5 w RS w2) v RS RS
        exact ho.neg _ _ _ hv hu
  .obtain⟨w1,w2⟩:=hw;exact tS ⟨i4.trans (w1.wide i1 i3 h0),i5.fin w1 i1 i3 h0 w2⟩
end
end tQ
end
section
open Go Go.Proofs aQ tQ
namespace Sh
set_option maxRecDepth 100000
theorem aoU {k:Int}(h0:1<=k)(h1:k<131072)(n:Nat):∃r:Int,Bp n k=some r/\0<=r/\r<18/\(2:Int)^r.toNat<=2*k:=by
 obtain⟨j,rfl⟩:∃j:Nat,k=(j:Int):=⟨k.toNat,RS⟩;have hl:Nat.log2 j<17:=(Nat.log2_lt RS).2 RS;refine⟨((Nat.log2 j+1:Nat):Int),?_,RS,RS,?_⟩
 .rw[aaK];exact bs (al0 RS RS) rfl
 .rw[Int.toNat_natCast,Int.pow_succ];have hp:2^Nat.log2 j<=j:=Nat.log2_self_le RS;have hc:((2^Nat.log2 j:Nat):Int)=(2:Int)^Nat.log2 j:=by push_cast;rfl
  rw[<-hc];omega
theorem aEH (n:Nat):∀k:Int,8<=k->k<131072->∃M:Int,O1 n k=some M/\0<M/\M<=2*k:=by
 intro k h0 h1;obtain⟨r,e,r0,r1,r2⟩:=aoU (k:=k) RS h1 n;have ew:wrap .u64 k=k:=Ld
 have hp:(0:Int)<2^r.toNat:=Int.pow_pos RS;have es:jg .u64 1 r=2^r.toNat:=by have:jg .u64 1 r=wrap .u64 (1*2^min r.toNat 64):=rfl;rw[this,Am RS,Int.one_mul,IntKind.wrap_u64];omega
 refine⟨2^r.toNat,?_,hp,r2⟩;rw[aCG,ew];refine bs e ?_;show (bif decide ((0:Int)<=r) then some (jg .u64 1 r) else none)=_;rw[decide_eq_true r0,cond_true,es]
theorem afV {β:Type}{o o':Option β}{P:β->Prop}(h:o=o')(k:∃r,o'=some r/\P r):∃r,o=some r/\P r:=Ef
theorem aEI (n:Nat):∀x:Int,∃r:Int×Int,O4 n () x=some r:=by intro x;rw[aCH];exact⟨_,rfl⟩
noncomputable abbrev qA (n:Nat){β:Type}(a b:au)(f:Bool->Option β):Option β:=(OV n (a,b)).bind fun (c:Int)=>f (decide (c< (0:Int)))
section
variable {n:Nat}{Ok:au->Prop}{lt:au->au->Prop}(hc:Af Ok lt (qA n))(ho:Ord lt)(d:au)
include hc ho d
theorem aEJ (hn:200000<n){l:List au}(hl:l.length<131072)(hal:kG Ok l)(lim:Int):∃r:PUnit×List au,DK n ((),(0:Int),(l.length:Int),lim,((),())) l=some r/\r.2.Perm l/\r.2.Pairwise fun x y=>¬lt y x:=by
 have h:=aEG (n:=n) (d:=d) (K:=qA n) (BL:=an8 n) (pd:=yR n) hc ho (ins:=Ga n) (heap:=U6 n) (brk:=U9 n) (rev:=Vb n) (Gr:=Va n) (pin:=Vd n) (peq:=Vf n) (prt:=Vg n)
  (fun h0 h1 h2 h3 h4=>by refine afV (aCF ..) ?_;exact tB (aEn (n:=n) (d:=d) (K:=qA n) (L4:=anR n) (L1:=afm n) hc ho j6 j6 h0 h1 h2 RS h4 RS) fun r hr=>tS hr)
  (fun h0 h1 h2 h3 h4=>aEq (n:=n) (d:=d) (K:=qA n) (S1:=anS n) (sift:=adA n) (H4:=anT n) (KY:=anU n) (heap:=U6 n) hc ho j6 j6 j6 j6 j6 h0 h1 h2 RS h4 RS)
  (fun h0 h1 h2 h3=>aED (n:=n) (d:=d) (np:=O1 n) (xs:=O4 n) (aEH n) (aEI n) (B5:=anV n) (brk:=U9 n) j6 j6 h0 h1 h2 h3 RS)
  (fun h0 h1 h2 h3 h4=>aEE d (K:=qA n) hc (o2:=adR n) (med:=adW n) (K5:=ad2 n) (Gr:=Va n) j6 j6 j6 j6 h0 h1 h2 RS h4)
  (fun h0 h1 h2 h3=>by refine afV (aCI ..) ?_;exact tB (revAll (n:=n) (d:=d) (L2:=afn n) j6 h0 h1 h2 RS RS) fun r hr=>tS hr)
  (fun h0 h1 h2 h3 h4 h5=>aEB (n:=n) (d:=d) (K:=qA n) hc ho (Qj:=anW n) (K3:=anX n) (K4:=anY n) (IM:=anZ n) (pin:=Vd n) j6 j6 j6 j6 j6 h0 h1 h2 RS h4 RS h5)
  (fun h0 h1 h2 h3 h4 h5=>aEx (n:=n) (d:=d) (K:=qA n) hc (E3:=an0 n) (Qi:=an1 n) (KZ:=an2 n) (peq:=Vf n) j6 j6 j6 j6 h0 h1 RS h3 RS h4 h5)
  (fun h0 h1 h2 h3 h4 h5=>aEv (n:=n) (d:=d) (K:=qA n) hc ho (P3:=an3 n) (Qd:=an4 n) (Qe:=an5 n) (Qf:=an6 n) (PM:=an7 n) (prt:=Vg n) j6 j6 j6 j6 j6 j6 h0 h1 RS h3 RS h4 h5)
  j6 j6 RS n 0 (l.length:Int) lim l RS (lN _) RS (lN _) hl hal (fun h=>RS)
 have e:DK n=yR n n:=by unfold DK;rfl
 rw[e];refine tW h fun r hr=>⟨hr.1.perm,?_⟩;have:=hr.2;rw[<-hr.1.len] at this;exact this.pw
theorem aEK (hn:200000<n){l:List au}(hl:l.length<131072)(hal:kG Ok l):∃r:PUnit×List au,ZD n ((),(),()) l=some r/\r.2.Perm l/\r.2.Pairwise fun x y=>¬lt y x:=by
 refine afV (aCJ ..) ?_;have hlen:∃r:Int,Bp n (wrap .u64 (l.length:Int))=some r:=by
  have ew:wrap .u64 (l.length:Int)=(l.length:Int):=Ld
  rw[ew];by_cases h:l.length=0
  .rw[h];rw[aaK,Uf];exact⟨_,rfl⟩
  .obtain⟨r,e,_⟩:=aoU (k:=(l.length:Int)) RS RS n;exact⟨r,e⟩
 obtain⟨r,e⟩:=hlen;exact tE e (tB (aEJ hc ho d hn hl hal r) fun s hs=>tS hs)
end
end Sh
end
