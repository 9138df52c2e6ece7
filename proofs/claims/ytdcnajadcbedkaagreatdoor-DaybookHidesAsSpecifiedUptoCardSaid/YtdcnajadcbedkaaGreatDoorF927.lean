import Derived.Test.YtdcnajadcbedkaaGreatDoorF926
set_option linter.all false
open Go.IntKind (wrap)
section
open Go aR
namespace uN
variable {U:Type}
theorem V6 {L:Nat->Int->Option Int}{T:Int->Prop}{i j:Int}(hs:∀m x (Q:Int->Prop),i<=x->x<=j->(T x->∃r,L m (x+1)=some r/\Q r)->(¬T x->Q x)->∃r,L (m+1) x=some r/\Q r)(he:∀m x,j<x->L (m+1) x=some x)(hij:i<=j+1){m:Nat}(hm:(j+1-i).toNat<m):∃r,L m i=some r/\i<=r/\r<=j+1/\(∀k,i<=k->k<r->T k)/\(r<=j->¬T r):=by
 refine mu (τ:=Int) (L:=L) (fun x=>i<=x/\x<=j+1/\∀k,i<=k->k<x->T k) (fun x=>(j+1-x).toNat) _ ?_ m i ⟨lM _,hij,fun k k1 k2=>RS⟩ hm;rintro m x ⟨i1,i2,i3⟩ gV;by_cases hx:x<=j
 .exact hs m x _ i1 hx (fun ht=>gV (x+1) ⟨RS,RS,fun k k1 k2=>by
   by_cases e:k=x
   .rw[e];exact ht
   .exact i3 k k1 RS⟩ RS) fun ht=>⟨i1,RS,i3,fun _=>ht⟩
 .exact⟨x,he m x RS,i1,i2,i3,fun h=>absurd h hx⟩
theorem agC {L:Nat->Int->Option Int}{T:Int->Prop}{i j:Int}(hs:∀m x (Q:Int->Prop),i<=x->x<=j->(T x->∃r,L m (x-1)=some r/\Q r)->(¬T x->Q x)->∃r,L (m+1) x=some r/\Q r)(he:∀m x,x<i->L (m+1) x=some x)(hij:i<=j+1){m:Nat}(hm:(j+1-i).toNat<m):∃r,L m j=some r/\r<=j/\i-1<=r/\(∀k,r<k->k<=j->T k)/\(i<=r->¬T r):=by
 refine mu (τ:=Int) (L:=L) (fun x=>x<=j/\i-1<=x/\∀k,x<k->k<=j->T k) (fun x=>(x+1-i).toNat) _ ?_ m j ⟨lM _,RS,fun k k1 k2=>RS⟩ RS;rintro m x ⟨i1,i2,i3⟩ gV;by_cases hx:i<=x
 .exact hs m x _ hx i1 (fun ht=>gV (x-1) ⟨RS,RS,fun k k1 k2=>by
   by_cases e:k=x
   .rw[e];exact ht
   .exact i3 k RS k2⟩ RS) fun ht=>⟨i1,i2,i3,fun _=>ht⟩
 .exact⟨x,he m x RS,i1,i2,i3,fun h=>absurd h hx⟩
structure Parts (lt:U->U->Prop)(d:U)(a b mid:Int)(l l':List U):Prop where
 lo:a<=mid
 hi:mid<b
 rp:eF d a b l l'
 left:∀k,a<=k->k<mid->¬lt (aL d l' mid) (aL d l' k)
 right:∀k,mid<k->k<b->¬lt (aL d l' k) (aL d l' mid)
section
variable {n:Nat}{d:U}{Ok:U->Prop}{lt:U->U->Prop}{K:{β:Type}->U->U->(Bool->Option β)->Option β}(hc:Aq Ok lt K)(ho:Ord lt){P3:Int->Int->Int->(List U)->U->U->Nat->Int->Option (Int)}{Qt:Int->Int->(List U)->U->U->Int->Nat->Int->Option (Int)}{Qu:Int->Int->(List U)->Nat->Int->Option (Int)}{Qv:Int->(List U)->Int->Nat->Int->Option (Int)}{PM:Int->Nat->((Int×Int)×List U)->Option (Int×List U)}{prt:Unit×Int×Int×Int×(Unit×Unit)->List U->Option ((Int×Bool)×List U)}(h3:∀(x1 x2 x3:Int) (x4:List U) (r5:U) (r6:U) (m:Nat) (dD:Int),P3 x1 x2 x3 x4 r5 r6 (m+1) dD=bif decide (dD<=(wrap .i64 (x2-(1:Int)))) then bif decide (0<=dD/\dD< (((bn (bn x4 x1 r5) x3 r6).length:Nat):Int)) then (aH (bn (bn x4 x1 r5) x3 r6) dD).bind fun (dx:U)=>bif decide (0<=x1/\x1< (((bn (bn x4 x1 r5) x3 r6).length:Nat):Int)) then (aH (bn (bn x4 x1 r5) x3 r6) x1).bind fun (bN:U)=>
      K dx bN fun (gN:Bool)=>bif gN then P3 x1 x2 x3 x4 r5 r6 m (wrap .i64 (dD+(1:Int)))else some dD else none else none else some dD)(h5:∀(x1 x3:Int) (x4:List U) (r5:U) (r6:U) (eG:Int) (m:Nat) (Eo:Int),Qt x1 x3 x4 r5 r6 eG (m+1) Eo=bif decide (eG<=Eo) then bif decide (0<=Eo/\Eo< (((bn (bn x4 x1 r5) x3 r6).length:Nat):Int)) then (aH (bn (bn x4 x1 r5) x3 r6) Eo).bind fun (kF:U)=>bif decide (0<=x1/\x1< (((bn (bn x4 x1 r5) x3 r6).length:Nat):Int)) then (aH (bn (bn x4 x1 r5) x3 r6) x1).bind fun (r16:U)=>
      K kF r16 fun (lZ:Bool)=>bif !(lZ) then Qt x1 x3 x4 r5 r6 eG m (wrap .i64 (Eo-(1:Int)))else some Eo else none else none else some Eo)(Qw:∀(x1 x28:Int) (x29:List U) (m:Nat) (x30:Int),Qu x1 x28 x29 (m+1) x30=bif decide (x30<=x28) then bif decide (0<=x30/\x30< (x29.length:Int)) then (aH x29 x30).bind fun (Lb:U)=>bif decide (0<=x1/\x1< (x29.length:Int)) then (aH x29 x1).bind fun (r32:U)=>
      K Lb r32 fun (VW:Bool)=>bif VW then Qu x1 x28 x29 m (wrap .i64 (x30+(1:Int)))else some x30 else none else none else some x30)(Qx:∀(x1:Int) (x29:List U) (oM:Int) (m:Nat) (Ep:Int),Qv x1 x29 oM (m+1) Ep=bif decide (oM<=Ep) then bif decide (0<=Ep/\Ep< (x29.length:Int)) then (aH x29 Ep).bind fun (agD:U)=>bif decide (0<=x1/\x1< (x29.length:Int)) then (aH x29 x1).bind fun (agE:U)=>
      K agD agE fun (aFM:Bool)=>bif !(aFM) then Qv x1 x29 oM m (wrap .i64 (Ep-(1:Int)))else some Ep else none else none else some Ep)(hM:∀(x1:Int) (m:Nat) (x27 x28:Int) (x29:List U),PM x1 (m+1) ((x27,x28),x29)=
   (Qu x1 x28 x29 n x27).bind fun (oM:Int)=>(Qv x1 x29 oM n x28).bind fun (Ar:Int)=>bif decide (oM>Ar) then some ((Ar,x29))else bif decide (0<=Ar/\Ar< (x29.length:Int)) then (aH x29 Ar).bind fun (agF:U)=>bif decide (0<=oM/\oM< (x29.length:Int)) then (aH x29 oM).bind fun (aFN:U)=>bif decide (0<=oM/\oM< (x29.length:Int)) then (aH x29 oM).bind fun (aHx:U)=>bif decide (0<=Ar/\Ar< (((bn x29 oM agF).length:Nat):Int)) then (aH (bn x29 oM agF) Ar).bind fun (aHy:U)=>
        PM x1 m (((wrap .i64 (oM+(1:Int)),wrap .i64 (Ar-(1:Int))),bn (bn x29 oM agF) Ar aFN))else none else none else none else none)(hP:∀(x1 x2 x3:Int) (x4:List U),prt (((),(x1,(x2,(x3,((),())))))) (x4)=bif decide (0<=x3/\x3< (x4.length:Int)) then (aH x4 x3).bind fun (r5:U)=>bif decide (0<=x1/\x1< (x4.length:Int)) then (aH x4 x1).bind fun (r6:U)=>bif decide (0<=x1/\x1< (x4.length:Int)) then (aH x4 x1).bind fun (r7:U)=>bif decide (0<=x3/\x3< (((bn x4 x1 r5).length:Nat):Int)) then (aH (bn x4 x1 r5) x3).bind fun (r8:U)=>(P3 x1 x2 x3 x4 r5 r6 n (wrap .i64 (x1+(1:Int)))).bind fun (eG:Int)=>(Qt x1 x3 x4 r5 r6 eG n (wrap .i64 (x2-(1:Int)))).bind fun (fG:Int)=>bif decide (eG>fG) then bif decide (0<=x1/\x1< (((bn (bn x4 x1 r5) x3 r6).length:Nat):Int)) then (aH (bn (bn x4 x1 r5) x3 r6) x1).bind fun (nU:U)=>bif decide (0<=fG/\fG< (((bn (bn x4 x1 r5) x3 r6).length:Nat):Int)) then (aH (bn (bn x4 x1 r5) x3 r6) fG).bind fun (BO:U)=>bif decide (0<=fG/\fG< (((bn (bn x4 x1 r5) x3 r6).length:Nat):Int)) then (aH (bn (bn x4 x1 r5) x3 r6) fG).bind fun (pI:U)=>bif decide (0<=x1/\x1< (((bn (bn (bn x4 x1 r5) x3 r6) fG nU).length:Nat):Int)) then (aH (bn (bn (bn x4 x1 r5) x3 r6) fG nU) x1).bind fun (wu:U)=>some (((fG,true),bn (bn (bn (bn x4 x1 r5) x3 r6) fG nU) x1 BO))else none else none else none else none else bif decide (0<=fG/\fG< (((bn (bn x4 x1 r5) x3 r6).length:Nat):Int)) then (aH (bn (bn x4 x1 r5) x3 r6) fG).bind fun (wz:U)=>bif decide (0<=eG/\eG< (((bn (bn x4 x1 r5) x3 r6).length:Nat):Int)) then (aH (bn (bn x4 x1 r5) x3 r6) eG).bind fun (lI:U)=>bif decide (0<=eG/\eG< (((bn (bn x4 x1 r5) x3 r6).length:Nat):Int)) then (aH (bn (bn x4 x1 r5) x3 r6) eG).bind fun (y8:U)=>bif decide (0<=fG/\fG< (((bn (bn (bn x4 x1 r5) x3 r6) eG wz).length:Nat):Int)) then (aH (bn (bn (bn x4 x1 r5) x3 r6) eG wz) fG).bind fun (oN:U)=>(PM x1 n (((wrap .i64 (eG+(1:Int)),wrap .i64 (fG-(1:Int))),bn (bn (bn (bn x4 x1 r5) x3 r6) eG wz) fG lI))).bind fun (qb:Int×List U)=>bif decide (0<=x1/\x1< (qb.2.length:Int)) then (aH qb.2 x1).bind fun (agG:U)=>bif decide (0<=qb.1/\qb.1< (qb.2.length:Int)) then (aH qb.2 qb.1).bind fun (aFO:U)=>bif decide (0<=qb.1/\qb.1< (qb.2.length:Int)) then (aH qb.2 qb.1).bind fun (aHz:U)=>bif decide (0<=x1/\x1< (((bn qb.2 qb.1 agG).length:Nat):Int)) then (aH (bn qb.2 qb.1 agG) x1).bind fun (aHA:U)=>some (((qb.1,false),bn (bn qb.2 qb.1 agG) x1 aFO))else none else none else none else none else none else none else none else none else none else none else none else none)
include hc ho Qw Qx hM
theorem aFP {a b:Int}{l:List U}{i j:Int}{m:Nat}(h0:0<=a)(hbl:b<=l.length)(hb:l.length<2^57)(hal:kG Ok l)(hn:(b-a).toNat<n)(h1:a<i)(h2:j<b)(hij:i<=j+1)(hl:∀k,a<k->k<i->lt (aL d l k) (aL d l a))(hr:∀k,j<k->k<b->¬lt (aL d l k) (aL d l a))(hm:(j+1-i).toNat<m):
 ∃r,PM a m ((i,j),l)=some r/\a<=r.1/\r.1<b/\eF d a b l r.2/\aL d r.2 a=aL d l a/\(∀k,a<k->k<=r.1->lt (aL d r.2 k) (aL d r.2 a))/\(∀k,r.1<k->k<b->¬lt (aL d r.2 k) (aL d r.2 a)):=by
 refine mu (τ:=(Int×Int)×List U) (L:=PM a) (fun p=>a<p.1.1/\p.1.2<b/\p.1.1<=p.1.2+1/\eF d a b l p.2/\aL d p.2 a=aL d l a/\(∀k,a<k->k<p.1.1->lt (aL d p.2 k) (aL d p.2 a))/\(∀k,p.1.2<k->k<b->¬lt (aL d p.2 k) (aL d p.2 a))) (fun p=>(p.1.2+1-p.1.1).toNat) _ ?_ m ((i,j),l)
  ⟨h1,h2,hij,.refl _ _ _ _,rfl,hl,hr⟩ hm
 rintro m ⟨⟨i,j⟩,D⟩ ⟨i1,i2,i3,i4,i5,i6,i7⟩ gV;dsimp only at i1 i2 i3 i4 i5 i6 i7 gV⊢;have hl:=i4.len;have jV:=i4.al hal;rw[hM];refine tB (V6 (L:=Qu a j D) (T:=fun x=>lt (aL d D x) (aL d D a)) (i:=i) (j:=j) (fun m x Q k1 k2 ht hf=>?_) (fun m x k1=>?_) i3 RS) fun i'=>?_
 .rw[Qw];refine tD (fun _=>tI RS RS (tE (dF d RS RS) (tI RS RS (tE (dF d RS RS) (tM hc (jV.at d RS RS) (jV.at d RS RS) fun r hr=>tD (fun h=>?_) (fun h=>tS (hf fun k=>h (hr.2 k)))))))) (fun h=>RS);rw[wr RS RS];exact ht (hr.1 h)
 .rw[Qw,decide_eq_false RS];rfl
 rintro⟨u1,u2,u3,u4⟩;refine tB (agC (L:=Qv a D i') (T:=fun x=>¬lt (aL d D x) (aL d D a)) (i:=i') (j:=j) (fun m x Q k1 k2 ht hf=>?_) (fun m x k1=>?_) u2 RS) fun j'=>?_
 .rw[Qx];refine tD (fun _=>tI RS RS (tE (dF d RS RS) (tI RS RS (tE (dF d RS RS) (tM hc (jV.at d RS RS) (jV.at d RS RS) fun r hr=>Em (fun h=>?_) (fun h=>tS (hf fun k=>k (hr.1 h)))))))) (fun h=>RS);rw[wr RS RS];exact ht fun k=>h (hr.2 k)
 .rw[Qx,decide_eq_false RS];rfl
 rintro⟨v1,v2,v3,v4⟩;have left:∀k,a<k->k<i'->lt (aL d D k) (aL d D a):=fun k k1 k2=>by
  by_cases e:k<i
  .exact i6 k k1 e
  .exact u3 k RS k2
 have right:∀k,j'<k->k<b->¬lt (aL d D k) (aL d D a):=fun k k1 k2=>by
  by_cases e:j<k
  .exact i7 k e k2
  .exact v3 k k1 RS
 refine tD (fun hgt=>tS ⟨RS,RS,i4,i5,fun k k1 k2=>left k k1 RS,right⟩) (fun hgt=>?_);have t1:=u4 RS;have t2:lt (aL d D j') (aL d D a):=Classical.byContradiction (v4 RS);have hne:i'≠j':=fun e=>t1 (by rw[e];exact t2);refine tI RS gZ (tE (dF d RS gZ) ?_);refine tI RS gZ (tE (dF d RS gZ) ?_);refine tI RS gZ (tE (dF d RS gZ) ?_);refine tI RS gZ (tE (dF d RS gZ) ?_);rw[wr RS RS,wr RS RS];have l9:∀k,0<=k->aL d (swp d D i' j') k=if k=j' then aL d D i' else if k=i' then aL d D j' else aL d D k:=fun k hk=>p9 RS RS RS RS hk
 have sa:aL d (swp d D i' j') a=aL d D a:=by rw[l9 a h0,if_neg RS,if_neg RS]
 refine gV ((i'+1,j'-1),swp d D i' j') ⟨dB,dB,dB,i4.swp h0 RS RS RS RS RS,sa.trans i5,fun k k1 k2=>?_,fun k k1 k2=>?_⟩ dB
 .dsimp only at k2⊢;rw[sa,l9 k RS,if_neg RS];by_cases e:k=i'
  .rw[if_pos e];exact t2
  .rw[if_neg e];exact left k k1 RS
 .dsimp only at k1⊢;rw[sa,l9 k RS];by_cases e:k=j'
  .rw[if_pos e];exact t1
  .rw[if_neg e,if_neg RS];exact right k RS k2
omit hc Qw Qx hM in
theorem apE {a b r:Int}{l D:List U}(h0:0<=a)(hbl:b<=l.length)(h1:a<=r)(h2:r<b)(h3:eF d a b l D)(hl:∀k,a<k->k<=r->lt (aL d D k) (aL d D a))(hr:∀k,r<k->k<b->¬lt (aL d D k) (aL d D a)):Parts lt d a b r l (swp d D r a):=by
 have hlen:=h3.len;have l9:∀k,0<=k->aL d (swp d D r a) k=if k=a then aL d D r else if k=r then aL d D a else aL d D k:=fun k hk=>p9 RS RS RS RS hk
 have sr:aL d (swp d D r a) r=aL d D a:=by
  rw[l9 r RS];by_cases e:r=a
  .rw[if_pos e,e]
  .rw[if_neg e,if_pos rfl]
 refine⟨h1,h2,h3.swp h0 RS h1 h2 (lM _) RS,fun k k1 k2=>?_,fun k k1 k2=>?_⟩
 .rw[sr,l9 k RS];by_cases e:k=a
  .rw[if_pos e];exact ho.asym _ _ (hl r RS (lM _))
  .rw[if_neg e,if_neg RS];exact ho.asym _ _ (hl k RS RS)
 .rw[sr,l9 k RS,if_neg RS,if_neg RS];exact hr k k1 k2
include h3 h5 hP
theorem aFQ {a b p:Int}{l:List U}(h0:0<=a)(hbl:b<=l.length)(hb:l.length<2^57)(hal:kG Ok l)(hn:(b-a).toNat+1<n)(h1:a<=p)(h2:p<b):
 ∃r,prt ((),a,b,p,((),())) l=some r/\Parts lt d a b r.1.1 l r.2:=by
 rw[hP];refine tI RS gZ (tE (dF d RS gZ) ?_);refine tI RS gZ (tE (dF d RS gZ) ?_);refine tI RS gZ (tE (dF d RS gZ) ?_);refine tI RS gZ (tE (dF d RS gZ) ?_);have hw1:wrap .i64 (a+1)=a+1:=wr RS RS;have hw2:wrap .i64 (b-1)=b-1:=wr RS RS;have r0:eF d a b l (swp d l a p):=(eF.refl d a b l).swp h0 hbl RS RS h1 h2;have hl:=r0.len;have jV:=r0.al hal;change∃r,(P3 a b p l (aL d l p) (aL d l a) n (wrap .i64 (a+1))).bind _=some r/\_;rw[hw1,hw2];refine tB (V6 (L:=P3 a b p l (aL d l p) (aL d l a)) (T:=fun x=>lt (aL d (swp d l a p) x) (aL d (swp d l a p) a)) (i:=a+1) (j:=b-1) (fun m x Q k1 k2 ht hf=>?_) (fun m x k1=>?_) RS RS) fun i'=>?_
 .rw[h3,hw2];change∃r,(bif _ then (bif decide (0<=x/\x< (((swp d l a p).length:Nat):Int)) then (aH (swp d l a p) x).bind _ else none) else _)=some r/\_;refine tD (fun _=>tI RS RS (tE (dF d RS RS) (tI RS jo (tE (dF d RS jo) (tM hc (jV.at d RS RS) (jV.at d RS RS) fun r hr=>tD (fun h=>?_) (fun h=>tS (hf fun k=>h (hr.2 k)))))))) (fun h=>RS);rw[wr RS RS];exact ht (hr.1 h)
 .rw[h3,hw2,decide_eq_false RS];rfl
 rintro⟨u1,u2,u3,u4⟩;refine tB (agC (L:=Qt a p l (aL d l p) (aL d l a) i') (T:=fun x=>¬lt (aL d (swp d l a p) x) (aL d (swp d l a p) a)) (i:=i') (j:=b-1) (fun m x Q k1 k2 ht hf=>?_) (fun m x k1=>?_) u2 RS) fun j'=>?_
 .rw[h5];change∃r,(bif _ then (bif decide (0<=x/\x< (((swp d l a p).length:Nat):Int)) then (aH (swp d l a p) x).bind _ else none) else _)=some r/\_;refine tD (fun _=>tI RS RS (tE (dF d RS RS) (tI RS jo (tE (dF d RS jo) (tM hc (jV.at d RS RS) (jV.at d RS RS) fun r hr=>Em (fun h=>?_) (fun h=>tS (hf fun k=>k (hr.1 h)))))))) (fun h=>RS);rw[wr RS RS];exact ht fun k=>h (hr.2 k)
 .rw[h5,decide_eq_false RS];rfl
 rintro⟨v1,v2,v3,v4⟩;change∃r,(bif _ then (bif decide (0<=a/\a< (((swp d l a p).length:Nat):Int)) then (aH (swp d l a p) a).bind _ else none) else (bif decide (0<=j'/\j'< (((swp d l a p).length:Nat):Int)) then (aH (swp d l a p) j').bind _ else none))=some r/\_;refine tD (fun hgt=>?_) (fun hgt=>?_)
 .refine tI RS gZ (tE (dF d RS gZ) ?_);refine tI RS wH (tE (dF d RS wH) ?_);refine tI RS wH (tE (dF d RS wH) ?_);refine tI RS wH (tE (dF d RS wH) ?_);refine tS ?_;exact apE ho (r:=j') h0 hbl RS RS r0 (fun k k1 k2=>u3 k RS RS) (fun k k1 k2=>v3 k k1 RS)
 .have t1:=u4 RS;have t2:lt (aL d (swp d l a p) j') (aL d (swp d l a p) a):=Classical.byContradiction (v4 RS);have hne:i'≠j':=fun e=>t1 (by rw[e];exact t2);refine tI RS gZ (tE (dF d RS gZ) ?_);refine tI RS wH (tE (dF d RS wH) ?_);refine tI RS wH (tE (dF d RS wH) ?_);refine tI RS wH (tE (dF d RS wH) ?_);rw[wr RS RS,wr RS RS];have s1:eF d a b l (swp d (swp d l a p) i' j'):=r0.swp h0 RS RS RS RS RS;have l9:∀k,0<=k->aL d (swp d (swp d l a p) i' j') k=if k=j' then aL d (swp d l a p) i' else if k=i' then aL d (swp d l a p) j' else aL d (swp d l a p) k:=fun k hk=>p9 RS RS RS RS hk
  have sa:aL d (swp d (swp d l a p) i' j') a=aL d (swp d l a p) a:=by rw[l9 a h0,if_neg RS,if_neg RS]
  have hl1:=s1.len;refine tB (aFP hc ho Qw Qx hM (n:=n) (d:=d) (a:=a) (b:=b) (l:=swp d (swp d l a p) i' j') (i:=i'+1) (j:=j'-1) (m:=n) h0 RS RS (s1.al hal) RS RS RS RS (fun k k1 k2=>?_) (fun k k1 k2=>?_) RS) fun r=>?_
  .rw[sa,l9 k RS,if_neg RS];by_cases e:k=i'
   .rw[if_pos e];exact t2
   .rw[if_neg e];exact u3 k RS RS
  .rw[sa,l9 k RS];by_cases e:k=j'
   .rw[if_pos e];exact t1
   .rw[if_neg e,if_neg RS];exact v3 k RS RS
  .rintro⟨q1,q2,q3,q4,q5,q6⟩;have hl2:=q3.len;refine tI RS gZ (tE (dF d RS gZ) ?_);refine tI RS gZ (tE (dF d RS gZ) ?_);refine tI RS gZ (tE (dF d RS gZ) ?_);refine tI RS gZ (tE (dF d RS gZ) ?_);exact tS (apE ho (r:=r.1) h0 hbl q1 q2 (s1.trans q3) q5 q6)
end
section
variable {n:Nat}{d:U}{Ok:U->Prop}{lt:U->U->Prop}{K:{β:Type}->U->U->(Bool->Option β)->Option β}(hc:Aq Ok lt K){E3:Int->Int->(List U)->Nat->Int->Option (Int)}{Qy:Int->(List U)->Int->Nat->Int->Option (Int)}{Li:Int->Nat->((Int×Int)×List U)->Option (Int×List U)}{peq:Unit×Int×Int×Int×(Unit×Unit)->List U->Option (Int×List U)}(h3:∀(x1 x10:Int) (eY:List U) (m:Nat) (pJ:Int),E3 x1 x10 eY (m+1) pJ=bif decide (pJ<=x10) then bif decide (0<=x1/\x1< (eY.length:Int)) then (aH eY x1).bind fun (eG:U)=>bif decide (0<=pJ/\pJ< (eY.length:Int)) then (aH eY pJ).bind fun (fJ:U)=>
      K eG fJ fun (kF:Bool)=>bif !(kF) then E3 x1 x10 eY m (wrap .i64 (pJ+(1:Int)))else some pJ else none else none else some pJ)(h5:∀(x1:Int) (eY:List U) (r16:Int) (m:Nat) (nk:Int),Qy x1 eY r16 (m+1) nk=bif decide (r16<=nk) then bif decide (0<=x1/\x1< (eY.length:Int)) then (aH eY x1).bind fun (fG:U)=>bif decide (0<=nk/\nk< (eY.length:Int)) then (aH eY nk).bind fun (nU:U)=>
      K fG nU fun (BO:Bool)=>bif BO then Qy x1 eY r16 m (wrap .i64 (nk-(1:Int)))else some nk else none else none else some nk)(hM:∀(x1:Int) (m:Nat) (dD x10:Int) (eY:List U),Li x1 (m+1) ((dD,x10),eY)=
   (E3 x1 x10 eY n dD).bind fun (r16:Int)=>(Qy x1 eY r16 n x10).bind fun (pI:Int)=>bif decide (r16>pI) then some ((r16,eY))else bif decide (0<=pI/\pI< (eY.length:Int)) then (aH eY pI).bind fun (wu:U)=>bif decide (0<=r16/\r16< (eY.length:Int)) then (aH eY r16).bind fun (wz:U)=>bif decide (0<=r16/\r16< (eY.length:Int)) then (aH eY r16).bind fun (lI:U)=>bif decide (0<=pI/\pI< (((bn eY r16 wu).length:Nat):Int)) then (aH (bn eY r16 wu) pI).bind fun (y8:U)=>
        Li x1 m (((wrap .i64 (r16+(1:Int)),wrap .i64 (pI-(1:Int))),bn (bn eY r16 wu) pI wz))else none else none else none else none)(hP:∀(x1 x2 x3:Int) (x4:List U),peq (((),(x1,(x2,(x3,((),())))))) (x4)=bif decide (0<=x3/\x3< (x4.length:Int)) then (aH x4 x3).bind fun (r5:U)=>bif decide (0<=x1/\x1< (x4.length:Int)) then (aH x4 x1).bind fun (r6:U)=>bif decide (0<=x1/\x1< (x4.length:Int)) then (aH x4 x1).bind fun (r7:U)=>bif decide (0<=x3/\x3< (((bn x4 x1 r5).length:Nat):Int)) then (aH (bn x4 x1 r5) x3).bind fun (r8:U)=>(Li x1 n (((wrap .i64 (x1+(1:Int)),wrap .i64 (x2-(1:Int))),bn (bn x4 x1 r5) x3 r6))).bind fun (oN:Int×List U)=>some ((oN.1,oN.2))else none else none else none else none)
include hc h3 h5 hM
theorem aFR {a b:Int}{l:List U}{i j:Int}{m:Nat}(h0:0<=a)(hbl:b<=l.length)(hb:l.length<2^57)(hal:kG Ok l)(hn:(b-a).toNat<n)(h1:a<i)(h2:j<b)(hij:i<=j+1)(hl:∀k,a<k->k<i->¬lt (aL d l a) (aL d l k))(hr:∀k,j<k->k<b->lt (aL d l a) (aL d l k))(hm:(j+1-i).toNat<m):
 ∃r,Li a m ((i,j),l)=some r/\a<r.1/\r.1<=b/\eF d a b l r.2/\aL d r.2 a=aL d l a/\(∀k,a<k->k<r.1->¬lt (aL d r.2 a) (aL d r.2 k))/\(∀k,r.1<=k->k<b->lt (aL d r.2 a) (aL d r.2 k)):=by
 refine mu (τ:=(Int×Int)×List U) (L:=Li a) (fun p=>a<p.1.1/\p.1.2<b/\p.1.1<=p.1.2+1/\eF d a b l p.2/\aL d p.2 a=aL d l a/\(∀k,a<k->k<p.1.1->¬lt (aL d p.2 a) (aL d p.2 k))/\(∀k,p.1.2<k->k<b->lt (aL d p.2 a) (aL d p.2 k))) (fun p=>(p.1.2+1-p.1.1).toNat) _ ?_ m ((i,j),l)
  ⟨h1,h2,hij,.refl _ _ _ _,rfl,hl,hr⟩ hm
 rintro m ⟨⟨i,j⟩,D⟩ ⟨i1,i2,i3,i4,i5,i6,i7⟩ gV;dsimp only at i1 i2 i3 i4 i5 i6 i7 gV⊢;have hl:=i4.len;have jV:=i4.al hal;rw[hM];refine tB (V6 (L:=E3 a j D) (T:=fun x=>¬lt (aL d D a) (aL d D x)) (i:=i) (j:=j) (fun m x Q k1 k2 ht hf=>?_) (fun m x k1=>?_) i3 RS) fun i'=>?_
 .rw[h3];refine tD (fun _=>tI RS RS (tE (dF d RS RS) (tI RS RS (tE (dF d RS RS) (tM hc (jV.at d RS RS) (jV.at d RS RS) fun r hr=>Em (fun h=>?_) (fun h=>tS (hf fun k=>k (hr.1 h)))))))) (fun h=>RS);rw[wr RS RS];exact ht fun k=>h (hr.2 k)
 .rw[h3,decide_eq_false RS];rfl
 rintro⟨u1,u2,u3,u4⟩;refine tB (agC (L:=Qy a D i') (T:=fun x=>lt (aL d D a) (aL d D x)) (i:=i') (j:=j) (fun m x Q k1 k2 ht hf=>?_) (fun m x k1=>?_) u2 RS) fun j'=>?_
 .rw[h5];refine tD (fun _=>tI RS RS (tE (dF d RS RS) (tI RS RS (tE (dF d RS RS) (tM hc (jV.at d RS RS) (jV.at d RS RS) fun r hr=>tD (fun h=>?_) (fun h=>tS (hf fun k=>h (hr.2 k)))))))) (fun h=>RS);rw[wr RS RS];exact ht (hr.1 h)
 .rw[h5,decide_eq_false RS];rfl
 rintro⟨v1,v2,v3,v4⟩;have left:∀k,a<k->k<i'->¬lt (aL d D a) (aL d D k):=fun k k1 k2=>by
  by_cases e:k<i
  .exact i6 k k1 e
  .exact u3 k RS k2
 have right:∀k,j'<k->k<b->lt (aL d D a) (aL d D k):=fun k k1 k2=>by
  by_cases e:j<k
  .exact i7 k e k2
  .exact v3 k k1 RS
 refine tD (fun hgt=>tS ⟨RS,RS,i4,i5,left,fun k k1 k2=>right k RS k2⟩) (fun hgt=>?_);have t1:lt (aL d D a) (aL d D i'):=Classical.byContradiction (u4 RS);have t2:=v4 RS;have hne:i'≠j':=fun e=>t2 (by rw[<-e];exact t1);refine tI RS gZ (tE (dF d RS gZ) ?_);refine tI RS gZ (tE (dF d RS gZ) ?_);refine tI RS gZ (tE (dF d RS gZ) ?_);refine tI RS gZ (tE (dF d RS gZ) ?_);rw[wr RS RS,wr RS RS];have l9:∀k,0<=k->aL d (swp d D i' j') k=if k=j' then aL d D i' else if k=i' then aL d D j' else aL d D k:=fun k hk=>p9 RS RS RS RS hk
 have sa:aL d (swp d D i' j') a=aL d D a:=by rw[l9 a h0,if_neg RS,if_neg RS]
 refine gV ((i'+1,j'-1),swp d D i' j') ⟨dB,dB,dB,i4.swp h0 RS RS RS RS RS,sa.trans i5,fun k k1 k2=>?_,fun k k1 k2=>?_⟩ dB
 .dsimp only at k2⊢;rw[sa,l9 k RS,if_neg RS];by_cases e:k=i'
  .rw[if_pos e];exact t2
  .rw[if_neg e];exact left k k1 RS
 .dsimp only at k1⊢;rw[sa,l9 k RS];by_cases e:k=j'
  .rw[if_pos e];exact t1
  .rw[if_neg e,if_neg RS];exact right k RS k2
include hP
theorem aFS {a b p:Int}{l:List U}(h0:0<=a)(hbl:b<=l.length)(hb:l.length<2^57)(hal:kG Ok l)(hn:(b-a).toNat+1<n)(h1:a<=p)(h2:p<b):
 ∃r,peq ((),a,b,p,((),())) l=some r/\a<r.1/\r.1<=b/\eF d a b l r.2/\aL d r.2 a=aL d l p/\(∀k,a<k->k<r.1->¬lt (aL d r.2 a) (aL d r.2 k))/\(∀k,r.1<=k->k<b->lt (aL d r.2 a) (aL d r.2 k)):=by
 rw[hP];refine tI RS gZ (tE (dF d RS gZ) ?_);refine tI RS gZ (tE (dF d RS gZ) ?_);refine tI RS gZ (tE (dF d RS gZ) ?_);refine tI RS gZ (tE (dF d RS gZ) ?_);rw[wr RS RS,wr RS RS];have r0:eF d a b l (swp d l a p):=(eF.refl d a b l).swp h0 hbl RS RS h1 h2;have hl:=r0.len;have jV:=r0.al hal;refine tB (aFR hc h3 h5 hM (n:=n) (d:=d) (a:=a) (b:=b) (l:=swp d l a p) (i:=a+1) (j:=b-1) (m:=n) h0 RS RS jV RS RS RS RS (fun k k1 k2=>RS) (fun k k1 k2=>RS) RS) fun r=>?_;rintro⟨q1,q2,q3,q4,q5,q6⟩;refine tS ⟨q1,q2,r0.trans q3,q4.trans ?_,q5,q6⟩;rw[p9 RS RS RS RS h0];by_cases e:a=p
 .rw[if_pos e,e]
 .rw[if_neg e,if_pos rfl]
end
end uN
end
section
open Go aR
namespace uN
variable {U:Type}
section
variable {n:Nat}{d:U}{Ok:U->Prop}{lt:U->U->Prop}{K:{β:Type}->U->U->(Bool->Option β)->Option β}(hc:Aq Ok lt K)(ho:Ord lt){Qz:Int->Int->Int->(List U)->Nat->Int->Option (Int)}{Lj:Int->Int->Int->Int->Nat->(Int×List U)->Option (PUnit×List U)}{Ll:Int->Int->Int->Int->Nat->(Int×List U)->Option (PUnit×List U)}{IM:Int->Int->Nat->((Int×Int)×List U)->Option ((PUnit×List U)⊕(Bool×List U))}{pin:Unit×Int×Int×(Unit×Unit)->List U->Option (Bool×List U)}(h5:∀(x1 x2 x5:Int) (x6:List U) (m:Nat) (x7:Int),Qz x1 x2 x5 x6 (m+1) x7=bif decide (x7<x2) then bif decide (0<=x7/\x7< (x6.length:Int)) then (aH x6 x7).bind fun (r8:U)=>bif decide (0<=(wrap .i64 (x7-(1:Int)))/\(wrap .i64 (x7-(1:Int)))< (x6.length:Int)) then (aH x6 (wrap .i64 (x7-(1:Int)))).bind fun (bG:U)=>
      K r8 bG fun (dx:Bool)=>bif !(dx) then Qz x1 x2 x5 x6 m (wrap .i64 (x7+(1:Int)))else some x7 else none else none else some x7)(QA:∀(x1 x2 x5 bN:Int) (m:Nat) (kM:Int) (nk:List U),Lj x1 x2 x5 bN (m+1) (kM,nk)=bif decide (kM>=(1:Int)) then bif decide (0<=kM/\kM< (nk.length:Int)) then (aH nk kM).bind fun (fG:U)=>bif decide (0<=(wrap .i64 (kM-(1:Int)))/\(wrap .i64 (kM-(1:Int)))< (nk.length:Int)) then (aH nk (wrap .i64 (kM-(1:Int)))).bind fun (nU:U)=>
      K fG nU fun (BO:Bool)=>bif !(BO) then some (((),nk))else bif decide (0<=(wrap .i64 (kM-(1:Int)))/\(wrap .i64 (kM-(1:Int)))< (nk.length:Int)) then (aH nk (wrap .i64 (kM-(1:Int)))).bind fun (pI:U)=>bif decide (0<=kM/\kM< (nk.length:Int)) then (aH nk kM).bind fun (wu:U)=>bif decide (0<=kM/\kM< (nk.length:Int)) then (aH nk kM).bind fun (wz:U)=>bif decide (0<=(wrap .i64 (kM-(1:Int)))/\(wrap .i64 (kM-(1:Int)))< (((bn nk kM pI).length:Nat):Int)) then (aH (bn nk kM pI) (wrap .i64 (kM-(1:Int)))).bind fun (lI:U)=>
           Lj x1 x2 x5 bN m ((wrap .i64 (kM-(1:Int)),bn (bn nk kM pI) (wrap .i64 (kM-(1:Int))) wu))else none else none else none else none else none else none else some (((),nk)))(h20:∀(x1 x2 x5 bN:Int) (m:Nat) (x27:Int) (x28:List U),Ll x1 x2 x5 bN (m+1) (x27,x28)=bif decide (x27<x2) then bif decide (0<=x27/\x27< (x28.length:Int)) then (aH x28 x27).bind fun (rX:U)=>bif decide (0<=(wrap .i64 (x27-(1:Int)))/\(wrap .i64 (x27-(1:Int)))< (x28.length:Int)) then (aH x28 (wrap .i64 (x27-(1:Int)))).bind fun (Ql:U)=>
      K rX Ql fun (Lb:Bool)=>bif !(Lb) then some (((),x28))else bif decide (0<=(wrap .i64 (x27-(1:Int)))/\(wrap .i64 (x27-(1:Int)))< (x28.length:Int)) then (aH x28 (wrap .i64 (x27-(1:Int)))).bind fun (r32:U)=>bif decide (0<=x27/\x27< (x28.length:Int)) then (aH x28 x27).bind fun (VW:U)=>bif decide (0<=x27/\x27< (x28.length:Int)) then (aH x28 x27).bind fun (oM:U)=>bif decide (0<=(wrap .i64 (x27-(1:Int)))/\(wrap .i64 (x27-(1:Int)))< (((bn x28 x27 r32).length:Nat):Int)) then (aH (bn x28 x27 r32) (wrap .i64 (x27-(1:Int)))).bind fun (aHB:U)=>
           Ll x1 x2 x5 bN m ((wrap .i64 (x27+(1:Int)),bn (bn x28 x27 r32) (wrap .i64 (x27-(1:Int))) VW))else none else none else none else none else none else none else some (((),x28)))(hM:∀(x1 x2:Int) (m:Nat) (x4 x5:Int) (x6:List U),IM x1 x2 (m+1) ((x4,x5),x6)=bif decide (x5< (5:Int)) then (Qz x1 x2 x5 x6 n x4).bind fun (bN:Int)=>bif bN==x2 then some (.inr ((true,x6)))else bif decide ((wrap .i64 (x2-x1))< (50:Int)) then some (.inr ((false,x6)))else bif decide (0<=(wrap .i64 (bN-(1:Int)))/\(wrap .i64 (bN-(1:Int)))< (x6.length:Int)) then (aH x6 (wrap .i64 (bN-(1:Int)))).bind fun (gN:U)=>bif decide (0<=bN/\bN< (x6.length:Int)) then (aH x6 bN).bind fun (eG:U)=>bif decide (0<=bN/\bN< (x6.length:Int)) then (aH x6 bN).bind fun (fJ:U)=>bif decide (0<=(wrap .i64 (bN-(1:Int)))/\(wrap .i64 (bN-(1:Int)))< (((bn x6 bN gN).length:Nat):Int)) then (aH (bn x6 bN gN) (wrap .i64 (bN-(1:Int)))).bind fun (kF:U)=>
          Option.bind (α:=PUnit×List U) ( bif decide ((wrap .i64 (bN-x1))>=(2:Int)) then (Lj x1 x2 x5 bN n ((wrap .i64 (bN-(1:Int)),bn (bn x6 bN gN) (wrap .i64 (bN-(1:Int))) eG))).bind fun (y8:PUnit×List U)=>some (((),y8.2))else some (((),bn (bn x6 bN gN) (wrap .i64 (bN-(1:Int))) eG))) fun (oN:PUnit×List U)=>bif decide ((wrap .i64 (x2-bN))>=(2:Int)) then (Ll x1 x2 x5 bN n ((wrap .i64 (bN+(1:Int)),oN.2))).bind fun (agD:PUnit×List U)=>
           IM x1 x2 m (((bN,wrap .i64 (x5+(1:Int))),agD.2))else IM x1 x2 m (((bN,wrap .i64 (x5+(1:Int))),oN.2))else none else none else none else none else some (.inl (((),x6))))(hP:∀(x1 x2:Int) (x3:List U),pin (((),(x1,(x2,((),()))))) (x3)=
   (IM x1 x2 n (((wrap .i64 (x1+(1:Int)),(0:Int)),x3))).bind fun (agE:(PUnit×List U)⊕(Bool×List U))=>
   Sum.elim (fun (aFT:PUnit×List U)=>some ((false,aFT.2)))
    (fun (apF:Bool×List U)=>some ((apF.1,apF.2))) agE)
include hc ho QA
theorem aFU {a b c r:Int}{D:List U}{m:Nat}(h0:0<=a)(h1:a<r)(h2:r<=D.length)(hb:D.length<2^57)(hal:kG Ok D)(hs:lJ lt d a (r-1) D)(hp:0<a->∀k,a<=k->k<r->¬lt (aL d D k) (aL d D (a-1)))(hm:(r-a).toNat<m):
 ∃s,Lj a b c r m (r-1,D)=some s/\eF d a r D s.2/\lJ lt d a r s.2:=by
 refine mu (τ:=Int×List U) (L:=Lj a b c r) (fun p=>a<=p.1/\p.1<=r-1/\eF d a r D p.2/\(∀u v,a<=u->u<v->v<=r-1->u≠p.1->v≠p.1->¬lt (aL d p.2 v) (aL d p.2 u))/\(∀v,p.1<v->v<=r-1->¬lt (aL d p.2 v) (aL d p.2 p.1))) (fun p=>(p.1-a).toNat) _ ?_ m (r-1,D)
  ⟨dB,lM _,.refl _ _ _ _,fun u v k1 k2 k3 k4 k5=>hs u v k1 k2 (by dsimp only at k5;omega),fun v k1 k2=>by dsimp only at k1;omega⟩ dB
 rintro m ⟨j,D'⟩ ⟨i1,i2,i3,i4,i5⟩ gV;dsimp only at i1 i2 i3 i4 i5 gV⊢;have hl:=i3.len;have jV:=i3.al hal;rw[QA];simp (disch:=omega) only[wr];have fin:(j=a\/¬lt (aL d D' j) (aL d D' (j-1)))->lJ lt d a r D':=fun hh u v k1 k2 k3=>by
  by_cases e2:u=j
  .rw[e2];exact i5 v RS RS
  .by_cases e1:v=j
   .have hj:a<j:=RS;have hlt:¬lt (aL d D' j) (aL d D' (j-1)):=by
     rcases hh with h|h
     .omega
     .exact h
    rw[e1];by_cases e3:u=j-1
    .rw[e3];exact hlt
    .exact ho.neg _ _ _ hlt (i4 u (j-1) k1 RS RS e2 RS)
   .exact i4 u v k1 k2 RS e2 e1
 refine tD (fun hj=>?_) (fun hj=>tS ⟨i3,fin (.inl RS)⟩);refine tI RS RS (tE (dF d RS RS) (tI RS RS (tE (dF d RS RS) (tM hc (jV.at d RS RS) (jV.at d RS RS) fun q hq=>?_))));refine Em (fun h=>tS ⟨i3,fin (.inr fun k=>h (hq.2 k))⟩) (fun h=>?_);have hlt:=hq.1 h;have hja:a<j:=by
  rcases Int.lt_or_eq_of_le i1 with h|h
  .exact h
  .exfalso;rw[<-h] at hlt;have h3:=i3.all (fun x=>¬lt x (aL d D (a-1))) (hp RS) a (lM _) h1;rw[i3.out (a-1) RS (.inl RS)] at hlt;exact h3 hlt
 refine tI RS jo (tE (dF d RS jo) ?_);refine tI RS jo (tE (dF d RS jo) ?_);refine tI RS jo (tE (dF d RS jo) ?_);refine tI RS jo (tE (dF d RS jo) ?_);refine gV (j-1,swp d D' j (j-1)) ⟨dB,dB,i3.swp h0 RS RS RS RS RS,fun u v k1 k2 k3 k4 k5=>?_,fun v k1 k2=>?_⟩ dB
 .dsimp only at k4 k5⊢;rw[p9 RS RS RS RS RS,p9 RS RS RS RS RS,if_neg k5,if_neg k4];by_cases e1:v=j
  .rw[if_pos e1];by_cases e2:u=j
   .omega
   .rw[if_neg e2];exact i4 u (j-1) k1 RS RS e2 RS
  .rw[if_neg e1];by_cases e2:u=j
   .rw[if_pos e2];exact i4 (j-1) v RS RS k3 RS e1
   .rw[if_neg e2];exact i4 u v k1 k2 k3 e2 e1
 .dsimp only at k1 k2⊢;rw[p9 RS RS RS RS RS,p9 RS RS RS RS RS,if_neg RS,if_pos rfl];by_cases e1:v=j
  .rw[if_pos e1];exact ho.asym _ _ hlt
  .rw[if_neg e1];exact i5 v RS k2
omit QA ho
include h20
theorem aFV {a b c r:Int}{D:List U}{m:Nat}(h0:0<=r)(h2:b<=D.length)(hb:D.length<2^57)(hal:kG Ok D)(hm:(b-r).toNat<m):
 ∃s,Ll a b c r m (r+1,D)=some s/\eF d r b D s.2:=by
 refine mu (τ:=Int×List U) (L:=Ll a b c r) (fun p=>r<p.1/\eF d r b D p.2) (fun p=>(b-p.1).toNat) _ ?_ m (r+1,D) ⟨dB,.refl _ _ _ _⟩ dB;rintro m ⟨j,D'⟩ ⟨i1,i3⟩ gV;dsimp only at i1 i3 gV⊢;have hl:=i3.len;have jV:=i3.al hal;rw[h20];refine tD (fun hj=>?_) (fun hj=>tS i3);simp (disch:=omega) only[wr];refine tI RS RS (tE (dF d RS RS) (tI RS RS (tE (dF d RS RS) (tM hc (jV.at d RS RS) (jV.at d RS RS) fun q hq=>?_))));refine Em (fun h=>tS i3) (fun h=>?_);refine tI RS jo (tE (dF d RS jo) ?_);refine tI RS jo (tE (dF d RS jo) ?_);refine tI RS jo (tE (dF d RS jo) ?_);refine tI RS jo (tE (dF d RS jo) ?_);exact gV (j+1,swp d D' j (j-1)) ⟨dB,i3.swp h0 RS RS RS RS RS⟩ dB
include ho h5 QA hM hP
theorem aFW {a b:Int}{l:List U}(h0:0<=a)(hab:a<b)(hbl:b<=l.length)(hb:l.length<2^57)(hal:kG Ok l)(hn:(b-a).toNat+8<n)(hp:0<a->∀k,a<=k->k<b->¬lt (aL d l k) (aL d l (a-1))):
 ∃r,pin ((),a,b,((),())) l=some r/\eF d a b l r.2/\(r.1=true->lJ lt d a b r.2):=by
 rw[hP];refine tB (Q:=fun s=>Sum.elim (fun q:PUnit×List U=>eF d a b l q.2) (fun q:Bool×List U=>eF d a b l q.2/\(q.1=true->lJ lt d a b q.2)) s) ?_ fun s=>?_
 .rw[wr RS RS];refine mu (τ:=(Int×Int)×List U) (L:=IM a b) (fun p=>a<p.1.1/\p.1.1<=b/\0<=p.1.2/\p.1.2<=5/\eF d a b l p.2/\lJ lt d a p.1.1 p.2) (fun p=>(5-p.1.2).toNat) _ ?_ n ((a+1,0),l) ⟨dB,dB,lM _,dB,.refl _ _ _ _,fun u v k1 k2 k3=>by dsimp only at k3;omega⟩ dB;rintro m ⟨⟨i,j⟩,D⟩ ⟨i1,i2,i3,i4,i5,i6⟩ gV;dsimp only at i1 i2 i3 i4 i5 i6 gV⊢;have hl:=i5.len;have jV:=i5.al hal;rw[hM];refine tD (fun hj=>?_) (fun hj=>tS i5);refine tB (V6 (L:=Qz a b j D) (T:=fun x=>¬lt (aL d D x) (aL d D (x-1))) (i:=i) (j:=b-1) (fun m x Q k1 k2 ht hf=>?_) (fun m x k1=>?_) RS RS) fun r=>?_
  .rw[h5];simp (disch:=omega) only[wr];exact tD (fun _=>tI RS RS (tE (dF d RS RS) (tI RS RS (tE (dF d RS RS) (tM hc (jV.at d RS RS) (jV.at d RS RS) fun r hr=>Em (fun h=>ht fun k=>h (hr.2 k)) (fun h=>tS (hf fun k=>k (hr.1 h)))))))) (fun h=>RS)
  .rw[h5,decide_eq_false RS];rfl
  rintro⟨u1,u2,u3,u4⟩;have hsr:lJ lt d a r D:=lJ.aFG ho fun k k1 k2=>by
   by_cases e:k<i
   .exact i6 (k-1) k RS RS e
   .exact u3 k RS k2
  refine En (fun e=>?_) (fun e=>?_)
  .have e':r=b:=by simpa using e
   rw[e'] at hsr;exact tS ⟨i5,fun _=>hsr⟩
  .have e':¬r=b:=by simpa using e
   refine tD (fun _=>tS ⟨i5,fun h=>dh⟩) (fun _=>?_);simp (disch:=omega) only[wr];refine tI RS jo (tE (dF d RS jo) ?_);refine tI RS jo (tE (dF d RS jo) ?_);refine tI RS jo (tE (dF d RS jo) ?_);refine tI RS jo (tE (dF d RS jo) ?_);have s1:eF d a b l (swp d D r (r-1)):=i5.swp h0 RS RS RS RS RS;have hl1:=s1.len;refine tB (Q:=fun s:PUnit×List U=>eF d a b l s.2/\lJ lt d a r s.2) ?_ fun s=>?_
   .refine tD (fun h2=>?_) (fun h2=>tS ⟨s1,fun u v k1 k2 k3=>RS⟩);refine tB (aFU hc ho QA (d:=d) (b:=b) (c:=j) (r:=r) (D:=swp d D r (r-1)) h0 RS RS RS (s1.al hal) (fun u v k1 k2 k3=>?_) (fun ha k k1 k2=>?_) RS) fun s=>?_
    .rw[p9 RS RS RS RS RS,p9 RS RS RS RS RS,if_neg RS,if_neg RS,if_neg RS,if_neg RS];exact hsr u v k1 k2 RS
    .rw[s1.out (a-1) RS (.inl RS)];exact s1.all (fun x=>¬lt x (aL d l (a-1))) (hp ha) k k1 RS
    .rintro⟨q1,q2⟩;exact tS ⟨s1.trans (q1.wide (lM _) RS h0),q2⟩
   .rintro⟨q1,q2⟩;have hl2:=q1.len;refine tD (fun h2=>?_) (fun h2=>?_)
    .refine tB (aFV hc h20 (d:=d) (a:=a) (b:=b) (c:=j) (r:=r) (D:=s.2) RS RS RS (q1.al hal) RS) fun t=>?_;intro t1;refine gV ((r,j+1),t.2) ⟨dB,dB,dB,dB,q1.trans (t1.wide RS (lM _) h0),fun u v k1 k2 k3=>?_⟩ dB;dsimp only at k3⊢;rw[t1.out u RS (.inl RS),t1.out v RS (.inl RS)];exact q2 u v k1 k2 k3
    .exact gV ((r,j+1),s.2) ⟨dB,dB,dB,dB,q1,q2⟩ dB
 .intro hs;rcases s with s|s
  .exact tS ⟨hs,fun h=>dh⟩
  .exact tS hs
end
theorem aFX {x y:Int}(h0:0<=y)(h1:y<2^62):0<=iJ .u64 x y/\iJ .u64 x y<=y:=by
 have e:iJ .u64 x y=wrap .u64 (((BitVec.ofInt 64 x&&& BitVec.ofInt 64 y).toNat:Nat):Int):=rfl;have h2:(BitVec.ofInt 64 x&&& BitVec.ofInt 64 y).toNat<=(BitVec.ofInt 64 y).toNat:=by rw[BitVec.toNat_and];exact Nat.and_le_right
 have h3:(BitVec.ofInt 64 y).toNat=y.toNat:=by rw[BitVec.toNat_ofInt];omega
 rw[e,IntKind.wrap_u64];omega
section
variable {n:Nat}{d:U}{np:Int->Option Int}{xs:Unit->Int->Option (Int×Int)}(hN:∀k,8<=k->k<131072->∃M,np k=some M/\0<M/\M<=2*k)(hX:∀x,∃r,xs () x=some r){B5:Int->Int->Int->Nat->(Int×Int×List U)->Option (PUnit×List U)}{brk:Unit×Int×Int×(Unit×Unit)->List U->Option (PUnit×List U)}(h5:∀(x1 x2 r4:Int) (m:Nat) (x5 x6:Int) (x7:List U),B5 x1 x2 r4 (m+1) (x5,(x6,x7))=bif !((4:Int)==(0:Int)) then bif decide (x5<=(wrap .i64 ((wrap .i64 (x1+(wrap .i64 ((wrap .i64 (Int.tdiv (wrap .i64 (x2-x1)) (4:Int)))*(2:Int)))))+(1:Int)))) then (xs (()) x6).bind fun (r8:Int×Int)=>
     Option.bind (α:=Int) ( bif decide ((wrap .i64 (iJ .u64 r8.1 (wrap .u64 (r4-(1:Int)))))>=(wrap .i64 (x2-x1))) then some (wrap .i64 ((wrap .i64 (iJ .u64 r8.1 (wrap .u64 (r4-(1:Int)))))-(wrap .i64 (x2-x1))))else some (wrap .i64 (iJ .u64 r8.1 (wrap .u64 (r4-(1:Int)))))) fun (bG:Int)=>bif decide (0<=(wrap .i64 (x1+bG))/\(wrap .i64 (x1+bG))< (x7.length:Int)) then (aH x7 (wrap .i64 (x1+bG))).bind fun (dx:U)=>bif decide (0<=x5/\x5< (x7.length:Int)) then (aH x7 x5).bind fun (bN:U)=>bif decide (0<=x5/\x5< (x7.length:Int)) then (aH x7 x5).bind fun (gN:U)=>bif decide (0<=(wrap .i64 (x1+bG))/\(wrap .i64 (x1+bG))< (((bn x7 x5 dx).length:Nat):Int)) then (aH (bn x7 x5 dx) (wrap .i64 (x1+bG))).bind fun (eG:U)=>
         B5 x1 x2 r4 m ((wrap .i64 (x5+(1:Int)),(r8.2,bn (bn x7 x5 dx) (wrap .i64 (x1+bG)) bN)))else none else none else none else none else some (((),x7))else none)(hP:∀(x1 x2:Int) (x3:List U),brk (((),(x1,(x2,((),()))))) (x3)=bif decide ((wrap .i64 (x2-x1))>=(8:Int)) then (np (wrap .i64 (x2-x1))).bind fun (r4:Int)=>bif !((4:Int)==(0:Int)) then (B5 x1 x2 r4 n ((wrap .i64 ((wrap .i64 (x1+(wrap .i64 ((wrap .i64 (Int.tdiv (wrap .i64 (x2-x1)) (4:Int)))*(2:Int)))))-(1:Int)),(wrap .u64 (wrap .i64 (x2-x1)),x3)))).bind fun (fJ:PUnit×List U)=>some (((),fJ.2))else none else some (((),x3)))
include hN hX h5 hP
theorem aFY {a b:Int}{l:List U}(h0:0<=a)(hab:a<=b)(hbl:b<=l.length)(hb:l.length<131072)(hn:8<n):
 ∃r,brk ((),a,b,((),())) l=some r/\eF d a b l r.2:=by
 have ht:Int.tdiv (b-a) 4=(b-a)/4:=Int.tdiv_eq_ediv_of_nonneg RS;rw[hP];simp (disch:=omega) only[wr];refine tD (fun h8=>?_) (fun h8=>tS (.refl _ _ _ _));obtain⟨M,e,m1,m2⟩:=hN (b-a) h8 RS;refine tE e (tG aG ?_);simp (disch:=omega) only[wr,ht];refine tB (Q:=fun s:PUnit×List U=>eF d a b l s.2) ?_ fun s hs=>tS hs;generalize wrap .u64 (b-a)=z;refine mu (τ:=Int×Int×List U) (L:=B5 a b M) (fun p=>a+(b-a)/4*2-1<=p.1/\p.1<=a+(b-a)/4*2+2/\eF d a b l p.2.2) (fun p=>(a+(b-a)/4*2+2-p.1).toNat) _ ?_ n (a+(b-a)/4*2-1,(z,l)) ⟨lM _,dB,.refl _ _ _ _⟩ dB;rintro m ⟨x,y,D⟩ ⟨i1,i2,i3⟩ gV;dsimp only at i1 i2 i3 gV⊢;have hl:=i3.len;rw[h5];refine tG aG ?_;simp (disch:=omega) only[wr,ht];refine tD (fun hx=>?_) (fun hx=>tS i3);obtain⟨q,hq⟩:=hX y;refine tE hq ?_;have hw:wrap .u64 (M-1)=M-1:=LG
 rw[hw];obtain⟨b1,b2⟩:=aFX (x:=q.1) (y:=M-1) RS RS;generalize iJ .u64 q.1 (M-1)=v at*;simp (disch:=omega) only[wr];refine tB (Q:=fun o:Int=>0<=o/\o<b-a) ?_ fun o=>?_
 .exact tD (fun h=>tS RS) (fun h=>tS RS)
 .rintro⟨o1,o2⟩;simp (disch:=omega) only[wr];refine tI RS jo (tE (dF d RS jo) ?_);refine tI RS jo (tE (dF d RS jo) ?_);refine tI RS jo (tE (dF d RS jo) ?_);refine tI RS jo (tE (dF d RS jo) ?_);exact gV (x+1,(q.2,swp d D x (a+o))) ⟨dB,dB,i3.swp h0 RS RS RS RS RS⟩ dB
end
section
variable {n:Nat}(d:U){Ok:U->Prop}{lt:U->U->Prop}{K:{β:Type}->U->U->(Bool->Option β)->Option β}(hc:Aq Ok lt K){o2:List U×Int×Int×Unit×Unit×Unit->Int->Option ((Int×Int)×Int)}{med:List U×Int×Int×Int×Unit×Unit×Unit->Int->Option (Int×Int)}{Lm:List U×Int×Unit×Unit×Unit->Int->Option (Int×Int)}{GK:List U×Int×Int×Unit×Unit->Option (Int×Int)}(h2:∀(x1:List U) (x2 x3 x4:Int),o2 ((x1,(x2,(x3,((),((),())))))) (x4)=
   (aH x1 x3).bind fun (r5:U)=>(aH x1 x2).bind fun (r6:U)=>
   K r5 r6 fun (r7:Bool)=>bif r7 then some (((x3,x2),wrap .i64 (x4+(1:Int))))else some (((x2,x3),x4)))(h3:∀(x1:List U) (x2 x3 x4 x5:Int),med ((x1,(x2,(x3,(x4,((),((),()))))))) (x5)=
   (o2 ((x1,(x2,(x3,((),((),())))))) x5).bind fun (r6:(Int×Int)×Int)=>(o2 ((x1,(r6.1.2,(x4,((),((),())))))) r6.2).bind fun (r7:(Int×Int)×Int)=>(o2 ((x1,(r6.1.1,(r7.1.1,((),((),())))))) r7.2).bind fun (r8:(Int×Int)×Int)=>some ((r8.1.2,r8.2)))(h4:∀(x1:List U) (x2 x3:Int),Lm ((x1,(x2,((),((),()))))) (x3)=
   (med ((x1,(wrap .i64 (x2-(1:Int)),(x2,(wrap .i64 (x2+(1:Int)),((),((),()))))))) x3).bind fun (r4:Int×Int)=>some ((r4.1,r4.2)))(hP:∀(x1:List U) (x2 x3:Int),GK (x1,(x2,(x3,((),()))))=bif !((4:Int)==(0:Int)) then bif !((4:Int)==(0:Int)) then bif !((4:Int)==(0:Int)) then bif decide ((wrap .i64 (x3-x2))>=(8:Int)) then bif decide ((wrap .i64 (x3-x2))>=(50:Int)) then (Lm ((x1,(wrap .i64 (x2+(wrap .i64 ((wrap .i64 (Int.tdiv (wrap .i64 (x3-x2)) (4:Int)))*(1:Int)))),((),((),()))))) (0:Int)).bind fun (r4:Int×Int)=>(Lm ((x1,(wrap .i64 (x2+(wrap .i64 ((wrap .i64 (Int.tdiv (wrap .i64 (x3-x2)) (4:Int)))*(2:Int)))),((),((),()))))) r4.2).bind fun (r5:Int×Int)=>(Lm ((x1,(wrap .i64 (x2+(wrap .i64 ((wrap .i64 (Int.tdiv (wrap .i64 (x3-x2)) (4:Int)))*(3:Int)))),((),((),()))))) r5.2).bind fun (r6:Int×Int)=>(med ((x1,(r4.1,(r5.1,(r6.1,((),((),()))))))) r6.2).bind fun (r7:Int×Int)=>bif r7.2==(0:Int) then some ((r7.1,(1:Int)))else bif r7.2==(12:Int) then some ((r7.1,(2:Int)))else some ((r7.1,(0:Int)))else (med ((x1,(wrap .i64 (x2+(wrap .i64 ((wrap .i64 (Int.tdiv (wrap .i64 (x3-x2)) (4:Int)))*(1:Int)))),(wrap .i64 (x2+(wrap .i64 ((wrap .i64 (Int.tdiv (wrap .i64 (x3-x2)) (4:Int)))*(2:Int)))),(wrap .i64 (x2+(wrap .i64 ((wrap .i64 (Int.tdiv (wrap .i64 (x3-x2)) (4:Int)))*(3:Int)))),((),((),()))))))) (0:Int)).bind fun (r8:Int×Int)=>bif r8.2==(0:Int) then some ((r8.1,(1:Int)))else bif r8.2==(12:Int) then some ((r8.1,(2:Int)))else some ((r8.1,(0:Int)))else bif (0:Int)==(0:Int) then some ((wrap .i64 (x2+(wrap .i64 ((wrap .i64 (Int.tdiv (wrap .i64 (x3-x2)) (4:Int)))*(2:Int)))),(1:Int)))else bif (0:Int)==(12:Int) then some ((wrap .i64 (x2+(wrap .i64 ((wrap .i64 (Int.tdiv (wrap .i64 (x3-x2)) (4:Int)))*(2:Int)))),(2:Int)))else some ((wrap .i64 (x2+(wrap .i64 ((wrap .i64 (Int.tdiv (wrap .i64 (x3-x2)) (4:Int)))*(2:Int)))),(0:Int)))else none else none else none)
include d hc h2
theorem agH {l:List U}{x y z:Int}(hal:kG Ok l)(h1:0<=x)(h3:x<l.length)(h4:0<=y)(h5:y<l.length):∃r,o2 (l,x,y,(),(),()) z=some r/\((r.1.1=y/\r.1.2=x)\/(r.1.1=x/\r.1.2=y)):=by rw[h2];refine tE (dF d RS RS) (tE (dF d RS RS) (tM hc (hal.at d RS RS) (hal.at d RS RS) fun q hq=>?_));exact tD (fun _=>tS (.inl ⟨rfl,rfl⟩)) (fun _=>tS (.inr ⟨rfl,rfl⟩))
include h3
theorem agI {l:List U}{x y w z a b:Int}(hal:kG Ok l)(h0:0<=a)(hb:b<=l.length)(k1:a<=x/\x<b)(k2:a<=y/\y<b)(k3:a<=w/\w<b):∃r,med (l,x,y,w,(),(),()) z=some r/\a<=r.1/\r.1<b:=by
 rw[h3];refine tB (agH hc h2 (d:=d) hal RS RS RS RS) fun r hr=>?_;have r1:a<=r.1.1/\r.1.1<b/\a<=r.1.2/\r.1.2<b:=RS
 refine tB (agH hc h2 (d:=d) hal RS RS RS RS) fun s hs=>?_;have s1:a<=s.1.1/\s.1.1<b/\a<=s.1.2/\s.1.2<b:=RS
 refine tB (agH hc h2 (d:=d) hal RS RS RS RS) fun t ht=>?_;exact tS dB
include h4
theorem agJ {l:List U}{x z a b:Int}(hal:kG Ok l)(h0:0<=a)(hb:b<=l.length)(hl:l.length<2^57)(k1:a<x/\x+1<b):∃r,Lm (l,x,(),(),()) z=some r/\a<=r.1/\r.1<b:=by rw[h4];simp (disch:=omega) only[wr];exact tB (agI hc h2 h3 (d:=d) (a:=a) (b:=b) hal h0 hb RS RS RS) fun r hr=>tS hr
include hP
theorem aFZ {l:List U}{a b:Int}(hal:kG Ok l)(h0:0<=a)(hb:b<=l.length)(hl:l.length<2^57)(hab:12<b-a):∃r,GK (l,a,b,(),())=some r/\a<=r.1/\r.1<b:=by
 have ht:Int.tdiv (b-a) 4=(b-a)/4:=Int.tdiv_eq_ediv_of_nonneg RS;rw[hP];refine tG aG (tG aG (tG aG ?_));simp (disch:=omega) only[wr,ht];have fin:∀q:Int×Int,a<=q.1/\q.1<b->∃r,(bif q.2==(0:Int) then some ((q.1,(1:Int))) else bif q.2==(12:Int) then some ((q.1,(2:Int))) else some ((q.1,(0:Int))))=some r/\a<=r.1/\r.1<b:=fun q hq=>En (fun _=>tS hq) (fun _=>En (fun _=>tS hq) (fun _=>tS hq));refine tD (fun _=>?_) (fun h=>RS);refine tD (fun h50=>?_) (fun _=>?_)
 .refine tB (agJ hc h2 h3 h4 (d:=d) (a:=a) (b:=b) hal h0 hb hl RS) fun r hr=>?_;refine tB (agJ hc h2 h3 h4 (d:=d) (a:=a) (b:=b) hal h0 hb hl RS) fun s hs=>?_;refine tB (agJ hc h2 h3 h4 (d:=d) (a:=a) (b:=b) hal h0 hb hl RS) fun t ht=>?_;exact tB (agI hc h2 h3 (d:=d) (a:=a) (b:=b) hal h0 hb hr hs ht) fun u hu=>fin u hu
 .exact tB (agI hc h2 h3 (d:=d) (a:=a) (b:=b) hal h0 hb RS RS RS) fun u hu=>fin u hu
end
end uN
end
section
open Go aR
namespace uN
variable {U:Type}
def Pa (lt:U->U->Prop)(d:U)(a b x y:Int)(l:List U):Prop:=∀u v,a<=u->u<v->v<b->(u<x\/y<=v)->¬lt (aL d l v) (aL d l u)
theorem Pa.rp {lt:U->U->Prop}{d:U}{a b x y:Int}{l l':List U}(h:Pa lt d a b x y l)(k:eF d x y l l')(ha:a<=x)(hb:y<=b)(h0:0<=a):Pa lt d a b x y l':=by
 intro u v k1 k2 k3 k4;by_cases e1:x<=u/\u<y
 .have hv:y<=v:=RS
  rw[k.out v RS (.inr hv)];exact k.all (fun z=>¬lt (aL d l v) z) (fun w w1 w2=>h w v RS RS k3 (.inr hv)) u e1.1 e1.2
 .rw[k.out u RS RS];by_cases e2:x<=v/\v<y
  .exact k.all (fun z=>¬lt z (aL d l u)) (fun w w1 w2=>h u w k1 RS RS (.inl RS)) v e2.1 e2.2
  .rw[k.out v RS RS];exact h u v k1 k2 k3 k4
theorem Pa.fin {lt:U->U->Prop}{d:U}{a b x y:Int}{l l':List U}(h:Pa lt d a b x y l)(k:eF d x y l l')(ha:a<=x)(hb:y<=b)(h0:0<=a)(hs:lJ lt d x y l'):lJ lt d a b l':=by
 intro u v k1 k2 k3;by_cases e:u<x\/y<=v
 .exact h.rp k ha hb h0 u v k1 k2 k3 e
 .exact hs u v RS k2 RS
section
variable {n:Nat}{d:U}{Ok:U->Prop}{lt:U->U->Prop}{K:{β:Type}->U->U->(Bool->Option β)->Option β}(hc:Aq Ok lt K)(ho:Ord lt){ins heap brk rev:Unit×Int×Int×(Unit×Unit)->List U->Option (PUnit×List U)}{GK:List U×Int×Int×Unit×Unit->Option (Int×Int)}{pin:Unit×Int×Int×(Unit×Unit)->List U->Option (Bool×List U)}{peq:Unit×Int×Int×Int×(Unit×Unit)->List U->Option (Int×List U)}{prt:Unit×Int×Int×Int×(Unit×Unit)->List U->Option ((Int×Bool)×List U)}(apG:∀{a b:Int} {l:List U},0<=a->a<=b->b<=l.length->l.length<131072->kG Ok l->∃r,ins ((),a,b,((),())) l=some r/\eF d a b l r.2/\lJ lt d a b r.2)(apH:∀{a b:Int} {l:List U},0<=a->a<=b->b<=l.length->l.length<131072->kG Ok l->∃r,heap ((),a,b,((),())) l=some r/\eF d a b l r.2/\lJ lt d a b r.2)(apI:∀{a b:Int} {l:List U},0<=a->a<=b->b<=l.length->l.length<131072->∃r,brk ((),a,b,((),())) l=some r/\eF d a b l r.2)(apJ:∀{a b:Int} {l:List U},kG Ok l->0<=a->b<=l.length->l.length<131072->12<b-a->∃r,GK (l,a,b,(),())=some r/\a<=r.1/\r.1<b)(apK:∀{a b:Int} {l:List U},0<=a->a<=b->b<=l.length->l.length<131072->∃r,rev ((),a,b,((),())) l=some r/\eF d a b l r.2)(apL:∀{a b:Int} {l:List U},0<=a->a<b->b<=l.length->l.length<131072->kG Ok l->(0<a->∀k,a<=k->k<b->¬lt (aL d l k) (aL d l (a-1)))->∃r,pin ((),a,b,((),())) l=some r/\eF d a b l r.2/\(r.1=true->lJ lt d a b r.2))(apM:∀{a b p:Int} {l:List U},0<=a->b<=l.length->l.length<131072->kG Ok l->a<=p->p<b->∃r,peq ((),a,b,p,((),())) l=some r/\a<r.1/\r.1<=b/\eF d a b l r.2/\aL d r.2 a=aL d l p/\(∀k,a<k->k<r.1->¬lt (aL d r.2 a) (aL d r.2 k))/\(∀k,r.1<=k->k<b->lt (aL d r.2 a) (aL d r.2 k)))(agK:∀{a b p:Int} {l:List U},0<=a->b<=l.length->l.length<131072->kG Ok l->a<=p->p<b->∃r,prt ((),a,b,p,((),())) l=some r/\Parts lt d a b r.1.1 l r.2){BU:Nat->Nat->(Int×Int×Int×Bool×Bool)×List U->Option (PUnit×List U)}{pd:Nat->Unit×Int×Int×Int×(Unit×Unit)->List U->Option (PUnit×List U)}(apN:∀(g m:Nat) (x5 x6 x7:Int) (x8 dD:Bool) (x10:List U),BU g (m+1) ((x5,(x6,(x7,(x8,dD)))),x10)=bif decide ((wrap .i64 (x6-x5))<=(12:Int)) then (ins (((),(x5,(x6,((),()))))) x10).bind fun (bN:PUnit×List U)=>some (((),bN.2))else bif x7==(0:Int) then (heap (((),(x5,(x6,((),()))))) x10).bind fun (gN:PUnit×List U)=>some (((),gN.2))else Option.bind (α:=Int×List U) ( bif !x8 then (brk (((),(x5,(x6,((),()))))) x10).bind fun (eG:PUnit×List U)=>some ((wrap .i64 (x7-(1:Int)),eG.2))else some ((x7,x10))) fun (fJ:Int×List U)=>(GK ((fJ.2,(x5,(x6,((),())))))).bind fun (kF:Int×Int)=>
     Option.bind (α:=(Int×Int)×List U) ( bif kF.2==(2:Int) then (rev (((),(x5,(x6,((),()))))) fJ.2).bind fun (r16:PUnit×List U)=>some (((wrap .i64 ((wrap .i64 (x6-(1:Int)))-(wrap .i64 (kF.1-x5))),(1:Int)),r16.2))else some (((kF.1,kF.2),fJ.2))) fun (lZ:(Int×Int)×List U)=>
     Option.bind (α:=(PUnit×List U)⊕(PUnit×List U)) ( bif bif bif x8 then dD else false then lZ.1.2==(1:Int) else false then (pin (((),(x5,(x6,((),()))))) lZ.2).bind fun (fG:Bool×List U)=>bif fG.1 then some (.inr (((),fG.2)))else some (.inl (((),fG.2)))else some (.inl (((),lZ.2)))) fun (nU:(PUnit×List U)⊕(PUnit×List U))=>
     Sum.elim (fun (BS:PUnit×List U)=>bif decide (x5> (0:Int)) then bif decide (0<=(wrap .i64 (x5-(1:Int)))/\(wrap .i64 (x5-(1:Int)))< (BS.2.length:Int)) then (aH BS.2 (wrap .i64 (x5-(1:Int)))).bind fun (wu:U)=>bif decide (0<=lZ.1.1/\lZ.1.1< (BS.2.length:Int)) then (aH BS.2 lZ.1.1).bind fun (wz:U)=>
         K wu wz fun (lI:Bool)=>bif !(lI) then (peq (((),(x5,(x6,(lZ.1.1,((),())))))) BS.2).bind fun (y8:Int×List U)=>
          BU g m (((y8.1,(x6,(fJ.1,(x8,dD)))),y8.2))else (prt (((),(x5,(x6,(lZ.1.1,((),())))))) BS.2).bind fun (oN:(Int×Bool)×List U)=>bif !((8:Int)==(0:Int)) then bif decide ((wrap .i64 (oN.1.1-x5))< (wrap .i64 (x6-oN.1.1))) then (pd g (((),(x5,(oN.1.1,(fJ.1,((),())))))) oN.2).bind fun (agc:PUnit×List U)=>
            BU g m (((wrap .i64 (oN.1.1+(1:Int)),(x6,(fJ.1,(decide ((wrap .i64 (oN.1.1-x5))>=(wrap .i64 (Int.tdiv (wrap .i64 (x6-x5)) (8:Int)))),oN.1.2)))),agc.2))else (pd g (((),(wrap .i64 (oN.1.1+(1:Int)),(x6,(fJ.1,((),())))))) oN.2).bind fun (agd:PUnit×List U)=>
            BU g m (((x5,(oN.1.1,(fJ.1,(decide ((wrap .i64 (x6-oN.1.1))>=(wrap .i64 (Int.tdiv (wrap .i64 (x6-x5)) (8:Int)))),oN.1.2)))),agd.2))else none else none else none else (prt (((),(x5,(x6,(lZ.1.1,((),())))))) BS.2).bind fun (rX:(Int×Bool)×List U)=>bif !((8:Int)==(0:Int)) then bif decide ((wrap .i64 (rX.1.1-x5))< (wrap .i64 (x6-rX.1.1))) then (pd g (((),(x5,(rX.1.1,(fJ.1,((),())))))) rX.2).bind fun (Ql:PUnit×List U)=>
         BU g m (((wrap .i64 (rX.1.1+(1:Int)),(x6,(fJ.1,(decide ((wrap .i64 (rX.1.1-x5))>=(wrap .i64 (Int.tdiv (wrap .i64 (x6-x5)) (8:Int)))),rX.1.2)))),Ql.2))else (pd g (((),(wrap .i64 (rX.1.1+(1:Int)),(x6,(fJ.1,((),())))))) rX.2).bind fun (Lb:PUnit×List U)=>
         BU g m (((x5,(rX.1.1,(fJ.1,(decide ((wrap .i64 (x6-rX.1.1))>=(wrap .i64 (Int.tdiv (wrap .i64 (x6-x5)) (8:Int)))),rX.1.2)))),Lb.2))else none)
      (fun (aF0:PUnit×List U)=>some (((),aF0.2))) nU)(apO:∀(g:Nat) (x1 x2 x3:Int) (x4:List U),pd (g+1) (((),(x1,(x2,(x3,((),())))))) (x4)=
   (BU g n (((x1,(x2,(x3,(true,true)))),x4))).bind fun (r32:PUnit×List U)=>some (((),r32.2)))
include hc ho apG apH apI apJ apK apL apM agK apN apO
theorem aF1 (hn:150000<n):∀(g:Nat)(a b lim:Int)(l:List U),(b-a).toNat<g->0<=a->a<=b->b<=l.length->l.length<131072->kG Ok l->(0<a->∀k,a<=k->k<b->¬lt (aL d l k) (aL d l (a-1)))->∃r,pd g ((),a,b,lim,((),())) l=some r/\eF d a b l r.2/\lJ lt d a b r.2:=by
 intro g;induction g with
 |zero=>intro a b lim l h;omega|succ g ih=>
  intro a b lim l hg h0 hab hbl hb hal hp;rw[apO];refine tB (Q:=fun r:PUnit×List U=>eF d a b l r.2/\lJ lt d a b r.2) ?_ fun r hr=>tS hr;refine mu (τ:=(Int×Int×Int×Bool×Bool)×List U) (L:=BU g) (fun p=>a<=p.1.1/\p.1.1<=p.1.2.1/\p.1.2.1<=b/\eF d a b l p.2/\Pa lt d a b p.1.1 p.1.2.1 p.2) (fun p=>(p.1.2.1-p.1.1).toNat) _ ?_ n ((a,(b,(lim,(true,true)))),l)
   ⟨lM _,hab,lM _,.refl _ _ _ _,fun u v k1 k2 k3 k4=>by dsimp only at k4;omega⟩ dB
  rintro m ⟨⟨x5,x6,x7,x8,dD⟩,D⟩ ⟨i1,i2,i3,i4,i5⟩ gV;dsimp only at i1 i2 i3 i4 i5 gV⊢;have hl:=i4.len;have pre:∀{D':List U},eF d x5 x6 D D'->0<x5->∀k,x5<=k->k<x6->¬lt (aL d D' k) (aL d D' (x5-1)):=fun {D'} hD hx k k1 k2=>by
   have hP:=i5.rp hD i1 i3 h0;by_cases e:a<x5
   .exact hP (x5-1) k RS RS RS (.inl RS)
   .have e':x5=a:=RS;have hw:=i4.trans (hD.wide i1 i3 h0);rw[e',hw.out (a-1) RS (.inl RS)];exact hw.all (fun z=>¬lt z (aL d l (a-1))) (hp RS) k RS RS
  rw[apN];simp (disch:=omega) only[wr];refine tD (fun _=>?_) (fun h12=>?_)
  .refine tB (apG (a:=x5) (b:=x6) (l:=D) RS i2 RS RS (i4.al hal)) fun r=>?_;rintro⟨r1,r2⟩;exact tS ⟨i4.trans (r1.wide i1 i3 h0),i5.fin r1 i1 i3 h0 r2⟩
  refine En (fun _=>?_) (fun _=>?_)
  .refine tB (apH (a:=x5) (b:=x6) (l:=D) RS i2 RS RS (i4.al hal)) fun r=>?_;rintro⟨r1,r2⟩;exact tS ⟨i4.trans (r1.wide i1 i3 h0),i5.fin r1 i1 i3 h0 r2⟩
  refine tB (Q:=fun s:Int×List U=>eF d x5 x6 D s.2) ?_ fun s hs=>?_
  .refine En (fun _=>?_) (fun _=>tS (.refl _ _ _ _));exact tB (apI (a:=x5) (b:=x6) (l:=D) RS i2 RS RS) fun r hr=>tS hr
  have hl1:=hs.len;refine tB (apJ (a:=x5) (b:=x6) (l:=s.2) (hs.al (i4.al hal)) RS RS RS RS) fun c=>?_;rintro⟨c1,c2⟩;refine tB (Q:=fun t:(Int×Int)×List U=>x5<=t.1.1/\t.1.1<x6/\eF d x5 x6 D t.2) ?_ fun t=>?_
  .refine En (fun _=>?_) (fun _=>tS ⟨c1,c2,hs⟩);refine tB (apK (a:=x5) (b:=x6) (l:=s.2) RS i2 RS RS) fun r hr=>?_;simp (disch:=omega) only[wr];exact tS ⟨dB,dB,hs.trans hr⟩
  rintro⟨t1,t2,t3⟩;have hl2:=t3.len;refine tB (Q:=fun w:(PUnit×List U)⊕(PUnit×List U)=>Sum.elim (fun q:PUnit×List U=>eF d x5 x6 D q.2) (fun q:PUnit×List U=>eF d x5 x6 D q.2/\lJ lt d x5 x6 q.2) w) ?_ fun w hw=>?_
  .refine En (fun _=>?_) (fun _=>tS t3);refine tB (apL (a:=x5) (b:=x6) (l:=t.2) RS RS RS RS (t3.al (i4.al hal)) (pre t3)) fun r=>?_;rintro⟨r1,r2⟩;exact En (fun h=>tS ⟨t3.trans r1,r2 h⟩) (fun _=>tS (t3.trans r1))
  rcases w with q|q
  .have d1:eF d x5 x6 D q.2:=hw;have hl1:=d1.len;change∃r,(bif decide (x5>0) then _ else _)=some r/\_;generalize q.2=D1 at*;refine tD (fun hx0=>?_) (fun hx0=>?_)
   .refine tI RS RS (tE (dF d RS RS) (tI RS RS (tE (dF d RS RS) (tM hc ((d1.al (i4.al hal)).at d RS RS) ((d1.al (i4.al hal)).at d RS RS) fun z hz=>?_))));refine Em (fun hlt=>?_) (fun hlt=>?_)
    .have hlt':¬lt (aL d D1 (x5-1)) (aL d D1 t.1.1):=fun k=>hlt (hz.2 k);refine tB (apM (a:=x5) (b:=x6) (p:=t.1.1) (l:=D1) RS RS RS (d1.al (i4.al hal)) t1 t2) fun r=>?_;rintro⟨r1,r2,r3,r4,r5,r6⟩;have hl3:=r3.len;have d2:=d1.trans r3;have P2:=i5.rp (x:=x5) (y:=x6) d2 i1 i3 h0;refine gV _ ⟨dB,dB,dB,i4.trans (d2.wide i1 i3 h0),fun u v k1 k2 k3 k4=>?_⟩ dB;dsimp only at k4⊢;by_cases e:u<x5\/x6<=v
     .exact P2 u v k1 k2 k3 e
     .have hu:¬lt (aL d r.2 x5) (aL d r.2 u):=by
       by_cases e2:u=x5
       .rw[e2];exact ho.wF _
       .exact r5 u RS RS
      have hv:¬lt (aL d r.2 v) (aL d r.2 x5):=by
       by_cases e2:v<r.1
       .have h1:=pre d2 hx0 v RS RS;rw[r3.out (x5-1) RS (.inl RS)] at h1;rw[r4];exact ho.neg _ _ _ h1 hlt'
       .exact ho.asym _ _ (r6 v RS RS)
      exact ho.neg _ _ _ hv hu
    .refine tB (agK (a:=x5) (b:=x6) (p:=t.1.1) (l:=D1) RS RS RS (d1.al (i4.al hal)) t1 t2) fun r=>?_;intro hr;obtain⟨p1,p2,p3,p4,p5⟩:=hr;have hl3:=p3.len;have d2:=d1.trans p3;have P2:=i5.rp (x:=x5) (y:=x6) d2 i1 i3 h0;have QB:=d2.al (i4.al hal);refine tG aG ?_;simp (disch:=omega) only[wr];refine tD (fun hlt=>?_) (fun hlt=>?_)
     .refine tB (ih x5 r.1.1 _ r.2 RS RS RS RS RS QB (fun hx k k1 k2=>?_)) fun s=>?_
      .exact pre d2 hx k k1 RS
      .rintro⟨s1,s2⟩;have hl4:=s1.len;have em:aL d s.2 r.1.1=aL d r.2 r.1.1:=s1.out _ RS (.inr RS);have s1':=s1.wide (a':=x5) (b':=x6) RS RS RS;refine gV _ ⟨dB,dB,dB,i4.trans ((d2.trans s1').wide RS RS h0),fun u v k1 k2 k3 k4=>?_⟩ dB;dsimp only at k4⊢;by_cases e:u<x5\/x6<=v
       .exact P2.rp s1' i1 i3 h0 u v k1 k2 k3 e
       .by_cases e1:v<r.1.1
        .exact s2 u v RS k2 e1
        .have hu:¬lt (aL d s.2 r.1.1) (aL d s.2 u):=by
          by_cases e2:u=r.1.1
          .rw[e2];exact ho.wF _
          .rw[em];exact s1.all (fun z=>¬lt (aL d r.2 r.1.1) z) (fun w w1 w2=>p4 w w1 w2) u RS RS
         have hv:¬lt (aL d s.2 v) (aL d s.2 r.1.1):=by
          by_cases e2:v=r.1.1
          .rw[e2];exact ho.wF _
          .rw[em,s1.out v RS (.inr RS)];exact p5 v RS RS
         exact ho.neg _ _ _ hv hu
     .refine tB (ih (r.1.1+1) x6 _ r.2 RS RS RS RS RS QB (fun hx k k1 k2=>?_)) fun s=>?_
      .rw[show r.1.1+1-1=r.1.1 by omega];exact p5 k RS k2
      .rintro⟨s1,s2⟩;have hl4:=s1.len;have em:aL d s.2 r.1.1=aL d r.2 r.1.1:=s1.out _ RS (.inl RS);have s1':=s1.wide (a':=x5) (b':=x6) RS RS RS;refine gV _ ⟨dB,dB,dB,i4.trans ((d2.trans s1').wide RS RS h0),fun u v k1 k2 k3 k4=>?_⟩ dB;dsimp only at k4⊢;by_cases e:u<x5\/x6<=v
       .exact P2.rp s1' i1 i3 h0 u v k1 k2 k3 e
       .by_cases e1:r.1.1<u
        .exact s2 u v RS k2 RS
        .have hu:¬lt (aL d s.2 r.1.1) (aL d s.2 u):=by
          by_cases e2:u=r.1.1
          .rw[e2];exact ho.wF _
          .rw[em,s1.out u RS (.inl RS)];exact p4 u RS RS
         have hv:¬lt (aL d s.2 v) (aL d s.2 r.1.1):=by
          by_cases e2:v=r.1.1
          .rw[e2];exact ho.wF _
          .rw[em];exact s1.all (fun z=>¬lt z (aL d r.2 r.1.1)) (fun w w1 w2=>p5 w RS w2) v RS RS
         exact ho.neg _ _ _ hv hu
   .refine tB (agK (a:=x5) (b:=x6) (p:=t.1.1) (l:=D1) RS RS RS (d1.al (i4.al hal)) t1 t2) fun r=>?_;intro hr;obtain⟨p1,p2,p3,p4,p5⟩:=hr;have hl3:=p3.len;have d2:=d1.trans p3;have P2:=i5.rp (x:=x5) (y:=x6) d2 i1 i3 h0;have QB:=d2.al (i4.al hal);refine tG aG ?_;simp (disch:=omega) only[wr];refine tD (fun hlt=>?_) (fun hlt=>?_)
    .refine tB (ih x5 r.1.1 _ r.2 RS RS RS RS RS QB (fun hx k k1 k2=>?_)) fun s=>?_
     .exact pre d2 hx k k1 RS
     .rintro⟨s1,s2⟩;have hl4:=s1.len;have em:aL d s.2 r.1.1=aL d r.2 r.1.1:=s1.out _ RS (.inr RS);have s1':=s1.wide (a':=x5) (b':=x6) RS RS RS;refine gV _ ⟨dB,dB,dB,i4.trans ((d2.trans s1').wide RS RS h0),fun u v k1 k2 k3 k4=>?_⟩ dB;dsimp only at k4⊢;by_cases e:u<x5\/x6<=v
      .exact P2.rp s1' i1 i3 h0 u v k1 k2 k3 e
      .by_cases e1:v<r.1.1
       .exact s2 u v RS k2 e1
       .have hu:¬lt (aL d s.2 r.1.1) (aL d s.2 u):=by
         by_cases e2:u=r.1.1
         .rw[e2];exact ho.wF _
         .rw[em];exact s1.all (fun z=>¬lt (aL d r.2 r.1.1) z) (fun w w1 w2=>p4 w w1 w2) u RS RS
        have hv:¬lt (aL d s.2 v) (aL d s.2 r.1.1):=by
         by_cases e2:v=r.1.1
         .rw[e2];exact ho.wF _
         .rw[em,s1.out v RS (.inr RS)];exact p5 v RS RS
        exact ho.neg _ _ _ hv hu
    .refine tB (ih (r.1.1+1) x6 _ r.2 RS RS RS RS RS QB (fun hx k k1 k2=>?_)) fun s=>?_
     .rw[show r.1.1+1-1=r.1.1 by omega];exact p5 k RS k2
     .rintro⟨s1,s2⟩;have hl4:=s1.len;have em:aL d s.2 r.1.1=aL d r.2 r.1.1:=s1.out _ RS (.inl RS);have s1':=s1.wide (a':=x5) (b':=x6) RS RS RS;refine gV _ ⟨dB,dB,dB,i4.trans ((d2.trans s1').wide RS RS h0),fun u v k1 k2 k3 k4=>?_⟩ dB;dsimp only at k4⊢;by_cases e:u<x5\/x6<=v
      .exact P2.rp s1' i1 i3 h0 u v k1 k2 k3 e
      .by_cases e1:r.1.1<u
       .exact s2 u v RS k2 RS
       .have hu:¬lt (aL d s.2 r.1.1) (aL d s.2 u):=by
         by_cases e2:u=r.1.1
         .rw[e2];exact ho.wF _
         .rw[em,s1.out u RS (.inl RS)];exact p4 u RS RS
        have hv:¬lt (aL d s.2 v) (aL d s.2 r.1.1):=by
         by_cases e2:v=r.1.1
         .rw[e2];exact ho.wF _
         .rw[em];exact s1.all (fun z=>¬lt z (aL d r.2 r.1.1)) (fun w w1 w2=>p5 w RS w2) v RS RS
        exact ho.neg _ _ _ hv hu
  .obtain⟨w1,w2⟩:=hw;exact tS ⟨i4.trans (w1.wide i1 i3 h0),i5.fin w1 i1 i3 h0 w2⟩
end
end uN
end
section
open Go Go.Proofs aR uN
namespace Sh
set_option maxRecDepth 100000
theorem apP {k:Int}(h0:1<=k)(h1:k<131072)(n:Nat):∃r:Int,Bw n k=some r/\0<=r/\r<18/\(2:Int)^r.toNat<=2*k:=by
 obtain⟨j,rfl⟩:∃j:Nat,k=(j:Int):=⟨k.toNat,RS⟩;have hl:Nat.log2 j<17:=(Nat.log2_lt RS).2 RS;refine⟨((Nat.log2 j+1:Nat):Int),?_,RS,RS,?_⟩
 .rw[abb];exact bs (amQ RS RS) rfl
 .rw[Int.toNat_natCast,Int.pow_succ];have hp:2^Nat.log2 j<=j:=Nat.log2_self_le RS;have hc:((2^Nat.log2 j:Nat):Int)=(2:Int)^Nat.log2 j:=by push_cast;rfl
  rw[<-hc];omega
theorem aF2 (n:Nat):∀k:Int,8<=k->k<131072->∃M:Int,Px n k=some M/\0<M/\M<=2*k:=by
 intro k h0 h1;obtain⟨r,e,r0,r1,r2⟩:=apP (k:=k) RS h1 n;have ew:wrap .u64 k=k:=LG
 have hp:(0:Int)<2^r.toNat:=Int.pow_pos RS;have es:ji .u64 1 r=2^r.toNat:=by have:ji .u64 1 r=wrap .u64 (1*2^min r.toNat 64):=rfl;rw[this,Ci RS,Int.one_mul,IntKind.wrap_u64];omega
 refine⟨2^r.toNat,?_,hp,r2⟩;rw[aD3,ew];refine bs e ?_;show (bif decide ((0:Int)<=r) then some (ji .u64 1 r) else none)=_;rw[decide_eq_true r0,cond_true,es]
theorem agL {β:Type}{o o':Option β}{P:β->Prop}(h:o=o')(k:∃r,o'=some r/\P r):∃r,o=some r/\P r:=Eu
theorem aF3 (n:Nat):∀x:Int,∃r:Int×Int,Py n () x=some r:=by intro x;rw[aD4];exact⟨_,rfl⟩
noncomputable abbrev qp (n:Nat){β:Type}(a b:au)(f:Bool->Option β):Option β:=(Pp n (a,b)).bind fun (c:Int)=>f (decide (c< (0:Int)))
section
variable {n:Nat}{Ok:au->Prop}{lt:au->au->Prop}(hc:Aq Ok lt (qp n))(ho:Ord lt)(d:au)
include hc ho d
theorem aF4 (hn:200000<n){l:List au}(hl:l.length<131072)(hal:kG Ok l)(lim:Int):∃r:PUnit×List au,D8 n ((),(0:Int),(l.length:Int),lim,((),())) l=some r/\r.2.Perm l/\r.2.Pairwise fun x y=>¬lt y x:=by
 have h:=aF1 (n:=n) (d:=d) (K:=qp n) (BU:=ao1 n) (pd:=yY n) hc ho (ins:=Gv n) (heap:=Vz n) (brk:=VD n) (rev:=VF n) (GK:=VE n) (pin:=VG n) (peq:=VI n) (prt:=VJ n)
  (fun h0 h1 h2 h3 h4=>by refine agL (aD2 ..) ?_;exact tB (aFI (n:=n) (d:=d) (K:=qp n) (L4:=aoK n) (L1:=aga n) hc ho j6 j6 h0 h1 h2 RS h4 RS) fun r hr=>tS hr)
  (fun h0 h1 h2 h3 h4=>aFL (n:=n) (d:=d) (K:=qp n) (S1:=aoL n) (sift:=ZD n) (H4:=aoM n) (Lh:=aoN n) (heap:=Vz n) hc ho j6 j6 j6 j6 j6 h0 h1 h2 RS h4 RS)
  (fun h0 h1 h2 h3=>aFY (n:=n) (d:=d) (np:=Px n) (xs:=Py n) (aF2 n) (aF3 n) (B5:=aoO n) (brk:=VD n) j6 j6 h0 h1 h2 h3 RS)
  (fun h0 h1 h2 h3 h4=>aFZ d (K:=qp n) hc (o2:=ae9 n) (med:=afe n) (Lm:=afj n) (GK:=VE n) j6 j6 j6 j6 h0 h1 h2 RS h4)
  (fun h0 h1 h2 h3=>by refine agL (aD5 ..) ?_;exact tB (revAll (n:=n) (d:=d) (L2:=agb n) j6 h0 h1 h2 RS RS) fun r hr=>tS hr)
  (fun h0 h1 h2 h3 h4 h5=>aFW (n:=n) (d:=d) (K:=qp n) hc ho (Qz:=aoP n) (Lj:=aoQ n) (Ll:=aoR n) (IM:=aoS n) (pin:=VG n) j6 j6 j6 j6 j6 h0 h1 h2 RS h4 RS h5)
  (fun h0 h1 h2 h3 h4 h5=>aFS (n:=n) (d:=d) (K:=qp n) hc (E3:=aoT n) (Qy:=aoU n) (Li:=aoV n) (peq:=VI n) j6 j6 j6 j6 h0 h1 RS h3 RS h4 h5)
  (fun h0 h1 h2 h3 h4 h5=>aFQ (n:=n) (d:=d) (K:=qp n) hc ho (P3:=aoW n) (Qt:=aoX n) (Qu:=aoY n) (Qv:=aoZ n) (PM:=ao0 n) (prt:=VJ n) j6 j6 j6 j6 j6 j6 h0 h1 RS h3 RS h4 h5)
  j6 j6 RS n 0 (l.length:Int) lim l RS (lM _) RS (lM _) hl hal (fun h=>RS)
 have e:D8 n=yY n n:=by unfold D8;rfl
 rw[e];refine tW h fun r hr=>⟨hr.1.perm,?_⟩;have:=hr.2;rw[<-hr.1.len] at this;exact this.pw
theorem aF5 (hn:200000<n){l:List au}(hl:l.length<131072)(hal:kG Ok l):∃r:PUnit×List au,PI n ((),(),()) l=some r/\r.2.Perm l/\r.2.Pairwise fun x y=>¬lt y x:=by
 refine agL (aD6 ..) ?_;have hlen:∃r:Int,Bw n (wrap .u64 (l.length:Int))=some r:=by
  have ew:wrap .u64 (l.length:Int)=(l.length:Int):=LG
  rw[ew];by_cases h:l.length=0
  .rw[h];rw[abb,Uv];exact⟨_,rfl⟩
  .obtain⟨r,e,_⟩:=apP (k:=(l.length:Int)) RS RS n;exact⟨r,e⟩
 obtain⟨r,e⟩:=hlen;exact tE e (tB (aF4 hc ho d hn hl hal r) fun s hs=>tS hs)
end
end Sh
end
