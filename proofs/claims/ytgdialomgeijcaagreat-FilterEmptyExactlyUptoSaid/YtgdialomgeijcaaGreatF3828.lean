import Derived.Test.YtgdialomgeijcaaGreatF3827
set_option linter.all false
open Go.IntKind (wrap)
section
open Go Aq
namespace Pq
variable {U:Type}
section
variable {n:Nat}{d:U}{Ok:U->Prop}{lt:U->U->Prop}{K:{β:Type}->U->U->(Bool->Option β)->Option β}(hc:YP Ok lt K)(ho:Ord lt){I5:Int->Int->Int->(List U)->Nat->Int->Option (Int)}{I14:Int->Int->Int->Int->Nat->(Int×List U)->Option (PUnit×List U)}{I20:Int->Int->Int->Int->Nat->(Int×List U)->Option (PUnit×List U)}{IM:Int->Int->Nat->((Int×Int)×List U)->Option ((PUnit×List U)⊕(Bool×List U))}{pin:Unit×Int×Int×(Unit×Unit)->List U->Option (Bool×List U)}(h5:∀(x1 x2 x5:Int) (x6:List U) (m:Nat) (x7:Int),I5 x1 x2 x5 x6 (m+1) x7=bif decide (x7<x2) then bif decide (0<=x7/\x7< (x6.length:Int)) then (Fb x6 x7).bind fun (r8:U)=>bif decide (0<=(wrap .i64 (x7-(1:Int)))/\(wrap .i64 (x7-(1:Int)))< (x6.length:Int)) then (Fb x6 (wrap .i64 (x7-(1:Int)))).bind fun (r9:U)=>
      K r8 r9 fun (R6:Bool)=>bif !(R6) then I5 x1 x2 x5 x6 m (wrap .i64 (x7+(1:Int)))else some x7 else none else none else some x7)(qA:∀(x1 x2 x5 Rx:Int) (m:Nat) (SL:Int) (Sn:List U),I14 x1 x2 x5 Rx (m+1) (SL,Sn)=bif decide (SL>=(1:Int)) then bif decide (0<=SL/\SL< (Sn.length:Int)) then (Fb Sn SL).bind fun (TA:U)=>bif decide (0<=(wrap .i64 (SL-(1:Int)))/\(wrap .i64 (SL-(1:Int)))< (Sn.length:Int)) then (Fb Sn (wrap .i64 (SL-(1:Int)))).bind fun (Yj:U)=>
      K TA Yj fun (r20:Bool)=>bif !(r20) then some (((),Sn))else bif decide (0<=(wrap .i64 (SL-(1:Int)))/\(wrap .i64 (SL-(1:Int)))< (Sn.length:Int)) then (Fb Sn (wrap .i64 (SL-(1:Int)))).bind fun (VR:U)=>bif decide (0<=SL/\SL< (Sn.length:Int)) then (Fb Sn SL).bind fun (YZ:U)=>bif decide (0<=SL/\SL< (Sn.length:Int)) then (Fb Sn SL).bind fun (WU:U)=>bif decide (0<=(wrap .i64 (SL-(1:Int)))/\(wrap .i64 (SL-(1:Int)))< (((Rc Sn SL VR).length:Nat):Int)) then (Fb (Rc Sn SL VR) (wrap .i64 (SL-(1:Int)))).bind fun (r24:U)=>
           I14 x1 x2 x5 Rx m ((wrap .i64 (SL-(1:Int)),Rc (Rc Sn SL VR) (wrap .i64 (SL-(1:Int))) YZ))else none else none else none else none else none else none else some (((),Sn)))(h20:∀(x1 x2 x5 Rx:Int) (m:Nat) (x27:Int) (x28:List U),I20 x1 x2 x5 Rx (m+1) (x27,x28)=bif decide (x27<x2) then bif decide (0<=x27/\x27< (x28.length:Int)) then (Fb x28 x27).bind fun (Vu:U)=>bif decide (0<=(wrap .i64 (x27-(1:Int)))/\(wrap .i64 (x27-(1:Int)))< (x28.length:Int)) then (Fb x28 (wrap .i64 (x27-(1:Int)))).bind fun (r30:U)=>
      K Vu r30 fun (r31:Bool)=>bif !(r31) then some (((),x28))else bif decide (0<=(wrap .i64 (x27-(1:Int)))/\(wrap .i64 (x27-(1:Int)))< (x28.length:Int)) then (Fb x28 (wrap .i64 (x27-(1:Int)))).bind fun (r32:U)=>bif decide (0<=x27/\x27< (x28.length:Int)) then (Fb x28 x27).bind fun (r33:U)=>bif decide (0<=x27/\x27< (x28.length:Int)) then (Fb x28 x27).bind fun (TM:U)=>bif decide (0<=(wrap .i64 (x27-(1:Int)))/\(wrap .i64 (x27-(1:Int)))< (((Rc x28 x27 r32).length:Nat):Int)) then (Fb (Rc x28 x27 r32) (wrap .i64 (x27-(1:Int)))).bind fun (r35:U)=>
           I20 x1 x2 x5 Rx m ((wrap .i64 (x27+(1:Int)),Rc (Rc x28 x27 r32) (wrap .i64 (x27-(1:Int))) r33))else none else none else none else none else none else none else some (((),x28)))(hM:∀(x1 x2:Int) (m:Nat) (x4 x5:Int) (x6:List U),IM x1 x2 (m+1) ((x4,x5),x6)=bif decide (x5< (5:Int)) then (I5 x1 x2 x5 x6 n x4).bind fun (Rx:Int)=>bif Rx==x2 then some (.inr ((true,x6)))else bif decide ((wrap .i64 (x2-x1))< (50:Int)) then some (.inr ((false,x6)))else bif decide (0<=(wrap .i64 (Rx-(1:Int)))/\(wrap .i64 (Rx-(1:Int)))< (x6.length:Int)) then (Fb x6 (wrap .i64 (Rx-(1:Int)))).bind fun (Td:U)=>bif decide (0<=Rx/\Rx< (x6.length:Int)) then (Fb x6 Rx).bind fun (RL:U)=>bif decide (0<=Rx/\Rx< (x6.length:Int)) then (Fb x6 Rx).bind fun (Tj:U)=>bif decide (0<=(wrap .i64 (Rx-(1:Int)))/\(wrap .i64 (Rx-(1:Int)))< (((Rc x6 Rx Td).length:Nat):Int)) then (Fb (Rc x6 Rx Td) (wrap .i64 (Rx-(1:Int)))).bind fun (Ta:U)=>
          Option.bind (α:=PUnit×List U) ( bif decide ((wrap .i64 (Rx-x1))>=(2:Int)) then (I14 x1 x2 x5 Rx n ((wrap .i64 (Rx-(1:Int)),Rc (Rc x6 Rx Td) (wrap .i64 (Rx-(1:Int))) RL))).bind fun (WV:PUnit×List U)=>some (((),WV.2))else some (((),Rc (Rc x6 Rx Td) (wrap .i64 (Rx-(1:Int))) RL))) fun (UA:PUnit×List U)=>bif decide ((wrap .i64 (x2-Rx))>=(2:Int)) then (I20 x1 x2 x5 Rx n ((wrap .i64 (Rx+(1:Int)),UA.2))).bind fun (r36:PUnit×List U)=>
           IM x1 x2 m (((Rx,wrap .i64 (x5+(1:Int))),r36.2))else IM x1 x2 m (((Rx,wrap .i64 (x5+(1:Int))),UA.2))else none else none else none else none else some (.inl (((),x6))))(hP:∀(x1 x2:Int) (x3:List U),pin (((),(x1,(x2,((),()))))) (x3)=
   (IM x1 x2 n (((wrap .i64 (x1+(1:Int)),(0:Int)),x3))).bind fun (r37:(PUnit×List U)⊕(Bool×List U))=>
   Sum.elim (fun (q38:PUnit×List U)=>some ((false,q38.2)))
    (fun (q39:Bool×List U)=>some ((q39.1,q39.2))) r37)
include hc ho qA
theorem O5 {a b c r:Int}{D:List U}{m:Nat}(h0:0<=a)(h1:a<r)(h2:r<=D.length)(hb:D.length<2^57)(hal:Al Ok D)(hs:Sd lt d a (r-1) D)(hp:0<a->∀k,a<=k->k<r->¬lt (gI d D k) (gI d D (a-1)))(hm:(r-a).toNat<m):
 ∃s,I14 a b c r m (r-1,D)=some s/\Rp d a r D s.2/\Sd lt d a r s.2:=by
 refine mu (τ:=Int×List U) (L:=I14 a b c r) (fun p=>a<=p.1/\p.1<=r-1/\Rp d a r D p.2/\(∀u v,a<=u->u<v->v<=r-1->u≠p.1->v≠p.1->¬lt (gI d p.2 v) (gI d p.2 u))/\(∀v,p.1<v->v<=r-1->¬lt (gI d p.2 v) (gI d p.2 p.1))) (fun p=>(p.1-a).toNat) _ ?_ m (r-1,D)
  ⟨by dsimp only;omega,PZ _,.refl _ _ _ _,fun u v k1 k2 k3 k4 k5=>hs u v k1 k2 (by dsimp only at k5;omega),fun v k1 k2=>by dsimp only at k1;omega⟩ (by dsimp only;omega)
 rintro m ⟨j,D'⟩ ⟨i1,i2,i3,i4,i5⟩ aJ;dsimp only at i1 i2 i3 i4 i5 aJ⊢;have hl:=i3.len;have bE:=i3.al hal;rw[qA];simp (disch:=omega) only[wr];have fin:(j=a\/¬lt (gI d D' j) (gI d D' (j-1)))->Sd lt d a r D':=fun hh u v k1 k2 k3=>by
  by_cases e2:u=j
  .rw[e2];exact i5 v (by omega) (by omega)
  .by_cases e1:v=j
   .have hj:a<j:=(by omega);have hlt:¬lt (gI d D' j) (gI d D' (j-1)):=by
     rcases hh with h|h
     .omega
     .exact h
    rw[e1];by_cases e3:u=j-1
    .rw[e3];exact hlt
    .exact ho.neg _ _ _ hlt (i4 u (j-1) k1 (by omega) (by omega) e2 (by omega))
   .exact i4 u v k1 k2 (by omega) e2 e1
 refine tD (fun hj=>?_) (fun hj=>tS ⟨i3,fin (.inl (by omega))⟩);refine tI (by omega) (by omega) (tE (aB d (by omega) (by omega)) (tI (by omega) (by omega) (tE (aB d (by omega) (by omega)) (tM hc (bE.at d (by omega) (by omega)) (bE.at d (by omega) (by omega)) fun q hq=>?_))));refine tN (fun h=>tS ⟨i3,fin (.inr fun k=>h (hq.2 k))⟩) (fun h=>?_);have hlt:=hq.1 h;have hja:a<j:=by
  rcases Int.lt_or_eq_of_le i1 with h|h
  .exact h
  .exfalso;rw[<-h] at hlt;have h3:=i3.all (fun x=>¬lt x (gI d D (a-1))) (hp (by omega)) a (PZ _) h1;rw[i3.out (a-1) (by omega) (.inl (by omega))] at hlt;exact h3 hlt
 refine tI (by omega) (by first|omega| (simp only[ay];omega)) (tE (aB d (by omega) (by first|omega| (simp only[ay];omega))) ?_);refine tI (by omega) (by first|omega| (simp only[ay];omega)) (tE (aB d (by omega) (by first|omega| (simp only[ay];omega))) ?_);refine tI (by omega) (by first|omega| (simp only[ay];omega)) (tE (aB d (by omega) (by first|omega| (simp only[ay];omega))) ?_);refine tI (by omega) (by first|omega| (simp only[ay];omega)) (tE (aB d (by omega) (by first|omega| (simp only[ay];omega))) ?_);refine aJ (j-1,swp d D' j (j-1)) ⟨by dsimp only;omega,by dsimp only;omega,i3.swp h0 (by omega) (by omega) (by omega) (by omega) (by omega),fun u v k1 k2 k3 k4 k5=>?_,fun v k1 k2=>?_⟩ (by dsimp only;omega)
 .dsimp only at k4 k5⊢;rw[dO (by omega) (by omega) (by omega) (by omega) (by omega),dO (by omega) (by omega) (by omega) (by omega) (by omega),if_neg k5,if_neg k4];by_cases e1:v=j
  .rw[if_pos e1];by_cases e2:u=j
   .omega
   .rw[if_neg e2];exact i4 u (j-1) k1 (by omega) (by omega) e2 (by omega)
  .rw[if_neg e1];by_cases e2:u=j
   .rw[if_pos e2];exact i4 (j-1) v (by omega) (by omega) k3 (by omega) e1
   .rw[if_neg e2];exact i4 u v k1 k2 k3 e2 e1
 .dsimp only at k1 k2⊢;rw[dO (by omega) (by omega) (by omega) (by omega) (by omega),dO (by omega) (by omega) (by omega) (by omega) (by omega),if_neg (by omega),if_pos rfl];by_cases e1:v=j
  .rw[if_pos e1];exact ho.asym _ _ hlt
  .rw[if_neg e1];exact i5 v (by omega) k2
omit qA ho
include h20
theorem O6 {a b c r:Int}{D:List U}{m:Nat}(h0:0<=r)(h2:b<=D.length)(hb:D.length<2^57)(hal:Al Ok D)(hm:(b-r).toNat<m):
 ∃s,I20 a b c r m (r+1,D)=some s/\Rp d r b D s.2:=by
 refine mu (τ:=Int×List U) (L:=I20 a b c r) (fun p=>r<p.1/\Rp d r b D p.2) (fun p=>(b-p.1).toNat) _ ?_ m (r+1,D) ⟨by dsimp only;omega,.refl _ _ _ _⟩ (by dsimp only;omega);rintro m ⟨j,D'⟩ ⟨i1,i3⟩ aJ;dsimp only at i1 i3 aJ⊢;have hl:=i3.len;have bE:=i3.al hal;rw[h20];refine tD (fun hj=>?_) (fun hj=>tS i3);simp (disch:=omega) only[wr];refine tI (by omega) (by omega) (tE (aB d (by omega) (by omega)) (tI (by omega) (by omega) (tE (aB d (by omega) (by omega)) (tM hc (bE.at d (by omega) (by omega)) (bE.at d (by omega) (by omega)) fun q hq=>?_))));refine tN (fun h=>tS i3) (fun h=>?_);refine tI (by omega) (by first|omega| (simp only[ay];omega)) (tE (aB d (by omega) (by first|omega| (simp only[ay];omega))) ?_);refine tI (by omega) (by first|omega| (simp only[ay];omega)) (tE (aB d (by omega) (by first|omega| (simp only[ay];omega))) ?_);refine tI (by omega) (by first|omega| (simp only[ay];omega)) (tE (aB d (by omega) (by first|omega| (simp only[ay];omega))) ?_);refine tI (by omega) (by first|omega| (simp only[ay];omega)) (tE (aB d (by omega) (by first|omega| (simp only[ay];omega))) ?_);exact aJ (j+1,swp d D' j (j-1)) ⟨by dsimp only;omega,i3.swp h0 (by omega) (by omega) (by omega) (by omega) (by omega)⟩ (by dsimp only;omega)
include ho h5 qA hM hP
theorem auQ {a b:Int}{l:List U}(h0:0<=a)(hab:a<b)(hbl:b<=l.length)(hb:l.length<2^57)(hal:Al Ok l)(hn:(b-a).toNat+8<n)(hp:0<a->∀k,a<=k->k<b->¬lt (gI d l k) (gI d l (a-1))):
 ∃r,pin ((),a,b,((),())) l=some r/\Rp d a b l r.2/\(r.1=true->Sd lt d a b r.2):=by
 rw[hP];refine tB (Q:=fun s=>Sum.elim (fun q:PUnit×List U=>Rp d a b l q.2) (fun q:Bool×List U=>Rp d a b l q.2/\(q.1=true->Sd lt d a b q.2)) s) ?_ fun s=>?_
 .rw[wr (by omega) (by omega)];refine mu (τ:=(Int×Int)×List U) (L:=IM a b) (fun p=>a<p.1.1/\p.1.1<=b/\0<=p.1.2/\p.1.2<=5/\Rp d a b l p.2/\Sd lt d a p.1.1 p.2) (fun p=>(5-p.1.2).toNat) _ ?_ n ((a+1,0),l) ⟨by dsimp only;omega,by dsimp only;omega,PZ _,by dsimp only;omega,.refl _ _ _ _,fun u v k1 k2 k3=>by dsimp only at k3;omega⟩ (by dsimp only;omega);rintro m ⟨⟨i,j⟩,D⟩ ⟨i1,i2,i3,i4,i5,i6⟩ aJ;dsimp only at i1 i2 i3 i4 i5 i6 aJ⊢;have hl:=i5.len;have bE:=i5.al hal;rw[hM];refine tD (fun hj=>?_) (fun hj=>tS i5);refine tB (tJ (L:=I5 a b j D) (T:=fun x=>¬lt (gI d D x) (gI d D (x-1))) (i:=i) (j:=b-1) (fun m x Q k1 k2 ht hf=>?_) (fun m x k1=>?_) (by omega) (by omega)) fun r=>?_
  .rw[h5];simp (disch:=omega) only[wr];exact tD (fun _=>tI (by omega) (by omega) (tE (aB d (by omega) (by omega)) (tI (by omega) (by omega) (tE (aB d (by omega) (by omega)) (tM hc (bE.at d (by omega) (by omega)) (bE.at d (by omega) (by omega)) fun r hr=>tN (fun h=>ht fun k=>h (hr.2 k)) (fun h=>tS (hf fun k=>k (hr.1 h)))))))) (fun h=>by omega)
  .rw[h5,decide_eq_false (by omega)];rfl
  rintro⟨u1,u2,u3,u4⟩;have hsr:Sd lt d a r D:=Sd.OV ho fun k k1 k2=>by
   by_cases e:k<i
   .exact i6 (k-1) k (by omega) (by omega) e
   .exact u3 k (by omega) k2
  refine tC (fun e=>?_) (fun e=>?_)
  .have e':r=b:=by simpa using e
   rw[e'] at hsr;exact tS ⟨i5,fun _=>hsr⟩
  .have e':¬r=b:=by simpa using e
   refine tD (fun _=>tS ⟨i5,fun h=>by cases h⟩) (fun _=>?_);simp (disch:=omega) only[wr];refine tI (by omega) (by first|omega| (simp only[ay];omega)) (tE (aB d (by omega) (by first|omega| (simp only[ay];omega))) ?_);refine tI (by omega) (by first|omega| (simp only[ay];omega)) (tE (aB d (by omega) (by first|omega| (simp only[ay];omega))) ?_);refine tI (by omega) (by first|omega| (simp only[ay];omega)) (tE (aB d (by omega) (by first|omega| (simp only[ay];omega))) ?_);refine tI (by omega) (by first|omega| (simp only[ay];omega)) (tE (aB d (by omega) (by first|omega| (simp only[ay];omega))) ?_);have s1:Rp d a b l (swp d D r (r-1)):=i5.swp h0 (by omega) (by omega) (by omega) (by omega) (by omega);have hl1:=s1.len;refine tB (Q:=fun s:PUnit×List U=>Rp d a b l s.2/\Sd lt d a r s.2) ?_ fun s=>?_
   .refine tD (fun h2=>?_) (fun h2=>tS ⟨s1,fun u v k1 k2 k3=>by omega⟩);refine tB (O5 hc ho qA (d:=d) (b:=b) (c:=j) (r:=r) (D:=swp d D r (r-1)) h0 (by omega) (by omega) (by omega) (s1.al hal) (fun u v k1 k2 k3=>?_) (fun ha k k1 k2=>?_) (by omega)) fun s=>?_
    .rw[dO (by omega) (by omega) (by omega) (by omega) (by omega),dO (by omega) (by omega) (by omega) (by omega) (by omega),if_neg (by omega),if_neg (by omega),if_neg (by omega),if_neg (by omega)];exact hsr u v k1 k2 (by omega)
    .rw[s1.out (a-1) (by omega) (.inl (by omega))];exact s1.all (fun x=>¬lt x (gI d l (a-1))) (hp ha) k k1 (by omega)
    .rintro⟨q1,q2⟩;exact tS ⟨s1.trans (q1.wide (PZ _) (by omega) h0),q2⟩
   .rintro⟨q1,q2⟩;have hl2:=q1.len;refine tD (fun h2=>?_) (fun h2=>?_)
    .refine tB (O6 hc h20 (d:=d) (a:=a) (b:=b) (c:=j) (r:=r) (D:=s.2) (by omega) (by omega) (by omega) (q1.al hal) (by omega)) fun t=>?_;intro t1;refine aJ ((r,j+1),t.2) ⟨by dsimp only;omega,by dsimp only;omega,by dsimp only;omega,by dsimp only;omega,q1.trans (t1.wide (by omega) (PZ _) h0),fun u v k1 k2 k3=>?_⟩ (by dsimp only;omega);dsimp only at k3⊢;rw[t1.out u (by omega) (.inl (by omega)),t1.out v (by omega) (.inl (by omega))];exact q2 u v k1 k2 k3
    .exact aJ ((r,j+1),s.2) ⟨by dsimp only;omega,by dsimp only;omega,by dsimp only;omega,by dsimp only;omega,q1,q2⟩ (by dsimp only;omega)
 .intro hs;rcases s with s|s
  .exact tS ⟨hs,fun h=>by cases h⟩
  .exact tS hs
end
theorem O7 {x y:Int}(h0:0<=y)(h1:y<2^62):0<=abA .u64 x y/\abA .u64 x y<=y:=by
 have e:abA .u64 x y=wrap .u64 (((BitVec.ofInt 64 x&&& BitVec.ofInt 64 y).toNat:Nat):Int):=rfl;have h2:(BitVec.ofInt 64 x&&& BitVec.ofInt 64 y).toNat<=(BitVec.ofInt 64 y).toNat:=by rw[BitVec.toNat_and];exact Nat.and_le_right
 have h3:(BitVec.ofInt 64 y).toNat=y.toNat:=by rw[BitVec.toNat_ofInt];omega
 rw[e,IntKind.wrap_u64];omega
section
variable {n:Nat}{d:U}{np:Int->Option Int}{xs:Unit->Int->Option (Int×Int)}(hN:∀k,8<=k->k<512->∃M,np k=some M/\0<M/\M<=2*k)(hX:∀x,∃r,xs () x=some r){B5:Int->Int->Int->Nat->(Int×Int×List U)->Option (PUnit×List U)}{brk:Unit×Int×Int×(Unit×Unit)->List U->Option (PUnit×List U)}(h5:∀(x1 x2 r4:Int) (m:Nat) (x5 x6:Int) (x7:List U),B5 x1 x2 r4 (m+1) (x5,(x6,x7))=bif !((4:Int)==(0:Int)) then bif decide (x5<=(wrap .i64 ((wrap .i64 (x1+(wrap .i64 ((wrap .i64 (Int.tdiv (wrap .i64 (x2-x1)) (4:Int)))*(2:Int)))))+(1:Int)))) then (xs (()) x6).bind fun (r8:Int×Int)=>
     Option.bind (α:=Int) ( bif decide ((wrap .i64 (abA .u64 r8.1 (wrap .u64 (r4-(1:Int)))))>=(wrap .i64 (x2-x1))) then some (wrap .i64 ((wrap .i64 (abA .u64 r8.1 (wrap .u64 (r4-(1:Int)))))-(wrap .i64 (x2-x1))))else some (wrap .i64 (abA .u64 r8.1 (wrap .u64 (r4-(1:Int)))))) fun (r9:Int)=>bif decide (0<=(wrap .i64 (x1+r9))/\(wrap .i64 (x1+r9))< (x7.length:Int)) then (Fb x7 (wrap .i64 (x1+r9))).bind fun (R6:U)=>bif decide (0<=x5/\x5< (x7.length:Int)) then (Fb x7 x5).bind fun (Rx:U)=>bif decide (0<=x5/\x5< (x7.length:Int)) then (Fb x7 x5).bind fun (Td:U)=>bif decide (0<=(wrap .i64 (x1+r9))/\(wrap .i64 (x1+r9))< (((Rc x7 x5 R6).length:Nat):Int)) then (Fb (Rc x7 x5 R6) (wrap .i64 (x1+r9))).bind fun (RL:U)=>
         B5 x1 x2 r4 m ((wrap .i64 (x5+(1:Int)),(r8.2,Rc (Rc x7 x5 R6) (wrap .i64 (x1+r9)) Rx)))else none else none else none else none else some (((),x7))else none)(hP:∀(x1 x2:Int) (x3:List U),brk (((),(x1,(x2,((),()))))) (x3)=bif decide ((wrap .i64 (x2-x1))>=(8:Int)) then (np (wrap .i64 (x2-x1))).bind fun (r4:Int)=>bif !((4:Int)==(0:Int)) then (B5 x1 x2 r4 n ((wrap .i64 ((wrap .i64 (x1+(wrap .i64 ((wrap .i64 (Int.tdiv (wrap .i64 (x2-x1)) (4:Int)))*(2:Int)))))-(1:Int)),(wrap .u64 (wrap .i64 (x2-x1)),x3)))).bind fun (Tj:PUnit×List U)=>some (((),Tj.2))else none else some (((),x3)))
include hN hX h5 hP
theorem auR {a b:Int}{l:List U}(h0:0<=a)(hab:a<=b)(hbl:b<=l.length)(hb:l.length<512)(hn:8<n):
 ∃r,brk ((),a,b,((),())) l=some r/\Rp d a b l r.2:=by
 have ht:Int.tdiv (b-a) 4=(b-a)/4:=Int.tdiv_eq_ediv_of_nonneg (by omega);rw[hP];simp (disch:=omega) only[wr];refine tD (fun h8=>?_) (fun h8=>tS (.refl _ _ _ _));obtain⟨M,e,m1,m2⟩:=hN (b-a) h8 (by omega);refine tE e (tG (by decide) ?_);simp (disch:=omega) only[wr,ht];refine tB (Q:=fun s:PUnit×List U=>Rp d a b l s.2) ?_ fun s hs=>tS hs;generalize wrap .u64 (b-a)=z;refine mu (τ:=Int×Int×List U) (L:=B5 a b M) (fun p=>a+(b-a)/4*2-1<=p.1/\p.1<=a+(b-a)/4*2+2/\Rp d a b l p.2.2) (fun p=>(a+(b-a)/4*2+2-p.1).toNat) _ ?_ n (a+(b-a)/4*2-1,(z,l)) ⟨PZ _,by dsimp only;omega,.refl _ _ _ _⟩ (by dsimp only;omega);rintro m ⟨x,y,D⟩ ⟨i1,i2,i3⟩ aJ;dsimp only at i1 i2 i3 aJ⊢;have hl:=i3.len;rw[h5];refine tG (by decide) ?_;simp (disch:=omega) only[wr,ht];refine tD (fun hx=>?_) (fun hx=>tS i3);obtain⟨q,hq⟩:=hX y;refine tE hq ?_;have hw:wrap .u64 (M-1)=M-1:=by rw[IntKind.wrap_u64];omega
 rw[hw];obtain⟨b1,b2⟩:=O7 (x:=q.1) (y:=M-1) (by omega) (by omega);generalize abA .u64 q.1 (M-1)=v at*;simp (disch:=omega) only[wr];refine tB (Q:=fun o:Int=>0<=o/\o<b-a) ?_ fun o=>?_
 .exact tD (fun h=>tS (by omega)) (fun h=>tS (by omega))
 .rintro⟨o1,o2⟩;simp (disch:=omega) only[wr];refine tI (by omega) (by first|omega| (simp only[ay];omega)) (tE (aB d (by omega) (by first|omega| (simp only[ay];omega))) ?_);refine tI (by omega) (by first|omega| (simp only[ay];omega)) (tE (aB d (by omega) (by first|omega| (simp only[ay];omega))) ?_);refine tI (by omega) (by first|omega| (simp only[ay];omega)) (tE (aB d (by omega) (by first|omega| (simp only[ay];omega))) ?_);refine tI (by omega) (by first|omega| (simp only[ay];omega)) (tE (aB d (by omega) (by first|omega| (simp only[ay];omega))) ?_);exact aJ (x+1,(q.2,swp d D x (a+o))) ⟨by dsimp only;omega,by dsimp only;omega,i3.swp h0 (by omega) (by omega) (by omega) (by omega) (by omega)⟩ (by dsimp only;omega)
end
section
variable {n:Nat}(d:U){Ok:U->Prop}{lt:U->U->Prop}{K:{β:Type}->U->U->(Bool->Option β)->Option β}(hc:YP Ok lt K){o2:List U×Int×Int×Unit×Unit×Unit->Int->Option ((Int×Int)×Int)}{med:List U×Int×Int×Int×Unit×Unit×Unit->Int->Option (Int×Int)}{mad:List U×Int×Unit×Unit×Unit->Int->Option (Int×Int)}{cho:List U×Int×Int×Unit×Unit->Option (Int×Int)}(h2:∀(x1:List U) (x2 x3 x4:Int),o2 ((x1,(x2,(x3,((),((),())))))) (x4)=
   (Fb x1 x3).bind fun (r5:U)=>(Fb x1 x2).bind fun (r6:U)=>
   K r5 r6 fun (r7:Bool)=>bif r7 then some (((x3,x2),wrap .i64 (x4+(1:Int))))else some (((x2,x3),x4)))(h3:∀(x1:List U) (x2 x3 x4 x5:Int),med ((x1,(x2,(x3,(x4,((),((),()))))))) (x5)=
   (o2 ((x1,(x2,(x3,((),((),())))))) x5).bind fun (r6:(Int×Int)×Int)=>(o2 ((x1,(r6.1.2,(x4,((),((),())))))) r6.2).bind fun (r7:(Int×Int)×Int)=>(o2 ((x1,(r6.1.1,(r7.1.1,((),((),())))))) r7.2).bind fun (r8:(Int×Int)×Int)=>some ((r8.1.2,r8.2)))(h4:∀(x1:List U) (x2 x3:Int),mad ((x1,(x2,((),((),()))))) (x3)=
   (med ((x1,(wrap .i64 (x2-(1:Int)),(x2,(wrap .i64 (x2+(1:Int)),((),((),()))))))) x3).bind fun (r4:Int×Int)=>some ((r4.1,r4.2)))(hP:∀(x1:List U) (x2 x3:Int),cho (x1,(x2,(x3,((),()))))=bif !((4:Int)==(0:Int)) then bif !((4:Int)==(0:Int)) then bif !((4:Int)==(0:Int)) then bif decide ((wrap .i64 (x3-x2))>=(8:Int)) then bif decide ((wrap .i64 (x3-x2))>=(50:Int)) then (mad ((x1,(wrap .i64 (x2+(wrap .i64 ((wrap .i64 (Int.tdiv (wrap .i64 (x3-x2)) (4:Int)))*(1:Int)))),((),((),()))))) (0:Int)).bind fun (r4:Int×Int)=>(mad ((x1,(wrap .i64 (x2+(wrap .i64 ((wrap .i64 (Int.tdiv (wrap .i64 (x3-x2)) (4:Int)))*(2:Int)))),((),((),()))))) r4.2).bind fun (r5:Int×Int)=>(mad ((x1,(wrap .i64 (x2+(wrap .i64 ((wrap .i64 (Int.tdiv (wrap .i64 (x3-x2)) (4:Int)))*(3:Int)))),((),((),()))))) r5.2).bind fun (r6:Int×Int)=>(med ((x1,(r4.1,(r5.1,(r6.1,((),((),()))))))) r6.2).bind fun (r7:Int×Int)=>bif r7.2==(0:Int) then some ((r7.1,(1:Int)))else bif r7.2==(12:Int) then some ((r7.1,(2:Int)))else some ((r7.1,(0:Int)))else (med ((x1,(wrap .i64 (x2+(wrap .i64 ((wrap .i64 (Int.tdiv (wrap .i64 (x3-x2)) (4:Int)))*(1:Int)))),(wrap .i64 (x2+(wrap .i64 ((wrap .i64 (Int.tdiv (wrap .i64 (x3-x2)) (4:Int)))*(2:Int)))),(wrap .i64 (x2+(wrap .i64 ((wrap .i64 (Int.tdiv (wrap .i64 (x3-x2)) (4:Int)))*(3:Int)))),((),((),()))))))) (0:Int)).bind fun (r8:Int×Int)=>bif r8.2==(0:Int) then some ((r8.1,(1:Int)))else bif r8.2==(12:Int) then some ((r8.1,(2:Int)))else some ((r8.1,(0:Int)))else bif (0:Int)==(0:Int) then some ((wrap .i64 (x2+(wrap .i64 ((wrap .i64 (Int.tdiv (wrap .i64 (x3-x2)) (4:Int)))*(2:Int)))),(1:Int)))else bif (0:Int)==(12:Int) then some ((wrap .i64 (x2+(wrap .i64 ((wrap .i64 (Int.tdiv (wrap .i64 (x3-x2)) (4:Int)))*(2:Int)))),(2:Int)))else some ((wrap .i64 (x2+(wrap .i64 ((wrap .i64 (Int.tdiv (wrap .i64 (x3-x2)) (4:Int)))*(2:Int)))),(0:Int)))else none else none else none)
include d hc h2
theorem yP {l:List U}{x y z:Int}(hal:Al Ok l)(h1:0<=x)(h3:x<l.length)(h4:0<=y)(h5:y<l.length):∃r,o2 (l,x,y,(),(),()) z=some r/\((r.1.1=y/\r.1.2=x)\/(r.1.1=x/\r.1.2=y)):=by rw[h2];refine tE (aB d (by omega) (by omega)) (tE (aB d (by omega) (by omega)) (tM hc (hal.at d (by omega) (by omega)) (hal.at d (by omega) (by omega)) fun q hq=>?_));exact tD (fun _=>tS (.inl ⟨rfl,rfl⟩)) (fun _=>tS (.inr ⟨rfl,rfl⟩))
include h3
theorem yQ {l:List U}{x y w z a b:Int}(hal:Al Ok l)(h0:0<=a)(hb:b<=l.length)(k1:a<=x/\x<b)(k2:a<=y/\y<b)(k3:a<=w/\w<b):∃r,med (l,x,y,w,(),(),()) z=some r/\a<=r.1/\r.1<b:=by
 rw[h3];refine tB (yP hc h2 (d:=d) hal (by omega) (by omega) (by omega) (by omega)) fun r hr=>?_;have r1:a<=r.1.1/\r.1.1<b/\a<=r.1.2/\r.1.2<b:=by omega
 refine tB (yP hc h2 (d:=d) hal (by omega) (by omega) (by omega) (by omega)) fun s hs=>?_;have s1:a<=s.1.1/\s.1.1<b/\a<=s.1.2/\s.1.2<b:=by omega
 refine tB (yP hc h2 (d:=d) hal (by omega) (by omega) (by omega) (by omega)) fun t ht=>?_;exact tS (by dsimp only;omega)
include h4
theorem yR {l:List U}{x z a b:Int}(hal:Al Ok l)(h0:0<=a)(hb:b<=l.length)(hl:l.length<2^57)(k1:a<x/\x+1<b):∃r,mad (l,x,(),(),()) z=some r/\a<=r.1/\r.1<b:=by rw[h4];simp (disch:=omega) only[wr];exact tB (yQ hc h2 h3 (d:=d) (a:=a) (b:=b) hal h0 hb (by omega) (by omega) (by omega)) fun r hr=>tS hr
include hP
theorem auS {l:List U}{a b:Int}(hal:Al Ok l)(h0:0<=a)(hb:b<=l.length)(hl:l.length<2^57)(hab:12<b-a):∃r,cho (l,a,b,(),())=some r/\a<=r.1/\r.1<b:=by
 have ht:Int.tdiv (b-a) 4=(b-a)/4:=Int.tdiv_eq_ediv_of_nonneg (by omega);rw[hP];refine tG (by decide) (tG (by decide) (tG (by decide) ?_));simp (disch:=omega) only[wr,ht];have fin:∀q:Int×Int,a<=q.1/\q.1<b->∃r,(bif q.2==(0:Int) then some ((q.1,(1:Int))) else bif q.2==(12:Int) then some ((q.1,(2:Int))) else some ((q.1,(0:Int))))=some r/\a<=r.1/\r.1<b:=fun q hq=>tC (fun _=>tS hq) (fun _=>tC (fun _=>tS hq) (fun _=>tS hq));refine tD (fun _=>?_) (fun h=>by omega);refine tD (fun h50=>?_) (fun _=>?_)
 .refine tB (yR hc h2 h3 h4 (d:=d) (a:=a) (b:=b) hal h0 hb hl (by omega)) fun r hr=>?_;refine tB (yR hc h2 h3 h4 (d:=d) (a:=a) (b:=b) hal h0 hb hl (by omega)) fun s hs=>?_;refine tB (yR hc h2 h3 h4 (d:=d) (a:=a) (b:=b) hal h0 hb hl (by omega)) fun t ht=>?_;exact tB (yQ hc h2 h3 (d:=d) (a:=a) (b:=b) hal h0 hb hr hs ht) fun u hu=>fin u hu
 .exact tB (yQ hc h2 h3 (d:=d) (a:=a) (b:=b) hal h0 hb (by omega) (by omega) (by omega)) fun u hu=>fin u hu
end
end Pq
end
section
open Go Aq
namespace Pq
variable {U:Type}
def Pa (lt:U->U->Prop)(d:U)(a b x y:Int)(l:List U):Prop:=∀u v,a<=u->u<v->v<b->(u<x\/y<=v)->¬lt (gI d l v) (gI d l u)
theorem Pa.rp {lt:U->U->Prop}{d:U}{a b x y:Int}{l l':List U}(h:Pa lt d a b x y l)(k:Rp d x y l l')(ha:a<=x)(hb:y<=b)(h0:0<=a):Pa lt d a b x y l':=by
 intro u v k1 k2 k3 k4;by_cases e1:x<=u/\u<y
 .have hv:y<=v:=by omega
  rw[k.out v (by omega) (.inr hv)];exact k.all (fun z=>¬lt (gI d l v) z) (fun w w1 w2=>h w v (by omega) (by omega) k3 (.inr hv)) u e1.1 e1.2
 .rw[k.out u (by omega) (by omega)];by_cases e2:x<=v/\v<y
  .exact k.all (fun z=>¬lt z (gI d l u)) (fun w w1 w2=>h u w k1 (by omega) (by omega) (.inl (by omega))) v e2.1 e2.2
  .rw[k.out v (by omega) (by omega)];exact h u v k1 k2 k3 k4
theorem Pa.fin {lt:U->U->Prop}{d:U}{a b x y:Int}{l l':List U}(h:Pa lt d a b x y l)(k:Rp d x y l l')(ha:a<=x)(hb:y<=b)(h0:0<=a)(hs:Sd lt d x y l'):Sd lt d a b l':=by
 intro u v k1 k2 k3;by_cases e:u<x\/y<=v
 .exact h.rp k ha hb h0 u v k1 k2 k3 e
 .exact hs u v (by omega) k2 (by omega)
section
variable {n:Nat}{d:U}{Ok:U->Prop}{lt:U->U->Prop}{K:{β:Type}->U->U->(Bool->Option β)->Option β}(hc:YP Ok lt K)(ho:Ord lt){ins heap brk rev:Unit×Int×Int×(Unit×Unit)->List U->Option (PUnit×List U)}{cho:List U×Int×Int×Unit×Unit->Option (Int×Int)}{pin:Unit×Int×Int×(Unit×Unit)->List U->Option (Bool×List U)}{peq:Unit×Int×Int×Int×(Unit×Unit)->List U->Option (Int×List U)}{prt:Unit×Int×Int×Int×(Unit×Unit)->List U->Option ((Int×Bool)×List U)}(Fg:∀{a b:Int} {l:List U},0<=a->a<=b->b<=l.length->l.length<512->Al Ok l->∃r,ins ((),a,b,((),())) l=some r/\Rp d a b l r.2/\Sd lt d a b r.2)(Fh:∀{a b:Int} {l:List U},0<=a->a<=b->b<=l.length->l.length<512->Al Ok l->∃r,heap ((),a,b,((),())) l=some r/\Rp d a b l r.2/\Sd lt d a b r.2)(Fj:∀{a b:Int} {l:List U},0<=a->a<=b->b<=l.length->l.length<512->∃r,brk ((),a,b,((),())) l=some r/\Rp d a b l r.2)(Fp:∀{a b:Int} {l:List U},Al Ok l->0<=a->b<=l.length->l.length<512->12<b-a->∃r,cho (l,a,b,(),())=some r/\a<=r.1/\r.1<b)(Fq:∀{a b:Int} {l:List U},0<=a->a<=b->b<=l.length->l.length<512->∃r,rev ((),a,b,((),())) l=some r/\Rp d a b l r.2)(Fu:∀{a b:Int} {l:List U},0<=a->a<b->b<=l.length->l.length<512->Al Ok l->(0<a->∀k,a<=k->k<b->¬lt (gI d l k) (gI d l (a-1)))->∃r,pin ((),a,b,((),())) l=some r/\Rp d a b l r.2/\(r.1=true->Sd lt d a b r.2))(Fv:∀{a b p:Int} {l:List U},0<=a->b<=l.length->l.length<512->Al Ok l->a<=p->p<b->∃r,peq ((),a,b,p,((),())) l=some r/\a<r.1/\r.1<=b/\Rp d a b l r.2/\gI d r.2 a=gI d l p/\(∀k,a<k->k<r.1->¬lt (gI d r.2 a) (gI d r.2 k))/\(∀k,r.1<=k->k<b->lt (gI d r.2 a) (gI d r.2 k)))(yS:∀{a b p:Int} {l:List U},0<=a->b<=l.length->l.length<512->Al Ok l->a<=p->p<b->∃r,prt ((),a,b,p,((),())) l=some r/\Parts lt d a b r.1.1 l r.2){PL:Nat->Nat->(Int×Int×Int×Bool×Bool)×List U->Option (PUnit×List U)}{pd:Nat->Unit×Int×Int×Int×(Unit×Unit)->List U->Option (PUnit×List U)}(Fw:∀(g m:Nat) (x5 x6 x7:Int) (x8 x9:Bool) (x10:List U),PL g (m+1) ((x5,(x6,(x7,(x8,x9)))),x10)=bif decide ((wrap .i64 (x6-x5))<=(12:Int)) then (ins (((),(x5,(x6,((),()))))) x10).bind fun (Rx:PUnit×List U)=>some (((),Rx.2))else bif x7==(0:Int) then (heap (((),(x5,(x6,((),()))))) x10).bind fun (Td:PUnit×List U)=>some (((),Td.2))else Option.bind (α:=Int×List U) ( bif !x8 then (brk (((),(x5,(x6,((),()))))) x10).bind fun (RL:PUnit×List U)=>some ((wrap .i64 (x7-(1:Int)),RL.2))else some ((x7,x10))) fun (Tj:Int×List U)=>(cho ((Tj.2,(x5,(x6,((),())))))).bind fun (Ta:Int×Int)=>
     Option.bind (α:=(Int×Int)×List U) ( bif Ta.2==(2:Int) then (rev (((),(x5,(x6,((),()))))) Tj.2).bind fun (r16:PUnit×List U)=>some (((wrap .i64 ((wrap .i64 (x6-(1:Int)))-(wrap .i64 (Ta.1-x5))),(1:Int)),r16.2))else some (((Ta.1,Ta.2),Tj.2))) fun (Wy:(Int×Int)×List U)=>
     Option.bind (α:=(PUnit×List U)⊕(PUnit×List U)) ( bif bif bif x8 then x9 else false then Wy.1.2==(1:Int) else false then (pin (((),(x5,(x6,((),()))))) Wy.2).bind fun (TA:Bool×List U)=>bif TA.1 then some (.inr (((),TA.2)))else some (.inl (((),TA.2)))else some (.inl (((),Wy.2)))) fun (Yj:(PUnit×List U)⊕(PUnit×List U))=>
     Sum.elim (fun (q20:PUnit×List U)=>bif decide (x5> (0:Int)) then bif decide (0<=(wrap .i64 (x5-(1:Int)))/\(wrap .i64 (x5-(1:Int)))< (q20.2.length:Int)) then (Fb q20.2 (wrap .i64 (x5-(1:Int)))).bind fun (YZ:U)=>bif decide (0<=Wy.1.1/\Wy.1.1< (q20.2.length:Int)) then (Fb q20.2 Wy.1.1).bind fun (WU:U)=>
         K YZ WU fun (r24:Bool)=>bif !(r24) then (peq (((),(x5,(x6,(Wy.1.1,((),())))))) q20.2).bind fun (WV:Int×List U)=>
          PL g m (((WV.1,(x6,(Tj.1,(x8,x9)))),WV.2))else (prt (((),(x5,(x6,(Wy.1.1,((),())))))) q20.2).bind fun (UA:(Int×Bool)×List U)=>bif !((8:Int)==(0:Int)) then bif decide ((wrap .i64 (UA.1.1-x5))< (wrap .i64 (x6-UA.1.1))) then (pd g (((),(x5,(UA.1.1,(Tj.1,((),())))))) UA.2).bind fun (r27:PUnit×List U)=>
            PL g m (((wrap .i64 (UA.1.1+(1:Int)),(x6,(Tj.1,(decide ((wrap .i64 (UA.1.1-x5))>=(wrap .i64 (Int.tdiv (wrap .i64 (x6-x5)) (8:Int)))),UA.1.2)))),r27.2))else (pd g (((),(wrap .i64 (UA.1.1+(1:Int)),(x6,(Tj.1,((),())))))) UA.2).bind fun (r28:PUnit×List U)=>
            PL g m (((x5,(UA.1.1,(Tj.1,(decide ((wrap .i64 (x6-UA.1.1))>=(wrap .i64 (Int.tdiv (wrap .i64 (x6-x5)) (8:Int)))),UA.1.2)))),r28.2))else none else none else none else (prt (((),(x5,(x6,(Wy.1.1,((),())))))) q20.2).bind fun (Vu:(Int×Bool)×List U)=>bif !((8:Int)==(0:Int)) then bif decide ((wrap .i64 (Vu.1.1-x5))< (wrap .i64 (x6-Vu.1.1))) then (pd g (((),(x5,(Vu.1.1,(Tj.1,((),())))))) Vu.2).bind fun (r30:PUnit×List U)=>
         PL g m (((wrap .i64 (Vu.1.1+(1:Int)),(x6,(Tj.1,(decide ((wrap .i64 (Vu.1.1-x5))>=(wrap .i64 (Int.tdiv (wrap .i64 (x6-x5)) (8:Int)))),Vu.1.2)))),r30.2))else (pd g (((),(wrap .i64 (Vu.1.1+(1:Int)),(x6,(Tj.1,((),())))))) Vu.2).bind fun (r31:PUnit×List U)=>
         PL g m (((x5,(Vu.1.1,(Tj.1,(decide ((wrap .i64 (x6-Vu.1.1))>=(wrap .i64 (Int.tdiv (wrap .i64 (x6-x5)) (8:Int)))),Vu.1.2)))),r31.2))else none)
      (fun (q21:PUnit×List U)=>some (((),q21.2))) Yj)(Fx:∀(g:Nat) (x1 x2 x3:Int) (x4:List U),pd (g+1) (((),(x1,(x2,(x3,((),())))))) (x4)=
   (PL g n (((x1,(x2,(x3,(true,true)))),x4))).bind fun (r32:PUnit×List U)=>some (((),r32.2)))
include hc ho Fg Fh Fj Fp Fq Fu Fv yS Fw Fx
theorem auU (hn:600<n):∀(g:Nat)(a b lim:Int)(l:List U),(b-a).toNat<g->0<=a->a<=b->b<=l.length->l.length<512->Al Ok l->(0<a->∀k,a<=k->k<b->¬lt (gI d l k) (gI d l (a-1)))->∃r,pd g ((),a,b,lim,((),())) l=some r/\Rp d a b l r.2/\Sd lt d a b r.2:=by
 intro g;induction g with
 |zero=>intro a b lim l h;omega|succ g ih=>
  intro a b lim l hg h0 hab hbl hb hal hp;rw[Fx];refine tB (Q:=fun r:PUnit×List U=>Rp d a b l r.2/\Sd lt d a b r.2) ?_ fun r hr=>tS hr;refine mu (τ:=(Int×Int×Int×Bool×Bool)×List U) (L:=PL g) (fun p=>a<=p.1.1/\p.1.1<=p.1.2.1/\p.1.2.1<=b/\Rp d a b l p.2/\Pa lt d a b p.1.1 p.1.2.1 p.2) (fun p=>(p.1.2.1-p.1.1).toNat) _ ?_ n ((a,(b,(lim,(true,true)))),l)
   ⟨PZ _,hab,PZ _,.refl _ _ _ _,fun u v k1 k2 k3 k4=>by dsimp only at k4;omega⟩ (by dsimp only;omega)
  rintro m ⟨⟨x5,x6,x7,x8,x9⟩,D⟩ ⟨i1,i2,i3,i4,i5⟩ aJ;dsimp only at i1 i2 i3 i4 i5 aJ⊢;have hl:=i4.len;have pre:∀{D':List U},Rp d x5 x6 D D'->0<x5->∀k,x5<=k->k<x6->¬lt (gI d D' k) (gI d D' (x5-1)):=fun {D'} hD hx k k1 k2=>by
   have hP:=i5.rp hD i1 i3 h0;by_cases e:a<x5
   .exact hP (x5-1) k (by omega) (by omega) (by omega) (.inl (by omega))
   .have e':x5=a:=(by omega);have hw:=i4.trans (hD.wide i1 i3 h0);rw[e',hw.out (a-1) (by omega) (.inl (by omega))];exact hw.all (fun z=>¬lt z (gI d l (a-1))) (hp (by omega)) k (by omega) (by omega)
  rw[Fw];simp (disch:=omega) only[wr];refine tD (fun _=>?_) (fun h12=>?_)
  .refine tB (Fg (a:=x5) (b:=x6) (l:=D) (by omega) i2 (by omega) (by omega) (i4.al hal)) fun r=>?_;rintro⟨r1,r2⟩;exact tS ⟨i4.trans (r1.wide i1 i3 h0),i5.fin r1 i1 i3 h0 r2⟩
  refine tC (fun _=>?_) (fun _=>?_)
  .refine tB (Fh (a:=x5) (b:=x6) (l:=D) (by omega) i2 (by omega) (by omega) (i4.al hal)) fun r=>?_;rintro⟨r1,r2⟩;exact tS ⟨i4.trans (r1.wide i1 i3 h0),i5.fin r1 i1 i3 h0 r2⟩
  refine tB (Q:=fun s:Int×List U=>Rp d x5 x6 D s.2) ?_ fun s hs=>?_
  .refine tC (fun _=>?_) (fun _=>tS (.refl _ _ _ _));exact tB (Fj (a:=x5) (b:=x6) (l:=D) (by omega) i2 (by omega) (by omega)) fun r hr=>tS hr
  have hl1:=hs.len;refine tB (Fp (a:=x5) (b:=x6) (l:=s.2) (hs.al (i4.al hal)) (by omega) (by omega) (by omega) (by omega)) fun c=>?_;rintro⟨c1,c2⟩;refine tB (Q:=fun t:(Int×Int)×List U=>x5<=t.1.1/\t.1.1<x6/\Rp d x5 x6 D t.2) ?_ fun t=>?_
  .refine tC (fun _=>?_) (fun _=>tS ⟨c1,c2,hs⟩);refine tB (Fq (a:=x5) (b:=x6) (l:=s.2) (by omega) i2 (by omega) (by omega)) fun r hr=>?_;simp (disch:=omega) only[wr];exact tS ⟨by dsimp only;omega,by dsimp only;omega,hs.trans hr⟩
  rintro⟨t1,t2,t3⟩;have hl2:=t3.len;refine tB (Q:=fun w:(PUnit×List U)⊕(PUnit×List U)=>Sum.elim (fun q:PUnit×List U=>Rp d x5 x6 D q.2) (fun q:PUnit×List U=>Rp d x5 x6 D q.2/\Sd lt d x5 x6 q.2) w) ?_ fun w hw=>?_
  .refine tC (fun _=>?_) (fun _=>tS t3);refine tB (Fu (a:=x5) (b:=x6) (l:=t.2) (by omega) (by omega) (by omega) (by omega) (t3.al (i4.al hal)) (pre t3)) fun r=>?_;rintro⟨r1,r2⟩;exact tC (fun h=>tS ⟨t3.trans r1,r2 h⟩) (fun _=>tS (t3.trans r1))
  rcases w with q|q
  .have d1:Rp d x5 x6 D q.2:=hw;have hl1:=d1.len;change∃r,(bif decide (x5>0) then _ else _)=some r/\_;generalize q.2=D1 at*;refine tD (fun hx0=>?_) (fun hx0=>?_)
   .refine tI (by omega) (by omega) (tE (aB d (by omega) (by omega)) (tI (by omega) (by omega) (tE (aB d (by omega) (by omega)) (tM hc ((d1.al (i4.al hal)).at d (by omega) (by omega)) ((d1.al (i4.al hal)).at d (by omega) (by omega)) fun z hz=>?_))));refine tN (fun hlt=>?_) (fun hlt=>?_)
    .have hlt':¬lt (gI d D1 (x5-1)) (gI d D1 t.1.1):=fun k=>hlt (hz.2 k);refine tB (Fv (a:=x5) (b:=x6) (p:=t.1.1) (l:=D1) (by omega) (by omega) (by omega) (d1.al (i4.al hal)) t1 t2) fun r=>?_;rintro⟨r1,r2,r3,r4,r5,r6⟩;have hl3:=r3.len;have d2:=d1.trans r3;have P2:=i5.rp (x:=x5) (y:=x6) d2 i1 i3 h0;refine aJ _ ⟨by dsimp only;omega,by dsimp only;omega,by dsimp only;omega,i4.trans (d2.wide i1 i3 h0),fun u v k1 k2 k3 k4=>?_⟩ (by dsimp only;omega);dsimp only at k4⊢;by_cases e:u<x5\/x6<=v
     .exact P2 u v k1 k2 k3 e
     .have hu:¬lt (gI d r.2 x5) (gI d r.2 u):=by
       by_cases e2:u=x5
       .rw[e2];exact ho.gK _
       .exact r5 u (by omega) (by omega)
      have hv:¬lt (gI d r.2 v) (gI d r.2 x5):=by
       by_cases e2:v<r.1
       .have h1:=pre d2 hx0 v (by omega) (by omega);rw[r3.out (x5-1) (by omega) (.inl (by omega))] at h1;rw[r4];exact ho.neg _ _ _ h1 hlt'
       .exact ho.asym _ _ (r6 v (by omega) (by omega))
      exact ho.neg _ _ _ hv hu
    .refine tB (yS (a:=x5) (b:=x6) (p:=t.1.1) (l:=D1) (by omega) (by omega) (by omega) (d1.al (i4.al hal)) t1 t2) fun r=>?_;intro hr;obtain⟨p1,p2,p3,p4,p5⟩:=hr;have hl3:=p3.len;have d2:=d1.trans p3;have P2:=i5.rp (x:=x5) (y:=x6) d2 i1 i3 h0;have qB:=d2.al (i4.al hal);refine tG (by decide) ?_;simp (disch:=omega) only[wr];refine tD (fun hlt=>?_) (fun hlt=>?_)
     .refine tB (ih x5 r.1.1 _ r.2 (by omega) (by omega) (by omega) (by omega) (by omega) qB (fun hx k k1 k2=>?_)) fun s=>?_
      .exact pre d2 hx k k1 (by omega)
      .rintro⟨s1,s2⟩;have hl4:=s1.len;have em:gI d s.2 r.1.1=gI d r.2 r.1.1:=s1.out _ (by omega) (.inr (by omega));have s1':=s1.wide (a':=x5) (b':=x6) (by omega) (by omega) (by omega);refine aJ _ ⟨by dsimp only;omega,by dsimp only;omega,by dsimp only;omega,i4.trans ((d2.trans s1').wide (by omega) (by omega) h0),fun u v k1 k2 k3 k4=>?_⟩ (by dsimp only;omega);dsimp only at k4⊢;by_cases e:u<x5\/x6<=v
       .exact P2.rp s1' i1 i3 h0 u v k1 k2 k3 e
       .by_cases e1:v<r.1.1
        .exact s2 u v (by omega) k2 e1
        .have hu:¬lt (gI d s.2 r.1.1) (gI d s.2 u):=by
          by_cases e2:u=r.1.1
          .rw[e2];exact ho.gK _
          .rw[em];exact s1.all (fun z=>¬lt (gI d r.2 r.1.1) z) (fun w w1 w2=>p4 w w1 w2) u (by omega) (by omega)
         have hv:¬lt (gI d s.2 v) (gI d s.2 r.1.1):=by
          by_cases e2:v=r.1.1
          .rw[e2];exact ho.gK _
          .rw[em,s1.out v (by omega) (.inr (by omega))];exact p5 v (by omega) (by omega)
         exact ho.neg _ _ _ hv hu
     .refine tB (ih (r.1.1+1) x6 _ r.2 (by omega) (by omega) (by omega) (by omega) (by omega) qB (fun hx k k1 k2=>?_)) fun s=>?_
      .rw[show r.1.1+1-1=r.1.1 by omega];exact p5 k (by omega) k2
      .rintro⟨s1,s2⟩;have hl4:=s1.len;have em:gI d s.2 r.1.1=gI d r.2 r.1.1:=s1.out _ (by omega) (.inl (by omega));have s1':=s1.wide (a':=x5) (b':=x6) (by omega) (by omega) (by omega);refine aJ _ ⟨by dsimp only;omega,by dsimp only;omega,by dsimp only;omega,i4.trans ((d2.trans s1').wide (by omega) (by omega) h0),fun u v k1 k2 k3 k4=>?_⟩ (by dsimp only;omega);dsimp only at k4⊢;by_cases e:u<x5\/x6<=v
       .exact P2.rp s1' i1 i3 h0 u v k1 k2 k3 e
       .by_cases e1:r.1.1<u
        .exact s2 u v (by omega) k2 (by omega)
        .have hu:¬lt (gI d s.2 r.1.1) (gI d s.2 u):=by
          by_cases e2:u=r.1.1
          .rw[e2];exact ho.gK _
          .rw[em,s1.out u (by omega) (.inl (by omega))];exact p4 u (by omega) (by omega)
         have hv:¬lt (gI d s.2 v) (gI d s.2 r.1.1):=by
          by_cases e2:v=r.1.1
          .rw[e2];exact ho.gK _
          .rw[em];exact s1.all (fun z=>¬lt z (gI d r.2 r.1.1)) (fun w w1 w2=>p5 w (by omega) w2) v (by omega) (by omega)
         exact ho.neg _ _ _ hv hu
   .refine tB (yS (a:=x5) (b:=x6) (p:=t.1.1) (l:=D1) (by omega) (by omega) (by omega) (d1.al (i4.al hal)) t1 t2) fun r=>?_;intro hr;obtain⟨p1,p2,p3,p4,p5⟩:=hr;have hl3:=p3.len;have d2:=d1.trans p3;have P2:=i5.rp (x:=x5) (y:=x6) d2 i1 i3 h0;have qB:=d2.al (i4.al hal);refine tG (by decide) ?_;simp (disch:=omega) only[wr];refine tD (fun hlt=>?_) (fun hlt=>?_)
    .refine tB (ih x5 r.1.1 _ r.2 (by omega) (by omega) (by omega) (by omega) (by omega) qB (fun hx k k1 k2=>?_)) fun s=>?_
     .exact pre d2 hx k k1 (by omega)
     .rintro⟨s1,s2⟩;have hl4:=s1.len;have em:gI d s.2 r.1.1=gI d r.2 r.1.1:=s1.out _ (by omega) (.inr (by omega));have s1':=s1.wide (a':=x5) (b':=x6) (by omega) (by omega) (by omega);refine aJ _ ⟨by dsimp only;omega,by dsimp only;omega,by dsimp only;omega,i4.trans ((d2.trans s1').wide (by omega) (by omega) h0),fun u v k1 k2 k3 k4=>?_⟩ (by dsimp only;omega);dsimp only at k4⊢;by_cases e:u<x5\/x6<=v
      .exact P2.rp s1' i1 i3 h0 u v k1 k2 k3 e
      .by_cases e1:v<r.1.1
       .exact s2 u v (by omega) k2 e1
       .have hu:¬lt (gI d s.2 r.1.1) (gI d s.2 u):=by
         by_cases e2:u=r.1.1
         .rw[e2];exact ho.gK _
         .rw[em];exact s1.all (fun z=>¬lt (gI d r.2 r.1.1) z) (fun w w1 w2=>p4 w w1 w2) u (by omega) (by omega)
        have hv:¬lt (gI d s.2 v) (gI d s.2 r.1.1):=by
         by_cases e2:v=r.1.1
         .rw[e2];exact ho.gK _
         .rw[em,s1.out v (by omega) (.inr (by omega))];exact p5 v (by omega) (by omega)
        exact ho.neg _ _ _ hv hu
    .refine tB (ih (r.1.1+1) x6 _ r.2 (by omega) (by omega) (by omega) (by omega) (by omega) qB (fun hx k k1 k2=>?_)) fun s=>?_
     .rw[show r.1.1+1-1=r.1.1 by omega];exact p5 k (by omega) k2
     .rintro⟨s1,s2⟩;have hl4:=s1.len;have em:gI d s.2 r.1.1=gI d r.2 r.1.1:=s1.out _ (by omega) (.inl (by omega));have s1':=s1.wide (a':=x5) (b':=x6) (by omega) (by omega) (by omega);refine aJ _ ⟨by dsimp only;omega,by dsimp only;omega,by dsimp only;omega,i4.trans ((d2.trans s1').wide (by omega) (by omega) h0),fun u v k1 k2 k3 k4=>?_⟩ (by dsimp only;omega);dsimp only at k4⊢;by_cases e:u<x5\/x6<=v
      .exact P2.rp s1' i1 i3 h0 u v k1 k2 k3 e
      .by_cases e1:r.1.1<u
       .exact s2 u v (by omega) k2 (by omega)
       .have hu:¬lt (gI d s.2 r.1.1) (gI d s.2 u):=by
         by_cases e2:u=r.1.1
         .rw[e2];exact ho.gK _
         .rw[em,s1.out u (by omega) (.inl (by omega))];exact p4 u (by omega) (by omega)
        have hv:¬lt (gI d s.2 v) (gI d s.2 r.1.1):=by
         by_cases e2:v=r.1.1
         .rw[e2];exact ho.gK _
         .rw[em];exact s1.all (fun z=>¬lt z (gI d r.2 r.1.1)) (fun w w1 w2=>p5 w (by omega) w2) v (by omega) (by omega)
        exact ho.neg _ _ _ hv hu
  .obtain⟨w1,w2⟩:=hw;exact tS ⟨i4.trans (w1.wide i1 i3 h0),i5.fin w1 i1 i3 h0 w2⟩
end
end Pq
end
section
open Go Go.Proofs Aq Pq
namespace Sh
set_option maxRecDepth 100000
theorem auV {k:Int}(h0:1<=k)(h1:k<256)(n:Nat):∃r:Int,ZX n k=some r/\0<=r/\r<10/\(2:Int)^r.toNat<=2*k:=by
 obtain⟨j,rfl⟩:∃j:Nat,k=(j:Int):=⟨k.toNat,by omega⟩;have hj:j<256:=by omega
 have key:∀j:Fin 256,1<=j.val->∃r:UInt8,Fb YM ((j.val:Nat):Int)=some r/\r.toNat<10/\2^r.toNat<=2*j.val:=by decide+kernel
 obtain⟨r,e,r1,r2⟩:=key ⟨j,hj⟩ (by show 1<=j;omega);have ew:wrap .u8 ((j:Nat):Int)=(j:Int):=by rw[IntKind.wrap_u8];omega
 have d1:decide (((j:Nat):Int)>=(4294967296:Int))=false:=decide_eq_false (by omega);have d2:decide (((j:Nat):Int)>=(65536:Int))=false:=decide_eq_false (by omega);have d3:decide (((j:Nat):Int)>=(256:Int))=false:=decide_eq_false (by omega);rw[akk,akj,d1,d2,d3,cond_false,cond_false,cond_false,ew];have e:Fb YM ((j:Nat):Int)=some r:=e;rw[e];refine⟨(r.toNat:Int),?_,by omega,by omega,?_⟩
 .show some (wrap .i64 ((0:Int)+wrap .i64 (r.toNat:Int)))=_;rw[wr (i:=(r.toNat:Int)) (by omega) (by omega),Int.zero_add,wr (by omega) (by omega)]
 .rw[Int.toNat_natCast];have:((2^r.toNat:Nat):Int)<=((2*j:Nat):Int):=Int.ofNat_le.2 r2;rw[Int.natCast_pow] at this;simpa using this
theorem aoc {k:Int}(h0:1<=k)(h1:k<512)(n:Nat):∃r:Int,ZX n k=some r/\0<=r/\r<10/\(2:Int)^r.toNat<=2*k:=by
 by_cases h:k<256
 .exact auV h0 h n
 obtain⟨j,rfl⟩:∃j:Nat,k=(j:Int):=⟨k.toNat,by omega⟩;have hj:j<512:=by omega
 have key:∀j:Fin 512,256<=j.val->Uy .u64 ((j.val:Nat):Int) 8=1:=by decide+kernel
 have es:Uy .u64 ((j:Nat):Int) 8=1:=key ⟨j,hj⟩ (by show 256<=j;omega);have d1:decide (((j:Nat):Int)>=(4294967296:Int))=false:=decide_eq_false (by omega);have d2:decide (((j:Nat):Int)>=(65536:Int))=false:=decide_eq_false (by omega);have d3:decide (((j:Nat):Int)>=(256:Int))=true:=decide_eq_true (by omega);refine⟨9,?_,by omega,by omega,?_⟩
 .rw[akk,akj,d1,d2,d3,cond_false,cond_false,cond_true,es];kernel_rfl
 .have:(2:Int)^(9:Int).toNat=512:=by decide
  rw[this];omega
theorem auW (n:Nat):∀k:Int,8<=k->k<512->∃M:Int,Xg n k=some M/\0<M/\M<=2*k:=by
 intro k h0 h1;obtain⟨r,e,r0,r1,r2⟩:=aoc (k:=k) (by omega) h1 n;have ew:wrap .u64 k=k:=by rw[IntKind.wrap_u64];omega
 have hp:(0:Int)<2^r.toNat:=Int.pow_pos (by omega);have es:Wt .u64 1 r=2^r.toNat:=by have:Wt .u64 1 r=wrap .u64 (1*2^min r.toNat 64):=rfl;rw[this,Nat.min_eq_left (by omega),Int.one_mul,IntKind.wrap_u64];omega
 refine⟨2^r.toNat,?_,hp,r2⟩;rw[atX,ew];refine bs e ?_;show (bif decide ((0:Int)<=r) then some (Wt .u64 1 r) else none)=_;rw[decide_eq_true r0,cond_true,es]
theorem tQ {β:Type}{o o':Option β}{P:β->Prop}(h:o=o')(k:∃r,o'=some r/\P r):∃r,o=some r/\P r:=by rw[h];exact k
theorem auX (n:Nat):∀x:Int,∃r:Int×Int,ZP n () x=some r:=by intro x;rw[atY];exact⟨_,rfl⟩
end Sh
end
section
open Go Go.Proofs Aq Pq
namespace Sh
set_option maxRecDepth 100000
noncomputable abbrev KI (n:Nat){β:Type}(a b:Int)(f:Bool->Option β):Option β:=(Xr n (a,b)).bind f
theorem auY (n:Nat)(a b:Int):Xr n (a,b)=some (decide (a<b)):=by have e:∀x:Int,Xk n x=some false:=fun x=>(atU n x).trans (congrArg some (show (x !=x)=false by simp));exact(atV n a b).trans (bs (e a) rfl)
theorem auZ (n:Nat):YP (fun _=>True) (fun a b:Int=>a<b) (KI n):=fun a b _ _=>⟨decide (a<b),by simp,fun f=>bs (auY n a b) rfl⟩
theorem au0:Ord (fun a b:Int=>a<b):=⟨fun _ _=>by omega,fun _ _ _=>by omega⟩
theorem au1 {n:Nat}(hn:800<n){l:List Int}(hl:l.length<512)(lim:Int):∃r:PUnit×List Int,QR n ((),(0:Int),(l.length:Int),lim) l=some r/\r.2.Perm l/\r.2.Pairwise fun x y=>¬y<x:=by
 have hc:=auZ n;have ho:=au0;have hal:Al (fun _:Int=>True) l:=fun _ _=>trivial;have h:=auU (n:=n) (d:=(0:Int)) (K:=KI n) (PL:=anP n) (pd:=(fun m p q=>Yh n m (p.1,p.2.1,p.2.2.1,p.2.2.2.1) q)) hc ho (ins:=(fun p q=>Zt n (p.1,p.2.1,p.2.2.1) q)) (heap:=(fun p q=>ZA n (p.1,p.2.1,p.2.2.1) q)) (brk:=(fun p q=>ZI n (p.1,p.2.1,p.2.2.1) q)) (rev:=(fun p q=>ZC n (p.1,p.2.1,p.2.2.1) q)) (cho:=(fun p=>Xv n (p.1,p.2.1,p.2.2.1))) (pin:=(fun p q=>Zk n (p.1,p.2.1,p.2.2.1) q)) (peq:=(fun p q=>Zr n (p.1,p.2.1,p.2.2.1,p.2.2.2.1) q)) (prt:=(fun p q=>Ze n (p.1,p.2.1,p.2.2.1,p.2.2.2.1) q))
  (fun h0 h1 h2 h3 h4=>by refine tQ (atW ..) ?_;exact tB (auH (n:=n) (d:=(0:Int)) (K:=KI n) (L4:=anx n) (L1:=akl n) hc ho (by intros;kernel_rfl) (by intros;kernel_rfl) h0 h1 h2 (by first|omega| (dsimp only;omega)) h4 (by first|omega| (dsimp only;omega))) fun r hr=>tS hr)
  (fun h0 h1 h2 h3 h4=>auJ (n:=n) (d:=(0:Int)) (K:=KI n) (S1:=anz n) (sift:=(fun p q=>ZL n (p.1,p.2.1,p.2.2.1,p.2.2.2.1) q)) (H4:=anA n) (H8:=anB n) (heap:=(fun p q=>ZA n (p.1,p.2.1,p.2.2.1) q)) hc ho (by intros;kernel_rfl) (by intros;kernel_rfl) (by intros;kernel_rfl) (by intros;kernel_rfl) (by intros;kernel_rfl) h0 h1 h2 (by first|omega| (dsimp only;omega)) h4 (by first|omega| (dsimp only;omega)))
  (fun h0 h1 h2 h3=>auR (n:=n) (d:=(0:Int)) (np:=Xg n) (xs:=ZP n) (auW n) (auX n) (B5:=anC n) (brk:=(fun p q=>ZI n (p.1,p.2.1,p.2.2.1) q)) (by intros;kernel_rfl) (by intros;kernel_rfl) h0 h1 h2 h3 (by first|omega| (dsimp only;omega)))
  (fun h0 h1 h2 h3 h4=>auS (0:Int) (K:=KI n) hc (o2:=(fun p q=>ZT n (p.1,p.2.1,p.2.2.1,p.2.2.2.1) q)) (med:=(fun p q=>ZU n (p.1,p.2.1,p.2.2.1,p.2.2.2.1,p.2.2.2.2.1) q)) (mad:=(fun p q=>ZV n (p.1,p.2.1,p.2.2.1) q)) (cho:=(fun p=>Xv n (p.1,p.2.1,p.2.2.1))) (by intros;kernel_rfl) (by intros;kernel_rfl) (by intros;kernel_rfl) (by intros;kernel_rfl) h0 h1 h2 (by first|omega| (dsimp only;omega)) h4)
  (fun h0 h1 h2 h3=>by refine tQ (atZ ..) ?_;exact tB (revAll (n:=n) (d:=(0:Int)) (L2:=akm n) (by intros;kernel_rfl) h0 h1 h2 (by first|omega| (dsimp only;omega)) (by first|omega| (dsimp only;omega))) fun r hr=>tS hr)
  (fun h0 h1 h2 h3 h4 h5=>auQ (n:=n) (d:=(0:Int)) (K:=KI n) hc ho (I5:=anD n) (I14:=anE n) (I20:=anF n) (IM:=anG n) (pin:=(fun p q=>Zk n (p.1,p.2.1,p.2.2.1) q)) (by intros;kernel_rfl) (by intros;kernel_rfl) (by intros;kernel_rfl) (by intros;kernel_rfl) (by intros;kernel_rfl) h0 h1 h2 (by first|omega| (dsimp only;omega)) h4 (by first|omega| (dsimp only;omega)) h5)
  (fun h0 h1 h2 h3 h4 h5=>auO (n:=n) (d:=(0:Int)) (K:=KI n) hc (E3:=anH n) (E5:=anI n) (EM:=anJ n) (peq:=(fun p q=>Zr n (p.1,p.2.1,p.2.2.1,p.2.2.2.1) q)) (by intros;kernel_rfl) (by intros;kernel_rfl) (by intros;kernel_rfl) (by intros;kernel_rfl) h0 h1 (by first|omega| (dsimp only;omega)) h3 (by first|omega| (dsimp only;omega)) h4 h5)
  (fun h0 h1 h2 h3 h4 h5=>auN (n:=n) (d:=(0:Int)) (K:=KI n) hc ho (P3:=anK n) (P5:=anL n) (P13:=anM n) (P15:=anN n) (PM:=anO n) (prt:=(fun p q=>Ze n (p.1,p.2.1,p.2.2.1,p.2.2.2.1) q)) (by intros;kernel_rfl) (by intros;kernel_rfl) (by intros;kernel_rfl) (by intros;kernel_rfl) (by intros;kernel_rfl) (by intros;kernel_rfl) h0 h1 (by first|omega| (dsimp only;omega)) h3 (by first|omega| (dsimp only;omega)) h4 h5)
  (by intros;kernel_rfl) (by intros;kernel_rfl) (by first|omega| (dsimp only;omega)) n 0 (l.length:Int) lim l (by first|omega| (dsimp only;omega)) (PZ _) (by first|omega| (dsimp only;omega)) (PZ _) hl hal (fun h=>by omega)
 refine tQ (show QR n ((),(0:Int),(l.length:Int),lim) l=Yh n n ((),(0:Int),(l.length:Int),lim) l by unfold QR;rfl) ?_;refine tW h fun r hr=>⟨hr.1.perm,?_⟩;have:=hr.2;rw[<-hr.1.len] at this;exact this.pw
theorem au2 {n:Nat}(hn:800<n){l:List Int}(hl:l.length<512):∃r:PUnit×List Int,ZQ n () l=some r/\r.2.Perm l/\r.2.Pairwise fun x y=>¬y<x:=by
 refine tQ (at0 ..) ?_;have hlen:∃r:Int,ZX n (wrap .u64 (l.length:Int))=some r:=by
  have ew:wrap .u64 (l.length:Int)=(l.length:Int):=by rw[IntKind.wrap_u64];omega
  rw[ew];by_cases h:l.length=0
  .rw[h];rw[akk,akj];exact⟨_,rfl⟩
  .obtain⟨r,e,_⟩:=aoc (k:=(l.length:Int)) (by first|omega| (dsimp only;omega)) (by first|omega| (dsimp only;omega)) n;exact⟨r,e⟩
 obtain⟨r,e⟩:=hlen;exact tE e (tB (au1 hn hl r) fun s hs=>tS hs)
end Sh
end
section
open Go Aq
namespace Pq
variable {U:Type}
section
variable {n:Nat}(d:U){z:U}{b:Int}{e:U->U->Bool}{sm:U->U->Option Bool}(hs:∀a c,sm a c=some (e a c)){C9:Int->Nat->((Int×Int)×List U)->Option (Int×List U)}{C4:Nat->(Int×List U)->Option ((PUnit×List U)⊕((Int×Int)×List U))}(h9:∀(x2:Int) (m:Nat) (x7 x8:Int) (x9:List U),C9 x2 (m+1) ((x7,x8),x9)=bif decide (x8< (((Int.toNat (((0:Int)+(b-(0:Int)))-((0:Int)+x2)):Nat):Int))) then bif UH x8 (((0:Int)+(b-(0:Int)))-((0:Int)+x2)) then (Fb x9 (((0:Int)+x2)+x8)).bind fun (R6:U)=>bif UH (wrap .i64 (x8-(1:Int))) (((0:Int)+(b-(0:Int)))-((0:Int)+x2)) then (Fb x9 (((0:Int)+x2)+(wrap .i64 (x8-(1:Int))))).bind fun (Rx:U)=>(sm R6 Rx).bind fun (Td:Bool)=>bif !Td then bif UH x8 (((0:Int)+(b-(0:Int)))-((0:Int)+x2)) then (Fb x9 (((0:Int)+x2)+x8)).bind fun (RL:U)=>bif UH x7 (b-(0:Int)) then (Fb x9 ((0:Int)+x7)).bind fun (Tj:U)=>
         C9 x2 m (((wrap .i64 (x7+(1:Int)),wrap .i64 (x8+(1:Int))),Rc x9 ((0:Int)+x7) RL))else none else none else C9 x2 m (((x7,wrap .i64 (x8+(1:Int))),x9))else none else none else some ((x7,x9)))(h4:∀(m:Nat) (x2:Int) (x3:List U),C4 (m+1) (x2,x3)=bif decide (x2< (((Int.toNat (b-(0:Int)):Nat):Int))) then bif UH x2 (b-(0:Int)) then (Fb x3 ((0:Int)+x2)).bind fun (r4:U)=>bif UH (wrap .i64 (x2-(1:Int))) (b-(0:Int)) then (Fb x3 ((0:Int)+(wrap .i64 (x2-(1:Int))))).bind fun (r5:U)=>(sm r4 r5).bind fun (r6:Bool)=>bif r6 then bif VG x2 (b-(0:Int)) (b-(0:Int)) then (C9 x2 n (((x2,(1:Int)),x3))).bind fun (Ta:Int×List U)=>bif VG Ta.1 (b-(0:Int)) (b-(0:Int)) then bif VG (0:Int) Ta.1 (b-(0:Int)) then some (.inr ((((0:Int)+(0:Int),(0:Int)+Ta.1),U3 Ta.2 ((0:Int)+Ta.1) ((0:Int)+(b-(0:Int))) z)))else none else none else none else C4 m ((wrap .i64 (x2+(1:Int)),x3))else none else none else some (.inl (((),x3))))
include d hs h9
theorem O8 {l:List U}{k:Int}{m:Nat}(hk:1<=k)(hkl:k<b)(hbl:b<=l.length)(hb:b<2^57)(h0:l.take k.toNat=comp e (l.take (k.toNat+1)))(hm:b.toNat<m):
 ∃r,C9 k m ((k,1),l)=some r/\k<=r.1/\r.1<=b/\r.2.length=l.length/\r.2.take r.1.toNat=comp e (l.take b.toNat):=by
 refine mu (τ:=(Int×Int)×List U) (L:=C9 k) (fun p=>1<=p.1.2/\p.1.2<=b-k/\k<=p.1.1/\p.1.1<=k+p.1.2-1/\p.2.length=l.length/\(∀j,k+p.1.2-1<=j->j<l.length->gI d p.2 j=gI d l j)/\p.2.take p.1.1.toNat=comp e (l.take (k+p.1.2).toNat)) (fun p=>(b-p.1.2).toNat) _ ?_ m ((k,1),l)
  ⟨PZ _,by dsimp only;omega,PZ _,by dsimp only;omega,rfl,fun j _ _=>rfl,by rw[show (k+1).toNat=k.toNat+1 by omega];exact h0⟩ (by dsimp only;omega)
 rintro m ⟨⟨w,q⟩,D⟩ ⟨i1,i2,i3,i4,i5,i6,i7⟩ aJ;dsimp only at i1 i2 i3 i4 i5 i6 i7 aJ⊢;rw[h9];simp only[Int.zero_add,Int.sub_zero,UH];simp (disch:=omega) only[wr];refine tD (fun hq=>?_) (fun hq=>tS ⟨i3,by omega,i5,?_⟩)
 .refine tG (decide_eq_true (by omega)) (tE (aB d (by omega) (by omega)) (tG (decide_eq_true (by omega)) (tE (aB d (by omega) (by omega)) ?_)));have g1:gI d D (k+q)=gI d l (k+q):=i6 _ (by omega) (by omega);have g2:gI d D (k+(q-1))=gI d l (k+q-1):=by rw[show k+(q-1)=k+q-1 by omega];exact i6 _ (by omega) (by omega)
  rw[g1,g2];refine tE (hs _ _) ?_;have hct:=tH e d (l:=l) (k:=(k+q).toNat) (by omega) (by omega);rw[show (((k+q).toNat:Nat):Int)=k+q by omega,<-i7] at hct;cases he:e (gI d l (k+q)) (gI d l (k+q-1)) with
  |false=>
   rw[he,cond_false] at hct;rw[Bool.not_false,cond_true];refine tG (decide_eq_true (by omega)) (tE (aB d (by omega) (by omega)) (tG (decide_eq_true (by omega)) (tE (aB d (by omega) (by omega)) ?_)));rw[g1];refine aJ ((w+1,q+1),Rc D w (gI d l (k+q))) ⟨by dsimp only;omega,by dsimp only;omega,by dsimp only;omega,by dsimp only;omega,by dsimp only;rw[ay,i5],fun j j1 j2=>?_,?_⟩ (by dsimp only;omega)
   .dsimp only at j1⊢;rw[tF (by omega) (by omega) (by omega),if_neg (by omega)];exact i6 j (by omega) j2
   .dsimp only;rw[E9 (by omega) (by omega),show (k+(q+1)).toNat=(k+q).toNat+1 by omega,hct]
  |true=>rw[he,cond_true] at hct;rw[Bool.not_true,cond_false];refine aJ ((w,q+1),D) ⟨by dsimp only;omega,by dsimp only;omega,i3,by dsimp only;omega,i5,fun j j1 j2=>i6 j (by dsimp only at j1;omega) j2,?_⟩ (by dsimp only;omega);dsimp only;rw[show (k+(q+1)).toNat=(k+q).toNat+1 by omega,hct]
 .dsimp only;rw[i7,show (k+q).toNat=b.toNat by omega]
include h4
theorem au3 {l:List U}(h2:2<=b)(hbl:b<=l.length)(hb:b<2^57)(hn:b.toNat<n):
 ∃s,C4 n (1,l)=some s/\Sum.elim (fun q:PUnit×List U=>q.2=l/\comp e (l.take b.toNat)=l.take b.toNat) (fun q:(Int×Int)×List U=>q.1.1=0/\0<=q.1.2/\q.1.2<=q.2.length/\q.2.take q.1.2.toNat=comp e (l.take b.toNat)) s:=by
 refine mu (τ:=Int×List U) (L:=C4) (fun p=>1<=p.1/\p.1<=b/\p.2=l/\comp e (l.take p.1.toNat)=l.take p.1.toNat) (fun p=>(b-p.1).toNat) _ ?_ n (1,l) ⟨PZ _,by dsimp only;omega,rfl,?_⟩ (by dsimp only;omega)
 .rintro m ⟨k,D⟩ ⟨i1,i2,i3,i4⟩ aJ;dsimp only at i1 i2 i3 i4 aJ⊢;subst i3;rw[h4];simp only[Int.zero_add,Int.sub_zero,VG,UH];simp (disch:=omega) only[wr];refine tD (fun hk=>?_) (fun hk=>tS ⟨rfl,?_⟩)
  .refine tG (decide_eq_true (by omega)) (tE (aB d (by omega) (by omega)) (tG (decide_eq_true (by omega)) (tE (aB d (by omega) (by omega)) (tE (hs _ _) ?_))));have hct:=tH e d (l:=D) (k:=k.toNat) (by omega) (by omega);rw[show (k.toNat:Int)=k by omega] at hct;cases he:e (gI d D k) (gI d D (k-1)) with
   |true=>rw[he,cond_true] at hct;rw[cond_true];refine tG (decide_eq_true (by omega)) ?_;refine tB (O8 (d:=d) hs h9 (l:=D) (k:=k) i1 (by omega) hbl hb (by rw[hct,i4]) hn) fun r=>?_;rintro⟨r1,r2,r3,r4⟩;refine tG (decide_eq_true (by omega)) ?_;have hcl:(U3 r.2 r.1 b z).length=r.2.length:=(by unfold U3;rw[PU,PU,Qb,List.length_replicate,QK];omega);refine tG (decide_eq_true (by omega)) (tS ⟨rfl,by dsimp only;omega,by dsimp only;rw[hcl];omega,?_⟩);dsimp only;unfold U3;rw[QX (by rw[Qb];omega),List.take_take,Nat.min_self];exact r4
   |false=>rw[he,cond_false] at hct;rw[cond_false];refine aJ (k+1,D) ⟨by dsimp only;omega,by dsimp only;omega,rfl,?_⟩ (by dsimp only;omega);dsimp only;rw[show (k+1).toNat=k.toNat+1 by omega,hct,i4];have hlt:k.toNat<D.length:=(by omega);have eg:gI d D k=D[k.toNat]:=(by unfold gI;rw[PX hlt];rfl);rw[eg,List.take_append_getElem hlt]
  .rw[show k.toNat=b.toNat by omega] at i4;exact i4
 .dsimp only
  match l,hbl with
  | [],hbl=>simp at hbl;omega|x::l,_=>rfl
end
end Pq
end
section
open Go Go.Proofs Aq Pq
namespace Sh
theorem WW {a k:Nat}(h:a<2^30)(hk:k<=4096):Si a k=true:=by
 unfold Si;have h1:a*k<=2^30*4096:=Nat.mul_le_mul (Nat.le_of_lt h) hk;have:a<=2^47:=by omega
 have:a*k<=2^47:=by omega
 simp[*]
theorem aei {nm:List UInt8}{x:Pred}{l:List Pred}(h:TN nm x=true):(x::l).filter (TN nm)=x::l.filter (TN nm):=by rw[List.filter_cons,if_pos h]
theorem aej {nm:List UInt8}{x:Pred}{l:List Pred}(h:TN nm x=false):(x::l).filter (TN nm)=l.filter (TN nm):=by rw[List.filter_cons,if_neg (by rw[h];simp)]
theorem akC {n:Nat}{v:Int}{nm:List UInt8}{a b c:Int}{ws:List (List UInt8)}:∀(l:List Pred)(acc:List Bool),acc.length+l.length<2^30->aat n v nm a b c ws l ((),acc)=some ((),acc++Sv nm l v)
 | [],acc,_=>by rw[at7];unfold Sv;simp|x::l,acc,h=>by
  simp only[List.length_cons] at h;rw[aua];change (bif TN nm x then (bif Si (acc.length+1) 1 then aat n v nm a b c ws l ((),acc++[U6 x v]) else none) else aat n v nm a b c ws l ((),acc))=_;cases hx:TN nm x with
  |true=>rw[cond_true,WW (by omega) (by omega),cond_true,akC l (acc++[U6 x v]) (by rw[PU,List.length_singleton];omega)];unfold Sv;rw[aei hx,Qe];rfl|false=>rw[cond_false,akC l acc (by omega)];unfold Sv;rw[aej hx]
theorem aod {n:Nat}{v:Int}{d:Def}{p:Pred}(h:RP p<2^30):Zw n (v,((p.Op,(p.Name,(p.N,(p.M,(p.S,p.Rs))))),(d.Name,(d.Kind,(d.Lo,(d.Hi,d.Words))))))=some (Sv d.Name (pre p) v):=by rw[aub];refine bs (acK n _) ?_;show ((VL p.re).bind _).bind _=_;rw[Pred.TG,acQ (by omega),Option.bind_some];have:=akC (n:=n) (v:=v) (nm:=d.Name) (a:=d.Kind) (b:=d.Lo) (c:=d.Hi) (ws:=d.Words) (pre p) [] (by rw[Wz];simpa using h);exact bs this rfl
theorem au4 {n:Nat}{a b:List Bool}(hl:a.length=b.length)(hb:a.length<2^62):∀(k i m:Nat),i+k=a.length->k<m->aea n a b m (i:Int)=some (if a.drop i=b.drop i then .inl () else .inr false):=by
 intro k;induction k with
 |zero=>
  intro i m hi hm;obtain⟨m,rfl⟩:∃m',m=m'+1:=⟨m-1,by omega⟩;obtain rfl:i=a.length:=by omega
  rw[anQ,UK,cond_false,List.drop_length,hl,List.drop_length];rfl
 |succ k ih=>
  intro i m hi hm;obtain⟨m,rfl⟩:∃m',m=m'+1:=⟨m-1,by omega⟩;have h1:i<a.length:=by omega
  have h2:i<b.length:=by omega
  have x1:a[i]? =some a[i]:=PX h1;have x2:b[i]? =some b[i]:=PX h2;rw[anQ,Ub x1,cond_true];refine bs (Tg x1) (bs (Tg x2) ?_);rw[TY (by omega),ih (i+1) m (by omega) (by omega),Qd h1,Qd h2];by_cases e:a[i]=b[i]
  .have:(a[i]==b[i])=true:=by simpa using e
   rw[this];simp only[Bool.not_true,cond_false,e,Qa,true_and]
  .have:(a[i]==b[i])=false:=by simpa using e
   rw[this];simp only[Bool.not_false,cond_true,e,Qa,false_and,if_false]
theorem au5 {n:Nat}{a b:List Bool}(hl:a.length=b.length)(hb:a.length<2^62)(hn:a.length<n):ZF n (a,b)=some (a==b):=by
 rw[auc];have e:((a.length:Int) !=(b.length:Int))=false:=by rw[hl];simp
 rw[e,cond_false];refine bs (au4 hl hb a.length 0 n (by omega) hn) ?_;rw[Qz,Qz];by_cases h:a=b
 .rw[if_pos h,h];simp
 .rw[if_neg h];have:(a==b)=false:=by simpa using h
  rw[this];rfl
theorem au6 (nm:List UInt8)(l:List Pred)(a b:Int):(Sv nm l a).length=(Sv nm l b).length:=by unfold Sv;rw[PY,PY]
theorem au7 (nm:List UInt8)(l:List Pred)(a:Int):(Sv nm l a).length<=l.length:=by unfold Sv;rw[PY];exact List.length_filter_le _ _
theorem au8 {n:Nat}{v w:Int}{d:Def}{p:Pred}(h:RP p<2^30)(hn:RP p<n):Xa n (v,(w,((),((p.Op,(p.Name,(p.N,(p.M,(p.S,p.Rs))))),(d.Name,(d.Kind,(d.Lo,(d.Hi,d.Words))))))))=some (Sv d.Name (pre p) v==Sv d.Name (pre p) w):=by rw[aud];have hle:=au7 d.Name (pre p) v;rw[Wz] at hle;exact bs (aod h) (bs (aod h) (bs (au5 (au6 ..) (by omega) (by omega)) rfl))
theorem aoe {n:Nat}{d:Def}{p:Pred}(hlo: -(2^40)<=d.Lo)(hhi:d.Hi<=2^40):∀(l:List Pred)(acc:List Int),acc.length+2*l.length<2^30->Y6 n d p l ((),((),acc))=some ((),((),acc++TI d l))
 | [],acc,_=>by rw[auj];unfold TI;simp|x::l,acc,h=>by
  simp only[List.length_cons] at h;have ih:=fun acc h=>aoe (n:=n) (p:=p) hlo hhi l acc h;rw[auk];have e:(bif x.Op !=(6:Int) then true else !(x.Name==d.Name))= !(TN d.Name x):=by unfold TN;cases h1:x.Op==(6:Int)<;>simp[bne,h1]
  rw[e];cases hx:TN d.Name x with
  |false=>rw[Bool.not_false,cond_true,ih acc (by omega)];unfold TI;rw[aej hx]|true=>
   rw[Bool.not_true,cond_false];have ec:TI d (x::l)=Y7 d x++TI d l:=by unfold TI;rw[aei hx,P6]
   rw[ec];unfold Y7;cases h1:(bif decide (x.N>d.Lo) then decide (x.N<=d.Hi) else false)<;>cases h2:(bif decide (x.M>=d.Lo) then decide (x.M<d.Hi) else false)
   .simp only[cond_false];rw[ih acc (by omega)];simp
   .simp only[cond_false,cond_true];have hw:wrap .i64 (x.M+(1:Int))=x.M+1:=by
     have:d.Lo<=x.M/\x.M<d.Hi:=by
      by_cases a:x.M>=d.Lo
      .rw[decide_eq_true a,cond_true] at h2;exact⟨a,of_decide_eq_true h2⟩
      .rw[decide_eq_false a] at h2;cases h2
     rw[IntKind.wrap_i64];omega
    rw[hw];refine(show (bif Si (acc.length+1) 8 then _ else none)=_ from ?_);rw[WW (by omega) (by omega),cond_true,ih _ (by rw[PU,List.length_singleton];omega)];simp
   .simp only[cond_false,cond_true];refine(show (bif Si (acc.length+1) 8 then _ else none)=_ from ?_);rw[WW (by omega) (by omega),cond_true,ih _ (by rw[PU,List.length_singleton];omega)];simp
   .simp only[cond_true];have hw:wrap .i64 (x.M+(1:Int))=x.M+1:=by
     have:d.Lo<=x.M/\x.M<d.Hi:=by
      by_cases a:x.M>=d.Lo
      .rw[decide_eq_true a,cond_true] at h2;exact⟨a,of_decide_eq_true h2⟩
      .rw[decide_eq_false a] at h2;cases h2
     rw[IntKind.wrap_i64];omega
    rw[hw];refine(show (bif Si (acc.length+1) 8 then (bif Si ((acc++[x.N]).length+1) 8 then _ else none) else none)=_ from ?_);rw[WW (by omega) (by omega),cond_true,WW (by rw[PU,List.length_singleton];omega) (by omega),cond_true,ih _ (by simp only[PU,List.length_singleton];omega)];simp
theorem au9 {n:Nat}{d:Def}{p:Pred}(h:RP p<2^30)(hn:RP p<n){l:List Int}{b:Int}(h0:0<=b)(hb:b<=l.length)(hl:b<2^57)(hln:b.toNat<n):
 ∃r:(Int×Int)×List Int,ZO n (d,(p,((0:Int),b))) l=some r/\r.1.1=0/\0<=r.1.2/\r.2.take r.1.2.toNat=comp (fun a c=>Sv d.Name (pre p) a==Sv d.Name (pre p) c) (l.take b.toNat):=by
 rw[aui];refine tB (Q:=fun r=>r.1.1=0/\0<=r.1.2/\r.2.1.take r.1.2.toNat=comp (fun a c=>Sv d.Name (pre p) a==Sv d.Name (pre p) c) (l.take b.toNat)) ?_ fun r hr=>tS hr;refine tQ (aug ..) ?_;refine tD (fun h2=>tS ⟨rfl,h0,?_⟩) (fun h2=>?_)
 .dsimp only;have:(l.take b.toNat).length<=1:=by rw[Qb];omega
  generalize l.take b.toNat=q at*
  match q,this with
  | [],_=>rfl| [x],_=>rfl|x::y::q,h=>simp at h
 have key:=au3 (n:=n) (0:Int) (z:=(0:Int)) (b:=b) (e:=fun a c=>Sv d.Name (pre p) a==Sv d.Name (pre p) c) (sm:=fun a c=>Xa n (a,(c,((),((p.Op,(p.Name,(p.N,(p.M,(p.S,p.Rs))))),(d.Name,(d.Kind,(d.Lo,(d.Hi,d.Words)))))))))
  (fun a c=>au8 h hn)
  (C9:=acM n 0 b p.Op p.Name p.N p.M p.S p.Rs d.Name d.Kind d.Lo d.Hi d.Words)
  (C4:=aeb n 0 b p.Op p.Name p.N p.M p.S p.Rs d.Name d.Kind d.Lo d.Hi d.Words)
  (by intros;refine Eq.trans (aue ..) ?_;rfl) (by intros;refine Eq.trans (auf ..) ?_;rfl) (l:=l) (by omega) hb hl hln
 refine tB key fun s hs=>?_;rcases s with q|q
 .obtain⟨e1,e2⟩:=hs;refine tS ⟨rfl,h0,?_⟩;dsimp only;rw[e1,e2]
 .obtain⟨e1,e2,_,e4⟩:=hs;exact tS ⟨e1,e2,e4⟩
theorem ava {n:Nat}(hn:800<n){l:List Int}(hl:l.length<512):∃r:(Int×Int)×List Int,Zg n () l=some r/\r.1.1=0/\0<=r.1.2/\r.1.2<=r.2.length/\r.2.take r.1.2.toNat=comp (fun a b=>a==b) l:=by
 have h:=auv (n:=n) (0:Int) (z:=(0:Int)) (e:=fun a b:Int=>a==b) (Ok:=fun _:Int=>True) (sm:=fun p:Int×Int=>some (p.1==p.2)) (fun a b _ _=>rfl) (C9:=acL n) (C4:=ad9 n) (cpt:=fun _ l=>Zg n () l)
  (by intros;refine Eq.trans (at1 ..) ?_;rfl) (by intros;refine Eq.trans (at5 ..) ?_;rfl) (by intros;refine Eq.trans (at6 ..) ?_;rfl) (l:=l) (by omega) (fun _ _=>trivial) (by omega)
 exact h
theorem avb {e:Int->Int->Bool}:∀l:List Int,(comp e l).length<=l.length:=by
 have g:∀(l:List Int)(p:Int),(Tv e p l).length<=l.length:=by
  intro l;induction l with
  |nil=>intro p;exact mF _|cons y l ih=>
   intro p;show (bif e y p then Tv e y l else y::Tv e y l).length<=_;have:=ih y;cases e y p
   .rw[cond_false,List.length_cons,List.length_cons];omega
   .rw[cond_true,List.length_cons];omega
 intro l;cases l with
 |nil=>exact mF _|cons y l=>show (y::Tv e y l).length<=_;rw[List.length_cons,List.length_cons];have:=g l y;omega
theorem afT (d:Def):∀l:List Pred,(TI d l).length<=2*l.length
 | []=>by unfold TI;simp|x::l=>by
  have ih:=afT d l;rw[List.length_cons];cases hx:TN d.Name x with
  |false=>unfold TI at*;rw[aej hx];omega|true=>
   unfold TI at*;rw[aei hx,P6,PU];have:(Y7 d x).length<=2:=by unfold Y7;rw[PU];cases (bif decide (x.N>d.Lo) then decide (x.N<=d.Hi) else false)<;>cases (bif decide (x.M>=d.Lo) then decide (x.M<d.Hi) else false)<;>simp
   omega
theorem avc {n:Nat}(hn:800<n){d:Def}{p:Pred}(hlo: -(2^40)<=d.Lo)(hhi:d.Hi<=2^40)(h:RP p<=240):
 ∃S:List Int,(d.Lo::S).Pairwise (· < ·)/\(∀x,x∈S↔x∈TI d (pre p))/\Zu n (d,p)=some (d.Lo::RS (Sv d.Name (pre p)) S):=by
 have hcl:=afT d (pre p);rw[Wz] at hcl;have hR:=aoe (n:=n) (d:=d) (p:=p) hlo hhi (pre p) [d.Lo] (by rw[Wz];simp;omega);have hlen:([d.Lo]++TI d (pre p)).length<512:=by rw[PU,List.length_singleton];omega
 obtain⟨r1,s1,s2,s3⟩:=au2 hn hlen;have hl1:r1.2.length<512:=by rw[s2.length_eq];exact hlen
 obtain⟨r2,c1,c2,c3,c4,c5⟩:=ava hn hl1;obtain⟨a1,a2⟩:=auB s3;have hmem:∀x,x∈comp (fun a b=>a==b) r1.2↔x=d.Lo\/x∈TI d (pre p):=fun x=>by rw[a2,s2.mem_iff];simp
 have hhd:∃S,comp (fun a b=>a==b) r1.2=d.Lo::S:=by
  cases hc:comp (fun a b=>a==b) r1.2 with
  |nil=>have:=(hmem d.Lo).2 (.inl rfl);rw[hc] at this;cases this|cons y S=>
   have hy:=(hmem y).1 (by rw[hc];exact PI ..);rcases hy with rfl|hy
   .exact⟨S,rfl⟩
   .have:=(hmem d.Lo).2 (.inl rfl);rw[hc] at this a1;rcases PG.1 this with e|hm
    .exact⟨S,by rw[<-e]⟩
    .have h1:=(List.pairwise_cons.1 a1).1 _ hm;have h2:=(acP hy).1;omega
 obtain⟨S,hS⟩:=hhd;rw[hS] at a1 hmem;have hSm:∀x,x∈S↔x∈TI d (pre p):=fun x=>by
  constructor
  .intro hx;rcases (hmem x).1 (PK _ hx) with rfl|h
   .have:=(List.pairwise_cons.1 a1).1 _ hx;omega
   .exact h
  .intro hx;rcases PG.1 ((hmem x).2 (.inr hx)) with rfl|h
   .have:=(acP hx).1;omega
   .exact h
 refine⟨S,a1,hSm,?_⟩;have hb:r2.1.2.toNat<512:=by
  have h1:(r2.2.take r2.1.2.toNat).length=r2.1.2.toNat:=by rw[Qb];omega
  rw[c5] at h1;have:=avb (e:=fun a b=>a==b) r1.2;omega
 obtain⟨r3,m1,m2,m3,m4⟩:=au9 (n:=n) (d:=d) (p:=p) (by omega) (by omega) (l:=r2.2) (b:=r2.1.2) c3 c4 (by omega) (by omega);rw[aul];refine bs (acK n _) ?_;show ((VL p.re.re).bind _).bind _=_;rw[Pred.TG,Pred.TG,acQ (by omega),Option.bind_some];refine bs hR ?_;refine bs s1 ?_;refine bs c1 ?_;have e0:(r2.1.1,r2.1.2)=((0:Int),r2.1.2):=by rw[c2]
 refine bs (show ZO n (d,(p,(r2.1.1,r2.1.2))) r2.2=some r3 from ?_) ?_
 .rw[e0];exact m1
 .have e1:Yu r3.2 r3.1.1 r3.1.2=r3.2.take r3.1.2.toNat:=by unfold Yu;rw[m2];rfl
  rw[e1,m4,c5,hS];rw[auw (hi:=d.Hi) a1 (fun x hx=>(acP ((hSm x).1 hx)).2) fun v h1 h2 h3=>(hSm v).2 (anX h1 h2 h3)]
end Sh
end
section
open Go Go.Proofs Aq Pq
namespace Sh
def Y9 (p:Int):List Int->List Int
 | []=>[p]|y::l=>if p<y then p::y::l else if p=y then y::l else y::Y9 p l
def XR:List Int->List Int
 | []=>[]|x::l=>Y9 x (XR l)
theorem akE (p x:Int):∀l:List Int,x∈Y9 p l↔x=p\/x∈l
 | []=>by simp[Y9]|y::l=>by
  unfold Y9;by_cases h1:p<y
  .rw[if_pos h1,PG]
  .rw[if_neg h1];by_cases h2:p=y
   .rw[if_pos h2,h2];simp
   .rw[if_neg h2,PG,akE p x l,PG];constructor
    .rintro (h|h|h)
     .exact .inr (.inl h)
     .exact .inl h
     .exact .inr (.inr h)
    .rintro (h|h|h)
     .exact .inr (.inl h)
     .exact .inl h
     .exact .inr (.inr h)
theorem aof (p:Int):∀l:List Int,l.Pairwise (· < ·)->(Y9 p l).Pairwise (· < ·)
 | [],_=>by simp[Y9]|y::l,h=>by
  have h':=List.pairwise_cons.1 h;unfold Y9;by_cases h1:p<y
  .rw[if_pos h1];refine List.pairwise_cons.2 ⟨fun x hx=>?_,h⟩;rcases PG.1 hx with rfl|hx
   .exact h1
   .have:=h'.1 x hx;omega
  .rw[if_neg h1];by_cases h2:p=y
   .rw[if_pos h2];exact h
   .rw[if_neg h2];refine List.pairwise_cons.2 ⟨fun x hx=>?_,aof p l h'.2⟩;rcases (akE p x l).1 hx with rfl|hx
    .omega
    .exact h'.1 x hx
theorem acU (x:Int):∀l:List Int,x∈XR l↔x∈l
 | []=>Iff.rfl|y::l=>by unfold XR;rw[akE,acU x l,PG]
theorem akF:∀l:List Int,(XR l).Pairwise (· < ·)
 | []=>.nil|y::l=>aof y _ (akF l)
theorem aog:∀{l m:List Int},l.Pairwise (· < ·)->m.Pairwise (· < ·)->(∀x,x∈l↔x∈m)->l=m
 | [],[],_,_,_=>rfl| [],y::m,_,_,h=>by have:=(h y).2 (PI ..);cases this|x::l,[],_,_,h=>by have:=(h x).1 (PI ..);cases this|x::l,y::m,hl,hm,h=>by
  have hl':=List.pairwise_cons.1 hl;have hm':=List.pairwise_cons.1 hm;have e:x=y:=by
   rcases PG.1 ((h x).1 (PI ..)) with e|h1
   .exact e
   .rcases PG.1 ((h y).2 (PI ..)) with e|h2
    .exact e.symm
    .have:=hl'.1 _ h2;have:=hm'.1 _ h1;omega
  subst e;congr 1;refine aog hl'.2 hm'.2 fun z=>?_;constructor
  .intro hz;rcases PG.1 ((h z).1 (PK _ hz)) with rfl|h1
   .have:=hl'.1 _ hz;omega
   .exact h1
  .intro hz;rcases PG.1 ((h z).2 (PK _ hz)) with rfl|h1
   .have:=hm'.1 _ hz;omega
   .exact h1
def Yl (d:Def)(l:List Pred):List Int:=d.Lo::RS (Sv d.Name l) (XR (TI d l))
theorem avd {d:Def}{l:List Pred}:(d.Lo::XR (TI d l)).Pairwise (· < ·):=List.pairwise_cons.2 ⟨fun x hx=>(acP ((acU x _).1 hx)).1,akF _⟩
theorem ave {n:Nat}(hn:800<n){d:Def}{p:Pred}(hlo: -(2^40)<=d.Lo)(hhi:d.Hi<=2^40)(h:RP p<=240):Zu n (d,p)=some (Yl d (pre p)):=by
 obtain⟨S,h1,h2,h3⟩:=avc hn hlo hhi h;rw[h3];have e:S=XR (TI d (pre p)):=aog (List.pairwise_cons.1 h1).2 (akF _) fun x=>by rw[h2,acU]
 rw[e];rfl
def aek (d:Def)(last nx:Int)(x:Pred):Int:=bif TN d.Name x then (if last<=x.M/\x.M<d.Hi/\x.M+1< (if last<x.N/\x.N<nx then x.N else nx) then x.M+1 else (if last<x.N/\x.N<nx then x.N else nx))else nx
theorem akG {U:Type}{o:Option U}{d:U}:Uh true o d=o:=rfl
theorem akH {U:Type}{o:Option U}{d:U}:Uh false o d=some d:=rfl
theorem avf {n m i:Nat}{d:Def}{l:List Pred}{last nx:Int}{out:List Ry}{x:Pred}(hlo: -(2^40)<=last)(hhi:d.Hi<=2^40)(hb:l.length<2^62)(hx:l[i]? =some x):
 UY n d l last (m+1) (out,(nx,(i:Int)))=UY n d l last m (out,(aek d last nx x,((i+1:Nat):Int))):=by
 have hlt:=Vt hx;have hi:=Tg hx;rw[ano,Ub hx,cond_true];refine bs hi ?_;unfold aek TN;rw[TY (by omega)];cases h6:x.Op==(6:Int) with
 |false=>rfl|true=>
  rw[cond_true,cond_true];refine bs hi ?_;cases hn:x.Name==d.Name with
  |false=>rfl|true=>
   rw[cond_true,cond_true];refine bs hi ?_;have tail:∀(y:Int),(bif decide (x.M>=last) then ((Fb l (i:Int)).bind fun r=>bif decide (r.M<d.Hi) then ((Fb l (i:Int)).bind fun r=>bif decide (wrap .i64 (r.M+(1:Int))<y) then ((Fb l (i:Int)).bind fun r=>UY n d l last m (out,(wrap .i64 (r.M+(1:Int)),((i+1:Nat):Int)))) else UY n d l last m (out,(y,((i+1:Nat):Int)))) else UY n d l last m (out,(y,((i+1:Nat):Int)))) else UY n d l last m (out,(y,((i+1:Nat):Int))))=
    UY n d l last m (out,((if last<=x.M/\x.M<d.Hi/\x.M+1<y then x.M+1 else y),((i+1:Nat):Int))):=by
    intro y;by_cases h1:last<=x.M
    .rw[decide_eq_true (p:=x.M>=last) h1,cond_true];refine bs hi ?_;by_cases h2:x.M<d.Hi
     .rw[decide_eq_true h2,cond_true];refine bs hi ?_;have hw:wrap .i64 (x.M+(1:Int))=x.M+1:=(by rw[IntKind.wrap_i64];omega);rw[hw];by_cases h3:x.M+1<y
      .rw[decide_eq_true h3,cond_true,if_pos ⟨h1,h2,h3⟩];refine bs hi ?_;rw[hw]
      .rw[decide_eq_false h3,cond_false,if_neg (fun k=>h3 k.2.2)]
     .rw[decide_eq_false h2,cond_false,if_neg (fun k=>h2 k.2.1)]
    .rw[decide_eq_false (p:=x.M>=last) h1,cond_false,if_neg (fun k=>h1 k.1)]
   by_cases h1:last<x.N
   .rw[decide_eq_true (p:=x.N>last) h1,akG];refine bs hi ?_;rw[cond_true];by_cases h2:x.N<nx
    .rw[decide_eq_true h2,cond_true,show (if last<x.N/\x.N<nx then x.N else nx)=x.N from if_pos ⟨h1,h2⟩];refine bs hi (bs hi ?_);exact tail x.N
    .rw[decide_eq_false h2,cond_false,show (if last<x.N/\x.N<nx then x.N else nx)=nx from if_neg (fun k=>h2 k.2)];refine bs hi ?_;exact tail nx
   .rw[decide_eq_false (p:=x.N>last) h1,akH,Option.bind_some,cond_false,cond_false,show (if last<x.N/\x.N<nx then x.N else nx)=nx from if_neg (fun k=>h1 k.1)];refine bs hi ?_;exact tail nx
theorem avg {d:Def}{last nx:Int}{x:Pred}{cs:List Int}(hl:d.Lo<=last)(hx:nx<=d.Hi+1):VB last ((bif TN d.Name x then Y7 d x else [])++cs) nx=VB last cs (aek d last nx x)/\aek d last nx x<=d.Hi+1:=by
 unfold aek;cases hi:TN d.Name x with
 |false=>exact⟨rfl,hx⟩|true=>
  rw[cond_true,cond_true];have e1:∀(c:Int)(cs:List Int)(m:Int),VB last (c::cs) m=VB last cs (if last<c/\c<m then c else m):=fun c cs m=>by show VB last cs _=_;congr 1;by_cases h1:c>last<;>by_cases h2:c<m<;>simp[h1,h2]<;>first|done| (intro _;omega)|omega
  unfold Y7;have a1:(bif decide (x.N>d.Lo) then decide (x.N<=d.Hi) else false)=decide (d.Lo<x.N/\x.N<=d.Hi):=by by_cases h1:x.N>d.Lo<;>by_cases h2:x.N<=d.Hi<;>simp[h1,h2]<;>first|done| (intro _;omega)|omega
  have a2:(bif decide (x.M>=d.Lo) then decide (x.M<d.Hi) else false)=decide (d.Lo<=x.M/\x.M<d.Hi):=by by_cases h1:x.M>=d.Lo<;>by_cases h2:x.M<d.Hi<;>simp[h1,h2]<;>first|done| (intro _;omega)|omega
  rw[a1,a2];have f1:∀cs,VB last ((bif decide (d.Lo<x.N/\x.N<=d.Hi) then [x.N] else [])++cs) nx=VB last cs (if last<x.N/\x.N<nx then x.N else nx):=fun cs=>by
   by_cases h:d.Lo<x.N/\x.N<=d.Hi
   .rw[decide_eq_true h,cond_true];exact e1 ..
   .rw[decide_eq_false h,cond_false,if_neg (by omega)];rfl
  have hle:(if last<x.N/\x.N<nx then x.N else nx)<=d.Hi+1:=by split<;>omega
  rw[Qe,f1];generalize (if last<x.N/\x.N<nx then x.N else nx)=y at*;by_cases h:d.Lo<=x.M/\x.M<d.Hi
  .rw[decide_eq_true h,cond_true];refine⟨(e1 ..).trans ?_,by split<;>omega⟩;congr 1;by_cases h2:last<x.M+1/\x.M+1<y
   .rw[if_pos h2,if_pos (by omega)]
   .rw[if_neg h2,if_neg (by omega)]
  .rw[decide_eq_false h,cond_false,if_neg (by omega)];exact⟨rfl,hle⟩
theorem avh (d:Def)(x:Pred)(l:List Pred):TI d (x::l)=(bif TN d.Name x then Y7 d x else [])++TI d l:=by
 unfold TI;cases hx:TN d.Name x with
 |true=>rw[aei hx,P6];rfl|false=>rw[aej hx];rfl
theorem aoh {n:Nat}{d:Def}{l:List Pred}{last:Int}{out:List Ry}(hl:d.Lo<=last)(hlo: -(2^40)<=d.Lo)(hhi:d.Hi<=2^40)(hb:l.length<2^62):∀(k i m:Nat)(nx:Int),i+k=l.length->k<m->nx<=d.Hi+1->UY n d l last m (out,(nx,(i:Int)))=some (out,VB last (TI d (l.drop i)) nx):=by
 intro k;induction k with
 |zero=>
  intro i m nx hi hm _;obtain⟨m,rfl⟩:∃m',m=m'+1:=⟨m-1,by omega⟩;obtain rfl:i=l.length:=by omega
  rw[ano,UK,cond_false,List.drop_length];rfl
 |succ k ih=>
  intro i m nx hi hm hnx;obtain⟨m,rfl⟩:∃m',m=m'+1:=⟨m-1,by omega⟩;have hlt:i<l.length:=by omega
  have hx:l[i]? =some l[i]:=PX hlt;obtain⟨s1,s2⟩:=avg (d:=d) (last:=last) (nx:=nx) (x:=l[i]) (cs:=TI d (l.drop (i+1))) hl hnx;rw[avf (by omega) hhi hb hx,ih (i+1) m _ (by omega) (by omega) s2,Qd hlt,avh,s1]
theorem avi {n:Nat}{l:List Pred}{nm:List UInt8}{a b:Int}(hb:l.length<2^62):∀(k i m:Nat),i+k=l.length->k<m->acG n l nm a b m (i:Int)=some (if Sv nm (l.drop i) a=Sv nm (l.drop i) b then .inl () else .inr false):=by
 intro k;induction k with
 |zero=>
  intro i m hi hm;obtain⟨m,rfl⟩:∃m',m=m'+1:=⟨m-1,by omega⟩;obtain rfl:i=l.length:=by omega
  rw[ank,UK,cond_false,List.drop_length];rfl
 |succ k ih=>
  intro i m hi hm;obtain⟨m,rfl⟩:∃m',m=m'+1:=⟨m-1,by omega⟩;have hlt:i<l.length:=by omega
  have hx:l[i]? =some l[i]:=PX hlt;have he:=Tg hx;have ih':=ih (i+1) m (by omega) (by omega);rw[Qd hlt,ank,Ub hx,cond_true,TY (by omega)];generalize l[i]=x at*;refine bs he ?_;have hneg:TN nm x=false->(if Sv nm (l.drop (i+1)) a=Sv nm (l.drop (i+1)) b then (Sum.inl ():PUnit⊕Bool) else .inr false)=if Sv nm (x::l.drop (i+1)) a=Sv nm (x::l.drop (i+1)) b then .inl () else .inr false:=fun h=>by unfold Sv;rw[aej h]
  cases h6:x.Op==(6:Int) with
  |false=>rw[akH,Option.bind_some,cond_false,cond_false,ih',hneg (by unfold TN;rw[h6];rfl)]|true=>
   rw[akG];refine bs he ?_;rw[cond_true];cases hn:x.Name==nm with
   |false=>rw[cond_false,ih',hneg (by unfold TN;rw[h6,hn];rfl)]|true=>
    rw[cond_true];have hI:TN nm x=true:=(by unfold TN;rw[h6,hn];rfl);refine bs he ?_;have w1:∀v:Int,∃r:Pred,Uh (decide (v>=x.N)) (Fb l (i:Int)) (⟨(0:Int),[],(0:Int),(0:Int),[],[]⟩:Pred)=some r/\(bif decide (v>=x.N) then decide (v<=r.M) else false)=U6 x v:=fun v=>by
     cases h:decide (v>=x.N) with
     |true=>exact⟨x,he,by unfold U6;rw[h]⟩|false=>exact⟨_,rfl,by unfold U6;rw[h];rfl⟩
    obtain⟨r1,g1,g2⟩:=w1 a;obtain⟨r2,g3,g4⟩:=w1 b;refine bs g1 (bs he (bs g3 ?_));rw[g2,g4];have et:∀v,Sv nm (x::l.drop (i+1)) v=U6 x v::Sv nm (l.drop (i+1)) v:=fun v=>by unfold Sv;rw[aei hI];rfl
    rw[et,et];by_cases e:U6 x a=U6 x b
    .rw[e];simp only[beq_self_eq_true,Bool.not_true,cond_false,Qa,true_and];exact ih'
    .have:(U6 x a==U6 x b)=false:=(by simpa using e);rw[this];simp only[Bool.not_false,cond_true,e,Qa,false_and,if_false]
theorem avj {n:Nat}{l:List Pred}{nm:List UInt8}{a b:Int}(hb:l.length<2^62)(hn:l.length<n):ZH n (l,(nm,(a,b)))=some (Sv nm l a==Sv nm l b):=by
 rw[atB];refine bs (avi hb l.length 0 n (by omega) hn) ?_;rw[Qz];by_cases h:Sv nm l a=Sv nm l b
 .rw[if_pos h,h];simp
 .rw[if_neg h];have:(Sv nm l a==Sv nm l b)=false:=by simpa using h
  rw[this];rfl
end Sh
end
