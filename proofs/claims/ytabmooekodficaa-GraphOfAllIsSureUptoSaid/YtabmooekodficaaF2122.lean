import Derived.Test.YtabmooekodficaaF2121
set_option linter.all false
section
open Go Aq
namespace Pq
variable {α:Type}
theorem scanU {L:Nat->Int->Option Int} {T:Int->Prop} {i j:Int} (hs:∀m x (Q:Int->Prop),i<=x->x<=j->(T x->∃r,L m (x+1)=some r/\Q r)->(¬T x->Q x)->∃r,L (m+1) x=some r/\Q r) (he:∀m x,j<x->L (m+1) x=some x)
 (hij:i<=j+1) {m:Nat} (hm:(j+1-i).toNat<m):∃r,L m i=some r/\i<=r/\r<=j+1/\(∀k,i<=k->k<r->T k)/\(r<=j->¬T r):=by
 refine mu (τ:=Int) (L:=L) (fun x=>i<=x/\x<=j+1/\∀k,i<=k->k<x->T k) (fun x=>(j+1-x).toNat) _ ?_ m i ⟨QC _,hij,fun k k1 k2=>by omega⟩ hm
 rintro m x ⟨i1,i2,i3⟩ rec_
 by_cases hx:x<=j
 ·exact hs m x _ i1 hx (fun ht=>rec_ (x+1) ⟨by omega,by omega,fun k k1 k2=>by
   by_cases e:k=x
   ·rw[e];exact ht
   ·exact i3 k k1 (by omega)⟩ (by omega)) fun ht=>⟨i1,by omega,i3,fun _=>ht⟩
 ·exact⟨x,he m x (by omega),i1,i2,i3,fun h=>absurd h hx⟩
theorem scanD {L:Nat->Int->Option Int} {T:Int->Prop} {i j:Int} (hs:∀m x (Q:Int->Prop),i<=x->x<=j->(T x->∃r,L m (x-1)=some r/\Q r)->(¬T x->Q x)->∃r,L (m+1) x=some r/\Q r) (he:∀m x,x<i->L (m+1) x=some x)
 (hij:i<=j+1) {m:Nat} (hm:(j+1-i).toNat<m):∃r,L m j=some r/\r<=j/\i-1<=r/\(∀k,r<k->k<=j->T k)/\(i<=r->¬T r):=by
 refine mu (τ:=Int) (L:=L) (fun x=>x<=j/\i-1<=x/\∀k,x<k->k<=j->T k) (fun x=>(x+1-i).toNat) _ ?_ m j ⟨QC _,by omega,fun k k1 k2=>by omega⟩ (by omega)
 rintro m x ⟨i1,i2,i3⟩ rec_
 by_cases hx:i<=x
 ·exact hs m x _ hx i1 (fun ht=>rec_ (x-1) ⟨by omega,by omega,fun k k1 k2=>by
   by_cases e:k=x
   ·rw[e];exact ht
   ·exact i3 k (by omega) k2⟩ (by omega)) fun ht=>⟨i1,i2,i3,fun _=>ht⟩
 ·exact⟨x,he m x (by omega),i1,i2,i3,fun h=>absurd h hx⟩
structure Parts (lt:α->α->Prop) (d:α) (a b mid:Int) (l l':List α):Prop where
 lo:a<=mid
 hi:mid<b
 rp:Rp d a b l l'
 left:∀k,a<=k->k<mid->¬lt (gI d l' mid) (gI d l' k)
 right:∀k,mid<k->k<b->¬lt (gI d l' k) (gI d l' mid)
section
variable {n:Nat} {d:α} {Ok:α->Prop} {lt:α->α->Prop} {K:{β:Type}->α->α->(Bool->Option β)->Option β} (hc:CmpO Ok lt K) (ho:Ord lt)
 {P3:Int->Int->Int->(List α)->α->α->Nat->Int->Option (Int)} {P5:Int->Int->(List α)->α->α->Int->Nat->Int->Option (Int)} {P13:Int->Int->(List α)->Nat->Int->Option (Int)} {P15:Int->(List α)->Int->Nat->Int->Option (Int)} {PM:Int->Nat->((Int×Int)×List α)->Option (Int×List α)}
 {prt:Unit×Int×Int×Int×(Unit×Unit)->List α->Option ((Int×Bool)×List α)}
 (h3:∀(x1:Int) (x2:Int) (x3:Int) (x4:List α) (r5:α) (r6:α) (m:Nat) (x9:Int),P3 x1 x2 x3 x4 r5 r6 (m+1) x9=
   bif decide (x9<=(IntKind.wrap .i64 (x2-(1:Int)))) then
    bif decide (0<=x9/\x9< (((setL (setL x4 x1 r5) x3 r6).length:Nat):Int)) then
     (idxL (setL (setL x4 x1 r5) x3 r6) x9).bind fun (r10:α)=>
     bif decide (0<=x1/\x1< (((setL (setL x4 x1 r5) x3 r6).length:Nat):Int)) then
      (idxL (setL (setL x4 x1 r5) x3 r6) x1).bind fun (r11:α)=>
      K r10 r11 fun (r12:Bool)=>
      bif r12 then
       P3 x1 x2 x3 x4 r5 r6 m (IntKind.wrap .i64 (x9+(1:Int)))
      else
       some x9
     else
      none
    else
     none
   else
    some x9)
 (h5:∀(x1:Int) (x3:Int) (x4:List α) (r5:α) (r6:α) (r13:Int) (m:Nat) (x14:Int),P5 x1 x3 x4 r5 r6 r13 (m+1) x14=
   bif decide (r13<=x14) then
    bif decide (0<=x14/\x14< (((setL (setL x4 x1 r5) x3 r6).length:Nat):Int)) then
     (idxL (setL (setL x4 x1 r5) x3 r6) x14).bind fun (r15:α)=>
     bif decide (0<=x1/\x1< (((setL (setL x4 x1 r5) x3 r6).length:Nat):Int)) then
      (idxL (setL (setL x4 x1 r5) x3 r6) x1).bind fun (r16:α)=>
      K r15 r16 fun (r17:Bool)=>
      bif !(r17) then
       P5 x1 x3 x4 r5 r6 r13 m (IntKind.wrap .i64 (x14-(1:Int)))
      else
       some x14
     else
      none
    else
     none
   else
    some x14)
 (h13:∀(x1:Int) (x28:Int) (x29:List α) (m:Nat) (x30:Int),P13 x1 x28 x29 (m+1) x30=
   bif decide (x30<=x28) then
    bif decide (0<=x30/\x30< ((x29.length:Nat):Int)) then
     (idxL x29 x30).bind fun (r31:α)=>
     bif decide (0<=x1/\x1< ((x29.length:Nat):Int)) then
      (idxL x29 x1).bind fun (r32:α)=>
      K r31 r32 fun (r33:Bool)=>
      bif r33 then
       P13 x1 x28 x29 m (IntKind.wrap .i64 (x30+(1:Int)))
      else
       some x30
     else
      none
    else
     none
   else
    some x30)
 (h15:∀(x1:Int) (x29:List α) (r34:Int) (m:Nat) (x35:Int),P15 x1 x29 r34 (m+1) x35=
   bif decide (r34<=x35) then
    bif decide (0<=x35/\x35< ((x29.length:Nat):Int)) then
     (idxL x29 x35).bind fun (r36:α)=>
     bif decide (0<=x1/\x1< ((x29.length:Nat):Int)) then
      (idxL x29 x1).bind fun (r37:α)=>
      K r36 r37 fun (r38:Bool)=>
      bif !(r38) then
       P15 x1 x29 r34 m (IntKind.wrap .i64 (x35-(1:Int)))
      else
       some x35
     else
      none
    else
     none
   else
    some x35)
 (hM:∀(x1:Int) (m:Nat) (x27:Int) (x28:Int) (x29:List α),PM x1 (m+1) ((x27,x28),x29)=
   (P13 x1 x28 x29 n x27).bind fun (r34:Int)=>
   (P15 x1 x29 r34 n x28).bind fun (r39:Int)=>
   bif decide (r34>r39) then
    some ((r39,x29))
   else
    bif decide (0<=r39/\r39< ((x29.length:Nat):Int)) then
     (idxL x29 r39).bind fun (r40:α)=>
     bif decide (0<=r34/\r34< ((x29.length:Nat):Int)) then
      (idxL x29 r34).bind fun (r41:α)=>
      bif decide (0<=r34/\r34< ((x29.length:Nat):Int)) then
       (idxL x29 r34).bind fun (r42:α)=>
       bif decide (0<=r39/\r39< (((setL x29 r34 r40).length:Nat):Int)) then
        (idxL (setL x29 r34 r40) r39).bind fun (r43:α)=>
        PM x1 m (((IntKind.wrap .i64 (r34+(1:Int)),IntKind.wrap .i64 (r39-(1:Int))),setL (setL x29 r34 r40) r39 r41))
       else
        none
      else
       none
     else
      none
    else
     none)
 (hP:∀(x1:Int) (x2:Int) (x3:Int) (x4:List α),prt (((),(x1,(x2,(x3,((),())))))) (x4)=
   bif decide (0<=x3/\x3< ((x4.length:Nat):Int)) then
    (idxL x4 x3).bind fun (r5:α)=>
    bif decide (0<=x1/\x1< ((x4.length:Nat):Int)) then
     (idxL x4 x1).bind fun (r6:α)=>
     bif decide (0<=x1/\x1< ((x4.length:Nat):Int)) then
      (idxL x4 x1).bind fun (r7:α)=>
      bif decide (0<=x3/\x3< (((setL x4 x1 r5).length:Nat):Int)) then
       (idxL (setL x4 x1 r5) x3).bind fun (r8:α)=>
       (P3 x1 x2 x3 x4 r5 r6 n (IntKind.wrap .i64 (x1+(1:Int)))).bind fun (r13:Int)=>
       (P5 x1 x3 x4 r5 r6 r13 n (IntKind.wrap .i64 (x2-(1:Int)))).bind fun (r18:Int)=>
       bif decide (r13>r18) then
        bif decide (0<=x1/\x1< (((setL (setL x4 x1 r5) x3 r6).length:Nat):Int)) then
         (idxL (setL (setL x4 x1 r5) x3 r6) x1).bind fun (r19:α)=>
         bif decide (0<=r18/\r18< (((setL (setL x4 x1 r5) x3 r6).length:Nat):Int)) then
          (idxL (setL (setL x4 x1 r5) x3 r6) r18).bind fun (r20:α)=>
          bif decide (0<=r18/\r18< (((setL (setL x4 x1 r5) x3 r6).length:Nat):Int)) then
           (idxL (setL (setL x4 x1 r5) x3 r6) r18).bind fun (r21:α)=>
           bif decide (0<=x1/\x1< (((setL (setL (setL x4 x1 r5) x3 r6) r18 r19).length:Nat):Int)) then
            (idxL (setL (setL (setL x4 x1 r5) x3 r6) r18 r19) x1).bind fun (r22:α)=>
            some (((r18,true),setL (setL (setL (setL x4 x1 r5) x3 r6) r18 r19) x1 r20))
           else
            none
          else
           none
         else
          none
        else
         none
       else
        bif decide (0<=r18/\r18< (((setL (setL x4 x1 r5) x3 r6).length:Nat):Int)) then
         (idxL (setL (setL x4 x1 r5) x3 r6) r18).bind fun (r23:α)=>
         bif decide (0<=r13/\r13< (((setL (setL x4 x1 r5) x3 r6).length:Nat):Int)) then
          (idxL (setL (setL x4 x1 r5) x3 r6) r13).bind fun (r24:α)=>
          bif decide (0<=r13/\r13< (((setL (setL x4 x1 r5) x3 r6).length:Nat):Int)) then
           (idxL (setL (setL x4 x1 r5) x3 r6) r13).bind fun (r25:α)=>
           bif decide (0<=r18/\r18< (((setL (setL (setL x4 x1 r5) x3 r6) r13 r23).length:Nat):Int)) then
            (idxL (setL (setL (setL x4 x1 r5) x3 r6) r13 r23) r18).bind fun (r26:α)=>
            (PM x1 n (((IntKind.wrap .i64 (r13+(1:Int)),IntKind.wrap .i64 (r18-(1:Int))),setL (setL (setL (setL x4 x1 r5) x3 r6) r13 r23) r18 r24))).bind fun (r44:Int×List α)=>
            bif decide (0<=x1/\x1< ((r44.2.length:Nat):Int)) then
             (idxL r44.2 x1).bind fun (r45:α)=>
             bif decide (0<=r44.1/\r44.1< ((r44.2.length:Nat):Int)) then
              (idxL r44.2 r44.1).bind fun (r46:α)=>
              bif decide (0<=r44.1/\r44.1< ((r44.2.length:Nat):Int)) then
               (idxL r44.2 r44.1).bind fun (r47:α)=>
               bif decide (0<=x1/\x1< (((setL r44.2 r44.1 r45).length:Nat):Int)) then
                (idxL (setL r44.2 r44.1 r45) x1).bind fun (r48:α)=>
                some (((r44.1,false),setL (setL r44.2 r44.1 r45) x1 r46))
               else
                none
              else
               none
             else
              none
            else
             none
           else
            none
          else
           none
         else
          none
        else
         none
      else
       none
     else
      none
    else
     none
   else
    none)
include hc ho h13 h15 hM
theorem prtM {a b:Int} {l:List α} {i j:Int} {m:Nat} (h0:0<=a) (hbl:b<=l.length) (hb:l.length<2^57) (hal:Al Ok l) (hn:(b-a).toNat<n) (h1:a<i) (h2:j<b) (hij:i<=j+1)
 (hl:∀k,a<k->k<i->lt (gI d l k) (gI d l a)) (hr:∀k,j<k->k<b->¬lt (gI d l k) (gI d l a)) (hm:(j+1-i).toNat<m):
 ∃r,PM a m ((i,j),l)=some r/\a<=r.1/\r.1<b/\Rp d a b l r.2/\gI d r.2 a=gI d l a/\(∀k,a<k->k<=r.1->lt (gI d r.2 k) (gI d r.2 a))/\(∀k,r.1<k->k<b->¬lt (gI d r.2 k) (gI d r.2 a)):=by
 refine mu (τ:=(Int×Int)×List α) (L:=PM a) (fun p=>a<p.1.1/\p.1.2<b/\p.1.1<=p.1.2+1/\Rp d a b l p.2/\gI d p.2 a=gI d l a/\(∀k,a<k->k<p.1.1->lt (gI d p.2 k) (gI d p.2 a))/\(∀k,p.1.2<k->k<b->¬lt (gI d p.2 k) (gI d p.2 a))) (fun p=>(p.1.2+1-p.1.1).toNat) _ ?_ m ((i,j),l)
  ⟨h1,h2,hij,.refl _ _ _ _,rfl,hl,hr⟩ hm
 rintro m ⟨⟨i,j⟩,D⟩ ⟨i1,i2,i3,i4,i5,i6,i7⟩ rec_
 dsimp only at i1 i2 i3 i4 i5 i6 i7 rec_⊢
 have hl:=i4.len
 have hal':=i4.al hal
 rw[hM]
 refine tB (scanU (L:=P13 a j D) (T:=fun x=>lt (gI d D x) (gI d D a)) (i:=i) (j:=j) (fun m x Q k1 k2 ht hf=>?_) (fun m x k1=>?_) i3 (by omega)) fun i'=>?_
 ·rw[h13]
  refine tD (fun _=>tI (by omega) (by omega) (tE (idx_gI d (by omega) (by omega)) (tI (by omega) (by omega) (tE (idx_gI d (by omega) (by omega)) (tM hc (hal'.at d (by omega) (by omega)) (hal'.at d (by omega) (by omega)) fun r hr=>tD (fun h=>?_) (fun h=>tS (hf fun k=>h (hr.2 k)))))))) (fun h=>by omega)
  rw[wr (by omega) (by omega)]
  exact ht (hr.1 h)
 ·rw[h13,decide_eq_false (by omega)];rfl
 rintro⟨u1,u2,u3,u4⟩
 refine tB (scanD (L:=P15 a D i') (T:=fun x=>¬lt (gI d D x) (gI d D a)) (i:=i') (j:=j) (fun m x Q k1 k2 ht hf=>?_) (fun m x k1=>?_) u2 (by omega)) fun j'=>?_
 ·rw[h15]
  refine tD (fun _=>tI (by omega) (by omega) (tE (idx_gI d (by omega) (by omega)) (tI (by omega) (by omega) (tE (idx_gI d (by omega) (by omega)) (tM hc (hal'.at d (by omega) (by omega)) (hal'.at d (by omega) (by omega)) fun r hr=>tN (fun h=>?_) (fun h=>tS (hf fun k=>k (hr.1 h)))))))) (fun h=>by omega)
  rw[wr (by omega) (by omega)]
  exact ht fun k=>h (hr.2 k)
 ·rw[h15,decide_eq_false (by omega)];rfl
 rintro⟨v1,v2,v3,v4⟩
 have left:∀k,a<k->k<i'->lt (gI d D k) (gI d D a):=fun k k1 k2=>by
  by_cases e:k<i
  ·exact i6 k k1 e
  ·exact u3 k (by omega) k2
 have right:∀k,j'<k->k<b->¬lt (gI d D k) (gI d D a):=fun k k1 k2=>by
  by_cases e:j<k
  ·exact i7 k e k2
  ·exact v3 k k1 (by omega)
 refine tD (fun hgt=>tS ⟨by omega,by omega,i4,i5,fun k k1 k2=>left k k1 (by omega),right⟩) (fun hgt=>?_)
 have t1:=u4 (by omega)
 have t2:lt (gI d D j') (gI d D a):=Classical.byContradiction (v4 (by omega))
 have hne:i'≠j':=fun e=>t1 (by rw[e];exact t2)
 refine tI (by omega) (by first|omega| (simp only[len_setL,len_swp];omega)) (tE (idx_gI d (by omega) (by first|omega| (simp only[len_setL,len_swp];omega))) ?_)
 refine tI (by omega) (by first|omega| (simp only[len_setL,len_swp];omega)) (tE (idx_gI d (by omega) (by first|omega| (simp only[len_setL,len_swp];omega))) ?_)
 refine tI (by omega) (by first|omega| (simp only[len_setL,len_swp];omega)) (tE (idx_gI d (by omega) (by first|omega| (simp only[len_setL,len_swp];omega))) ?_)
 refine tI (by omega) (by first|omega| (simp only[len_setL,len_swp];omega)) (tE (idx_gI d (by omega) (by first|omega| (simp only[len_setL,len_swp];omega))) ?_)
 rw[wr (by omega) (by omega),wr (by omega) (by omega)]
 have sw:∀k,0<=k->gI d (swp d D i' j') k=if k=j' then gI d D i' else if k=i' then gI d D j' else gI d D k:=fun k hk=>gI_swp (by omega) (by omega) (by omega) (by omega) hk
 have sa:gI d (swp d D i' j') a=gI d D a:=by rw[sw a h0,if_neg (by omega),if_neg (by omega)]
 refine rec_ ((i'+1,j'-1),swp d D i' j') ⟨by dsimp only;omega,by dsimp only;omega,by dsimp only;omega,i4.swp h0 (by omega) (by omega) (by omega) (by omega) (by omega),sa.trans i5,fun k k1 k2=>?_,fun k k1 k2=>?_⟩ (by dsimp only;omega)
 ·dsimp only at k2⊢
  rw[sa,sw k (by omega),if_neg (by omega)]
  by_cases e:k=i'
  ·rw[if_pos e];exact t2
  ·rw[if_neg e];exact left k k1 (by omega)
 ·dsimp only at k1⊢
  rw[sa,sw k (by omega)]
  by_cases e:k=j'
  ·rw[if_pos e];exact t1
  ·rw[if_neg e,if_neg (by omega)];exact right k (by omega) k2
omit hc h13 h15 hM in
theorem prtEnd {a b r:Int} {l D:List α} (h0:0<=a) (hbl:b<=l.length) (h1:a<=r) (h2:r<b) (h3:Rp d a b l D) (hl:∀k,a<k->k<=r->lt (gI d D k) (gI d D a)) (hr:∀k,r<k->k<b->¬lt (gI d D k) (gI d D a)):Parts lt d a b r l (swp d D r a):=by
 have hlen:=h3.len
 have sw:∀k,0<=k->gI d (swp d D r a) k=if k=a then gI d D r else if k=r then gI d D a else gI d D k:=fun k hk=>gI_swp (by omega) (by omega) (by omega) (by omega) hk
 have sr:gI d (swp d D r a) r=gI d D a:=by
  rw[sw r (by omega)]
  by_cases e:r=a
  ·rw[if_pos e,e]
  ·rw[if_neg e,if_pos rfl]
 refine⟨h1,h2,h3.swp h0 (by omega) h1 h2 (QC _) (by omega),fun k k1 k2=>?_,fun k k1 k2=>?_⟩
 ·rw[sr,sw k (by omega)]
  by_cases e:k=a
  ·rw[if_pos e];exact ho.asym _ _ (hl r (by omega) (QC _))
  ·rw[if_neg e,if_neg (by omega)];exact ho.asym _ _ (hl k (by omega) (by omega))
 ·rw[sr,sw k (by omega),if_neg (by omega),if_neg (by omega)]
  exact hr k k1 k2
include h3 h5 hP
theorem prtAll {a b p:Int} {l:List α} (h0:0<=a) (hbl:b<=l.length) (hb:l.length<2^57) (hal:Al Ok l) (hn:(b-a).toNat+1<n) (h1:a<=p) (h2:p<b):
 ∃r,prt ((),a,b,p,((),())) l=some r/\Parts lt d a b r.1.1 l r.2:=by
 rw[hP]
 refine tI (by omega) (by first|omega| (simp only[len_setL,len_swp];omega)) (tE (idx_gI d (by omega) (by first|omega| (simp only[len_setL,len_swp];omega))) ?_)
 refine tI (by omega) (by first|omega| (simp only[len_setL,len_swp];omega)) (tE (idx_gI d (by omega) (by first|omega| (simp only[len_setL,len_swp];omega))) ?_)
 refine tI (by omega) (by first|omega| (simp only[len_setL,len_swp];omega)) (tE (idx_gI d (by omega) (by first|omega| (simp only[len_setL,len_swp];omega))) ?_)
 refine tI (by omega) (by first|omega| (simp only[len_setL,len_swp];omega)) (tE (idx_gI d (by omega) (by first|omega| (simp only[len_setL,len_swp];omega))) ?_)
 have hw1:IntKind.wrap .i64 (a+1)=a+1:=wr (by omega) (by omega)
 have hw2:IntKind.wrap .i64 (b-1)=b-1:=wr (by omega) (by omega)
 have r0:Rp d a b l (swp d l a p):=(Rp.refl d a b l).swp h0 hbl (by omega) (by omega) h1 h2
 have hl:=r0.len
 have hal':=r0.al hal
 change∃r,(P3 a b p l (gI d l p) (gI d l a) n (IntKind.wrap .i64 (a+1))).bind _=some r/\_
 rw[hw1,hw2]
 refine tB (scanU (L:=P3 a b p l (gI d l p) (gI d l a)) (T:=fun x=>lt (gI d (swp d l a p) x) (gI d (swp d l a p) a)) (i:=a+1) (j:=b-1) (fun m x Q k1 k2 ht hf=>?_) (fun m x k1=>?_) (by omega) (by omega)) fun i'=>?_
 ·rw[h3,hw2]
  change∃r,(bif _ then (bif decide (0<=x/\x< (((swp d l a p).length:Nat):Int)) then (idxL (swp d l a p) x).bind _ else none) else _)=some r/\_
  refine tD (fun _=>tI (by omega) (by omega) (tE (idx_gI d (by omega) (by omega)) (tI (by omega) (by first|omega| (simp only[len_setL];omega)) (tE (idx_gI d (by omega) (by first|omega| (simp only[len_setL];omega))) (tM hc (hal'.at d (by omega) (by omega)) (hal'.at d (by omega) (by omega)) fun r hr=>tD (fun h=>?_) (fun h=>tS (hf fun k=>h (hr.2 k)))))))) (fun h=>by omega)
  rw[wr (by omega) (by omega)]
  exact ht (hr.1 h)
 ·rw[h3,hw2,decide_eq_false (by omega)];rfl
 rintro⟨u1,u2,u3,u4⟩
 refine tB (scanD (L:=P5 a p l (gI d l p) (gI d l a) i') (T:=fun x=>¬lt (gI d (swp d l a p) x) (gI d (swp d l a p) a)) (i:=i') (j:=b-1) (fun m x Q k1 k2 ht hf=>?_) (fun m x k1=>?_) u2 (by omega)) fun j'=>?_
 ·rw[h5]
  change∃r,(bif _ then (bif decide (0<=x/\x< (((swp d l a p).length:Nat):Int)) then (idxL (swp d l a p) x).bind _ else none) else _)=some r/\_
  refine tD (fun _=>tI (by omega) (by omega) (tE (idx_gI d (by omega) (by omega)) (tI (by omega) (by first|omega| (simp only[len_setL];omega)) (tE (idx_gI d (by omega) (by first|omega| (simp only[len_setL];omega))) (tM hc (hal'.at d (by omega) (by omega)) (hal'.at d (by omega) (by omega)) fun r hr=>tN (fun h=>?_) (fun h=>tS (hf fun k=>k (hr.1 h)))))))) (fun h=>by omega)
  rw[wr (by omega) (by omega)]
  exact ht fun k=>h (hr.2 k)
 ·rw[h5,decide_eq_false (by omega)];rfl
 rintro⟨v1,v2,v3,v4⟩
 change∃r,(bif _ then (bif decide (0<=a/\a< (((swp d l a p).length:Nat):Int)) then (idxL (swp d l a p) a).bind _ else none) else (bif decide (0<=j'/\j'< (((swp d l a p).length:Nat):Int)) then (idxL (swp d l a p) j').bind _ else none))=some r/\_
 refine tD (fun hgt=>?_) (fun hgt=>?_)
 ·refine tI (by omega) (by first|omega| (simp only[len_setL,len_swp];omega)) (tE (idx_gI d (by omega) (by first|omega| (simp only[len_setL,len_swp];omega))) ?_)
  refine tI (by omega) (by simp only[len_setL];omega) (tE (idx_gI d (by omega) (by simp only[len_setL];omega)) ?_)
  refine tI (by omega) (by simp only[len_setL];omega) (tE (idx_gI d (by omega) (by simp only[len_setL];omega)) ?_)
  refine tI (by omega) (by simp only[len_setL];omega) (tE (idx_gI d (by omega) (by simp only[len_setL];omega)) ?_)
  refine tS ?_
  exact prtEnd ho (r:=j') h0 hbl (by omega) (by omega) r0 (fun k k1 k2=>u3 k (by omega) (by omega)) (fun k k1 k2=>v3 k k1 (by omega))
 ·have t1:=u4 (by omega)
  have t2:lt (gI d (swp d l a p) j') (gI d (swp d l a p) a):=Classical.byContradiction (v4 (by omega))
  have hne:i'≠j':=fun e=>t1 (by rw[e];exact t2)
  refine tI (by omega) (by first|omega| (simp only[len_setL,len_swp];omega)) (tE (idx_gI d (by omega) (by first|omega| (simp only[len_setL,len_swp];omega))) ?_)
  refine tI (by omega) (by simp only[len_setL];omega) (tE (idx_gI d (by omega) (by simp only[len_setL];omega)) ?_)
  refine tI (by omega) (by simp only[len_setL];omega) (tE (idx_gI d (by omega) (by simp only[len_setL];omega)) ?_)
  refine tI (by omega) (by simp only[len_setL];omega) (tE (idx_gI d (by omega) (by simp only[len_setL];omega)) ?_)
  rw[wr (by omega) (by omega),wr (by omega) (by omega)]
  have s1:Rp d a b l (swp d (swp d l a p) i' j'):=r0.swp h0 (by omega) (by omega) (by omega) (by omega) (by omega)
  have sw:∀k,0<=k->gI d (swp d (swp d l a p) i' j') k=if k=j' then gI d (swp d l a p) i' else if k=i' then gI d (swp d l a p) j' else gI d (swp d l a p) k:=fun k hk=>gI_swp (by omega) (by omega) (by omega) (by omega) hk
  have sa:gI d (swp d (swp d l a p) i' j') a=gI d (swp d l a p) a:=by rw[sw a h0,if_neg (by omega),if_neg (by omega)]
  have hl1:=s1.len
  refine tB (prtM hc ho h13 h15 hM (n:=n) (d:=d) (a:=a) (b:=b) (l:=swp d (swp d l a p) i' j') (i:=i'+1) (j:=j'-1) (m:=n) h0 (by omega) (by omega) (s1.al hal) (by omega) (by omega) (by omega) (by omega) (fun k k1 k2=>?_) (fun k k1 k2=>?_) (by omega)) fun r=>?_
  ·rw[sa,sw k (by omega),if_neg (by omega)]
   by_cases e:k=i'
   ·rw[if_pos e];exact t2
   ·rw[if_neg e];exact u3 k (by omega) (by omega)
  ·rw[sa,sw k (by omega)]
   by_cases e:k=j'
   ·rw[if_pos e];exact t1
   ·rw[if_neg e,if_neg (by omega)];exact v3 k (by omega) (by omega)
  ·rintro⟨q1,q2,q3,q4,q5,q6⟩
   have hl2:=q3.len
   refine tI (by omega) (by first|omega| (simp only[len_setL,len_swp];omega)) (tE (idx_gI d (by omega) (by first|omega| (simp only[len_setL,len_swp];omega))) ?_)
   refine tI (by omega) (by first|omega| (simp only[len_setL,len_swp];omega)) (tE (idx_gI d (by omega) (by first|omega| (simp only[len_setL,len_swp];omega))) ?_)
   refine tI (by omega) (by first|omega| (simp only[len_setL,len_swp];omega)) (tE (idx_gI d (by omega) (by first|omega| (simp only[len_setL,len_swp];omega))) ?_)
   refine tI (by omega) (by first|omega| (simp only[len_setL,len_swp];omega)) (tE (idx_gI d (by omega) (by first|omega| (simp only[len_setL,len_swp];omega))) ?_)
   exact tS (prtEnd ho (r:=r.1) h0 hbl q1 q2 (s1.trans q3) q5 q6)
end
section
variable {n:Nat} {d:α} {Ok:α->Prop} {lt:α->α->Prop} {K:{β:Type}->α->α->(Bool->Option β)->Option β} (hc:CmpO Ok lt K)
 {E3:Int->Int->(List α)->Nat->Int->Option (Int)} {E5:Int->(List α)->Int->Nat->Int->Option (Int)} {EM:Int->Nat->((Int×Int)×List α)->Option (Int×List α)}
 {peq:Unit×Int×Int×Int×(Unit×Unit)->List α->Option (Int×List α)}
 (h3:∀(x1:Int) (x10:Int) (x11:List α) (m:Nat) (x12:Int),E3 x1 x10 x11 (m+1) x12=
   bif decide (x12<=x10) then
    bif decide (0<=x1/\x1< ((x11.length:Nat):Int)) then
     (idxL x11 x1).bind fun (r13:α)=>
     bif decide (0<=x12/\x12< ((x11.length:Nat):Int)) then
      (idxL x11 x12).bind fun (r14:α)=>
      K r13 r14 fun (r15:Bool)=>
      bif !(r15) then
       E3 x1 x10 x11 m (IntKind.wrap .i64 (x12+(1:Int)))
      else
       some x12
     else
      none
    else
     none
   else
    some x12)
 (h5:∀(x1:Int) (x11:List α) (r16:Int) (m:Nat) (x17:Int),E5 x1 x11 r16 (m+1) x17=
   bif decide (r16<=x17) then
    bif decide (0<=x1/\x1< ((x11.length:Nat):Int)) then
     (idxL x11 x1).bind fun (r18:α)=>
     bif decide (0<=x17/\x17< ((x11.length:Nat):Int)) then
      (idxL x11 x17).bind fun (r19:α)=>
      K r18 r19 fun (r20:Bool)=>
      bif r20 then
       E5 x1 x11 r16 m (IntKind.wrap .i64 (x17-(1:Int)))
      else
       some x17
     else
      none
    else
     none
   else
    some x17)
 (hM:∀(x1:Int) (m:Nat) (x9:Int) (x10:Int) (x11:List α),EM x1 (m+1) ((x9,x10),x11)=
   (E3 x1 x10 x11 n x9).bind fun (r16:Int)=>
   (E5 x1 x11 r16 n x10).bind fun (r21:Int)=>
   bif decide (r16>r21) then
    some ((r16,x11))
   else
    bif decide (0<=r21/\r21< ((x11.length:Nat):Int)) then
     (idxL x11 r21).bind fun (r22:α)=>
     bif decide (0<=r16/\r16< ((x11.length:Nat):Int)) then
      (idxL x11 r16).bind fun (r23:α)=>
      bif decide (0<=r16/\r16< ((x11.length:Nat):Int)) then
       (idxL x11 r16).bind fun (r24:α)=>
       bif decide (0<=r21/\r21< (((setL x11 r16 r22).length:Nat):Int)) then
        (idxL (setL x11 r16 r22) r21).bind fun (r25:α)=>
        EM x1 m (((IntKind.wrap .i64 (r16+(1:Int)),IntKind.wrap .i64 (r21-(1:Int))),setL (setL x11 r16 r22) r21 r23))
       else
        none
      else
       none
     else
      none
    else
     none)
 (hP:∀(x1:Int) (x2:Int) (x3:Int) (x4:List α),peq (((),(x1,(x2,(x3,((),())))))) (x4)=
   bif decide (0<=x3/\x3< ((x4.length:Nat):Int)) then
    (idxL x4 x3).bind fun (r5:α)=>
    bif decide (0<=x1/\x1< ((x4.length:Nat):Int)) then
     (idxL x4 x1).bind fun (r6:α)=>
     bif decide (0<=x1/\x1< ((x4.length:Nat):Int)) then
      (idxL x4 x1).bind fun (r7:α)=>
      bif decide (0<=x3/\x3< (((setL x4 x1 r5).length:Nat):Int)) then
       (idxL (setL x4 x1 r5) x3).bind fun (r8:α)=>
       (EM x1 n (((IntKind.wrap .i64 (x1+(1:Int)),IntKind.wrap .i64 (x2-(1:Int))),setL (setL x4 x1 r5) x3 r6))).bind fun (r26:Int×List α)=>
       some ((r26.1,r26.2))
      else
       none
     else
      none
    else
     none
   else
    none)
include hc h3 h5 hM
theorem peqM {a b:Int} {l:List α} {i j:Int} {m:Nat} (h0:0<=a) (hbl:b<=l.length) (hb:l.length<2^57) (hal:Al Ok l) (hn:(b-a).toNat<n) (h1:a<i) (h2:j<b) (hij:i<=j+1)
 (hl:∀k,a<k->k<i->¬lt (gI d l a) (gI d l k)) (hr:∀k,j<k->k<b->lt (gI d l a) (gI d l k)) (hm:(j+1-i).toNat<m):
 ∃r,EM a m ((i,j),l)=some r/\a<r.1/\r.1<=b/\Rp d a b l r.2/\gI d r.2 a=gI d l a/\(∀k,a<k->k<r.1->¬lt (gI d r.2 a) (gI d r.2 k))/\(∀k,r.1<=k->k<b->lt (gI d r.2 a) (gI d r.2 k)):=by
 refine mu (τ:=(Int×Int)×List α) (L:=EM a) (fun p=>a<p.1.1/\p.1.2<b/\p.1.1<=p.1.2+1/\Rp d a b l p.2/\gI d p.2 a=gI d l a/\(∀k,a<k->k<p.1.1->¬lt (gI d p.2 a) (gI d p.2 k))/\(∀k,p.1.2<k->k<b->lt (gI d p.2 a) (gI d p.2 k))) (fun p=>(p.1.2+1-p.1.1).toNat) _ ?_ m ((i,j),l)
  ⟨h1,h2,hij,.refl _ _ _ _,rfl,hl,hr⟩ hm
 rintro m ⟨⟨i,j⟩,D⟩ ⟨i1,i2,i3,i4,i5,i6,i7⟩ rec_
 dsimp only at i1 i2 i3 i4 i5 i6 i7 rec_⊢
 have hl:=i4.len
 have hal':=i4.al hal
 rw[hM]
 refine tB (scanU (L:=E3 a j D) (T:=fun x=>¬lt (gI d D a) (gI d D x)) (i:=i) (j:=j) (fun m x Q k1 k2 ht hf=>?_) (fun m x k1=>?_) i3 (by omega)) fun i'=>?_
 ·rw[h3]
  refine tD (fun _=>tI (by omega) (by omega) (tE (idx_gI d (by omega) (by omega)) (tI (by omega) (by omega) (tE (idx_gI d (by omega) (by omega)) (tM hc (hal'.at d (by omega) (by omega)) (hal'.at d (by omega) (by omega)) fun r hr=>tN (fun h=>?_) (fun h=>tS (hf fun k=>k (hr.1 h)))))))) (fun h=>by omega)
  rw[wr (by omega) (by omega)]
  exact ht fun k=>h (hr.2 k)
 ·rw[h3,decide_eq_false (by omega)];rfl
 rintro⟨u1,u2,u3,u4⟩
 refine tB (scanD (L:=E5 a D i') (T:=fun x=>lt (gI d D a) (gI d D x)) (i:=i') (j:=j) (fun m x Q k1 k2 ht hf=>?_) (fun m x k1=>?_) u2 (by omega)) fun j'=>?_
 ·rw[h5]
  refine tD (fun _=>tI (by omega) (by omega) (tE (idx_gI d (by omega) (by omega)) (tI (by omega) (by omega) (tE (idx_gI d (by omega) (by omega)) (tM hc (hal'.at d (by omega) (by omega)) (hal'.at d (by omega) (by omega)) fun r hr=>tD (fun h=>?_) (fun h=>tS (hf fun k=>h (hr.2 k)))))))) (fun h=>by omega)
  rw[wr (by omega) (by omega)]
  exact ht (hr.1 h)
 ·rw[h5,decide_eq_false (by omega)];rfl
 rintro⟨v1,v2,v3,v4⟩
 have left:∀k,a<k->k<i'->¬lt (gI d D a) (gI d D k):=fun k k1 k2=>by
  by_cases e:k<i
  ·exact i6 k k1 e
  ·exact u3 k (by omega) k2
 have right:∀k,j'<k->k<b->lt (gI d D a) (gI d D k):=fun k k1 k2=>by
  by_cases e:j<k
  ·exact i7 k e k2
  ·exact v3 k k1 (by omega)
 refine tD (fun hgt=>tS ⟨by omega,by omega,i4,i5,left,fun k k1 k2=>right k (by omega) k2⟩) (fun hgt=>?_)
 have t1:lt (gI d D a) (gI d D i'):=Classical.byContradiction (u4 (by omega))
 have t2:=v4 (by omega)
 have hne:i'≠j':=fun e=>t2 (by rw[<-e];exact t1)
 refine tI (by omega) (by first|omega| (simp only[len_setL,len_swp];omega)) (tE (idx_gI d (by omega) (by first|omega| (simp only[len_setL,len_swp];omega))) ?_)
 refine tI (by omega) (by first|omega| (simp only[len_setL,len_swp];omega)) (tE (idx_gI d (by omega) (by first|omega| (simp only[len_setL,len_swp];omega))) ?_)
 refine tI (by omega) (by first|omega| (simp only[len_setL,len_swp];omega)) (tE (idx_gI d (by omega) (by first|omega| (simp only[len_setL,len_swp];omega))) ?_)
 refine tI (by omega) (by first|omega| (simp only[len_setL,len_swp];omega)) (tE (idx_gI d (by omega) (by first|omega| (simp only[len_setL,len_swp];omega))) ?_)
 rw[wr (by omega) (by omega),wr (by omega) (by omega)]
 have sw:∀k,0<=k->gI d (swp d D i' j') k=if k=j' then gI d D i' else if k=i' then gI d D j' else gI d D k:=fun k hk=>gI_swp (by omega) (by omega) (by omega) (by omega) hk
 have sa:gI d (swp d D i' j') a=gI d D a:=by rw[sw a h0,if_neg (by omega),if_neg (by omega)]
 refine rec_ ((i'+1,j'-1),swp d D i' j') ⟨by dsimp only;omega,by dsimp only;omega,by dsimp only;omega,i4.swp h0 (by omega) (by omega) (by omega) (by omega) (by omega),sa.trans i5,fun k k1 k2=>?_,fun k k1 k2=>?_⟩ (by dsimp only;omega)
 ·dsimp only at k2⊢
  rw[sa,sw k (by omega),if_neg (by omega)]
  by_cases e:k=i'
  ·rw[if_pos e];exact t2
  ·rw[if_neg e];exact left k k1 (by omega)
 ·dsimp only at k1⊢
  rw[sa,sw k (by omega)]
  by_cases e:k=j'
  ·rw[if_pos e];exact t1
  ·rw[if_neg e,if_neg (by omega)];exact right k (by omega) k2
include hP
theorem peqAll {a b p:Int} {l:List α} (h0:0<=a) (hbl:b<=l.length) (hb:l.length<2^57) (hal:Al Ok l) (hn:(b-a).toNat+1<n) (h1:a<=p) (h2:p<b):
 ∃r,peq ((),a,b,p,((),())) l=some r/\a<r.1/\r.1<=b/\Rp d a b l r.2/\gI d r.2 a=gI d l p/\(∀k,a<k->k<r.1->¬lt (gI d r.2 a) (gI d r.2 k))/\(∀k,r.1<=k->k<b->lt (gI d r.2 a) (gI d r.2 k)):=by
 rw[hP]
 refine tI (by omega) (by first|omega| (simp only[len_setL,len_swp];omega)) (tE (idx_gI d (by omega) (by first|omega| (simp only[len_setL,len_swp];omega))) ?_)
 refine tI (by omega) (by first|omega| (simp only[len_setL,len_swp];omega)) (tE (idx_gI d (by omega) (by first|omega| (simp only[len_setL,len_swp];omega))) ?_)
 refine tI (by omega) (by first|omega| (simp only[len_setL,len_swp];omega)) (tE (idx_gI d (by omega) (by first|omega| (simp only[len_setL,len_swp];omega))) ?_)
 refine tI (by omega) (by first|omega| (simp only[len_setL,len_swp];omega)) (tE (idx_gI d (by omega) (by first|omega| (simp only[len_setL,len_swp];omega))) ?_)
 rw[wr (by omega) (by omega),wr (by omega) (by omega)]
 have r0:Rp d a b l (swp d l a p):=(Rp.refl d a b l).swp h0 hbl (by omega) (by omega) h1 h2
 have hl:=r0.len
 have hal':=r0.al hal
 refine tB (peqM hc h3 h5 hM (n:=n) (d:=d) (a:=a) (b:=b) (l:=swp d l a p) (i:=a+1) (j:=b-1) (m:=n) h0 (by omega) (by omega) hal' (by omega) (by omega) (by omega) (by omega) (fun k k1 k2=>by omega) (fun k k1 k2=>by omega) (by omega)) fun r=>?_
 rintro⟨q1,q2,q3,q4,q5,q6⟩
 refine tS ⟨q1,q2,r0.trans q3,q4.trans ?_,q5,q6⟩
 rw[gI_swp (by omega) (by omega) (by omega) (by omega) h0]
 by_cases e:a=p
 ·rw[if_pos e,e]
 ·rw[if_neg e,if_pos rfl]
end
end Pq
end
section
open Go Aq
namespace Pq
variable {α:Type}
section
variable {n:Nat} {d:α} {Ok:α->Prop} {lt:α->α->Prop} {K:{β:Type}->α->α->(Bool->Option β)->Option β} (hc:CmpO Ok lt K) (ho:Ord lt)
 {I5:Int->Int->Int->(List α)->Nat->Int->Option (Int)} {I14:Int->Int->Int->Int->Nat->(Int×List α)->Option (PUnit×List α)} {I20:Int->Int->Int->Int->Nat->(Int×List α)->Option (PUnit×List α)} {IM:Int->Int->Nat->((Int×Int)×List α)->Option ((PUnit×List α)⊕(Bool×List α))}
 {pin:Unit×Int×Int×(Unit×Unit)->List α->Option (Bool×List α)}
 (h5:∀(x1:Int) (x2:Int) (x5:Int) (x6:List α) (m:Nat) (x7:Int),I5 x1 x2 x5 x6 (m+1) x7=
   bif decide (x7<x2) then
    bif decide (0<=x7/\x7< ((x6.length:Nat):Int)) then
     (idxL x6 x7).bind fun (r8:α)=>
     bif decide (0<=(IntKind.wrap .i64 (x7-(1:Int)))/\(IntKind.wrap .i64 (x7-(1:Int)))< ((x6.length:Nat):Int)) then
      (idxL x6 (IntKind.wrap .i64 (x7-(1:Int)))).bind fun (r9:α)=>
      K r8 r9 fun (r10:Bool)=>
      bif !(r10) then
       I5 x1 x2 x5 x6 m (IntKind.wrap .i64 (x7+(1:Int)))
      else
       some x7
     else
      none
    else
     none
   else
    some x7)
 (h14:∀(x1:Int) (x2:Int) (x5:Int) (r11:Int) (m:Nat) (x16:Int) (x17:List α),I14 x1 x2 x5 r11 (m+1) (x16,x17)=
   bif decide (x16>=(1:Int)) then
    bif decide (0<=x16/\x16< ((x17.length:Nat):Int)) then
     (idxL x17 x16).bind fun (r18:α)=>
     bif decide (0<=(IntKind.wrap .i64 (x16-(1:Int)))/\(IntKind.wrap .i64 (x16-(1:Int)))< ((x17.length:Nat):Int)) then
      (idxL x17 (IntKind.wrap .i64 (x16-(1:Int)))).bind fun (r19:α)=>
      K r18 r19 fun (r20:Bool)=>
      bif !(r20) then
       some (((),x17))
      else
       bif decide (0<=(IntKind.wrap .i64 (x16-(1:Int)))/\(IntKind.wrap .i64 (x16-(1:Int)))< ((x17.length:Nat):Int)) then
        (idxL x17 (IntKind.wrap .i64 (x16-(1:Int)))).bind fun (r21:α)=>
        bif decide (0<=x16/\x16< ((x17.length:Nat):Int)) then
         (idxL x17 x16).bind fun (r22:α)=>
         bif decide (0<=x16/\x16< ((x17.length:Nat):Int)) then
          (idxL x17 x16).bind fun (r23:α)=>
          bif decide (0<=(IntKind.wrap .i64 (x16-(1:Int)))/\(IntKind.wrap .i64 (x16-(1:Int)))< (((setL x17 x16 r21).length:Nat):Int)) then
           (idxL (setL x17 x16 r21) (IntKind.wrap .i64 (x16-(1:Int)))).bind fun (r24:α)=>
           I14 x1 x2 x5 r11 m ((IntKind.wrap .i64 (x16-(1:Int)),setL (setL x17 x16 r21) (IntKind.wrap .i64 (x16-(1:Int))) r22))
          else
           none
         else
          none
        else
         none
       else
        none
     else
      none
    else
     none
   else
    some (((),x17)))
 (h20:∀(x1:Int) (x2:Int) (x5:Int) (r11:Int) (m:Nat) (x27:Int) (x28:List α),I20 x1 x2 x5 r11 (m+1) (x27,x28)=
   bif decide (x27<x2) then
    bif decide (0<=x27/\x27< ((x28.length:Nat):Int)) then
     (idxL x28 x27).bind fun (r29:α)=>
     bif decide (0<=(IntKind.wrap .i64 (x27-(1:Int)))/\(IntKind.wrap .i64 (x27-(1:Int)))< ((x28.length:Nat):Int)) then
      (idxL x28 (IntKind.wrap .i64 (x27-(1:Int)))).bind fun (r30:α)=>
      K r29 r30 fun (r31:Bool)=>
      bif !(r31) then
       some (((),x28))
      else
       bif decide (0<=(IntKind.wrap .i64 (x27-(1:Int)))/\(IntKind.wrap .i64 (x27-(1:Int)))< ((x28.length:Nat):Int)) then
        (idxL x28 (IntKind.wrap .i64 (x27-(1:Int)))).bind fun (r32:α)=>
        bif decide (0<=x27/\x27< ((x28.length:Nat):Int)) then
         (idxL x28 x27).bind fun (r33:α)=>
         bif decide (0<=x27/\x27< ((x28.length:Nat):Int)) then
          (idxL x28 x27).bind fun (r34:α)=>
          bif decide (0<=(IntKind.wrap .i64 (x27-(1:Int)))/\(IntKind.wrap .i64 (x27-(1:Int)))< (((setL x28 x27 r32).length:Nat):Int)) then
           (idxL (setL x28 x27 r32) (IntKind.wrap .i64 (x27-(1:Int)))).bind fun (r35:α)=>
           I20 x1 x2 x5 r11 m ((IntKind.wrap .i64 (x27+(1:Int)),setL (setL x28 x27 r32) (IntKind.wrap .i64 (x27-(1:Int))) r33))
          else
           none
         else
          none
        else
         none
       else
        none
     else
      none
    else
     none
   else
    some (((),x28)))
 (hM:∀(x1:Int) (x2:Int) (m:Nat) (x4:Int) (x5:Int) (x6:List α),IM x1 x2 (m+1) ((x4,x5),x6)=
   bif decide (x5< (5:Int)) then
    (I5 x1 x2 x5 x6 n x4).bind fun (r11:Int)=>
    bif r11==x2 then
     some (.inr ((true,x6)))
    else
     bif decide ((IntKind.wrap .i64 (x2-x1))< ((50:Int))) then
      some (.inr ((false,x6)))
     else
      bif decide (0<=(IntKind.wrap .i64 (r11-(1:Int)))/\(IntKind.wrap .i64 (r11-(1:Int)))< ((x6.length:Nat):Int)) then
       (idxL x6 (IntKind.wrap .i64 (r11-(1:Int)))).bind fun (r12:α)=>
       bif decide (0<=r11/\r11< ((x6.length:Nat):Int)) then
        (idxL x6 r11).bind fun (r13:α)=>
        bif decide (0<=r11/\r11< ((x6.length:Nat):Int)) then
         (idxL x6 r11).bind fun (r14:α)=>
         bif decide (0<=(IntKind.wrap .i64 (r11-(1:Int)))/\(IntKind.wrap .i64 (r11-(1:Int)))< (((setL x6 r11 r12).length:Nat):Int)) then
          (idxL (setL x6 r11 r12) (IntKind.wrap .i64 (r11-(1:Int)))).bind fun (r15:α)=>
          Option.bind (α:=PUnit×List α) (
           bif decide ((IntKind.wrap .i64 (r11-x1))>=(2:Int)) then
            (I14 x1 x2 x5 r11 n ((IntKind.wrap .i64 (r11-(1:Int)),setL (setL x6 r11 r12) (IntKind.wrap .i64 (r11-(1:Int))) r13))).bind fun (r25:PUnit×List α)=>
            some (((),r25.2))
           else
            some (((),setL (setL x6 r11 r12) (IntKind.wrap .i64 (r11-(1:Int))) r13))) fun (r26:PUnit×List α)=>
          bif decide ((IntKind.wrap .i64 (x2-r11))>=(2:Int)) then
           (I20 x1 x2 x5 r11 n ((IntKind.wrap .i64 (r11+(1:Int)),r26.2))).bind fun (r36:PUnit×List α)=>
           IM x1 x2 m (((r11,IntKind.wrap .i64 (x5+(1:Int))),r36.2))
          else
           IM x1 x2 m (((r11,IntKind.wrap .i64 (x5+(1:Int))),r26.2))
         else
          none
        else
         none
       else
        none
      else
       none
   else
    some (.inl (((),x6))))
 (hP:∀(x1:Int) (x2:Int) (x3:List α),pin (((),(x1,(x2,((),()))))) (x3)=
   (IM x1 x2 n (((IntKind.wrap .i64 (x1+(1:Int)),(0:Int)),x3))).bind fun (r37:(PUnit×List α)⊕(Bool×List α))=>
   Sum.elim (fun (q38:PUnit×List α)=>
    some ((false,q38.2)))
    (fun (q39:Bool×List α)=>
     some ((q39.1,q39.2))) r37)
include hc ho h14
theorem shL {a b c r:Int} {D:List α} {m:Nat} (h0:0<=a) (h1:a<r) (h2:r<=D.length) (hb:D.length<2^57) (hal:Al Ok D) (hs:Sd lt d a (r-1) D) (hp:0<a->∀k,a<=k->k<r->¬lt (gI d D k) (gI d D (a-1))) (hm:(r-a).toNat<m):
 ∃s,I14 a b c r m (r-1,D)=some s/\Rp d a r D s.2/\Sd lt d a r s.2:=by
 refine mu (τ:=Int×List α) (L:=I14 a b c r) (fun p=>a<=p.1/\p.1<=r-1/\Rp d a r D p.2/\(∀u v,a<=u->u<v->v<=r-1->u≠p.1->v≠p.1->¬lt (gI d p.2 v) (gI d p.2 u))/\(∀v,p.1<v->v<=r-1->¬lt (gI d p.2 v) (gI d p.2 p.1))) (fun p=>(p.1-a).toNat) _ ?_ m (r-1,D)
  ⟨by dsimp only;omega,QC _,.refl _ _ _ _,fun u v k1 k2 k3 k4 k5=>hs u v k1 k2 (by dsimp only at k5;omega),fun v k1 k2=>by dsimp only at k1;omega⟩ (by dsimp only;omega)
 rintro m ⟨j,D'⟩ ⟨i1,i2,i3,i4,i5⟩ rec_
 dsimp only at i1 i2 i3 i4 i5 rec_⊢
 have hl:=i3.len
 have hal':=i3.al hal
 rw[h14]
 simp (disch:=omega) only[wr]
 have fin:(j=a\/¬lt (gI d D' j) (gI d D' (j-1)))->Sd lt d a r D':=fun hh u v k1 k2 k3=>by
  by_cases e2:u=j
  ·rw[e2];exact i5 v (by omega) (by omega)
  ·by_cases e1:v=j
   ·have hj:a<j:=by omega
    have hlt:¬lt (gI d D' j) (gI d D' (j-1)):=by
     rcases hh with h|h
     ·omega
     ·exact h
    rw[e1]
    by_cases e3:u=j-1
    ·rw[e3];exact hlt
    ·exact ho.neg _ _ _ hlt (i4 u (j-1) k1 (by omega) (by omega) e2 (by omega))
   ·exact i4 u v k1 k2 (by omega) e2 e1
 refine tD (fun hj=>?_) (fun hj=>tS ⟨i3,fin (.inl (by omega))⟩)
 refine tI (by omega) (by omega) (tE (idx_gI d (by omega) (by omega)) (tI (by omega) (by omega) (tE (idx_gI d (by omega) (by omega)) (tM hc (hal'.at d (by omega) (by omega)) (hal'.at d (by omega) (by omega)) fun q hq=>?_))))
 refine tN (fun h=>tS ⟨i3,fin (.inr fun k=>h (hq.2 k))⟩) (fun h=>?_)
 have hlt:=hq.1 h
 have hja:a<j:=by
  rcases Int.lt_or_eq_of_le i1 with h|h
  ·exact h
  ·exfalso
   rw[<-h] at hlt
   have h3:=i3.all (fun x=>¬lt x (gI d D (a-1))) (hp (by omega)) a (QC _) h1
   rw[i3.out (a-1) (by omega) (.inl (by omega))] at hlt
   exact h3 hlt
 refine tI (by omega) (by first|omega| (simp only[len_setL];omega)) (tE (idx_gI d (by omega) (by first|omega| (simp only[len_setL];omega))) ?_)
 refine tI (by omega) (by first|omega| (simp only[len_setL];omega)) (tE (idx_gI d (by omega) (by first|omega| (simp only[len_setL];omega))) ?_)
 refine tI (by omega) (by first|omega| (simp only[len_setL];omega)) (tE (idx_gI d (by omega) (by first|omega| (simp only[len_setL];omega))) ?_)
 refine tI (by omega) (by first|omega| (simp only[len_setL];omega)) (tE (idx_gI d (by omega) (by first|omega| (simp only[len_setL];omega))) ?_)
 refine rec_ (j-1,swp d D' j (j-1)) ⟨by dsimp only;omega,by dsimp only;omega,i3.swp h0 (by omega) (by omega) (by omega) (by omega) (by omega),fun u v k1 k2 k3 k4 k5=>?_,fun v k1 k2=>?_⟩ (by dsimp only;omega)
 ·dsimp only at k4 k5⊢
  rw[gI_swp (by omega) (by omega) (by omega) (by omega) (by omega),gI_swp (by omega) (by omega) (by omega) (by omega) (by omega),if_neg k5,if_neg k4]
  by_cases e1:v=j
  ·rw[if_pos e1]
   by_cases e2:u=j
   ·omega
   ·rw[if_neg e2]
    exact i4 u (j-1) k1 (by omega) (by omega) e2 (by omega)
  ·rw[if_neg e1]
   by_cases e2:u=j
   ·rw[if_pos e2]
    exact i4 (j-1) v (by omega) (by omega) k3 (by omega) e1
   ·rw[if_neg e2]
    exact i4 u v k1 k2 k3 e2 e1
 ·dsimp only at k1 k2⊢
  rw[gI_swp (by omega) (by omega) (by omega) (by omega) (by omega),gI_swp (by omega) (by omega) (by omega) (by omega) (by omega),if_neg (by omega),if_pos rfl]
  by_cases e1:v=j
  ·rw[if_pos e1];exact ho.asym _ _ hlt
  ·rw[if_neg e1];exact i5 v (by omega) k2
omit h14 ho
include h20
theorem shR {a b c r:Int} {D:List α} {m:Nat} (h0:0<=r) (h2:b<=D.length) (hb:D.length<2^57) (hal:Al Ok D) (hm:(b-r).toNat<m):
 ∃s,I20 a b c r m (r+1,D)=some s/\Rp d r b D s.2:=by
 refine mu (τ:=Int×List α) (L:=I20 a b c r) (fun p=>r<p.1/\Rp d r b D p.2) (fun p=>(b-p.1).toNat) _ ?_ m (r+1,D) ⟨by dsimp only;omega,.refl _ _ _ _⟩ (by dsimp only;omega)
 rintro m ⟨j,D'⟩ ⟨i1,i3⟩ rec_
 dsimp only at i1 i3 rec_⊢
 have hl:=i3.len
 have hal':=i3.al hal
 rw[h20]
 refine tD (fun hj=>?_) (fun hj=>tS i3)
 simp (disch:=omega) only[wr]
 refine tI (by omega) (by omega) (tE (idx_gI d (by omega) (by omega)) (tI (by omega) (by omega) (tE (idx_gI d (by omega) (by omega)) (tM hc (hal'.at d (by omega) (by omega)) (hal'.at d (by omega) (by omega)) fun q hq=>?_))))
 refine tN (fun h=>tS i3) (fun h=>?_)
 refine tI (by omega) (by first|omega| (simp only[len_setL];omega)) (tE (idx_gI d (by omega) (by first|omega| (simp only[len_setL];omega))) ?_)
 refine tI (by omega) (by first|omega| (simp only[len_setL];omega)) (tE (idx_gI d (by omega) (by first|omega| (simp only[len_setL];omega))) ?_)
 refine tI (by omega) (by first|omega| (simp only[len_setL];omega)) (tE (idx_gI d (by omega) (by first|omega| (simp only[len_setL];omega))) ?_)
 refine tI (by omega) (by first|omega| (simp only[len_setL];omega)) (tE (idx_gI d (by omega) (by first|omega| (simp only[len_setL];omega))) ?_)
 exact rec_ (j+1,swp d D' j (j-1)) ⟨by dsimp only;omega,i3.swp h0 (by omega) (by omega) (by omega) (by omega) (by omega)⟩ (by dsimp only;omega)
include ho h5 h14 hM hP
theorem pinAll {a b:Int} {l:List α} (h0:0<=a) (hab:a<b) (hbl:b<=l.length) (hb:l.length<2^57) (hal:Al Ok l) (hn:(b-a).toNat+8<n) (hp:0<a->∀k,a<=k->k<b->¬lt (gI d l k) (gI d l (a-1))):
 ∃r,pin ((),a,b,((),())) l=some r/\Rp d a b l r.2/\(r.1=true->Sd lt d a b r.2):=by
 rw[hP]
 refine tB (Q:=fun s=>Sum.elim (fun q:PUnit×List α=>Rp d a b l q.2) (fun q:Bool×List α=>Rp d a b l q.2/\(q.1=true->Sd lt d a b q.2)) s) ?_ fun s=>?_
 ·rw[wr (by omega) (by omega)]
  refine mu (τ:=(Int×Int)×List α) (L:=IM a b) (fun p=>a<p.1.1/\p.1.1<=b/\0<=p.1.2/\p.1.2<=5/\Rp d a b l p.2/\Sd lt d a p.1.1 p.2) (fun p=>(5-p.1.2).toNat) _ ?_ n ((a+1,0),l) ⟨by dsimp only;omega,by dsimp only;omega,QC _,by dsimp only;omega,.refl _ _ _ _,fun u v k1 k2 k3=>by dsimp only at k3;omega⟩ (by dsimp only;omega)
  rintro m ⟨⟨i,j⟩,D⟩ ⟨i1,i2,i3,i4,i5,i6⟩ rec_
  dsimp only at i1 i2 i3 i4 i5 i6 rec_⊢
  have hl:=i5.len
  have hal':=i5.al hal
  rw[hM]
  refine tD (fun hj=>?_) (fun hj=>tS i5)
  refine tB (scanU (L:=I5 a b j D) (T:=fun x=>¬lt (gI d D x) (gI d D (x-1))) (i:=i) (j:=b-1) (fun m x Q k1 k2 ht hf=>?_) (fun m x k1=>?_) (by omega) (by omega)) fun r=>?_
  ·rw[h5]
   simp (disch:=omega) only[wr]
   exact tD (fun _=>tI (by omega) (by omega) (tE (idx_gI d (by omega) (by omega)) (tI (by omega) (by omega) (tE (idx_gI d (by omega) (by omega)) (tM hc (hal'.at d (by omega) (by omega)) (hal'.at d (by omega) (by omega)) fun r hr=>tN (fun h=>ht fun k=>h (hr.2 k)) (fun h=>tS (hf fun k=>k (hr.1 h)))))))) (fun h=>by omega)
  ·rw[h5,decide_eq_false (by omega)];rfl
  rintro⟨u1,u2,u3,u4⟩
  have hsr:Sd lt d a r D:=Sd.adj ho fun k k1 k2=>by
   by_cases e:k<i
   ·exact i6 (k-1) k (by omega) (by omega) e
   ·exact u3 k (by omega) k2
  refine tC (fun e=>?_) (fun e=>?_)
  ·have e':r=b:=by simpa using e
   rw[e'] at hsr
   exact tS ⟨i5,fun _=>hsr⟩
  ·have e':¬r=b:=by simpa using e
   refine tD (fun _=>tS ⟨i5,fun h=>by cases h⟩) (fun _=>?_)
   simp (disch:=omega) only[wr]
   refine tI (by omega) (by first|omega| (simp only[len_setL];omega)) (tE (idx_gI d (by omega) (by first|omega| (simp only[len_setL];omega))) ?_)
   refine tI (by omega) (by first|omega| (simp only[len_setL];omega)) (tE (idx_gI d (by omega) (by first|omega| (simp only[len_setL];omega))) ?_)
   refine tI (by omega) (by first|omega| (simp only[len_setL];omega)) (tE (idx_gI d (by omega) (by first|omega| (simp only[len_setL];omega))) ?_)
   refine tI (by omega) (by first|omega| (simp only[len_setL];omega)) (tE (idx_gI d (by omega) (by first|omega| (simp only[len_setL];omega))) ?_)
   have s1:Rp d a b l (swp d D r (r-1)):=i5.swp h0 (by omega) (by omega) (by omega) (by omega) (by omega)
   have hl1:=s1.len
   refine tB (Q:=fun s:PUnit×List α=>Rp d a b l s.2/\Sd lt d a r s.2) ?_ fun s=>?_
   ·refine tD (fun h2=>?_) (fun h2=>tS ⟨s1,fun u v k1 k2 k3=>by omega⟩)
    refine tB (shL hc ho h14 (d:=d) (b:=b) (c:=j) (r:=r) (D:=swp d D r (r-1)) h0 (by omega) (by omega) (by omega) (s1.al hal) (fun u v k1 k2 k3=>?_) (fun ha k k1 k2=>?_) (by omega)) fun s=>?_
    ·rw[gI_swp (by omega) (by omega) (by omega) (by omega) (by omega),gI_swp (by omega) (by omega) (by omega) (by omega) (by omega),if_neg (by omega),if_neg (by omega),if_neg (by omega),if_neg (by omega)]
     exact hsr u v k1 k2 (by omega)
    ·rw[s1.out (a-1) (by omega) (.inl (by omega))]
     exact s1.all (fun x=>¬lt x (gI d l (a-1))) (hp ha) k k1 (by omega)
    ·rintro⟨q1,q2⟩
     exact tS ⟨s1.trans (q1.wide (QC _) (by omega) h0),q2⟩
   ·rintro⟨q1,q2⟩
    have hl2:=q1.len
    refine tD (fun h2=>?_) (fun h2=>?_)
    ·refine tB (shR hc h20 (d:=d) (a:=a) (b:=b) (c:=j) (r:=r) (D:=s.2) (by omega) (by omega) (by omega) (q1.al hal) (by omega)) fun t=>?_
     intro t1
     refine rec_ ((r,j+1),t.2) ⟨by dsimp only;omega,by dsimp only;omega,by dsimp only;omega,by dsimp only;omega,q1.trans (t1.wide (by omega) (QC _) h0),fun u v k1 k2 k3=>?_⟩ (by dsimp only;omega)
     dsimp only at k3⊢
     rw[t1.out u (by omega) (.inl (by omega)),t1.out v (by omega) (.inl (by omega))]
     exact q2 u v k1 k2 k3
    ·exact rec_ ((r,j+1),s.2) ⟨by dsimp only;omega,by dsimp only;omega,by dsimp only;omega,by dsimp only;omega,q1,q2⟩ (by dsimp only;omega)
 ·intro hs
  rcases s with s|s
  ·exact tS ⟨hs,fun h=>by cases h⟩
  ·exact tS hs
end
theorem bitAnd_le {x y:Int} (h0:0<=y) (h1:y<2^62):0<=bitAnd .u64 x y/\bitAnd .u64 x y<=y:=by
 have e:bitAnd .u64 x y=IntKind.wrap .u64 (((BitVec.ofInt 64 x&&& BitVec.ofInt 64 y).toNat:Nat):Int):=rfl
 have h2:(BitVec.ofInt 64 x&&& BitVec.ofInt 64 y).toNat<=(BitVec.ofInt 64 y).toNat:=by
  rw[BitVec.toNat_and];exact Nat.and_le_right
 have h3:(BitVec.ofInt 64 y).toNat=y.toNat:=by
  rw[BitVec.toNat_ofInt];omega
 rw[e,IntKind.wrap_u64]
 omega
section
variable {n:Nat} {d:α} {np:Int->Option Int} {xs:Unit->Int->Option (Int×Int)} (hN:∀k,8<=k->k<256->∃M,np k=some M/\0<M/\M<=2*k) (hX:∀x,∃r,xs () x=some r)
 {B5:Int->Int->Int->Nat->(Int×Int×List α)->Option (PUnit×List α)} {brk:Unit×Int×Int×(Unit×Unit)->List α->Option (PUnit×List α)}
 (h5:∀(x1:Int) (x2:Int) (r4:Int) (m:Nat) (x5:Int) (x6:Int) (x7:List α),B5 x1 x2 r4 (m+1) (x5,(x6,x7))=
   bif !((4:Int)==(0:Int)) then
    bif decide (x5<=(IntKind.wrap .i64 ((IntKind.wrap .i64 (x1+(IntKind.wrap .i64 ((IntKind.wrap .i64 (Int.tdiv (IntKind.wrap .i64 (x2-x1)) (4:Int)))*(2:Int)))))+(1:Int)))) then
     (xs (()) x6).bind fun (r8:Int×Int)=>
     Option.bind (α:=Int) (
      bif decide ((IntKind.wrap .i64 (bitAnd .u64 r8.1 (Go.IntKind.wrap .u64 (r4-(1:Int)))))>=(IntKind.wrap .i64 (x2-x1))) then
       some (IntKind.wrap .i64 ((IntKind.wrap .i64 (bitAnd .u64 r8.1 (Go.IntKind.wrap .u64 (r4-(1:Int)))))-(IntKind.wrap .i64 (x2-x1))))
      else
       some (IntKind.wrap .i64 (bitAnd .u64 r8.1 (Go.IntKind.wrap .u64 (r4-(1:Int)))))) fun (r9:Int)=>
     bif decide (0<=(IntKind.wrap .i64 (x1+r9))/\(IntKind.wrap .i64 (x1+r9))< ((x7.length:Nat):Int)) then
      (idxL x7 (IntKind.wrap .i64 (x1+r9))).bind fun (r10:α)=>
      bif decide (0<=x5/\x5< ((x7.length:Nat):Int)) then
       (idxL x7 x5).bind fun (r11:α)=>
       bif decide (0<=x5/\x5< ((x7.length:Nat):Int)) then
        (idxL x7 x5).bind fun (r12:α)=>
        bif decide (0<=(IntKind.wrap .i64 (x1+r9))/\(IntKind.wrap .i64 (x1+r9))< (((setL x7 x5 r10).length:Nat):Int)) then
         (idxL (setL x7 x5 r10) (IntKind.wrap .i64 (x1+r9))).bind fun (r13:α)=>
         B5 x1 x2 r4 m ((IntKind.wrap .i64 (x5+(1:Int)),(r8.2,setL (setL x7 x5 r10) (IntKind.wrap .i64 (x1+r9)) r11)))
        else
         none
       else
        none
      else
       none
     else
      none
    else
     some (((),x7))
   else
    none)
 (hP:∀(x1:Int) (x2:Int) (x3:List α),brk (((),(x1,(x2,((),()))))) (x3)=
   bif decide ((IntKind.wrap .i64 (x2-x1))>=(8:Int)) then
    (np (IntKind.wrap .i64 (x2-x1))).bind fun (r4:Int)=>
    bif !((4:Int)==(0:Int)) then
     (B5 x1 x2 r4 n ((IntKind.wrap .i64 ((IntKind.wrap .i64 (x1+(IntKind.wrap .i64 ((IntKind.wrap .i64 (Int.tdiv (IntKind.wrap .i64 (x2-x1)) (4:Int)))*(2:Int)))))-(1:Int)),(Go.IntKind.wrap .u64 (IntKind.wrap .i64 (x2-x1)),x3)))).bind fun (r14:PUnit×List α)=>
     some (((),r14.2))
    else
     none
   else
    some (((),x3)))
include hN hX h5 hP
theorem brkAll {a b:Int} {l:List α} (h0:0<=a) (hab:a<=b) (hbl:b<=l.length) (hb:l.length<256) (hn:8<n):
 ∃r,brk ((),a,b,((),())) l=some r/\Rp d a b l r.2:=by
 have ht:Int.tdiv (b-a) 4=(b-a)/4:=Int.tdiv_eq_ediv_of_nonneg (by omega)
 rw[hP]
 simp (disch:=omega) only[wr]
 refine tD (fun h8=>?_) (fun h8=>tS (.refl _ _ _ _))
 obtain⟨M,e,m1,m2⟩:=hN (b-a) h8 (by omega)
 refine tE e (tG (by decide) ?_)
 simp (disch:=omega) only[wr,ht]
 refine tB (Q:=fun s:PUnit×List α=>Rp d a b l s.2) ?_ fun s hs=>tS hs
 generalize IntKind.wrap .u64 (b-a)=z
 refine mu (τ:=Int×Int×List α) (L:=B5 a b M) (fun p=>a+(b-a)/4*2-1<=p.1/\p.1<=a+(b-a)/4*2+2/\Rp d a b l p.2.2) (fun p=>(a+(b-a)/4*2+2-p.1).toNat) _ ?_ n (a+(b-a)/4*2-1,(z,l)) ⟨QC _,by dsimp only;omega,.refl _ _ _ _⟩ (by dsimp only;omega)
 rintro m ⟨x,y,D⟩ ⟨i1,i2,i3⟩ rec_
 dsimp only at i1 i2 i3 rec_⊢
 have hl:=i3.len
 rw[h5]
 refine tG (by decide) ?_
 simp (disch:=omega) only[wr,ht]
 refine tD (fun hx=>?_) (fun hx=>tS i3)
 obtain⟨q,hq⟩:=hX y
 refine tE hq ?_
 have hw:IntKind.wrap .u64 (M-1)=M-1:=by rw[IntKind.wrap_u64];omega
 rw[hw]
 obtain⟨b1,b2⟩:=bitAnd_le (x:=q.1) (y:=M-1) (by omega) (by omega)
 generalize bitAnd .u64 q.1 (M-1)=v at*
 simp (disch:=omega) only[wr]
 refine tB (Q:=fun o:Int=>0<=o/\o<b-a) ?_ fun o=>?_
 ·exact tD (fun h=>tS (by omega)) (fun h=>tS (by omega))
 ·rintro⟨o1,o2⟩
  simp (disch:=omega) only[wr]
  refine tI (by omega) (by first|omega| (simp only[len_setL];omega)) (tE (idx_gI d (by omega) (by first|omega| (simp only[len_setL];omega))) ?_)
  refine tI (by omega) (by first|omega| (simp only[len_setL];omega)) (tE (idx_gI d (by omega) (by first|omega| (simp only[len_setL];omega))) ?_)
  refine tI (by omega) (by first|omega| (simp only[len_setL];omega)) (tE (idx_gI d (by omega) (by first|omega| (simp only[len_setL];omega))) ?_)
  refine tI (by omega) (by first|omega| (simp only[len_setL];omega)) (tE (idx_gI d (by omega) (by first|omega| (simp only[len_setL];omega))) ?_)
  exact rec_ (x+1,(q.2,swp d D x (a+o))) ⟨by dsimp only;omega,by dsimp only;omega,i3.swp h0 (by omega) (by omega) (by omega) (by omega) (by omega)⟩ (by dsimp only;omega)
end
section
variable {n:Nat} (d:α) {Ok:α->Prop} {lt:α->α->Prop} {K:{β:Type}->α->α->(Bool->Option β)->Option β} (hc:CmpO Ok lt K)
 {o2:List α×Int×Int×Unit×Unit×Unit->Int->Option ((Int×Int)×Int)} {med:List α×Int×Int×Int×Unit×Unit×Unit->Int->Option (Int×Int)} {mad:List α×Int×Unit×Unit×Unit->Int->Option (Int×Int)} {cho:List α×Int×Int×Unit×Unit->Option (Int×Int)}
 (h2:∀(x1:List α) (x2:Int) (x3:Int) (x4:Int),o2 ((x1,(x2,(x3,((),((),())))))) (x4)=
   (idxL x1 x3).bind fun (r5:α)=>
   (idxL x1 x2).bind fun (r6:α)=>
   K r5 r6 fun (r7:Bool)=>
   bif r7 then
    some (((x3,x2),IntKind.wrap .i64 (x4+(1:Int))))
   else
    some (((x2,x3),x4)))
 (h3:∀(x1:List α) (x2:Int) (x3:Int) (x4:Int) (x5:Int),med ((x1,(x2,(x3,(x4,((),((),()))))))) (x5)=
   (o2 ((x1,(x2,(x3,((),((),())))))) x5).bind fun (r6:(Int×Int)×Int)=>
   (o2 ((x1,(r6.1.2,(x4,((),((),())))))) r6.2).bind fun (r7:(Int×Int)×Int)=>
   (o2 ((x1,(r6.1.1,(r7.1.1,((),((),())))))) r7.2).bind fun (r8:(Int×Int)×Int)=>
   some ((r8.1.2,r8.2)))
 (h4:∀(x1:List α) (x2:Int) (x3:Int),mad ((x1,(x2,((),((),()))))) (x3)=
   (med ((x1,(IntKind.wrap .i64 (x2-(1:Int)),(x2,(IntKind.wrap .i64 (x2+(1:Int)),((),((),()))))))) x3).bind fun (r4:Int×Int)=>
   some ((r4.1,r4.2)))
 (hP:∀(x1:List α) (x2:Int) (x3:Int),cho (x1,(x2,(x3,((),()))))=
   bif !((4:Int)==(0:Int)) then
    bif !((4:Int)==(0:Int)) then
     bif !((4:Int)==(0:Int)) then
      bif decide ((IntKind.wrap .i64 (x3-x2))>=(8:Int)) then
       bif decide ((IntKind.wrap .i64 (x3-x2))>=((50:Int))) then
        (mad ((x1,(IntKind.wrap .i64 (x2+(IntKind.wrap .i64 ((IntKind.wrap .i64 (Int.tdiv (IntKind.wrap .i64 (x3-x2)) (4:Int)))*(1:Int)))),((),((),()))))) (0:Int)).bind fun (r4:Int×Int)=>
        (mad ((x1,(IntKind.wrap .i64 (x2+(IntKind.wrap .i64 ((IntKind.wrap .i64 (Int.tdiv (IntKind.wrap .i64 (x3-x2)) (4:Int)))*(2:Int)))),((),((),()))))) r4.2).bind fun (r5:Int×Int)=>
        (mad ((x1,(IntKind.wrap .i64 (x2+(IntKind.wrap .i64 ((IntKind.wrap .i64 (Int.tdiv (IntKind.wrap .i64 (x3-x2)) (4:Int)))*(3:Int)))),((),((),()))))) r5.2).bind fun (r6:Int×Int)=>
        (med ((x1,(r4.1,(r5.1,(r6.1,((),((),()))))))) r6.2).bind fun (r7:Int×Int)=>
        bif r7.2==(0:Int) then
         some ((r7.1,(1:Int)))
        else
         bif r7.2==((12:Int)) then
          some ((r7.1,(2:Int)))
         else
          some ((r7.1,(0:Int)))
       else
        (med ((x1,(IntKind.wrap .i64 (x2+(IntKind.wrap .i64 ((IntKind.wrap .i64 (Int.tdiv (IntKind.wrap .i64 (x3-x2)) (4:Int)))*(1:Int)))),(IntKind.wrap .i64 (x2+(IntKind.wrap .i64 ((IntKind.wrap .i64 (Int.tdiv (IntKind.wrap .i64 (x3-x2)) (4:Int)))*(2:Int)))),(IntKind.wrap .i64 (x2+(IntKind.wrap .i64 ((IntKind.wrap .i64 (Int.tdiv (IntKind.wrap .i64 (x3-x2)) (4:Int)))*(3:Int)))),((),((),()))))))) (0:Int)).bind fun (r8:Int×Int)=>
        bif r8.2==(0:Int) then
         some ((r8.1,(1:Int)))
        else
         bif r8.2==((12:Int)) then
          some ((r8.1,(2:Int)))
         else
          some ((r8.1,(0:Int)))
      else
       bif (0:Int)==(0:Int) then
        some ((IntKind.wrap .i64 (x2+(IntKind.wrap .i64 ((IntKind.wrap .i64 (Int.tdiv (IntKind.wrap .i64 (x3-x2)) (4:Int)))*(2:Int)))),(1:Int)))
       else
        bif (0:Int)==((12:Int)) then
         some ((IntKind.wrap .i64 (x2+(IntKind.wrap .i64 ((IntKind.wrap .i64 (Int.tdiv (IntKind.wrap .i64 (x3-x2)) (4:Int)))*(2:Int)))),(2:Int)))
        else
         some ((IntKind.wrap .i64 (x2+(IntKind.wrap .i64 ((IntKind.wrap .i64 (Int.tdiv (IntKind.wrap .i64 (x3-x2)) (4:Int)))*(2:Int)))),(0:Int)))
     else
      none
    else
     none
   else
    none)
include d hc h2
theorem ord2 {l:List α} {x y z:Int} (hal:Al Ok l) (h1:0<=x) (h3:x<l.length) (h4:0<=y) (h5:y<l.length):∃r,o2 (l,x,y,(),(),()) z=some r/\((r.1.1=y/\r.1.2=x)\/(r.1.1=x/\r.1.2=y)):=by
 rw[h2]
 refine tE (idx_gI d (by omega) (by omega)) (tE (idx_gI d (by omega) (by omega)) (tM hc (hal.at d (by omega) (by omega)) (hal.at d (by omega) (by omega)) fun q hq=>?_))
 exact tD (fun _=>tS (.inl ⟨rfl,rfl⟩)) (fun _=>tS (.inr ⟨rfl,rfl⟩))
include h3
theorem medAll {l:List α} {x y w z a b:Int} (hal:Al Ok l) (h0:0<=a) (hb:b<=l.length) (k1:a<=x/\x<b) (k2:a<=y/\y<b) (k3:a<=w/\w<b):∃r,med (l,x,y,w,(),(),()) z=some r/\a<=r.1/\r.1<b:=by
 rw[h3]
 refine tB (ord2 hc h2 (d:=d) hal (by omega) (by omega) (by omega) (by omega)) fun r hr=>?_
 have r1:a<=r.1.1/\r.1.1<b/\a<=r.1.2/\r.1.2<b:=by omega
 refine tB (ord2 hc h2 (d:=d) hal (by omega) (by omega) (by omega) (by omega)) fun s hs=>?_
 have s1:a<=s.1.1/\s.1.1<b/\a<=s.1.2/\s.1.2<b:=by omega
 refine tB (ord2 hc h2 (d:=d) hal (by omega) (by omega) (by omega) (by omega)) fun t ht=>?_
 exact tS (by dsimp only;omega)
include h4
theorem madAll {l:List α} {x z a b:Int} (hal:Al Ok l) (h0:0<=a) (hb:b<=l.length) (hl:l.length<2^57) (k1:a<x/\x+1<b):∃r,mad (l,x,(),(),()) z=some r/\a<=r.1/\r.1<b:=by
 rw[h4]
 simp (disch:=omega) only[wr]
 exact tB (medAll hc h2 h3 (d:=d) (a:=a) (b:=b) hal h0 hb (by omega) (by omega) (by omega)) fun r hr=>tS hr
include hP
theorem choAll {l:List α} {a b:Int} (hal:Al Ok l) (h0:0<=a) (hb:b<=l.length) (hl:l.length<2^57) (hab:12<b-a):∃r,cho (l,a,b,(),())=some r/\a<=r.1/\r.1<b:=by
 have ht:Int.tdiv (b-a) 4=(b-a)/4:=Int.tdiv_eq_ediv_of_nonneg (by omega)
 rw[hP]
 refine tG (by decide) (tG (by decide) (tG (by decide) ?_))
 simp (disch:=omega) only[wr,ht]
 have fin:∀q:Int×Int,a<=q.1/\q.1<b->∃r,(bif q.2==(0:Int) then some ((q.1,(1:Int))) else bif q.2==(12:Int) then some ((q.1,(2:Int))) else some ((q.1,(0:Int))))=some r/\a<=r.1/\r.1<b:=fun q hq=>tC (fun _=>tS hq) (fun _=>tC (fun _=>tS hq) (fun _=>tS hq))
 refine tD (fun _=>?_) (fun h=>by omega)
 refine tD (fun h50=>?_) (fun _=>?_)
 ·refine tB (madAll hc h2 h3 h4 (d:=d) (a:=a) (b:=b) hal h0 hb hl (by omega)) fun r hr=>?_
  refine tB (madAll hc h2 h3 h4 (d:=d) (a:=a) (b:=b) hal h0 hb hl (by omega)) fun s hs=>?_
  refine tB (madAll hc h2 h3 h4 (d:=d) (a:=a) (b:=b) hal h0 hb hl (by omega)) fun t ht=>?_
  exact tB (medAll hc h2 h3 (d:=d) (a:=a) (b:=b) hal h0 hb hr hs ht) fun u hu=>fin u hu
 ·exact tB (medAll hc h2 h3 (d:=d) (a:=a) (b:=b) hal h0 hb (by omega) (by omega) (by omega)) fun u hu=>fin u hu
end
end Pq
end
section
open Go Aq
namespace Pq
variable {α:Type}
def Pa (lt:α->α->Prop) (d:α) (a b x y:Int) (l:List α):Prop:=∀u v,a<=u->u<v->v<b->(u<x\/y<=v)->¬lt (gI d l v) (gI d l u)
theorem Pa.rp {lt:α->α->Prop} {d:α} {a b x y:Int} {l l':List α} (h:Pa lt d a b x y l) (k:Rp d x y l l') (ha:a<=x) (hb:y<=b) (h0:0<=a):Pa lt d a b x y l':=by
 intro u v k1 k2 k3 k4
 by_cases e1:x<=u/\u<y
 ·have hv:y<=v:=by omega
  rw[k.out v (by omega) (.inr hv)]
  exact k.all (fun z=>¬lt (gI d l v) z) (fun w w1 w2=>h w v (by omega) (by omega) k3 (.inr hv)) u e1.1 e1.2
 ·rw[k.out u (by omega) (by omega)]
  by_cases e2:x<=v/\v<y
  ·exact k.all (fun z=>¬lt z (gI d l u)) (fun w w1 w2=>h u w k1 (by omega) (by omega) (.inl (by omega))) v e2.1 e2.2
  ·rw[k.out v (by omega) (by omega)]
   exact h u v k1 k2 k3 k4
theorem Pa.fin {lt:α->α->Prop} {d:α} {a b x y:Int} {l l':List α} (h:Pa lt d a b x y l) (k:Rp d x y l l') (ha:a<=x) (hb:y<=b) (h0:0<=a) (hs:Sd lt d x y l'):Sd lt d a b l':=by
 intro u v k1 k2 k3
 by_cases e:u<x\/y<=v
 ·exact h.rp k ha hb h0 u v k1 k2 k3 e
 ·exact hs u v (by omega) k2 (by omega)
section
variable {n:Nat} {d:α} {Ok:α->Prop} {lt:α->α->Prop} {K:{β:Type}->α->α->(Bool->Option β)->Option β} (hc:CmpO Ok lt K) (ho:Ord lt)
 {ins heap brk rev:Unit×Int×Int×(Unit×Unit)->List α->Option (PUnit×List α)} {cho:List α×Int×Int×Unit×Unit->Option (Int×Int)} {pin:Unit×Int×Int×(Unit×Unit)->List α->Option (Bool×List α)}
 {peq:Unit×Int×Int×Int×(Unit×Unit)->List α->Option (Int×List α)} {prt:Unit×Int×Int×Int×(Unit×Unit)->List α->Option ((Int×Bool)×List α)}
 (hIns:∀{a b:Int} {l:List α},0<=a->a<=b->b<=l.length->l.length<256->Al Ok l->∃r,ins ((),a,b,((),())) l=some r/\Rp d a b l r.2/\Sd lt d a b r.2)
 (hHeap:∀{a b:Int} {l:List α},0<=a->a<=b->b<=l.length->l.length<256->Al Ok l->∃r,heap ((),a,b,((),())) l=some r/\Rp d a b l r.2/\Sd lt d a b r.2)
 (hBrk:∀{a b:Int} {l:List α},0<=a->a<=b->b<=l.length->l.length<256->∃r,brk ((),a,b,((),())) l=some r/\Rp d a b l r.2)
 (hCho:∀{a b:Int} {l:List α},Al Ok l->0<=a->b<=l.length->l.length<256->12<b-a->∃r,cho (l,a,b,(),())=some r/\a<=r.1/\r.1<b)
 (hRev:∀{a b:Int} {l:List α},0<=a->a<=b->b<=l.length->l.length<256->∃r,rev ((),a,b,((),())) l=some r/\Rp d a b l r.2)
 (hPin:∀{a b:Int} {l:List α},0<=a->a<b->b<=l.length->l.length<256->Al Ok l->(0<a->∀k,a<=k->k<b->¬lt (gI d l k) (gI d l (a-1)))->∃r,pin ((),a,b,((),())) l=some r/\Rp d a b l r.2/\(r.1=true->Sd lt d a b r.2))
 (hPeq:∀{a b p:Int} {l:List α},0<=a->b<=l.length->l.length<256->Al Ok l->a<=p->p<b->∃r,peq ((),a,b,p,((),())) l=some r/\a<r.1/\r.1<=b/\Rp d a b l r.2/\gI d r.2 a=gI d l p/\(∀k,a<k->k<r.1->¬lt (gI d r.2 a) (gI d r.2 k))/\(∀k,r.1<=k->k<b->lt (gI d r.2 a) (gI d r.2 k)))
 (hPrt:∀{a b p:Int} {l:List α},0<=a->b<=l.length->l.length<256->Al Ok l->a<=p->p<b->∃r,prt ((),a,b,p,((),())) l=some r/\Parts lt d a b r.1.1 l r.2)
 {PL:Nat->Nat->(Int×Int×Int×Bool×Bool)×List α->Option (PUnit×List α)} {pd:Nat->Unit×Int×Int×Int×(Unit×Unit)->List α->Option (PUnit×List α)}
 (hPL:∀(g:Nat) (m:Nat) (x5:Int) (x6:Int) (x7:Int) (x8:Bool) (x9:Bool) (x10:List α),PL g (m+1) ((x5,(x6,(x7,(x8,x9)))),x10)=
   bif decide ((IntKind.wrap .i64 (x6-x5))<=(12:Int)) then
    (ins (((),(x5,(x6,((),()))))) x10).bind fun (r11:PUnit×List α)=>
    some (((),r11.2))
   else
    bif x7==(0:Int) then
     (heap (((),(x5,(x6,((),()))))) x10).bind fun (r12:PUnit×List α)=>
     some (((),r12.2))
    else
     Option.bind (α:=Int×List α) (
      bif !x8 then
       (brk (((),(x5,(x6,((),()))))) x10).bind fun (r13:PUnit×List α)=>
       some ((IntKind.wrap .i64 (x7-(1:Int)),r13.2))
      else
       some ((x7,x10))) fun (r14:Int×List α)=>
     (cho ((r14.2,(x5,(x6,((),())))))).bind fun (r15:Int×Int)=>
     Option.bind (α:=(Int×Int)×List α) (
      bif r15.2==(2:Int) then
       (rev (((),(x5,(x6,((),()))))) r14.2).bind fun (r16:PUnit×List α)=>
       some (((IntKind.wrap .i64 ((IntKind.wrap .i64 (x6-(1:Int)))-(IntKind.wrap .i64 (r15.1-x5))),(1:Int)),r16.2))
      else
       some (((r15.1,r15.2),r14.2))) fun (r17:(Int×Int)×List α)=>
     Option.bind (α:=(PUnit×List α)⊕(PUnit×List α)) (
      bif bif bif x8 then x9 else false then r17.1.2==(1:Int) else false then
       (pin (((),(x5,(x6,((),()))))) r17.2).bind fun (r18:Bool×List α)=>
       bif r18.1 then
        some (.inr (((),r18.2)))
       else
        some (.inl (((),r18.2)))
      else
       some (.inl (((),r17.2)))) fun (r19:(PUnit×List α)⊕(PUnit×List α))=>
     Sum.elim (fun (q20:PUnit×List α)=>
      bif decide (x5> (0:Int)) then
       bif decide (0<=(IntKind.wrap .i64 (x5-(1:Int)))/\(IntKind.wrap .i64 (x5-(1:Int)))< ((q20.2.length:Nat):Int)) then
        (idxL q20.2 (IntKind.wrap .i64 (x5-(1:Int)))).bind fun (r22:α)=>
        bif decide (0<=r17.1.1/\r17.1.1< ((q20.2.length:Nat):Int)) then
         (idxL q20.2 r17.1.1).bind fun (r23:α)=>
         K r22 r23 fun (r24:Bool)=>
         bif !(r24) then
          (peq (((),(x5,(x6,(r17.1.1,((),())))))) q20.2).bind fun (r25:Int×List α)=>
          PL g m (((r25.1,(x6,(r14.1,(x8,x9)))),r25.2))
         else
          (prt (((),(x5,(x6,(r17.1.1,((),())))))) q20.2).bind fun (r26:(Int×Bool)×List α)=>
          bif !((8:Int)==(0:Int)) then
           bif decide ((IntKind.wrap .i64 (r26.1.1-x5))< (IntKind.wrap .i64 (x6-r26.1.1))) then
            (pd g (((),(x5,(r26.1.1,(r14.1,((),())))))) r26.2).bind fun (r27:PUnit×List α)=>
            PL g m (((IntKind.wrap .i64 (r26.1.1+(1:Int)),(x6,(r14.1,(decide ((IntKind.wrap .i64 (r26.1.1-x5))>=(IntKind.wrap .i64 (Int.tdiv (IntKind.wrap .i64 (x6-x5)) (8:Int)))),r26.1.2)))),r27.2))
           else
            (pd g (((),(IntKind.wrap .i64 (r26.1.1+(1:Int)),(x6,(r14.1,((),())))))) r26.2).bind fun (r28:PUnit×List α)=>
            PL g m (((x5,(r26.1.1,(r14.1,(decide ((IntKind.wrap .i64 (x6-r26.1.1))>=(IntKind.wrap .i64 (Int.tdiv (IntKind.wrap .i64 (x6-x5)) (8:Int)))),r26.1.2)))),r28.2))
          else
           none
        else
         none
       else
        none
      else
       (prt (((),(x5,(x6,(r17.1.1,((),())))))) q20.2).bind fun (r29:(Int×Bool)×List α)=>
       bif !((8:Int)==(0:Int)) then
        bif decide ((IntKind.wrap .i64 (r29.1.1-x5))< (IntKind.wrap .i64 (x6-r29.1.1))) then
         (pd g (((),(x5,(r29.1.1,(r14.1,((),())))))) r29.2).bind fun (r30:PUnit×List α)=>
         PL g m (((IntKind.wrap .i64 (r29.1.1+(1:Int)),(x6,(r14.1,(decide ((IntKind.wrap .i64 (r29.1.1-x5))>=(IntKind.wrap .i64 (Int.tdiv (IntKind.wrap .i64 (x6-x5)) (8:Int)))),r29.1.2)))),r30.2))
        else
         (pd g (((),(IntKind.wrap .i64 (r29.1.1+(1:Int)),(x6,(r14.1,((),())))))) r29.2).bind fun (r31:PUnit×List α)=>
         PL g m (((x5,(r29.1.1,(r14.1,(decide ((IntKind.wrap .i64 (x6-r29.1.1))>=(IntKind.wrap .i64 (Int.tdiv (IntKind.wrap .i64 (x6-x5)) (8:Int)))),r29.1.2)))),r31.2))
       else
        none)
      (fun (q21:PUnit×List α)=>
       some (((),q21.2))) r19)
 (hPd:∀(g:Nat) (x1:Int) (x2:Int) (x3:Int) (x4:List α),pd (g+1) (((),(x1,(x2,(x3,((),())))))) (x4)=
   (PL g n (((x1,(x2,(x3,(true,true)))),x4))).bind fun (r32:PUnit×List α)=>
   some (((),r32.2)))
include hc ho hIns hHeap hBrk hCho hRev hPin hPeq hPrt hPL hPd
theorem pdqAll (hn:300<n):∀(g:Nat) (a b lim:Int) (l:List α),(b-a).toNat<g->0<=a->a<=b->b<=l.length->l.length<256->Al Ok l->(0<a->∀k,a<=k->k<b->¬lt (gI d l k) (gI d l (a-1)))->∃r,pd g ((),a,b,lim,((),())) l=some r/\Rp d a b l r.2/\Sd lt d a b r.2:=by
 intro g
 induction g with
 |zero=>intro a b lim l h;omega
 |succ g ih=>
  intro a b lim l hg h0 hab hbl hb hal hp
  rw[hPd]
  refine tB (Q:=fun r:PUnit×List α=>Rp d a b l r.2/\Sd lt d a b r.2) ?_ fun r hr=>tS hr
  refine mu (τ:=(Int×Int×Int×Bool×Bool)×List α) (L:=PL g) (fun p=>a<=p.1.1/\p.1.1<=p.1.2.1/\p.1.2.1<=b/\Rp d a b l p.2/\Pa lt d a b p.1.1 p.1.2.1 p.2) (fun p=>(p.1.2.1-p.1.1).toNat) _ ?_ n ((a,(b,(lim,(true,true)))),l)
   ⟨QC _,hab,QC _,.refl _ _ _ _,fun u v k1 k2 k3 k4=>by dsimp only at k4;omega⟩ (by dsimp only;omega)
  rintro m ⟨⟨x5,x6,x7,x8,x9⟩,D⟩ ⟨i1,i2,i3,i4,i5⟩ rec_
  dsimp only at i1 i2 i3 i4 i5 rec_⊢
  have hl:=i4.len
  have pre:∀{D':List α},Rp d x5 x6 D D'->0<x5->∀k,x5<=k->k<x6->¬lt (gI d D' k) (gI d D' (x5-1)):=fun {D'} hD hx k k1 k2=>by
   have hP:=i5.rp hD i1 i3 h0
   by_cases e:a<x5
   ·exact hP (x5-1) k (by omega) (by omega) (by omega) (.inl (by omega))
   ·have e':x5=a:=by omega
    have hw:=i4.trans (hD.wide i1 i3 h0)
    rw[e',hw.out (a-1) (by omega) (.inl (by omega))]
    exact hw.all (fun z=>¬lt z (gI d l (a-1))) (hp (by omega)) k (by omega) (by omega)
  rw[hPL]
  simp (disch:=omega) only[wr]
  refine tD (fun _=>?_) (fun h12=>?_)
  ·refine tB (hIns (a:=x5) (b:=x6) (l:=D) (by omega) i2 (by omega) (by omega) (i4.al hal)) fun r=>?_
   rintro⟨r1,r2⟩
   exact tS ⟨i4.trans (r1.wide i1 i3 h0),i5.fin r1 i1 i3 h0 r2⟩
  refine tC (fun _=>?_) (fun _=>?_)
  ·refine tB (hHeap (a:=x5) (b:=x6) (l:=D) (by omega) i2 (by omega) (by omega) (i4.al hal)) fun r=>?_
   rintro⟨r1,r2⟩
   exact tS ⟨i4.trans (r1.wide i1 i3 h0),i5.fin r1 i1 i3 h0 r2⟩
  refine tB (Q:=fun s:Int×List α=>Rp d x5 x6 D s.2) ?_ fun s hs=>?_
  ·refine tC (fun _=>?_) (fun _=>tS (.refl _ _ _ _))
   exact tB (hBrk (a:=x5) (b:=x6) (l:=D) (by omega) i2 (by omega) (by omega)) fun r hr=>tS hr
  have hl1:=hs.len
  refine tB (hCho (a:=x5) (b:=x6) (l:=s.2) (hs.al (i4.al hal)) (by omega) (by omega) (by omega) (by omega)) fun c=>?_
  rintro⟨c1,c2⟩
  refine tB (Q:=fun t:(Int×Int)×List α=>x5<=t.1.1/\t.1.1<x6/\Rp d x5 x6 D t.2) ?_ fun t=>?_
  ·refine tC (fun _=>?_) (fun _=>tS ⟨c1,c2,hs⟩)
   refine tB (hRev (a:=x5) (b:=x6) (l:=s.2) (by omega) i2 (by omega) (by omega)) fun r hr=>?_
   simp (disch:=omega) only[wr]
   exact tS ⟨by dsimp only;omega,by dsimp only;omega,hs.trans hr⟩
  rintro⟨t1,t2,t3⟩
  have hl2:=t3.len
  refine tB (Q:=fun w:(PUnit×List α)⊕(PUnit×List α)=>Sum.elim (fun q:PUnit×List α=>Rp d x5 x6 D q.2) (fun q:PUnit×List α=>Rp d x5 x6 D q.2/\Sd lt d x5 x6 q.2) w) ?_ fun w hw=>?_
  ·refine tC (fun _=>?_) (fun _=>tS t3)
   refine tB (hPin (a:=x5) (b:=x6) (l:=t.2) (by omega) (by omega) (by omega) (by omega) (t3.al (i4.al hal)) (pre t3)) fun r=>?_
   rintro⟨r1,r2⟩
   exact tC (fun h=>tS ⟨t3.trans r1,r2 h⟩) (fun _=>tS (t3.trans r1))
  rcases w with q|q
  ·have d1:Rp d x5 x6 D q.2:=hw
   have hl1:=d1.len
   change∃r,(bif decide (x5>0) then _ else _)=some r/\_
   generalize q.2=D1 at*
   refine tD (fun hx0=>?_) (fun hx0=>?_)
   ·refine tI (by omega) (by omega) (tE (idx_gI d (by omega) (by omega)) (tI (by omega) (by omega) (tE (idx_gI d (by omega) (by omega)) (tM hc ((d1.al (i4.al hal)).at d (by omega) (by omega)) ((d1.al (i4.al hal)).at d (by omega) (by omega)) fun z hz=>?_))))
    refine tN (fun hlt=>?_) (fun hlt=>?_)
    ·have hlt':¬lt (gI d D1 (x5-1)) (gI d D1 t.1.1):=fun k=>hlt (hz.2 k)
     refine tB (hPeq (a:=x5) (b:=x6) (p:=t.1.1) (l:=D1) (by omega) (by omega) (by omega) (d1.al (i4.al hal)) t1 t2) fun r=>?_
     rintro⟨r1,r2,r3,r4,r5,r6⟩
     have hl3:=r3.len
     have d2:=d1.trans r3
     have P2:=i5.rp (x:=x5) (y:=x6) d2 i1 i3 h0
     refine rec_ _ ⟨by dsimp only;omega,by dsimp only;omega,by dsimp only;omega,i4.trans (d2.wide i1 i3 h0),fun u v k1 k2 k3 k4=>?_⟩ (by dsimp only;omega)
     dsimp only at k4⊢
     by_cases e:u<x5\/x6<=v
     ·exact P2 u v k1 k2 k3 e
     ·have hu:¬lt (gI d r.2 x5) (gI d r.2 u):=by
       by_cases e2:u=x5
       ·rw[e2];exact ho.irr _
       ·exact r5 u (by omega) (by omega)
      have hv:¬lt (gI d r.2 v) (gI d r.2 x5):=by
       by_cases e2:v<r.1
       ·have h1:=pre d2 hx0 v (by omega) (by omega)
        rw[r3.out (x5-1) (by omega) (.inl (by omega))] at h1
        rw[r4]
        exact ho.neg _ _ _ h1 hlt'
       ·exact ho.asym _ _ (r6 v (by omega) (by omega))
      exact ho.neg _ _ _ hv hu
    ·refine tB (hPrt (a:=x5) (b:=x6) (p:=t.1.1) (l:=D1) (by omega) (by omega) (by omega) (d1.al (i4.al hal)) t1 t2) fun r=>?_
     intro hr
     obtain⟨p1,p2,p3,p4,p5⟩:=hr
     have hl3:=p3.len
     have d2:=d1.trans p3
     have P2:=i5.rp (x:=x5) (y:=x6) d2 i1 i3 h0
     have hal3:=d2.al (i4.al hal)
     refine tG (by decide) ?_
     simp (disch:=omega) only[wr]
     refine tD (fun hlt=>?_) (fun hlt=>?_)
     ·refine tB (ih x5 r.1.1 _ r.2 (by omega) (by omega) (by omega) (by omega) (by omega) hal3 (fun hx k k1 k2=>?_)) fun s=>?_
      ·exact pre d2 hx k k1 (by omega)
      ·rintro⟨s1,s2⟩
       have hl4:=s1.len
       have em:gI d s.2 r.1.1=gI d r.2 r.1.1:=s1.out _ (by omega) (.inr (by omega))
       have s1':=s1.wide (a':=x5) (b':=x6) (by omega) (by omega) (by omega)
       refine rec_ _ ⟨by dsimp only;omega,by dsimp only;omega,by dsimp only;omega,i4.trans ((d2.trans s1').wide (by omega) (by omega) h0),fun u v k1 k2 k3 k4=>?_⟩ (by dsimp only;omega)
       dsimp only at k4⊢
       by_cases e:u<x5\/x6<=v
       ·exact P2.rp s1' i1 i3 h0 u v k1 k2 k3 e
       ·by_cases e1:v<r.1.1
        ·exact s2 u v (by omega) k2 e1
        ·have hu:¬lt (gI d s.2 r.1.1) (gI d s.2 u):=by
          by_cases e2:u=r.1.1
          ·rw[e2];exact ho.irr _
          ·rw[em]
           exact s1.all (fun z=>¬lt (gI d r.2 r.1.1) z) (fun w w1 w2=>p4 w w1 w2) u (by omega) (by omega)
         have hv:¬lt (gI d s.2 v) (gI d s.2 r.1.1):=by
          by_cases e2:v=r.1.1
          ·rw[e2];exact ho.irr _
          ·rw[em,s1.out v (by omega) (.inr (by omega))];exact p5 v (by omega) (by omega)
         exact ho.neg _ _ _ hv hu
     ·refine tB (ih (r.1.1+1) x6 _ r.2 (by omega) (by omega) (by omega) (by omega) (by omega) hal3 (fun hx k k1 k2=>?_)) fun s=>?_
      ·rw[show r.1.1+1-1=r.1.1 by omega]
       exact p5 k (by omega) k2
      ·rintro⟨s1,s2⟩
       have hl4:=s1.len
       have em:gI d s.2 r.1.1=gI d r.2 r.1.1:=s1.out _ (by omega) (.inl (by omega))
       have s1':=s1.wide (a':=x5) (b':=x6) (by omega) (by omega) (by omega)
       refine rec_ _ ⟨by dsimp only;omega,by dsimp only;omega,by dsimp only;omega,i4.trans ((d2.trans s1').wide (by omega) (by omega) h0),fun u v k1 k2 k3 k4=>?_⟩ (by dsimp only;omega)
       dsimp only at k4⊢
       by_cases e:u<x5\/x6<=v
       ·exact P2.rp s1' i1 i3 h0 u v k1 k2 k3 e
       ·by_cases e1:r.1.1<u
        ·exact s2 u v (by omega) k2 (by omega)
        ·have hu:¬lt (gI d s.2 r.1.1) (gI d s.2 u):=by
          by_cases e2:u=r.1.1
          ·rw[e2];exact ho.irr _
          ·rw[em,s1.out u (by omega) (.inl (by omega))];exact p4 u (by omega) (by omega)
         have hv:¬lt (gI d s.2 v) (gI d s.2 r.1.1):=by
          by_cases e2:v=r.1.1
          ·rw[e2];exact ho.irr _
          ·rw[em]
           exact s1.all (fun z=>¬lt z (gI d r.2 r.1.1)) (fun w w1 w2=>p5 w (by omega) w2) v (by omega) (by omega)
         exact ho.neg _ _ _ hv hu
   ·refine tB (hPrt (a:=x5) (b:=x6) (p:=t.1.1) (l:=D1) (by omega) (by omega) (by omega) (d1.al (i4.al hal)) t1 t2) fun r=>?_
    intro hr
    obtain⟨p1,p2,p3,p4,p5⟩:=hr
    have hl3:=p3.len
    have d2:=d1.trans p3
    have P2:=i5.rp (x:=x5) (y:=x6) d2 i1 i3 h0
    have hal3:=d2.al (i4.al hal)
    refine tG (by decide) ?_
    simp (disch:=omega) only[wr]
    refine tD (fun hlt=>?_) (fun hlt=>?_)
    ·refine tB (ih x5 r.1.1 _ r.2 (by omega) (by omega) (by omega) (by omega) (by omega) hal3 (fun hx k k1 k2=>?_)) fun s=>?_
     ·exact pre d2 hx k k1 (by omega)
     ·rintro⟨s1,s2⟩
      have hl4:=s1.len
      have em:gI d s.2 r.1.1=gI d r.2 r.1.1:=s1.out _ (by omega) (.inr (by omega))
      have s1':=s1.wide (a':=x5) (b':=x6) (by omega) (by omega) (by omega)
      refine rec_ _ ⟨by dsimp only;omega,by dsimp only;omega,by dsimp only;omega,i4.trans ((d2.trans s1').wide (by omega) (by omega) h0),fun u v k1 k2 k3 k4=>?_⟩ (by dsimp only;omega)
      dsimp only at k4⊢
      by_cases e:u<x5\/x6<=v
      ·exact P2.rp s1' i1 i3 h0 u v k1 k2 k3 e
      ·by_cases e1:v<r.1.1
       ·exact s2 u v (by omega) k2 e1
       ·have hu:¬lt (gI d s.2 r.1.1) (gI d s.2 u):=by
         by_cases e2:u=r.1.1
         ·rw[e2];exact ho.irr _
         ·rw[em]
          exact s1.all (fun z=>¬lt (gI d r.2 r.1.1) z) (fun w w1 w2=>p4 w w1 w2) u (by omega) (by omega)
        have hv:¬lt (gI d s.2 v) (gI d s.2 r.1.1):=by
         by_cases e2:v=r.1.1
         ·rw[e2];exact ho.irr _
         ·rw[em,s1.out v (by omega) (.inr (by omega))];exact p5 v (by omega) (by omega)
        exact ho.neg _ _ _ hv hu
    ·refine tB (ih (r.1.1+1) x6 _ r.2 (by omega) (by omega) (by omega) (by omega) (by omega) hal3 (fun hx k k1 k2=>?_)) fun s=>?_
     ·rw[show r.1.1+1-1=r.1.1 by omega]
      exact p5 k (by omega) k2
     ·rintro⟨s1,s2⟩
      have hl4:=s1.len
      have em:gI d s.2 r.1.1=gI d r.2 r.1.1:=s1.out _ (by omega) (.inl (by omega))
      have s1':=s1.wide (a':=x5) (b':=x6) (by omega) (by omega) (by omega)
      refine rec_ _ ⟨by dsimp only;omega,by dsimp only;omega,by dsimp only;omega,i4.trans ((d2.trans s1').wide (by omega) (by omega) h0),fun u v k1 k2 k3 k4=>?_⟩ (by dsimp only;omega)
      dsimp only at k4⊢
      by_cases e:u<x5\/x6<=v
      ·exact P2.rp s1' i1 i3 h0 u v k1 k2 k3 e
      ·by_cases e1:r.1.1<u
       ·exact s2 u v (by omega) k2 (by omega)
       ·have hu:¬lt (gI d s.2 r.1.1) (gI d s.2 u):=by
         by_cases e2:u=r.1.1
         ·rw[e2];exact ho.irr _
         ·rw[em,s1.out u (by omega) (.inl (by omega))];exact p4 u (by omega) (by omega)
        have hv:¬lt (gI d s.2 v) (gI d s.2 r.1.1):=by
         by_cases e2:v=r.1.1
         ·rw[e2];exact ho.irr _
         ·rw[em]
          exact s1.all (fun z=>¬lt z (gI d r.2 r.1.1)) (fun w w1 w2=>p5 w (by omega) w2) v (by omega) (by omega)
        exact ho.neg _ _ _ hv hu
  ·obtain⟨w1,w2⟩:=hw
   exact tS ⟨i4.trans (w1.wide i1 i3 h0),i5.fin w1 i1 i3 h0 w2⟩
end
end Pq
end
section
open Go Go.Proofs Aq Pq
namespace Sh
set_option maxRecDepth 100000
theorem len_le {k:Int} (h0:1<=k) (h1:k<256) (n:Nat):∃r:Int,ZO n k=some r/\0<=r/\r<10/\(2:Int)^r.toNat<=2*k:=by
 obtain⟨j,rfl⟩:∃j:Nat,k=(j:Int):=⟨k.toNat,by omega⟩
 have hj:j<256:=by omega
 have key:∀j:Fin 256,1<=j.val->∃r:UInt8,idxL tabS0 ((j.val:Nat):Int)=some r/\r.toNat<10/\2^r.toNat<=2*j.val:=by decide+kernel
 obtain⟨r,e,r1,r2⟩:=key ⟨j,hj⟩ (by show 1<=j;omega)
 have ew:IntKind.wrap .u8 ((j:Nat):Int)=(j:Int):=by rw[IntKind.wrap_u8];omega
 have d1:decide (((j:Nat):Int)>=(4294967296:Int))=false:=decide_eq_false (by omega)
 have d2:decide (((j:Nat):Int)>=(65536:Int))=false:=decide_eq_false (by omega)
 have d3:decide (((j:Nat):Int)>=(256:Int))=false:=decide_eq_false (by omega)
 rw[ZO_eq,ZQ_eq,d1,d2,d3,cond_false,cond_false,cond_false,ew]
 have e:idxL tabS0 ((j:Nat):Int)=some r:=e
 rw[e]
 refine⟨((r.toNat:Nat):Int),?_,by omega,by omega,?_⟩
 ·show some (IntKind.wrap .i64 ((0:Int)+IntKind.wrap .i64 ((r.toNat:Nat):Int)))=_
  rw[wr (i:=((r.toNat:Nat):Int)) (by omega) (by omega),Int.zero_add,wr (by omega) (by omega)]
 ·rw[Int.toNat_natCast]
  have:((2^r.toNat:Nat):Int)<=((2*j:Nat):Int):=Int.ofNat_le.2 r2
  rw[Int.natCast_pow] at this
  simpa using this
theorem next_le (n:Nat):∀k:Int,8<=k->k<256->∃M:Int,Xm n k=some M/\0<M/\M<=2*k:=by
 intro k h0 h1
 obtain⟨r,e,r0,r1,r2⟩:=len_le (k:=k) (by omega) h1 n
 have ew:IntKind.wrap .u64 k=k:=by rw[IntKind.wrap_u64];omega
 have hp:(0:Int)<2^r.toNat:=Int.pow_pos (by omega)
 have es:bitShl .u64 1 r=2^r.toNat:=by
  have:bitShl .u64 1 r=IntKind.wrap .u64 (1*2^min r.toNat 64):=rfl
  rw[this,RG (by omega),Int.one_mul,IntKind.wrap_u64]
  omega
 refine⟨2^r.toNat,?_,hp,r2⟩
 rw[Xm_eq,ew]
 refine bs e ?_
 show (bif decide ((0:Int)<=r) then some (bitShl .u64 1 r) else none)=_
 rw[decide_eq_true r0,cond_true,es]
theorem tQ {β:Type} {o o':Option β} {P:β->Prop} (h:o=o') (k:∃r,o'=some r/\P r):∃r,o=some r/\P r:=by rw[h];exact k
theorem shift_some (n:Nat):∀x:Int,∃r:Int×Int,ZP n () x=some r:=by
 intro x
 rw[ZP_eq]
 exact⟨_,rfl⟩
noncomputable abbrev KI (n:Nat) {β:Type} (a b:Int) (f:Bool->Option β):Option β:=(Xt n (a,b)).bind f
theorem less_ltC (n:Nat) (a b:Int):Xt n (a,b)=some (decide (a<b)):=by
 have e:∀x:Int,ZV n x=some false:=fun x=>(ZV_eq n x).trans (congrArg some (show (x !=x)=false by simp))
 exact(Xt_eq n a b).trans (bs (e a) rfl)
theorem ltC_ok (n:Nat):CmpO (fun _=>True) (fun a b:Int=>a<b) (KI n):=fun a b _ _=>⟨decide (a<b),by simp,fun f=>bs (less_ltC n a b) rfl⟩
theorem ordI:Ord (fun a b:Int=>a<b):=⟨fun _ _=>by omega,fun _ _ _=>by omega⟩
theorem pdq_int {n:Nat} (hn:400<n) {l:List Int} (hl:l.length<256) (lim:Int):∃r:PUnit×List Int,QQ n ((),(0:Int),((l.length:Nat):Int),lim) l=some r/\r.2.Perm l/\r.2.Pairwise fun x y=>¬y<x:=by
 have hc:=ltC_ok n
 have ho:=ordI
 have hal:Al (fun _:Int=>True) l:=fun _ _=>trivial
 have h:=pdqAll (n:=n) (d:=(0:Int)) (K:=KI n) (PL:=QQ_m_L2 n) (pd:=(fun m p q=>QQ_m n m (p.1,p.2.1,p.2.2.1,p.2.2.2.1) q)) hc ho (ins:=(fun p q=>Zj n (p.1,p.2.1,p.2.2.1) q)) (heap:=(fun p q=>Zo n (p.1,p.2.1,p.2.2.1) q)) (brk:=(fun p q=>ZI n (p.1,p.2.1,p.2.2.1) q)) (rev:=(fun p q=>Zt n (p.1,p.2.1,p.2.2.1) q)) (cho:=(fun p=>XL n (p.1,p.2.1,p.2.2.1))) (pin:=(fun p q=>Zc n (p.1,p.2.1,p.2.2.1) q)) (peq:=(fun p q=>Zg n (p.1,p.2.1,p.2.2.1,p.2.2.2.1) q)) (prt:=(fun p q=>Za n (p.1,p.2.1,p.2.2.1,p.2.2.2.1) q))
  (fun h0 h1 h2 h3 h4=>by
    refine tQ (Zj_eq ..) ?_
    exact tB (insAll (n:=n) (d:=(0:Int)) (K:=KI n) (L4:=Zj_L4 n) (L1:=Zj_L1 n) hc ho (by intros;kernel_rfl) (by intros;kernel_rfl) h0 h1 h2 (by first|omega| (dsimp only;omega)) h4 (by first|omega| (dsimp only;omega))) fun r hr=>tS hr)
  (fun h0 h1 h2 h3 h4=>heapAll (n:=n) (d:=(0:Int)) (K:=KI n) (S1:=ZM_L1 n) (sift:=(fun p q=>ZM n (p.1,p.2.1,p.2.2.1,p.2.2.2.1) q)) (H4:=Zo_L4 n) (H8:=Zo_L8 n) (heap:=(fun p q=>Zo n (p.1,p.2.1,p.2.2.1) q)) hc ho (by intros;kernel_rfl) (by intros;kernel_rfl) (by intros;kernel_rfl) (by intros;kernel_rfl) (by intros;kernel_rfl) h0 h1 h2 (by first|omega| (dsimp only;omega)) h4 (by first|omega| (dsimp only;omega)))
  (fun h0 h1 h2 h3=>brkAll (n:=n) (d:=(0:Int)) (np:=Xm n) (xs:=ZP n) (next_le n) (shift_some n) (B5:=ZI_L5 n) (brk:=(fun p q=>ZI n (p.1,p.2.1,p.2.2.1) q)) (by intros;kernel_rfl) (by intros;kernel_rfl) h0 h1 h2 h3 (by first|omega| (dsimp only;omega)))
  (fun h0 h1 h2 h3 h4=>choAll (0:Int) (K:=KI n) hc (o2:=(fun p q=>Xa n (p.1,p.2.1,p.2.2.1,p.2.2.2.1) q)) (med:=(fun p q=>Xb n (p.1,p.2.1,p.2.2.1,p.2.2.2.1,p.2.2.2.2.1) q)) (mad:=(fun p q=>Xc n (p.1,p.2.1,p.2.2.1) q)) (cho:=(fun p=>XL n (p.1,p.2.1,p.2.2.1))) (by intros;kernel_rfl) (by intros;kernel_rfl) (by intros;kernel_rfl) (by intros;kernel_rfl) h0 h1 h2 (by first|omega| (dsimp only;omega)) h4)
  (fun h0 h1 h2 h3=>by
    refine tQ (Zt_eq ..) ?_
    exact tB (revAll (n:=n) (d:=(0:Int)) (L2:=Zt_L2 n) (by intros;kernel_rfl) h0 h1 h2 (by first|omega| (dsimp only;omega)) (by first|omega| (dsimp only;omega))) fun r hr=>tS hr)
  (fun h0 h1 h2 h3 h4 h5=>pinAll (n:=n) (d:=(0:Int)) (K:=KI n) hc ho (I5:=Zc_L5 n) (I14:=Zc_L14 n) (I20:=Zc_L20 n) (IM:=Zc_L3 n) (pin:=(fun p q=>Zc n (p.1,p.2.1,p.2.2.1) q)) (by intros;kernel_rfl) (by intros;kernel_rfl) (by intros;kernel_rfl) (by intros;kernel_rfl) (by intros;kernel_rfl) h0 h1 h2 (by first|omega| (dsimp only;omega)) h4 (by first|omega| (dsimp only;omega)) h5)
  (fun h0 h1 h2 h3 h4 h5=>peqAll (n:=n) (d:=(0:Int)) (K:=KI n) hc (E3:=Zg_L3 n) (E5:=Zg_L5 n) (EM:=Zg_L503 n) (peq:=(fun p q=>Zg n (p.1,p.2.1,p.2.2.1,p.2.2.2.1) q)) (by intros;kernel_rfl) (by intros;kernel_rfl) (by intros;kernel_rfl) (by intros;kernel_rfl) h0 h1 (by first|omega| (dsimp only;omega)) h3 (by first|omega| (dsimp only;omega)) h4 h5)
  (fun h0 h1 h2 h3 h4 h5=>prtAll (n:=n) (d:=(0:Int)) (K:=KI n) hc ho (P3:=Za_L3 n) (P5:=Za_L5 n) (P13:=Za_L13 n) (P15:=Za_L15 n) (PM:=Za_L513 n) (prt:=(fun p q=>Za n (p.1,p.2.1,p.2.2.1,p.2.2.2.1) q)) (by intros;kernel_rfl) (by intros;kernel_rfl) (by intros;kernel_rfl) (by intros;kernel_rfl) (by intros;kernel_rfl) (by intros;kernel_rfl) h0 h1 (by first|omega| (dsimp only;omega)) h3 (by first|omega| (dsimp only;omega)) h4 h5)
  (by intros;kernel_rfl) (by intros;kernel_rfl) (by first|omega| (dsimp only;omega)) n 0 ((l.length:Nat):Int) lim l (by first|omega| (dsimp only;omega)) (QC _) (by first|omega| (dsimp only;omega)) (QC _) hl hal (fun h=>by omega)
 refine tQ (show QQ n ((),(0:Int),((l.length:Nat):Int),lim) l=QQ_m n n ((),(0:Int),((l.length:Nat):Int),lim) l by unfold QQ;rfl) ?_
 refine tW h fun r hr=>⟨hr.1.perm,?_⟩
 have:=hr.2
 rw[<-hr.1.len] at this
 exact this.pw
theorem sort_int {n:Nat} (hn:400<n) {l:List Int} (hl:l.length<256):∃r:PUnit×List Int,ZS n () l=some r/\r.2.Perm l/\r.2.Pairwise fun x y=>¬y<x:=by
 refine tQ (ZS_eq ..) ?_
 have hlen:∃r:Int,ZO n (IntKind.wrap .u64 ((l.length:Nat):Int))=some r:=by
  have ew:IntKind.wrap .u64 ((l.length:Nat):Int)=((l.length:Nat):Int):=by rw[IntKind.wrap_u64];omega
  rw[ew]
  by_cases h:l.length=0
  ·rw[h]
   rw[ZO_eq,ZQ_eq];exact⟨_,rfl⟩
  ·obtain⟨r,e,_⟩:=len_le (k:=((l.length:Nat):Int)) (by first|omega| (dsimp only;omega)) (by first|omega| (dsimp only;omega)) n
   exact⟨r,e⟩
 obtain⟨r,e⟩:=hlen
 exact tE e (tB (pdq_int hn hl r) fun s hs=>tS hs)
end Sh
end
