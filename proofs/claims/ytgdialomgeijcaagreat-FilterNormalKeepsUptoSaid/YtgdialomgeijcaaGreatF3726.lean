import Derived.Test.YtgdialomgeijcaaGreatF3725
set_option linter.all false
open Go.IntKind (wrap)
section
open Go Aq
namespace Pq
variable {α:Type}
def Hp (lt:α->α->Prop) (d:α) (f s hi:Int) (l:List α):Prop:=∀i c,s<=i->(c=2*i+1\/c=2*i+2)->c<hi->¬lt (gI d l (f+i)) (gI d l (f+c))
def two {β:Type} (r:(PUnit×β)⊕(PUnit×β)):β:=Sum.elim (fun q=>q.2) (fun q=>q.2) r
section
variable {d:α} {Ok:α->Prop} {lt:α->α->Prop} {cmp:α×α->Option Int} (hc:CmpO Ok lt cmp) (ho:Ord lt) {S1:Int->Int->Nat->(Int×List α)->Option ((PUnit×List α)⊕(PUnit×List α))}
 (hS1:∀(x2 x3:Int) (m:Nat) (x5:Int) (x6:List α),S1 x2 x3 (m+1) (x5,x6)=
   bif decide ((wrap .i64 ((wrap .i64 ((2:Int)*x5))+(1:Int)))>=x2) then
    some (.inl (((),x6)))
   else
    Option.bind (α:=Int) (
     bif decide ((wrap .i64 ((wrap .i64 ((wrap .i64 ((2:Int)*x5))+(1:Int)))+(1:Int)))<x2) then
      bif decide (0<=(wrap .i64 (x3+(wrap .i64 ((wrap .i64 ((2:Int)*x5))+(1:Int)))))/\(wrap .i64 (x3+(wrap .i64 ((wrap .i64 ((2:Int)*x5))+(1:Int)))))< (x6.length:Int)) then
       (idxL x6 (wrap .i64 (x3+(wrap .i64 ((wrap .i64 ((2:Int)*x5))+(1:Int)))))).bind fun (r7:α)=>
       bif decide (0<=(wrap .i64 ((wrap .i64 (x3+(wrap .i64 ((wrap .i64 ((2:Int)*x5))+(1:Int)))))+(1:Int)))/\(wrap .i64 ((wrap .i64 (x3+(wrap .i64 ((wrap .i64 ((2:Int)*x5))+(1:Int)))))+(1:Int)))< (x6.length:Int)) then
        (idxL x6 (wrap .i64 ((wrap .i64 (x3+(wrap .i64 ((wrap .i64 ((2:Int)*x5))+(1:Int)))))+(1:Int)))).bind fun (r8:α)=>
        (cmp ((r7,r8))).bind fun (r9:Int)=>
        bif decide (r9< (0:Int)) then
         some (wrap .i64 ((wrap .i64 ((wrap .i64 ((2:Int)*x5))+(1:Int)))+(1:Int)))
        else
         some (wrap .i64 ((wrap .i64 ((2:Int)*x5))+(1:Int)))
       else
        none
      else
       none
     else
      some (wrap .i64 ((wrap .i64 ((2:Int)*x5))+(1:Int)))) fun (r10:Int)=>
    bif decide (0<=(wrap .i64 (x3+x5))/\(wrap .i64 (x3+x5))< (x6.length:Int)) then
     (idxL x6 (wrap .i64 (x3+x5))).bind fun (r11:α)=>
     bif decide (0<=(wrap .i64 (x3+r10))/\(wrap .i64 (x3+r10))< (x6.length:Int)) then
      (idxL x6 (wrap .i64 (x3+r10))).bind fun (r12:α)=>
      (cmp ((r11,r12))).bind fun (r13:Int)=>
      bif !(decide (r13< (0:Int))) then
       some (.inr (((),x6)))
      else
       bif decide (0<=(wrap .i64 (x3+r10))/\(wrap .i64 (x3+r10))< (x6.length:Int)) then
        (idxL x6 (wrap .i64 (x3+r10))).bind fun (r14:α)=>
        bif decide (0<=(wrap .i64 (x3+x5))/\(wrap .i64 (x3+x5))< (x6.length:Int)) then
         (idxL x6 (wrap .i64 (x3+x5))).bind fun (r15:α)=>
         bif decide (0<=(wrap .i64 (x3+x5))/\(wrap .i64 (x3+x5))< (x6.length:Int)) then
          (idxL x6 (wrap .i64 (x3+x5))).bind fun (r16:α)=>
          bif decide (0<=(wrap .i64 (x3+r10))/\(wrap .i64 (x3+r10))< (((setL x6 (wrap .i64 (x3+x5)) r14).length:Nat):Int)) then
           (idxL (setL x6 (wrap .i64 (x3+x5)) r14) (wrap .i64 (x3+r10))).bind fun (r17:α)=>
           S1 x2 x3 m ((r10,setL (setL x6 (wrap .i64 (x3+x5)) r14) (wrap .i64 (x3+r10)) r15))
          else
           none
         else
          none
        else
         none
       else
        none
     else
      none
    else
     none)
include hc ho hS1
theorem Q5 {f lo hi:Int} {l:List α} {m:Nat} (h0:0<=f) (hlo:0<=lo) (hlb:lo<2^58) (hhi:0<=hi) (hf:f+hi<=l.length) (hb:l.length<2^58) (hal:Al Ok l) (hh:Hp lt d f (lo+1) hi l) (hm:(hi-lo).toNat<m):
 ∃r,S1 hi f m (lo,l)=some r/\Rp d f (f+hi) l (two r)/\Hp lt d f lo hi (two r):=by
 refine mu (τ:=Int×List α) (L:=S1 hi f) (fun p=>lo<=p.1/\(p.1=lo\/p.1<hi)/\Rp d f (f+hi) l p.2/\(∀i c,lo<=i->i≠p.1->(c=2*i+1\/c=2*i+2)->c<hi->¬lt (gI d p.2 (f+i)) (gI d p.2 (f+c)))/\
  (∀q c,lo<=q->(p.1=2*q+1\/p.1=2*q+2)->(c=2*p.1+1\/c=2*p.1+2)->c<hi->¬lt (gI d p.2 (f+q)) (gI d p.2 (f+c)))) (fun p=>(hi-p.1).toNat) _ ?_ m (lo,l)
  ⟨R5 _,.inl rfl,.refl _ _ _ _,fun i c k1 k2 k3 k4=>hh i c (by dsimp only at k2;omega) k3 k4,fun q c k1 k2=>by dsimp only at k2;omega⟩ hm
 rintro m ⟨x,D⟩ ⟨i1,i2,i3,i4,i5⟩ aS
 dsimp only at i1 i2 i3 i4 i5 aS⊢
 have hl:=i3.len
 have bO:=i3.al hal
 rw[hS1]
 simp (disch:=omega) only[wr]
 refine tD (fun hge=>tS ⟨i3,fun i c k1 k2 k3=>?_⟩) (fun hge=>?_)
 ·by_cases e:i=x
  ·omega
  ·exact i4 i c k1 e k2 k3
 refine tB (Q:=fun c=>(c=2*x+1\/c=2*x+2)/\c<hi/\∀c',(c'=2*x+1\/c'=2*x+2)->c'<hi->¬lt (gI d D (f+c)) (gI d D (f+c'))) ?_ fun c=>?_
 ·refine tD (fun h2=>?_) (fun h2=>tS ⟨.inl rfl,by omega,fun c' k1 k2=>?_⟩)
  ·refine tI (by omega) (by omega) (tE (aG d (by omega) (by omega)) (tI (by omega) (by omega) (tE (aG d (by omega) (by omega)) (tM hc (bO.at d (by omega) (by omega)) (bO.at d (by omega) (by omega)) fun r hr=>?_))))
   have e2:f+(2*x+1)+1=f+(2*x+2):=by omega
   rw[e2] at hr
   refine tD (fun h3=>tS ⟨.inr (by omega),by omega,fun c' k1 k2=>?_⟩) (fun h3=>tS ⟨.inl rfl,by omega,fun c' k1 k2=>?_⟩)
   ·have hlt:=hr.1 h3
    rw[show 2*x+1+1=2*x+2 by omega]
    rcases k1 with rfl|rfl
    ·exact ho.asym _ _ hlt
    ·exact ho.iM _
   ·rcases k1 with rfl|rfl
    ·exact ho.iM _
    ·exact fun h=>h3 (hr.2 h)
  ·have e:c'=2*x+1:=by omega
   rw[e];exact ho.iM _
 ·rintro⟨hc1,hc2,hc3⟩
  simp (disch:=omega) only[wr]
  refine tI (by omega) (by omega) (tE (aG d (by omega) (by omega)) (tI (by omega) (by omega) (tE (aG d (by omega) (by omega)) (tM hc (bO.at d (by omega) (by omega)) (bO.at d (by omega) (by omega)) fun r hr=>?_))))
  refine tN (fun h3=>tS ⟨i3,fun i c' k1 k2 k3=>?_⟩) (fun h3=>?_)
  ·by_cases e:i=x
   ·subst e
    exact ho.neg _ _ _ (fun h=>h3 (hr.2 h)) (hc3 c' k2 k3)
   ·exact i4 i c' k1 e k2 k3
  ·have hlt:=hr.1 h3
   refine tI (by omega) (by omega) (tE (aG d (by omega) (by omega)) (tI (by omega) (by omega) (tE (aG d (by omega) (by omega)) (tI (by omega) (by omega) (tE (aG d (by omega) (by omega)) (tI (by omega) (by rw[aC];omega) (tE (aG d (by omega) (by rw[aC];omega)) ?_)))))))
   have sw:∀k,0<=k->gI d (swp d D (f+x) (f+c)) (f+k)=if k=c then gI d D (f+x) else if k=x then gI d D (f+c) else gI d D (f+k):=fun k hk=>by
    rw[eO (by omega) (by omega) (by omega) (by omega) (by omega)]
    by_cases e1:k=c
    ·rw[if_pos e1,if_pos (by omega)]
    ·rw[if_neg e1,if_neg (by omega)]
     by_cases e2:k=x
     ·rw[if_pos e2,if_pos (by omega)]
     ·rw[if_neg e2,if_neg (by omega)]
   refine aS (c,swp d D (f+x) (f+c)) ⟨by dsimp only;omega,.inr hc2,i3.swp h0 (by omega) (by omega) (by omega) (by omega) (by omega),fun i c' k1 k2 k3 k4=>?_,fun q c' k1 k2 k3 k4=>?_⟩ (by dsimp only;omega)
   ·dsimp only at k2⊢
    rw[sw i (by omega),sw c' (by omega),if_neg k2]
    by_cases e1:c'=c
    ·have ei:i=x:=by omega
     rw[if_pos e1,if_pos ei]
     exact ho.asym _ _ hlt
    ·rw[if_neg e1]
     by_cases e2:c'=x
     ·rw[if_pos e2,if_neg (by omega)]
      exact i5 i c k1 (by omega) hc1 hc2
     ·rw[if_neg e2]
      by_cases e3:i=x
      ·rw[if_pos e3]
       exact hc3 c' (by omega) k4
      ·rw[if_neg e3]
       exact i4 i c' k1 e3 k3 k4
   ·dsimp only at k2 k3⊢
    have eq:q=x:=by omega
    rw[sw q (by omega),sw c' (by omega),if_neg (by omega),if_pos eq,if_neg (by omega),if_neg (by omega)]
    exact i4 c c' (by omega) (by omega) k3 k4
variable {n:Nat} {sift:Unit×Int×Int×Int×(Unit×Unit)->List α->Option (PUnit×List α)}
 (hS:∀(x1 x2 x3:Int) (x4:List α),sift (((),(x1,(x2,(x3,((),())))))) (x4)=
   (S1 x2 x3 n ((x1,x4))).bind fun (r18:(PUnit×List α)⊕(PUnit×List α))=>
   Sum.elim (fun (q19:PUnit×List α)=>
    some (((),q19.2)))
    (fun (q20:PUnit×List α)=>
     some (((),q20.2))) r18)
include hS
theorem G8 {f lo hi:Int} {l:List α} (h0:0<=f) (hlo:0<=lo) (hlb:lo<2^58) (hhi:0<=hi) (hf:f+hi<=l.length) (hb:l.length<2^58) (hal:Al Ok l) (hh:Hp lt d f (lo+1) hi l) (hn:hi.toNat<n):
 ∃r,sift ((),lo,hi,f,((),())) l=some r/\Rp d f (f+hi) l r.2/\Hp lt d f lo hi r.2:=by
 rw[hS]
 refine tB (Q5 hc ho hS1 (d:=d) h0 hlo hlb hhi hf hb hal hh (by omega)) fun r=>?_
 rintro⟨r1,r2⟩
 rcases r with r|r<;>exact tS ⟨r1,r2⟩
variable {H4:Int->Int->Nat->(Int×List α)->Option (PUnit×List α)} {H8:Int->Nat->(Int×List α)->Option (PUnit×List α)}
 (rU:∀(x1 x2:Int) (m:Nat) (x4:Int) (x5:List α),H4 x1 x2 (m+1) (x4,x5)=
   bif decide (x4>=(0:Int)) then
    (sift (((),(x4,(wrap .i64 (x2-x1),(x1,((),())))))) x5).bind fun (r6:PUnit×List α)=>
    H4 x1 x2 m ((wrap .i64 (x4-(1:Int)),r6.2))
   else
    some (((),x5)))
 (Af:∀(x1:Int) (m:Nat) (x8:Int) (x9:List α),H8 x1 (m+1) (x8,x9)=
   bif decide (x8>=(0:Int)) then
    bif decide (0<=(wrap .i64 (x1+x8))/\(wrap .i64 (x1+x8))< (x9.length:Int)) then
     (idxL x9 (wrap .i64 (x1+x8))).bind fun (r10:α)=>
     bif decide (0<=x1/\x1< (x9.length:Int)) then
      (idxL x9 x1).bind fun (r11:α)=>
      bif decide (0<=x1/\x1< (x9.length:Int)) then
       (idxL x9 x1).bind fun (r12:α)=>
       bif decide (0<=(wrap .i64 (x1+x8))/\(wrap .i64 (x1+x8))< (((setL x9 x1 r10).length:Nat):Int)) then
        (idxL (setL x9 x1 r10) (wrap .i64 (x1+x8))).bind fun (r13:α)=>
        (sift (((),((0:Int),(x8,(x1,((),())))))) (setL (setL x9 x1 r10) (wrap .i64 (x1+x8)) r11)).bind fun (r14:PUnit×List α)=>
        H8 x1 m ((wrap .i64 (x8-(1:Int)),r14.2))
       else
        none
      else
       none
     else
      none
    else
     none
   else
    some (((),x9)))
include rU
theorem build {a b:Int} {l:List α} {m:Nat} {k:Int} (h0:0<=a) (hab:a<=b) (hbl:b<=l.length) (hb:l.length<2^57) (hal:Al Ok l) (hn:(b-a).toNat<n) (hk: -1<=k) (hkb:k<2^57) (hh:Hp lt d a (k+1) (b-a) l) (hm:(k+1).toNat<m):
 ∃r,H4 a b m (k,l)=some r/\Rp d a b l r.2/\Hp lt d a 0 (b-a) r.2:=by
 refine mu (τ:=Int×List α) (L:=H4 a b) (fun p=>-1<=p.1/\p.1<=k/\Rp d a b l p.2/\Hp lt d a (p.1+1) (b-a) p.2) (fun p=>(p.1+1).toNat) _ ?_ m (k,l) ⟨hk,R5 _,.refl _ _ _ _,hh⟩ hm
 rintro m ⟨x,D⟩ ⟨i1,i2,i3,i4⟩ aS
 dsimp only at i1 i2 i3 i4 aS⊢
 have hl:=i3.len
 rw[rU]
 refine tD (fun hge=>?_) (fun hge=>tS ⟨i3,?_⟩)
 ·simp (disch:=omega) only[wr]
  refine tB (G8 hc ho hS1 hS (d:=d) h0 (by omega) (by omega) (by omega) (by omega) (by omega) (i3.al hal) i4 hn) fun r=>?_
  rintro⟨r1,r2⟩
  rw[show a+(b-a)=b by omega] at r1
  exact aS (x-1,r.2) ⟨by dsimp only;omega,by dsimp only;omega,i3.trans r1,by rw[show x-1+1=x by omega];exact r2⟩ (by dsimp only;omega)
 ·rw[show x+1=0 by omega] at i4
  exact i4
omit hc hS1 hS rU in
theorem Hp.root {f hi:Int} {l:List α} (h:Hp lt d f 0 hi l):∀(k:Nat),(k:Int)<hi->¬lt (gI d l f) (gI d l (f+k)):=by
 intro k
 induction k using Nat.strongRecOn with
 |_ k ih=>
  intro hk
  cases k with
  |zero=>rw[show f+((0:Nat):Int)=f by omega];exact ho.iM _
  |succ k=>
   have h1:=ih (k/2) (by omega) (by omega)
   exact ho.neg _ _ _ h1 (h ((k/2:Nat):Int) ((k+1:Nat):Int) (by omega) (by omega) hk)
include Af
theorem pop {a b:Int} {l:List α} {m:Nat} (h0:0<=a) (hab:a<=b) (hbl:b<=l.length) (hb:l.length<2^57) (hal:Al Ok l) (hn:(b-a).toNat<n) (hh:Hp lt d a 0 (b-a) l) (hm:(b-a).toNat<m):
 ∃r,H8 a m (b-a-1,l)=some r/\Rp d a b l r.2/\Sd lt d a b r.2:=by
 refine mu (τ:=Int×List α) (L:=H8 a) (fun p=>-1<=p.1/\p.1<b-a/\Rp d a b l p.2/\Hp lt d a 0 (p.1+1) p.2/\Sd lt d (a+p.1+1) b p.2/\(∀u v,a<=u->u<=a+p.1->a+p.1<v->v<b->¬lt (gI d p.2 v) (gI d p.2 u))) (fun p=>(p.1+1).toNat) _ ?_ m (b-a-1,l)
  ⟨by dsimp only;omega,by dsimp only;omega,.refl _ _ _ _,by rw[show b-a-1+1=b-a by omega];exact hh,fun u v k1 k2 k3=>by dsimp only at k1;omega,fun u v k1 k2 k3 k4=>by dsimp only at k3;omega⟩ (by dsimp only;omega)
 rintro m ⟨x,D⟩ ⟨i1,i2,i3,i4,i5,i6⟩ aS
 dsimp only at i1 i2 i3 i4 i5 i6 aS⊢
 have hl:=i3.len
 rw[Af]
 simp (disch:=omega) only[wr]
 refine tD (fun hge=>?_) (fun hge=>tS ⟨i3,fun u v k1 k2 k3=>i5 u v (by omega) k2 k3⟩)
 refine tI (by omega) (by omega) (tE (aG d (by omega) (by omega)) (tI (by omega) (by omega) (tE (aG d (by omega) (by omega)) (tI (by omega) (by omega) (tE (aG d (by omega) (by omega)) (tI (by omega) (by rw[aC];omega) (tE (aG d (by omega) (by rw[aC];omega)) ?_)))))))
 have sw:∀k,0<=k->gI d (swp d D a (a+x)) (a+k)=if k=x then gI d D a else if k=0 then gI d D (a+x) else gI d D (a+k):=fun k hk=>by
  rw[eO (by omega) (by omega) (by omega) (by omega) (by omega)]
  by_cases e1:k=x
  ·rw[if_pos e1,if_pos (by omega)]
  ·rw[if_neg e1,if_neg (by omega)]
   by_cases e2:k=0
   ·rw[if_pos e2,if_pos (by omega)]
   ·rw[if_neg e2,if_neg (by omega)]
 have s1:Rp d a b l (swp d D a (a+x)):=i3.swp h0 (by omega) (by omega) (by omega) (by omega) (by omega)
 have hroot:∀k,0<=k->k<=x->¬lt (gI d D a) (gI d D (a+k)):=fun k k0 k1=>by
  have:=Hp.root ho i4 k.toNat (by omega)
  rwa[show (k.toNat:Int)=k by omega] at this
 refine tB (G8 hc ho hS1 hS (d:=d) (hi:=x) (lo:=0) (l:=swp d D a (a+x)) h0 (by omega) (by omega) hge (by rw[bg];omega) (by rw[bg];omega) (s1.al hal) (fun i c k1 k2 k3=>?_) (by omega)) fun r=>?_
 ·rw[sw i (by omega),sw c (by omega),if_neg (by omega),if_neg (by omega),if_neg (by omega),if_neg (by omega)]
  exact i4 i c (by omega) k2 (by omega)
 ·rintro⟨r1,r2⟩
  have hM:∀k,x<=k->a+k<b->gI d r.2 (a+k)=gI d (swp d D a (a+x)) (a+k):=fun k k0 k1=>r1.out _ (by omega) (by omega)
  have sm:∀φ:α->Prop,(∀k,0<=k->k<=x->φ (gI d D (a+k)))->∀u,a<=u->u<a+x->φ (gI d r.2 u):=fun φ hφ u k0 k1=>by
   refine r1.all φ (fun w w0 w1=>?_) u k0 k1
   have:=sw (w-a) (by omega)
   rw[show a+(w-a)=w by omega] at this
   rw[this,if_neg (by omega)]
   by_cases e:w-a=0
   ·rw[if_pos e];exact hφ x (by omega) (by omega)
   ·rw[if_neg e]
    have:=hφ (w-a) (by omega) (by omega)
    rwa[show a+(w-a)=w by omega] at this
  refine aS (x-1,r.2) ⟨by dsimp only;omega,by dsimp only;omega,s1.trans (r1.wide (R5 _) (by omega) h0),by rw[show x-1+1=x by omega];exact r2,fun u v k1 k2 k3=>?_,fun u v k1 k2 k3 k4=>?_⟩ (by dsimp only;omega)
  ·dsimp only at k1⊢
   have e1:=hM (u-a) (by omega) (by omega)
   have e2:=hM (v-a) (by omega) (by omega)
   rw[show a+(u-a)=u by omega] at e1
   rw[show a+(v-a)=v by omega] at e2
   have e3:=sw (u-a) (by omega)
   have e4:=sw (v-a) (by omega)
   rw[show a+(u-a)=u by omega] at e3
   rw[show a+(v-a)=v by omega] at e4
   rw[e1,e2,e3,e4,if_neg (by omega:¬v-a=x),if_neg (by omega:¬v-a=0)]
   by_cases e:u-a=x
   ·rw[if_pos e]
    exact i6 a v (by omega) (by omega) (by omega) k3
   ·rw[if_neg e,if_neg (by omega)]
    exact i5 u v (by omega) k2 k3
  ·dsimp only at k2 k3⊢
   have e2:=hM (v-a) (by omega) (by omega)
   rw[show a+(v-a)=v by omega] at e2
   have e4:=sw (v-a) (by omega)
   rw[show a+(v-a)=v by omega] at e4
   rw[e2,e4,if_neg (by omega:¬v-a=0)]
   by_cases e:v-a=x
   ·rw[if_pos e]
    exact sm (fun z=>¬lt (gI d D a) z) (fun k k0 k1=>hroot k k0 k1) u k1 (by omega)
   ·rw[if_neg e]
    exact sm (fun z=>¬lt (gI d D v) z) (fun k k0 k1=>i6 (a+k) v (by omega) (by omega) (by omega) k4) u k1 (by omega)
variable {heap:Unit×Int×Int×(Unit×Unit)->List α->Option (PUnit×List α)}
 (hH:∀(x1 x2:Int) (x3:List α),heap (((),(x1,(x2,((),()))))) (x3)=
   bif !((2:Int)==(0:Int)) then
    (H4 x1 x2 n ((wrap .i64 (Int.tdiv (wrap .i64 ((wrap .i64 (x2-x1))-(1:Int))) (2:Int)),x3))).bind fun (r7:PUnit×List α)=>
    (H8 x1 n ((wrap .i64 ((wrap .i64 (x2-x1))-(1:Int)),r7.2))).bind fun (r15:PUnit×List α)=>
    some (((),r15.2))
   else
    none)
include hH
theorem heapAll {a b:Int} {l:List α} (h0:0<=a) (hab:a<=b) (hbl:b<=l.length) (hb:l.length<2^57) (hal:Al Ok l) (hn:(b-a).toNat+1<n):
 ∃r,heap ((),a,b,((),())) l=some r/\Rp d a b l r.2/\Sd lt d a b r.2:=by
 rw[hH]
 simp (disch:=omega) only[wr]
 refine tG (by decide) ?_
 have ht:Int.tdiv (b-a-1) 2<=b-a/\ -1<=Int.tdiv (b-a-1) 2/\(0<b-a->b-a-1<2*Int.tdiv (b-a-1) 2+2/\0<=Int.tdiv (b-a-1) 2):=by
  by_cases h:0<b-a
  ·rw[Int.tdiv_eq_ediv_of_nonneg (by omega)];omega
  ·rw[show b-a-1= -1 by omega];simp;omega
 rw[wr (i:=Int.tdiv (b-a-1) 2) (by omega) (by omega)]
 refine tB (build hc ho hS1 hS rU (d:=d) (k:=Int.tdiv (b-a-1) 2) h0 hab hbl hb hal (by omega) (by omega) (by omega) (fun i c k1 k2 k3=>?_) (by omega)) fun r=>?_
 ·omega
 ·rintro⟨r1,r2⟩
  have hl:=r1.len
  refine tB (pop hc ho hS1 hS rU Af (d:=d) h0 hab (by omega) (by omega) (r1.al hal) (by omega) r2 (by omega)) fun s=>?_
  rintro⟨s1,s2⟩
  exact tS ⟨r1.trans s1,s2⟩
end
end Pq
end
section
open Go Aq
namespace Pq
variable {α:Type}
theorem vB {L:Nat->Int->Option Int} {T:Int->Prop} {i j:Int} (hs:∀m x (Q:Int->Prop),i<=x->x<=j->(T x->∃r,L m (x+1)=some r/\Q r)->(¬T x->Q x)->∃r,L (m+1) x=some r/\Q r) (he:∀m x,j<x->L (m+1) x=some x)
 (hij:i<=j+1) {m:Nat} (hm:(j+1-i).toNat<m):∃r,L m i=some r/\i<=r/\r<=j+1/\(∀k,i<=k->k<r->T k)/\(r<=j->¬T r):=by
 refine mu (τ:=Int) (L:=L) (fun x=>i<=x/\x<=j+1/\∀k,i<=k->k<x->T k) (fun x=>(j+1-x).toNat) _ ?_ m i ⟨R5 _,hij,fun k k1 k2=>by omega⟩ hm
 rintro m x ⟨i1,i2,i3⟩ aS
 by_cases hx:x<=j
 ·exact hs m x _ i1 hx (fun ht=>aS (x+1) ⟨by omega,by omega,fun k k1 k2=>by
   by_cases e:k=x
   ·rw[e];exact ht
   ·exact i3 k k1 (by omega)⟩ (by omega)) fun ht=>⟨i1,by omega,i3,fun _=>ht⟩
 ·exact⟨x,he m x (by omega),i1,i2,i3,fun h=>absurd h hx⟩
theorem Ah {L:Nat->Int->Option Int} {T:Int->Prop} {i j:Int} (hs:∀m x (Q:Int->Prop),i<=x->x<=j->(T x->∃r,L m (x-1)=some r/\Q r)->(¬T x->Q x)->∃r,L (m+1) x=some r/\Q r) (he:∀m x,x<i->L (m+1) x=some x)
 (hij:i<=j+1) {m:Nat} (hm:(j+1-i).toNat<m):∃r,L m j=some r/\r<=j/\i-1<=r/\(∀k,r<k->k<=j->T k)/\(i<=r->¬T r):=by
 refine mu (τ:=Int) (L:=L) (fun x=>x<=j/\i-1<=x/\∀k,x<k->k<=j->T k) (fun x=>(x+1-i).toNat) _ ?_ m j ⟨R5 _,by omega,fun k k1 k2=>by omega⟩ (by omega)
 rintro m x ⟨i1,i2,i3⟩ aS
 by_cases hx:i<=x
 ·exact hs m x _ hx i1 (fun ht=>aS (x-1) ⟨by omega,by omega,fun k k1 k2=>by
   by_cases e:k=x
   ·rw[e];exact ht
   ·exact i3 k (by omega) k2⟩ (by omega)) fun ht=>⟨i1,i2,i3,fun _=>ht⟩
 ·exact⟨x,he m x (by omega),i1,i2,i3,fun h=>absurd h hx⟩
structure Parts (lt:α->α->Prop) (d:α) (a b mid:Int) (l l':List α):Prop where
 lo:a<=mid
 hi:mid<b
 rp:Rp d a b l l'
 left:∀k,a<=k->k<mid->¬lt (gI d l' mid) (gI d l' k)
 right:∀k,mid<k->k<b->¬lt (gI d l' k) (gI d l' mid)
section
variable {n:Nat} {d:α} {Ok:α->Prop} {lt:α->α->Prop} {cmp:α×α->Option Int} (hc:CmpO Ok lt cmp) (ho:Ord lt)
 {P3:Int->Int->Int->(List α)->α->α->Nat->Int->Option (Int)} {P5:Int->Int->(List α)->α->α->Int->Nat->Int->Option (Int)} {P13:Int->Int->(List α)->Nat->Int->Option (Int)} {P15:Int->(List α)->Int->Nat->Int->Option (Int)} {PM:Int->Nat->((Int×Int)×List α)->Option (Int×List α)}
 {prt:Unit×Int×Int×Int×(Unit×Unit)->List α->Option ((Int×Bool)×List α)}
 (h3:∀(x1 x2 x3:Int) (x4:List α) (r5:α) (r6:α) (m:Nat) (x9:Int),P3 x1 x2 x3 x4 r5 r6 (m+1) x9=
   bif decide (x9<=(wrap .i64 (x2-(1:Int)))) then
    bif decide (0<=x9/\x9< (((setL (setL x4 x1 r5) x3 r6).length:Nat):Int)) then
     (idxL (setL (setL x4 x1 r5) x3 r6) x9).bind fun (r10:α)=>
     bif decide (0<=x1/\x1< (((setL (setL x4 x1 r5) x3 r6).length:Nat):Int)) then
      (idxL (setL (setL x4 x1 r5) x3 r6) x1).bind fun (r11:α)=>
      (cmp ((r10,r11))).bind fun (r12:Int)=>
      bif decide (r12< (0:Int)) then
       P3 x1 x2 x3 x4 r5 r6 m (wrap .i64 (x9+(1:Int)))
      else
       some x9
     else
      none
    else
     none
   else
    some x9)
 (h5:∀(x1 x3:Int) (x4:List α) (r5:α) (r6:α) (r13:Int) (m:Nat) (x14:Int),P5 x1 x3 x4 r5 r6 r13 (m+1) x14=
   bif decide (r13<=x14) then
    bif decide (0<=x14/\x14< (((setL (setL x4 x1 r5) x3 r6).length:Nat):Int)) then
     (idxL (setL (setL x4 x1 r5) x3 r6) x14).bind fun (r15:α)=>
     bif decide (0<=x1/\x1< (((setL (setL x4 x1 r5) x3 r6).length:Nat):Int)) then
      (idxL (setL (setL x4 x1 r5) x3 r6) x1).bind fun (r16:α)=>
      (cmp ((r15,r16))).bind fun (r17:Int)=>
      bif !(decide (r17< (0:Int))) then
       P5 x1 x3 x4 r5 r6 r13 m (wrap .i64 (x14-(1:Int)))
      else
       some x14
     else
      none
    else
     none
   else
    some x14)
 (rV:∀(x1 x28:Int) (x29:List α) (m:Nat) (x30:Int),P13 x1 x28 x29 (m+1) x30=
   bif decide (x30<=x28) then
    bif decide (0<=x30/\x30< (x29.length:Int)) then
     (idxL x29 x30).bind fun (r31:α)=>
     bif decide (0<=x1/\x1< (x29.length:Int)) then
      (idxL x29 x1).bind fun (r32:α)=>
      (cmp ((r31,r32))).bind fun (r33:Int)=>
      bif decide (r33< (0:Int)) then
       P13 x1 x28 x29 m (wrap .i64 (x30+(1:Int)))
      else
       some x30
     else
      none
    else
     none
   else
    some x30)
 (rW:∀(x1:Int) (x29:List α) (r34:Int) (m:Nat) (x35:Int),P15 x1 x29 r34 (m+1) x35=
   bif decide (r34<=x35) then
    bif decide (0<=x35/\x35< (x29.length:Int)) then
     (idxL x29 x35).bind fun (r36:α)=>
     bif decide (0<=x1/\x1< (x29.length:Int)) then
      (idxL x29 x1).bind fun (r37:α)=>
      (cmp ((r36,r37))).bind fun (r38:Int)=>
      bif !(decide (r38< (0:Int))) then
       P15 x1 x29 r34 m (wrap .i64 (x35-(1:Int)))
      else
       some x35
     else
      none
    else
     none
   else
    some x35)
 (hM:∀(x1:Int) (m:Nat) (x27 x28:Int) (x29:List α),PM x1 (m+1) ((x27,x28),x29)=
   (P13 x1 x28 x29 n x27).bind fun (r34:Int)=>
   (P15 x1 x29 r34 n x28).bind fun (r39:Int)=>
   bif decide (r34>r39) then
    some ((r39,x29))
   else
    bif decide (0<=r39/\r39< (x29.length:Int)) then
     (idxL x29 r39).bind fun (r40:α)=>
     bif decide (0<=r34/\r34< (x29.length:Int)) then
      (idxL x29 r34).bind fun (r41:α)=>
      bif decide (0<=r34/\r34< (x29.length:Int)) then
       (idxL x29 r34).bind fun (r42:α)=>
       bif decide (0<=r39/\r39< (((setL x29 r34 r40).length:Nat):Int)) then
        (idxL (setL x29 r34 r40) r39).bind fun (r43:α)=>
        PM x1 m (((wrap .i64 (r34+(1:Int)),wrap .i64 (r39-(1:Int))),setL (setL x29 r34 r40) r39 r41))
       else
        none
      else
       none
     else
      none
    else
     none)
 (hP:∀(x1 x2 x3:Int) (x4:List α),prt (((),(x1,(x2,(x3,((),())))))) (x4)=
   bif decide (0<=x3/\x3< (x4.length:Int)) then
    (idxL x4 x3).bind fun (r5:α)=>
    bif decide (0<=x1/\x1< (x4.length:Int)) then
     (idxL x4 x1).bind fun (r6:α)=>
     bif decide (0<=x1/\x1< (x4.length:Int)) then
      (idxL x4 x1).bind fun (r7:α)=>
      bif decide (0<=x3/\x3< (((setL x4 x1 r5).length:Nat):Int)) then
       (idxL (setL x4 x1 r5) x3).bind fun (r8:α)=>
       (P3 x1 x2 x3 x4 r5 r6 n (wrap .i64 (x1+(1:Int)))).bind fun (r13:Int)=>
       (P5 x1 x3 x4 r5 r6 r13 n (wrap .i64 (x2-(1:Int)))).bind fun (r18:Int)=>
       bif decide (r13>r18) then
        bif decide (0<=x1/\x1< (((setL (setL x4 x1 r5) x3 r6).length:Nat):Int)) then
         (idxL (setL (setL x4 x1 r5) x3 r6) x1).bind fun (r19:α)=>
         bif decide (0<=r18/\r18< (((setL (setL x4 x1 r5) x3 r6).length:Nat):Int)) then
          (idxL (setL (setL x4 x1 r5) x3 r6) r18).bind fun (r20:α)=>
          bif decide (0<=r18/\r18< (((setL (setL x4 x1 r5) x3 r6).length:Nat):Int)) then
           (idxL (setL (setL x4 x1 r5) x3 r6) r18).bind fun (r21:α)=>
           bif decide (0<=x1/\x1< (((setL (setL (setL x4 x1 r5) x3 r6) r18 r19).length:Nat):Int)) then
            (idxL (setL (setL (setL x4 x1 r5) x3 r6) r18 r19) x1).bind fun (r22:α)=>
            some (((r18,true),setL (setL (setL (setL x4 x1 r5) x3 r6) r18 r19) x1 r20))
           else
            none
          else
           none
         else
          none
        else
         none
       else
        bif decide (0<=r18/\r18< (((setL (setL x4 x1 r5) x3 r6).length:Nat):Int)) then
         (idxL (setL (setL x4 x1 r5) x3 r6) r18).bind fun (r23:α)=>
         bif decide (0<=r13/\r13< (((setL (setL x4 x1 r5) x3 r6).length:Nat):Int)) then
          (idxL (setL (setL x4 x1 r5) x3 r6) r13).bind fun (r24:α)=>
          bif decide (0<=r13/\r13< (((setL (setL x4 x1 r5) x3 r6).length:Nat):Int)) then
           (idxL (setL (setL x4 x1 r5) x3 r6) r13).bind fun (r25:α)=>
           bif decide (0<=r18/\r18< (((setL (setL (setL x4 x1 r5) x3 r6) r13 r23).length:Nat):Int)) then
            (idxL (setL (setL (setL x4 x1 r5) x3 r6) r13 r23) r18).bind fun (r26:α)=>
            (PM x1 n (((wrap .i64 (r13+(1:Int)),wrap .i64 (r18-(1:Int))),setL (setL (setL (setL x4 x1 r5) x3 r6) r13 r23) r18 r24))).bind fun (r44:Int×List α)=>
            bif decide (0<=x1/\x1< (r44.2.length:Int)) then
             (idxL r44.2 x1).bind fun (r45:α)=>
             bif decide (0<=r44.1/\r44.1< (r44.2.length:Int)) then
              (idxL r44.2 r44.1).bind fun (r46:α)=>
              bif decide (0<=r44.1/\r44.1< (r44.2.length:Int)) then
               (idxL r44.2 r44.1).bind fun (r47:α)=>
               bif decide (0<=x1/\x1< (((setL r44.2 r44.1 r45).length:Nat):Int)) then
                (idxL (setL r44.2 r44.1 r45) x1).bind fun (r48:α)=>
                some (((r44.1,false),setL (setL r44.2 r44.1 r45) x1 r46))
               else
                none
              else
               none
             else
              none
            else
             none
           else
            none
          else
           none
         else
          none
        else
         none
      else
       none
     else
      none
    else
     none
   else
    none)
include hc ho rV rW hM
theorem Q6 {a b:Int} {l:List α} {i j:Int} {m:Nat} (h0:0<=a) (hbl:b<=l.length) (hb:l.length<2^57) (hal:Al Ok l) (hn:(b-a).toNat<n) (h1:a<i) (h2:j<b) (hij:i<=j+1)
 (hl:∀k,a<k->k<i->lt (gI d l k) (gI d l a)) (hr:∀k,j<k->k<b->¬lt (gI d l k) (gI d l a)) (hm:(j+1-i).toNat<m):
 ∃r,PM a m ((i,j),l)=some r/\a<=r.1/\r.1<b/\Rp d a b l r.2/\gI d r.2 a=gI d l a/\(∀k,a<k->k<=r.1->lt (gI d r.2 k) (gI d r.2 a))/\(∀k,r.1<k->k<b->¬lt (gI d r.2 k) (gI d r.2 a)):=by
 refine mu (τ:=(Int×Int)×List α) (L:=PM a) (fun p=>a<p.1.1/\p.1.2<b/\p.1.1<=p.1.2+1/\Rp d a b l p.2/\gI d p.2 a=gI d l a/\(∀k,a<k->k<p.1.1->lt (gI d p.2 k) (gI d p.2 a))/\(∀k,p.1.2<k->k<b->¬lt (gI d p.2 k) (gI d p.2 a))) (fun p=>(p.1.2+1-p.1.1).toNat) _ ?_ m ((i,j),l)
  ⟨h1,h2,hij,.refl _ _ _ _,rfl,hl,hr⟩ hm
 rintro m ⟨⟨i,j⟩,D⟩ ⟨i1,i2,i3,i4,i5,i6,i7⟩ aS
 dsimp only at i1 i2 i3 i4 i5 i6 i7 aS⊢
 have hl:=i4.len
 have bO:=i4.al hal
 rw[hM]
 refine tB (vB (L:=P13 a j D) (T:=fun x=>lt (gI d D x) (gI d D a)) (i:=i) (j:=j) (fun m x Q k1 k2 ht hf=>?_) (fun m x k1=>?_) i3 (by omega)) fun i'=>?_
 ·rw[rV]
  refine tD (fun _=>tI (by omega) (by omega) (tE (aG d (by omega) (by omega)) (tI (by omega) (by omega) (tE (aG d (by omega) (by omega)) (tM hc (bO.at d (by omega) (by omega)) (bO.at d (by omega) (by omega)) fun r hr=>tD (fun h=>?_) (fun h=>tS (hf fun k=>h (hr.2 k)))))))) (fun h=>by omega)
  rw[wr (by omega) (by omega)]
  exact ht (hr.1 h)
 ·rw[rV,decide_eq_false (by omega)];rfl
 rintro⟨u1,u2,u3,u4⟩
 refine tB (Ah (L:=P15 a D i') (T:=fun x=>¬lt (gI d D x) (gI d D a)) (i:=i') (j:=j) (fun m x Q k1 k2 ht hf=>?_) (fun m x k1=>?_) u2 (by omega)) fun j'=>?_
 ·rw[rW]
  refine tD (fun _=>tI (by omega) (by omega) (tE (aG d (by omega) (by omega)) (tI (by omega) (by omega) (tE (aG d (by omega) (by omega)) (tM hc (bO.at d (by omega) (by omega)) (bO.at d (by omega) (by omega)) fun r hr=>tN (fun h=>?_) (fun h=>tS (hf fun k=>k (hr.1 h)))))))) (fun h=>by omega)
  rw[wr (by omega) (by omega)]
  exact ht fun k=>h (hr.2 k)
 ·rw[rW,decide_eq_false (by omega)];rfl
 rintro⟨v1,v2,v3,v4⟩
 have left:∀k,a<k->k<i'->lt (gI d D k) (gI d D a):=fun k k1 k2=>by
  by_cases e:k<i
  ·exact i6 k k1 e
  ·exact u3 k (by omega) k2
 have right:∀k,j'<k->k<b->¬lt (gI d D k) (gI d D a):=fun k k1 k2=>by
  by_cases e:j<k
  ·exact i7 k e k2
  ·exact v3 k k1 (by omega)
 refine tD (fun hgt=>tS ⟨by omega,by omega,i4,i5,fun k k1 k2=>left k k1 (by omega),right⟩) (fun hgt=>?_)
 have t1:=u4 (by omega)
 have t2:lt (gI d D j') (gI d D a):=Classical.byContradiction (v4 (by omega))
 have hne:i'≠j':=fun e=>t1 (by rw[e];exact t2)
 refine tI (by omega) (by first|omega| (simp only[aC,bg];omega)) (tE (aG d (by omega) (by first|omega| (simp only[aC,bg];omega))) ?_)
 refine tI (by omega) (by first|omega| (simp only[aC,bg];omega)) (tE (aG d (by omega) (by first|omega| (simp only[aC,bg];omega))) ?_)
 refine tI (by omega) (by first|omega| (simp only[aC,bg];omega)) (tE (aG d (by omega) (by first|omega| (simp only[aC,bg];omega))) ?_)
 refine tI (by omega) (by first|omega| (simp only[aC,bg];omega)) (tE (aG d (by omega) (by first|omega| (simp only[aC,bg];omega))) ?_)
 rw[wr (by omega) (by omega),wr (by omega) (by omega)]
 have sw:∀k,0<=k->gI d (swp d D i' j') k=if k=j' then gI d D i' else if k=i' then gI d D j' else gI d D k:=fun k hk=>eO (by omega) (by omega) (by omega) (by omega) hk
 have sa:gI d (swp d D i' j') a=gI d D a:=by rw[sw a h0,if_neg (by omega),if_neg (by omega)]
 refine aS ((i'+1,j'-1),swp d D i' j') ⟨by dsimp only;omega,by dsimp only;omega,by dsimp only;omega,i4.swp h0 (by omega) (by omega) (by omega) (by omega) (by omega),sa.trans i5,fun k k1 k2=>?_,fun k k1 k2=>?_⟩ (by dsimp only;omega)
 ·dsimp only at k2⊢
  rw[sa,sw k (by omega),if_neg (by omega)]
  by_cases e:k=i'
  ·rw[if_pos e];exact t2
  ·rw[if_neg e];exact left k k1 (by omega)
 ·dsimp only at k1⊢
  rw[sa,sw k (by omega)]
  by_cases e:k=j'
  ·rw[if_pos e];exact t1
  ·rw[if_neg e,if_neg (by omega)];exact right k (by omega) k2
omit hc rV rW hM in
theorem G9 {a b r:Int} {l D:List α} (h0:0<=a) (hbl:b<=l.length) (h1:a<=r) (h2:r<b) (h3:Rp d a b l D) (hl:∀k,a<k->k<=r->lt (gI d D k) (gI d D a)) (hr:∀k,r<k->k<b->¬lt (gI d D k) (gI d D a)):Parts lt d a b r l (swp d D r a):=by
 have hlen:=h3.len
 have sw:∀k,0<=k->gI d (swp d D r a) k=if k=a then gI d D r else if k=r then gI d D a else gI d D k:=fun k hk=>eO (by omega) (by omega) (by omega) (by omega) hk
 have sr:gI d (swp d D r a) r=gI d D a:=by
  rw[sw r (by omega)]
  by_cases e:r=a
  ·rw[if_pos e,e]
  ·rw[if_neg e,if_pos rfl]
 refine⟨h1,h2,h3.swp h0 (by omega) h1 h2 (R5 _) (by omega),fun k k1 k2=>?_,fun k k1 k2=>?_⟩
 ·rw[sr,sw k (by omega)]
  by_cases e:k=a
  ·rw[if_pos e];exact ho.asym _ _ (hl r (by omega) (R5 _))
  ·rw[if_neg e,if_neg (by omega)];exact ho.asym _ _ (hl k (by omega) (by omega))
 ·rw[sr,sw k (by omega),if_neg (by omega),if_neg (by omega)]
  exact hr k k1 k2
include h3 h5 hP
theorem prtAll {a b p:Int} {l:List α} (h0:0<=a) (hbl:b<=l.length) (hb:l.length<2^57) (hal:Al Ok l) (hn:(b-a).toNat+1<n) (h1:a<=p) (h2:p<b):
 ∃r,prt ((),a,b,p,((),())) l=some r/\Parts lt d a b r.1.1 l r.2:=by
 rw[hP]
 refine tI (by omega) (by first|omega| (simp only[aC,bg];omega)) (tE (aG d (by omega) (by first|omega| (simp only[aC,bg];omega))) ?_)
 refine tI (by omega) (by first|omega| (simp only[aC,bg];omega)) (tE (aG d (by omega) (by first|omega| (simp only[aC,bg];omega))) ?_)
 refine tI (by omega) (by first|omega| (simp only[aC,bg];omega)) (tE (aG d (by omega) (by first|omega| (simp only[aC,bg];omega))) ?_)
 refine tI (by omega) (by first|omega| (simp only[aC,bg];omega)) (tE (aG d (by omega) (by first|omega| (simp only[aC,bg];omega))) ?_)
 have hw1:wrap .i64 (a+1)=a+1:=wr (by omega) (by omega)
 have hw2:wrap .i64 (b-1)=b-1:=wr (by omega) (by omega)
 have r0:Rp d a b l (swp d l a p):=(Rp.refl d a b l).swp h0 hbl (by omega) (by omega) h1 h2
 have hl:=r0.len
 have bO:=r0.al hal
 change∃r,(P3 a b p l (gI d l p) (gI d l a) n (wrap .i64 (a+1))).bind _=some r/\_
 rw[hw1,hw2]
 refine tB (vB (L:=P3 a b p l (gI d l p) (gI d l a)) (T:=fun x=>lt (gI d (swp d l a p) x) (gI d (swp d l a p) a)) (i:=a+1) (j:=b-1) (fun m x Q k1 k2 ht hf=>?_) (fun m x k1=>?_) (by omega) (by omega)) fun i'=>?_
 ·rw[h3,hw2]
  change∃r,(bif _ then (bif decide (0<=x/\x< (((swp d l a p).length:Nat):Int)) then (idxL (swp d l a p) x).bind _ else none) else _)=some r/\_
  refine tD (fun _=>tI (by omega) (by omega) (tE (aG d (by omega) (by omega)) (tI (by omega) (by first|omega| (simp only[aC];omega)) (tE (aG d (by omega) (by first|omega| (simp only[aC];omega))) (tM hc (bO.at d (by omega) (by omega)) (bO.at d (by omega) (by omega)) fun r hr=>tD (fun h=>?_) (fun h=>tS (hf fun k=>h (hr.2 k)))))))) (fun h=>by omega)
  rw[wr (by omega) (by omega)]
  exact ht (hr.1 h)
 ·rw[h3,hw2,decide_eq_false (by omega)];rfl
 rintro⟨u1,u2,u3,u4⟩
 refine tB (Ah (L:=P5 a p l (gI d l p) (gI d l a) i') (T:=fun x=>¬lt (gI d (swp d l a p) x) (gI d (swp d l a p) a)) (i:=i') (j:=b-1) (fun m x Q k1 k2 ht hf=>?_) (fun m x k1=>?_) u2 (by omega)) fun j'=>?_
 ·rw[h5]
  change∃r,(bif _ then (bif decide (0<=x/\x< (((swp d l a p).length:Nat):Int)) then (idxL (swp d l a p) x).bind _ else none) else _)=some r/\_
  refine tD (fun _=>tI (by omega) (by omega) (tE (aG d (by omega) (by omega)) (tI (by omega) (by first|omega| (simp only[aC];omega)) (tE (aG d (by omega) (by first|omega| (simp only[aC];omega))) (tM hc (bO.at d (by omega) (by omega)) (bO.at d (by omega) (by omega)) fun r hr=>tN (fun h=>?_) (fun h=>tS (hf fun k=>k (hr.1 h)))))))) (fun h=>by omega)
  rw[wr (by omega) (by omega)]
  exact ht fun k=>h (hr.2 k)
 ·rw[h5,decide_eq_false (by omega)];rfl
 rintro⟨v1,v2,v3,v4⟩
 change∃r,(bif _ then (bif decide (0<=a/\a< (((swp d l a p).length:Nat):Int)) then (idxL (swp d l a p) a).bind _ else none) else (bif decide (0<=j'/\j'< (((swp d l a p).length:Nat):Int)) then (idxL (swp d l a p) j').bind _ else none))=some r/\_
 refine tD (fun hgt=>?_) (fun hgt=>?_)
 ·refine tI (by omega) (by first|omega| (simp only[aC,bg];omega)) (tE (aG d (by omega) (by first|omega| (simp only[aC,bg];omega))) ?_)
  refine tI (by omega) (by simp only[aC];omega) (tE (aG d (by omega) (by simp only[aC];omega)) ?_)
  refine tI (by omega) (by simp only[aC];omega) (tE (aG d (by omega) (by simp only[aC];omega)) ?_)
  refine tI (by omega) (by simp only[aC];omega) (tE (aG d (by omega) (by simp only[aC];omega)) ?_)
  refine tS ?_
  exact G9 ho (r:=j') h0 hbl (by omega) (by omega) r0 (fun k k1 k2=>u3 k (by omega) (by omega)) (fun k k1 k2=>v3 k k1 (by omega))
 ·have t1:=u4 (by omega)
  have t2:lt (gI d (swp d l a p) j') (gI d (swp d l a p) a):=Classical.byContradiction (v4 (by omega))
  have hne:i'≠j':=fun e=>t1 (by rw[e];exact t2)
  refine tI (by omega) (by first|omega| (simp only[aC,bg];omega)) (tE (aG d (by omega) (by first|omega| (simp only[aC,bg];omega))) ?_)
  refine tI (by omega) (by simp only[aC];omega) (tE (aG d (by omega) (by simp only[aC];omega)) ?_)
  refine tI (by omega) (by simp only[aC];omega) (tE (aG d (by omega) (by simp only[aC];omega)) ?_)
  refine tI (by omega) (by simp only[aC];omega) (tE (aG d (by omega) (by simp only[aC];omega)) ?_)
  rw[wr (by omega) (by omega),wr (by omega) (by omega)]
  have s1:Rp d a b l (swp d (swp d l a p) i' j'):=r0.swp h0 (by omega) (by omega) (by omega) (by omega) (by omega)
  have sw:∀k,0<=k->gI d (swp d (swp d l a p) i' j') k=if k=j' then gI d (swp d l a p) i' else if k=i' then gI d (swp d l a p) j' else gI d (swp d l a p) k:=fun k hk=>eO (by omega) (by omega) (by omega) (by omega) hk
  have sa:gI d (swp d (swp d l a p) i' j') a=gI d (swp d l a p) a:=by rw[sw a h0,if_neg (by omega),if_neg (by omega)]
  have hl1:=s1.len
  refine tB (Q6 hc ho rV rW hM (n:=n) (d:=d) (a:=a) (b:=b) (l:=swp d (swp d l a p) i' j') (i:=i'+1) (j:=j'-1) (m:=n) h0 (by omega) (by omega) (s1.al hal) (by omega) (by omega) (by omega) (by omega) (fun k k1 k2=>?_) (fun k k1 k2=>?_) (by omega)) fun r=>?_
  ·rw[sa,sw k (by omega),if_neg (by omega)]
   by_cases e:k=i'
   ·rw[if_pos e];exact t2
   ·rw[if_neg e];exact u3 k (by omega) (by omega)
  ·rw[sa,sw k (by omega)]
   by_cases e:k=j'
   ·rw[if_pos e];exact t1
   ·rw[if_neg e,if_neg (by omega)];exact v3 k (by omega) (by omega)
  ·rintro⟨q1,q2,q3,q4,q5,q6⟩
   have hl2:=q3.len
   refine tI (by omega) (by first|omega| (simp only[aC,bg];omega)) (tE (aG d (by omega) (by first|omega| (simp only[aC,bg];omega))) ?_)
   refine tI (by omega) (by first|omega| (simp only[aC,bg];omega)) (tE (aG d (by omega) (by first|omega| (simp only[aC,bg];omega))) ?_)
   refine tI (by omega) (by first|omega| (simp only[aC,bg];omega)) (tE (aG d (by omega) (by first|omega| (simp only[aC,bg];omega))) ?_)
   refine tI (by omega) (by first|omega| (simp only[aC,bg];omega)) (tE (aG d (by omega) (by first|omega| (simp only[aC,bg];omega))) ?_)
   exact tS (G9 ho (r:=r.1) h0 hbl q1 q2 (s1.trans q3) q5 q6)
end
section
variable {n:Nat} {d:α} {Ok:α->Prop} {lt:α->α->Prop} {cmp:α×α->Option Int} (hc:CmpO Ok lt cmp)
 {E3:Int->Int->(List α)->Nat->Int->Option (Int)} {E5:Int->(List α)->Int->Nat->Int->Option (Int)} {EM:Int->Nat->((Int×Int)×List α)->Option (Int×List α)}
 {peq:Unit×Int×Int×Int×(Unit×Unit)->List α->Option (Int×List α)}
 (h3:∀(x1 x10:Int) (x11:List α) (m:Nat) (x12:Int),E3 x1 x10 x11 (m+1) x12=
   bif decide (x12<=x10) then
    bif decide (0<=x1/\x1< (x11.length:Int)) then
     (idxL x11 x1).bind fun (r13:α)=>
     bif decide (0<=x12/\x12< (x11.length:Int)) then
      (idxL x11 x12).bind fun (r14:α)=>
      (cmp ((r13,r14))).bind fun (r15:Int)=>
      bif !(decide (r15< (0:Int))) then
       E3 x1 x10 x11 m (wrap .i64 (x12+(1:Int)))
      else
       some x12
     else
      none
    else
     none
   else
    some x12)
 (h5:∀(x1:Int) (x11:List α) (r16:Int) (m:Nat) (x17:Int),E5 x1 x11 r16 (m+1) x17=
   bif decide (r16<=x17) then
    bif decide (0<=x1/\x1< (x11.length:Int)) then
     (idxL x11 x1).bind fun (r18:α)=>
     bif decide (0<=x17/\x17< (x11.length:Int)) then
      (idxL x11 x17).bind fun (r19:α)=>
      (cmp ((r18,r19))).bind fun (r20:Int)=>
      bif decide (r20< (0:Int)) then
       E5 x1 x11 r16 m (wrap .i64 (x17-(1:Int)))
      else
       some x17
     else
      none
    else
     none
   else
    some x17)
 (hM:∀(x1:Int) (m:Nat) (x9 x10:Int) (x11:List α),EM x1 (m+1) ((x9,x10),x11)=
   (E3 x1 x10 x11 n x9).bind fun (r16:Int)=>
   (E5 x1 x11 r16 n x10).bind fun (r21:Int)=>
   bif decide (r16>r21) then
    some ((r16,x11))
   else
    bif decide (0<=r21/\r21< (x11.length:Int)) then
     (idxL x11 r21).bind fun (r22:α)=>
     bif decide (0<=r16/\r16< (x11.length:Int)) then
      (idxL x11 r16).bind fun (r23:α)=>
      bif decide (0<=r16/\r16< (x11.length:Int)) then
       (idxL x11 r16).bind fun (r24:α)=>
       bif decide (0<=r21/\r21< (((setL x11 r16 r22).length:Nat):Int)) then
        (idxL (setL x11 r16 r22) r21).bind fun (r25:α)=>
        EM x1 m (((wrap .i64 (r16+(1:Int)),wrap .i64 (r21-(1:Int))),setL (setL x11 r16 r22) r21 r23))
       else
        none
      else
       none
     else
      none
    else
     none)
 (hP:∀(x1 x2 x3:Int) (x4:List α),peq (((),(x1,(x2,(x3,((),())))))) (x4)=
   bif decide (0<=x3/\x3< (x4.length:Int)) then
    (idxL x4 x3).bind fun (r5:α)=>
    bif decide (0<=x1/\x1< (x4.length:Int)) then
     (idxL x4 x1).bind fun (r6:α)=>
     bif decide (0<=x1/\x1< (x4.length:Int)) then
      (idxL x4 x1).bind fun (r7:α)=>
      bif decide (0<=x3/\x3< (((setL x4 x1 r5).length:Nat):Int)) then
       (idxL (setL x4 x1 r5) x3).bind fun (r8:α)=>
       (EM x1 n (((wrap .i64 (x1+(1:Int)),wrap .i64 (x2-(1:Int))),setL (setL x4 x1 r5) x3 r6))).bind fun (r26:Int×List α)=>
       some ((r26.1,r26.2))
      else
       none
     else
      none
    else
     none
   else
    none)
include hc h3 h5 hM
theorem Q7 {a b:Int} {l:List α} {i j:Int} {m:Nat} (h0:0<=a) (hbl:b<=l.length) (hb:l.length<2^57) (hal:Al Ok l) (hn:(b-a).toNat<n) (h1:a<i) (h2:j<b) (hij:i<=j+1)
 (hl:∀k,a<k->k<i->¬lt (gI d l a) (gI d l k)) (hr:∀k,j<k->k<b->lt (gI d l a) (gI d l k)) (hm:(j+1-i).toNat<m):
 ∃r,EM a m ((i,j),l)=some r/\a<r.1/\r.1<=b/\Rp d a b l r.2/\gI d r.2 a=gI d l a/\(∀k,a<k->k<r.1->¬lt (gI d r.2 a) (gI d r.2 k))/\(∀k,r.1<=k->k<b->lt (gI d r.2 a) (gI d r.2 k)):=by
 refine mu (τ:=(Int×Int)×List α) (L:=EM a) (fun p=>a<p.1.1/\p.1.2<b/\p.1.1<=p.1.2+1/\Rp d a b l p.2/\gI d p.2 a=gI d l a/\(∀k,a<k->k<p.1.1->¬lt (gI d p.2 a) (gI d p.2 k))/\(∀k,p.1.2<k->k<b->lt (gI d p.2 a) (gI d p.2 k))) (fun p=>(p.1.2+1-p.1.1).toNat) _ ?_ m ((i,j),l)
  ⟨h1,h2,hij,.refl _ _ _ _,rfl,hl,hr⟩ hm
 rintro m ⟨⟨i,j⟩,D⟩ ⟨i1,i2,i3,i4,i5,i6,i7⟩ aS
 dsimp only at i1 i2 i3 i4 i5 i6 i7 aS⊢
 have hl:=i4.len
 have bO:=i4.al hal
 rw[hM]
 refine tB (vB (L:=E3 a j D) (T:=fun x=>¬lt (gI d D a) (gI d D x)) (i:=i) (j:=j) (fun m x Q k1 k2 ht hf=>?_) (fun m x k1=>?_) i3 (by omega)) fun i'=>?_
 ·rw[h3]
  refine tD (fun _=>tI (by omega) (by omega) (tE (aG d (by omega) (by omega)) (tI (by omega) (by omega) (tE (aG d (by omega) (by omega)) (tM hc (bO.at d (by omega) (by omega)) (bO.at d (by omega) (by omega)) fun r hr=>tN (fun h=>?_) (fun h=>tS (hf fun k=>k (hr.1 h)))))))) (fun h=>by omega)
  rw[wr (by omega) (by omega)]
  exact ht fun k=>h (hr.2 k)
 ·rw[h3,decide_eq_false (by omega)];rfl
 rintro⟨u1,u2,u3,u4⟩
 refine tB (Ah (L:=E5 a D i') (T:=fun x=>lt (gI d D a) (gI d D x)) (i:=i') (j:=j) (fun m x Q k1 k2 ht hf=>?_) (fun m x k1=>?_) u2 (by omega)) fun j'=>?_
 ·rw[h5]
  refine tD (fun _=>tI (by omega) (by omega) (tE (aG d (by omega) (by omega)) (tI (by omega) (by omega) (tE (aG d (by omega) (by omega)) (tM hc (bO.at d (by omega) (by omega)) (bO.at d (by omega) (by omega)) fun r hr=>tD (fun h=>?_) (fun h=>tS (hf fun k=>h (hr.2 k)))))))) (fun h=>by omega)
  rw[wr (by omega) (by omega)]
  exact ht (hr.1 h)
 ·rw[h5,decide_eq_false (by omega)];rfl
 rintro⟨v1,v2,v3,v4⟩
 have left:∀k,a<k->k<i'->¬lt (gI d D a) (gI d D k):=fun k k1 k2=>by
  by_cases e:k<i
  ·exact i6 k k1 e
  ·exact u3 k (by omega) k2
 have right:∀k,j'<k->k<b->lt (gI d D a) (gI d D k):=fun k k1 k2=>by
  by_cases e:j<k
  ·exact i7 k e k2
  ·exact v3 k k1 (by omega)
 refine tD (fun hgt=>tS ⟨by omega,by omega,i4,i5,left,fun k k1 k2=>right k (by omega) k2⟩) (fun hgt=>?_)
 have t1:lt (gI d D a) (gI d D i'):=Classical.byContradiction (u4 (by omega))
 have t2:=v4 (by omega)
 have hne:i'≠j':=fun e=>t2 (by rw[<-e];exact t1)
 refine tI (by omega) (by first|omega| (simp only[aC,bg];omega)) (tE (aG d (by omega) (by first|omega| (simp only[aC,bg];omega))) ?_)
 refine tI (by omega) (by first|omega| (simp only[aC,bg];omega)) (tE (aG d (by omega) (by first|omega| (simp only[aC,bg];omega))) ?_)
 refine tI (by omega) (by first|omega| (simp only[aC,bg];omega)) (tE (aG d (by omega) (by first|omega| (simp only[aC,bg];omega))) ?_)
 refine tI (by omega) (by first|omega| (simp only[aC,bg];omega)) (tE (aG d (by omega) (by first|omega| (simp only[aC,bg];omega))) ?_)
 rw[wr (by omega) (by omega),wr (by omega) (by omega)]
 have sw:∀k,0<=k->gI d (swp d D i' j') k=if k=j' then gI d D i' else if k=i' then gI d D j' else gI d D k:=fun k hk=>eO (by omega) (by omega) (by omega) (by omega) hk
 have sa:gI d (swp d D i' j') a=gI d D a:=by rw[sw a h0,if_neg (by omega),if_neg (by omega)]
 refine aS ((i'+1,j'-1),swp d D i' j') ⟨by dsimp only;omega,by dsimp only;omega,by dsimp only;omega,i4.swp h0 (by omega) (by omega) (by omega) (by omega) (by omega),sa.trans i5,fun k k1 k2=>?_,fun k k1 k2=>?_⟩ (by dsimp only;omega)
 ·dsimp only at k2⊢
  rw[sa,sw k (by omega),if_neg (by omega)]
  by_cases e:k=i'
  ·rw[if_pos e];exact t2
  ·rw[if_neg e];exact left k k1 (by omega)
 ·dsimp only at k1⊢
  rw[sa,sw k (by omega)]
  by_cases e:k=j'
  ·rw[if_pos e];exact t1
  ·rw[if_neg e,if_neg (by omega)];exact right k (by omega) k2
include hP
theorem peqAll {a b p:Int} {l:List α} (h0:0<=a) (hbl:b<=l.length) (hb:l.length<2^57) (hal:Al Ok l) (hn:(b-a).toNat+1<n) (h1:a<=p) (h2:p<b):
 ∃r,peq ((),a,b,p,((),())) l=some r/\a<r.1/\r.1<=b/\Rp d a b l r.2/\gI d r.2 a=gI d l p/\(∀k,a<k->k<r.1->¬lt (gI d r.2 a) (gI d r.2 k))/\(∀k,r.1<=k->k<b->lt (gI d r.2 a) (gI d r.2 k)):=by
 rw[hP]
 refine tI (by omega) (by first|omega| (simp only[aC,bg];omega)) (tE (aG d (by omega) (by first|omega| (simp only[aC,bg];omega))) ?_)
 refine tI (by omega) (by first|omega| (simp only[aC,bg];omega)) (tE (aG d (by omega) (by first|omega| (simp only[aC,bg];omega))) ?_)
 refine tI (by omega) (by first|omega| (simp only[aC,bg];omega)) (tE (aG d (by omega) (by first|omega| (simp only[aC,bg];omega))) ?_)
 refine tI (by omega) (by first|omega| (simp only[aC,bg];omega)) (tE (aG d (by omega) (by first|omega| (simp only[aC,bg];omega))) ?_)
 rw[wr (by omega) (by omega),wr (by omega) (by omega)]
 have r0:Rp d a b l (swp d l a p):=(Rp.refl d a b l).swp h0 hbl (by omega) (by omega) h1 h2
 have hl:=r0.len
 have bO:=r0.al hal
 refine tB (Q7 hc h3 h5 hM (n:=n) (d:=d) (a:=a) (b:=b) (l:=swp d l a p) (i:=a+1) (j:=b-1) (m:=n) h0 (by omega) (by omega) bO (by omega) (by omega) (by omega) (by omega) (fun k k1 k2=>by omega) (fun k k1 k2=>by omega) (by omega)) fun r=>?_
 rintro⟨q1,q2,q3,q4,q5,q6⟩
 refine tS ⟨q1,q2,r0.trans q3,q4.trans ?_,q5,q6⟩
 rw[eO (by omega) (by omega) (by omega) (by omega) h0]
 by_cases e:a=p
 ·rw[if_pos e,e]
 ·rw[if_neg e,if_pos rfl]
end
end Pq
end
section
open Go Aq
namespace Pq
variable {α:Type}
section
variable {n:Nat} {d:α} {Ok:α->Prop} {lt:α->α->Prop} {cmp:α×α->Option Int} (hc:CmpO Ok lt cmp) (ho:Ord lt)
 {I5:Int->Int->Int->(List α)->Nat->Int->Option (Int)} {I14:Int->Int->Int->Int->Nat->(Int×List α)->Option (PUnit×List α)} {I20:Int->Int->Int->Int->Nat->(Int×List α)->Option (PUnit×List α)} {IM:Int->Int->Nat->((Int×Int)×List α)->Option ((PUnit×List α)⊕(Bool×List α))}
 {pin:Unit×Int×Int×(Unit×Unit)->List α->Option (Bool×List α)}
 (h5:∀(x1 x2 x5:Int) (x6:List α) (m:Nat) (x7:Int),I5 x1 x2 x5 x6 (m+1) x7=
   bif decide (x7<x2) then
    bif decide (0<=x7/\x7< (x6.length:Int)) then
     (idxL x6 x7).bind fun (r8:α)=>
     bif decide (0<=(wrap .i64 (x7-(1:Int)))/\(wrap .i64 (x7-(1:Int)))< (x6.length:Int)) then
      (idxL x6 (wrap .i64 (x7-(1:Int)))).bind fun (r9:α)=>
      (cmp ((r8,r9))).bind fun (r10:Int)=>
      bif !(decide (r10< (0:Int))) then
       I5 x1 x2 x5 x6 m (wrap .i64 (x7+(1:Int)))
      else
       some x7
     else
      none
    else
     none
   else
    some x7)
 (rX:∀(x1 x2 x5 r11:Int) (m:Nat) (x16:Int) (x17:List α),I14 x1 x2 x5 r11 (m+1) (x16,x17)=
   bif decide (x16>=(1:Int)) then
    bif decide (0<=x16/\x16< (x17.length:Int)) then
     (idxL x17 x16).bind fun (r18:α)=>
     bif decide (0<=(wrap .i64 (x16-(1:Int)))/\(wrap .i64 (x16-(1:Int)))< (x17.length:Int)) then
      (idxL x17 (wrap .i64 (x16-(1:Int)))).bind fun (r19:α)=>
      (cmp ((r18,r19))).bind fun (r20:Int)=>
      bif !(decide (r20< (0:Int))) then
       some (((),x17))
      else
       bif decide (0<=(wrap .i64 (x16-(1:Int)))/\(wrap .i64 (x16-(1:Int)))< (x17.length:Int)) then
        (idxL x17 (wrap .i64 (x16-(1:Int)))).bind fun (r21:α)=>
        bif decide (0<=x16/\x16< (x17.length:Int)) then
         (idxL x17 x16).bind fun (r22:α)=>
         bif decide (0<=x16/\x16< (x17.length:Int)) then
          (idxL x17 x16).bind fun (r23:α)=>
          bif decide (0<=(wrap .i64 (x16-(1:Int)))/\(wrap .i64 (x16-(1:Int)))< (((setL x17 x16 r21).length:Nat):Int)) then
           (idxL (setL x17 x16 r21) (wrap .i64 (x16-(1:Int)))).bind fun (r24:α)=>
           I14 x1 x2 x5 r11 m ((wrap .i64 (x16-(1:Int)),setL (setL x17 x16 r21) (wrap .i64 (x16-(1:Int))) r22))
          else
           none
         else
          none
        else
         none
       else
        none
     else
      none
    else
     none
   else
    some (((),x17)))
 (h20:∀(x1 x2 x5 r11:Int) (m:Nat) (x27:Int) (x28:List α),I20 x1 x2 x5 r11 (m+1) (x27,x28)=
   bif decide (x27<x2) then
    bif decide (0<=x27/\x27< (x28.length:Int)) then
     (idxL x28 x27).bind fun (r29:α)=>
     bif decide (0<=(wrap .i64 (x27-(1:Int)))/\(wrap .i64 (x27-(1:Int)))< (x28.length:Int)) then
      (idxL x28 (wrap .i64 (x27-(1:Int)))).bind fun (r30:α)=>
      (cmp ((r29,r30))).bind fun (r31:Int)=>
      bif !(decide (r31< (0:Int))) then
       some (((),x28))
      else
       bif decide (0<=(wrap .i64 (x27-(1:Int)))/\(wrap .i64 (x27-(1:Int)))< (x28.length:Int)) then
        (idxL x28 (wrap .i64 (x27-(1:Int)))).bind fun (r32:α)=>
        bif decide (0<=x27/\x27< (x28.length:Int)) then
         (idxL x28 x27).bind fun (r33:α)=>
         bif decide (0<=x27/\x27< (x28.length:Int)) then
          (idxL x28 x27).bind fun (r34:α)=>
          bif decide (0<=(wrap .i64 (x27-(1:Int)))/\(wrap .i64 (x27-(1:Int)))< (((setL x28 x27 r32).length:Nat):Int)) then
           (idxL (setL x28 x27 r32) (wrap .i64 (x27-(1:Int)))).bind fun (r35:α)=>
           I20 x1 x2 x5 r11 m ((wrap .i64 (x27+(1:Int)),setL (setL x28 x27 r32) (wrap .i64 (x27-(1:Int))) r33))
          else
           none
         else
          none
        else
         none
       else
        none
     else
      none
    else
     none
   else
    some (((),x28)))
 (hM:∀(x1 x2:Int) (m:Nat) (x4 x5:Int) (x6:List α),IM x1 x2 (m+1) ((x4,x5),x6)=
   bif decide (x5< (5:Int)) then
    (I5 x1 x2 x5 x6 n x4).bind fun (r11:Int)=>
    bif r11==x2 then
     some (.inr ((true,x6)))
    else
     bif decide ((wrap .i64 (x2-x1))< (50:Int)) then
      some (.inr ((false,x6)))
     else
      bif decide (0<=(wrap .i64 (r11-(1:Int)))/\(wrap .i64 (r11-(1:Int)))< (x6.length:Int)) then
       (idxL x6 (wrap .i64 (r11-(1:Int)))).bind fun (r12:α)=>
       bif decide (0<=r11/\r11< (x6.length:Int)) then
        (idxL x6 r11).bind fun (r13:α)=>
        bif decide (0<=r11/\r11< (x6.length:Int)) then
         (idxL x6 r11).bind fun (r14:α)=>
         bif decide (0<=(wrap .i64 (r11-(1:Int)))/\(wrap .i64 (r11-(1:Int)))< (((setL x6 r11 r12).length:Nat):Int)) then
          (idxL (setL x6 r11 r12) (wrap .i64 (r11-(1:Int)))).bind fun (r15:α)=>
          Option.bind (α:=PUnit×List α) (
           bif decide ((wrap .i64 (r11-x1))>=(2:Int)) then
            (I14 x1 x2 x5 r11 n ((wrap .i64 (r11-(1:Int)),setL (setL x6 r11 r12) (wrap .i64 (r11-(1:Int))) r13))).bind fun (r25:PUnit×List α)=>
            some (((),r25.2))
           else
            some (((),setL (setL x6 r11 r12) (wrap .i64 (r11-(1:Int))) r13))) fun (r26:PUnit×List α)=>
          bif decide ((wrap .i64 (x2-r11))>=(2:Int)) then
           (I20 x1 x2 x5 r11 n ((wrap .i64 (r11+(1:Int)),r26.2))).bind fun (r36:PUnit×List α)=>
           IM x1 x2 m (((r11,wrap .i64 (x5+(1:Int))),r36.2))
          else
           IM x1 x2 m (((r11,wrap .i64 (x5+(1:Int))),r26.2))
         else
          none
        else
         none
       else
        none
      else
       none
   else
    some (.inl (((),x6))))
 (hP:∀(x1 x2:Int) (x3:List α),pin (((),(x1,(x2,((),()))))) (x3)=
   (IM x1 x2 n (((wrap .i64 (x1+(1:Int)),(0:Int)),x3))).bind fun (r37:(PUnit×List α)⊕(Bool×List α))=>
   Sum.elim (fun (q38:PUnit×List α)=>
    some ((false,q38.2)))
    (fun (q39:Bool×List α)=>
     some ((q39.1,q39.2))) r37)
include hc ho rX
theorem Q8 {a b c r:Int} {D:List α} {m:Nat} (h0:0<=a) (h1:a<r) (h2:r<=D.length) (hb:D.length<2^57) (hal:Al Ok D) (hs:Sd lt d a (r-1) D) (hp:0<a->∀k,a<=k->k<r->¬lt (gI d D k) (gI d D (a-1))) (hm:(r-a).toNat<m):
 ∃s,I14 a b c r m (r-1,D)=some s/\Rp d a r D s.2/\Sd lt d a r s.2:=by
 refine mu (τ:=Int×List α) (L:=I14 a b c r) (fun p=>a<=p.1/\p.1<=r-1/\Rp d a r D p.2/\(∀u v,a<=u->u<v->v<=r-1->u≠p.1->v≠p.1->¬lt (gI d p.2 v) (gI d p.2 u))/\(∀v,p.1<v->v<=r-1->¬lt (gI d p.2 v) (gI d p.2 p.1))) (fun p=>(p.1-a).toNat) _ ?_ m (r-1,D)
  ⟨by dsimp only;omega,R5 _,.refl _ _ _ _,fun u v k1 k2 k3 k4 k5=>hs u v k1 k2 (by dsimp only at k5;omega),fun v k1 k2=>by dsimp only at k1;omega⟩ (by dsimp only;omega)
 rintro m ⟨j,D'⟩ ⟨i1,i2,i3,i4,i5⟩ aS
 dsimp only at i1 i2 i3 i4 i5 aS⊢
 have hl:=i3.len
 have bO:=i3.al hal
 rw[rX]
 simp (disch:=omega) only[wr]
 have fin:(j=a\/¬lt (gI d D' j) (gI d D' (j-1)))->Sd lt d a r D':=fun hh u v k1 k2 k3=>by
  by_cases e2:u=j
  ·rw[e2];exact i5 v (by omega) (by omega)
  ·by_cases e1:v=j
   ·have hj:a<j:=by omega
    have hlt:¬lt (gI d D' j) (gI d D' (j-1)):=by
     rcases hh with h|h
     ·omega
     ·exact h
    rw[e1]
    by_cases e3:u=j-1
    ·rw[e3];exact hlt
    ·exact ho.neg _ _ _ hlt (i4 u (j-1) k1 (by omega) (by omega) e2 (by omega))
   ·exact i4 u v k1 k2 (by omega) e2 e1
 refine tD (fun hj=>?_) (fun hj=>tS ⟨i3,fin (.inl (by omega))⟩)
 refine tI (by omega) (by omega) (tE (aG d (by omega) (by omega)) (tI (by omega) (by omega) (tE (aG d (by omega) (by omega)) (tM hc (bO.at d (by omega) (by omega)) (bO.at d (by omega) (by omega)) fun q hq=>?_))))
 refine tN (fun h=>tS ⟨i3,fin (.inr fun k=>h (hq.2 k))⟩) (fun h=>?_)
 have hlt:=hq.1 h
 have hja:a<j:=by
  rcases Int.lt_or_eq_of_le i1 with h|h
  ·exact h
  ·exfalso
   rw[<-h] at hlt
   have h3:=i3.all (fun x=>¬lt x (gI d D (a-1))) (hp (by omega)) a (R5 _) h1
   rw[i3.out (a-1) (by omega) (.inl (by omega))] at hlt
   exact h3 hlt
 refine tI (by omega) (by first|omega| (simp only[aC];omega)) (tE (aG d (by omega) (by first|omega| (simp only[aC];omega))) ?_)
 refine tI (by omega) (by first|omega| (simp only[aC];omega)) (tE (aG d (by omega) (by first|omega| (simp only[aC];omega))) ?_)
 refine tI (by omega) (by first|omega| (simp only[aC];omega)) (tE (aG d (by omega) (by first|omega| (simp only[aC];omega))) ?_)
 refine tI (by omega) (by first|omega| (simp only[aC];omega)) (tE (aG d (by omega) (by first|omega| (simp only[aC];omega))) ?_)
 refine aS (j-1,swp d D' j (j-1)) ⟨by dsimp only;omega,by dsimp only;omega,i3.swp h0 (by omega) (by omega) (by omega) (by omega) (by omega),fun u v k1 k2 k3 k4 k5=>?_,fun v k1 k2=>?_⟩ (by dsimp only;omega)
 ·dsimp only at k4 k5⊢
  rw[eO (by omega) (by omega) (by omega) (by omega) (by omega),eO (by omega) (by omega) (by omega) (by omega) (by omega),if_neg k5,if_neg k4]
  by_cases e1:v=j
  ·rw[if_pos e1]
   by_cases e2:u=j
   ·omega
   ·rw[if_neg e2]
    exact i4 u (j-1) k1 (by omega) (by omega) e2 (by omega)
  ·rw[if_neg e1]
   by_cases e2:u=j
   ·rw[if_pos e2]
    exact i4 (j-1) v (by omega) (by omega) k3 (by omega) e1
   ·rw[if_neg e2]
    exact i4 u v k1 k2 k3 e2 e1
 ·dsimp only at k1 k2⊢
  rw[eO (by omega) (by omega) (by omega) (by omega) (by omega),eO (by omega) (by omega) (by omega) (by omega) (by omega),if_neg (by omega),if_pos rfl]
  by_cases e1:v=j
  ·rw[if_pos e1];exact ho.asym _ _ hlt
  ·rw[if_neg e1];exact i5 v (by omega) k2
omit rX ho
include h20
theorem Q9 {a b c r:Int} {D:List α} {m:Nat} (h0:0<=r) (h2:b<=D.length) (hb:D.length<2^57) (hal:Al Ok D) (hm:(b-r).toNat<m):
 ∃s,I20 a b c r m (r+1,D)=some s/\Rp d r b D s.2:=by
 refine mu (τ:=Int×List α) (L:=I20 a b c r) (fun p=>r<p.1/\Rp d r b D p.2) (fun p=>(b-p.1).toNat) _ ?_ m (r+1,D) ⟨by dsimp only;omega,.refl _ _ _ _⟩ (by dsimp only;omega)
 rintro m ⟨j,D'⟩ ⟨i1,i3⟩ aS
 dsimp only at i1 i3 aS⊢
 have hl:=i3.len
 have bO:=i3.al hal
 rw[h20]
 refine tD (fun hj=>?_) (fun hj=>tS i3)
 simp (disch:=omega) only[wr]
 refine tI (by omega) (by omega) (tE (aG d (by omega) (by omega)) (tI (by omega) (by omega) (tE (aG d (by omega) (by omega)) (tM hc (bO.at d (by omega) (by omega)) (bO.at d (by omega) (by omega)) fun q hq=>?_))))
 refine tN (fun h=>tS i3) (fun h=>?_)
 refine tI (by omega) (by first|omega| (simp only[aC];omega)) (tE (aG d (by omega) (by first|omega| (simp only[aC];omega))) ?_)
 refine tI (by omega) (by first|omega| (simp only[aC];omega)) (tE (aG d (by omega) (by first|omega| (simp only[aC];omega))) ?_)
 refine tI (by omega) (by first|omega| (simp only[aC];omega)) (tE (aG d (by omega) (by first|omega| (simp only[aC];omega))) ?_)
 refine tI (by omega) (by first|omega| (simp only[aC];omega)) (tE (aG d (by omega) (by first|omega| (simp only[aC];omega))) ?_)
 exact aS (j+1,swp d D' j (j-1)) ⟨by dsimp only;omega,i3.swp h0 (by omega) (by omega) (by omega) (by omega) (by omega)⟩ (by dsimp only;omega)
include ho h5 rX hM hP
theorem pinAll {a b:Int} {l:List α} (h0:0<=a) (hab:a<b) (hbl:b<=l.length) (hb:l.length<2^57) (hal:Al Ok l) (hn:(b-a).toNat+8<n) (hp:0<a->∀k,a<=k->k<b->¬lt (gI d l k) (gI d l (a-1))):
 ∃r,pin ((),a,b,((),())) l=some r/\Rp d a b l r.2/\(r.1=true->Sd lt d a b r.2):=by
 rw[hP]
 refine tB (Q:=fun s=>Sum.elim (fun q:PUnit×List α=>Rp d a b l q.2) (fun q:Bool×List α=>Rp d a b l q.2/\(q.1=true->Sd lt d a b q.2)) s) ?_ fun s=>?_
 ·rw[wr (by omega) (by omega)]
  refine mu (τ:=(Int×Int)×List α) (L:=IM a b) (fun p=>a<p.1.1/\p.1.1<=b/\0<=p.1.2/\p.1.2<=5/\Rp d a b l p.2/\Sd lt d a p.1.1 p.2) (fun p=>(5-p.1.2).toNat) _ ?_ n ((a+1,0),l) ⟨by dsimp only;omega,by dsimp only;omega,R5 _,by dsimp only;omega,.refl _ _ _ _,fun u v k1 k2 k3=>by dsimp only at k3;omega⟩ (by dsimp only;omega)
  rintro m ⟨⟨i,j⟩,D⟩ ⟨i1,i2,i3,i4,i5,i6⟩ aS
  dsimp only at i1 i2 i3 i4 i5 i6 aS⊢
  have hl:=i5.len
  have bO:=i5.al hal
  rw[hM]
  refine tD (fun hj=>?_) (fun hj=>tS i5)
  refine tB (vB (L:=I5 a b j D) (T:=fun x=>¬lt (gI d D x) (gI d D (x-1))) (i:=i) (j:=b-1) (fun m x Q k1 k2 ht hf=>?_) (fun m x k1=>?_) (by omega) (by omega)) fun r=>?_
  ·rw[h5]
   simp (disch:=omega) only[wr]
   exact tD (fun _=>tI (by omega) (by omega) (tE (aG d (by omega) (by omega)) (tI (by omega) (by omega) (tE (aG d (by omega) (by omega)) (tM hc (bO.at d (by omega) (by omega)) (bO.at d (by omega) (by omega)) fun r hr=>tN (fun h=>ht fun k=>h (hr.2 k)) (fun h=>tS (hf fun k=>k (hr.1 h)))))))) (fun h=>by omega)
  ·rw[h5,decide_eq_false (by omega)];rfl
  rintro⟨u1,u2,u3,u4⟩
  have hsr:Sd lt d a r D:=Sd.QZ ho fun k k1 k2=>by
   by_cases e:k<i
   ·exact i6 (k-1) k (by omega) (by omega) e
   ·exact u3 k (by omega) k2
  refine tC (fun e=>?_) (fun e=>?_)
  ·have e':r=b:=by simpa using e
   rw[e'] at hsr
   exact tS ⟨i5,fun _=>hsr⟩
  ·have e':¬r=b:=by simpa using e
   refine tD (fun _=>tS ⟨i5,fun h=>by cases h⟩) (fun _=>?_)
   simp (disch:=omega) only[wr]
   refine tI (by omega) (by first|omega| (simp only[aC];omega)) (tE (aG d (by omega) (by first|omega| (simp only[aC];omega))) ?_)
   refine tI (by omega) (by first|omega| (simp only[aC];omega)) (tE (aG d (by omega) (by first|omega| (simp only[aC];omega))) ?_)
   refine tI (by omega) (by first|omega| (simp only[aC];omega)) (tE (aG d (by omega) (by first|omega| (simp only[aC];omega))) ?_)
   refine tI (by omega) (by first|omega| (simp only[aC];omega)) (tE (aG d (by omega) (by first|omega| (simp only[aC];omega))) ?_)
   have s1:Rp d a b l (swp d D r (r-1)):=i5.swp h0 (by omega) (by omega) (by omega) (by omega) (by omega)
   have hl1:=s1.len
   refine tB (Q:=fun s:PUnit×List α=>Rp d a b l s.2/\Sd lt d a r s.2) ?_ fun s=>?_
   ·refine tD (fun h2=>?_) (fun h2=>tS ⟨s1,fun u v k1 k2 k3=>by omega⟩)
    refine tB (Q8 hc ho rX (d:=d) (b:=b) (c:=j) (r:=r) (D:=swp d D r (r-1)) h0 (by omega) (by omega) (by omega) (s1.al hal) (fun u v k1 k2 k3=>?_) (fun ha k k1 k2=>?_) (by omega)) fun s=>?_
    ·rw[eO (by omega) (by omega) (by omega) (by omega) (by omega),eO (by omega) (by omega) (by omega) (by omega) (by omega),if_neg (by omega),if_neg (by omega),if_neg (by omega),if_neg (by omega)]
     exact hsr u v k1 k2 (by omega)
    ·rw[s1.out (a-1) (by omega) (.inl (by omega))]
     exact s1.all (fun x=>¬lt x (gI d l (a-1))) (hp ha) k k1 (by omega)
    ·rintro⟨q1,q2⟩
     exact tS ⟨s1.trans (q1.wide (R5 _) (by omega) h0),q2⟩
   ·rintro⟨q1,q2⟩
    have hl2:=q1.len
    refine tD (fun h2=>?_) (fun h2=>?_)
    ·refine tB (Q9 hc h20 (d:=d) (a:=a) (b:=b) (c:=j) (r:=r) (D:=s.2) (by omega) (by omega) (by omega) (q1.al hal) (by omega)) fun t=>?_
     intro t1
     refine aS ((r,j+1),t.2) ⟨by dsimp only;omega,by dsimp only;omega,by dsimp only;omega,by dsimp only;omega,q1.trans (t1.wide (by omega) (R5 _) h0),fun u v k1 k2 k3=>?_⟩ (by dsimp only;omega)
     dsimp only at k3⊢
     rw[t1.out u (by omega) (.inl (by omega)),t1.out v (by omega) (.inl (by omega))]
     exact q2 u v k1 k2 k3
    ·exact aS ((r,j+1),s.2) ⟨by dsimp only;omega,by dsimp only;omega,by dsimp only;omega,by dsimp only;omega,q1,q2⟩ (by dsimp only;omega)
 ·intro hs
  rcases s with s|s
  ·exact tS ⟨hs,fun h=>by cases h⟩
  ·exact tS hs
end
theorem Ra {x y:Int} (h0:0<=y) (h1:y<2^62):0<=bitAnd .u64 x y/\bitAnd .u64 x y<=y:=by
 have e:bitAnd .u64 x y=wrap .u64 (((BitVec.ofInt 64 x&&& BitVec.ofInt 64 y).toNat:Nat):Int):=rfl
 have h2:(BitVec.ofInt 64 x&&& BitVec.ofInt 64 y).toNat<=(BitVec.ofInt 64 y).toNat:=by
  rw[BitVec.toNat_and];exact Nat.and_le_right
 have h3:(BitVec.ofInt 64 y).toNat=y.toNat:=by
  rw[BitVec.toNat_ofInt];omega
 rw[e,IntKind.wrap_u64]
 omega
section
variable {n:Nat} {d:α} {np:Int->Option Int} {xs:Unit->Int->Option (Int×Int)} (hN:∀k,8<=k->k<256->∃M,np k=some M/\0<M/\M<=2*k) (hX:∀x,∃r,xs () x=some r)
 {B5:Int->Int->Int->Nat->(Int×Int×List α)->Option (PUnit×List α)} {brk:Unit×Int×Int×(Unit×Unit)->List α->Option (PUnit×List α)}
 (h5:∀(x1 x2 r4:Int) (m:Nat) (x5 x6:Int) (x7:List α),B5 x1 x2 r4 (m+1) (x5,(x6,x7))=
   bif !((4:Int)==(0:Int)) then
    bif decide (x5<=(wrap .i64 ((wrap .i64 (x1+(wrap .i64 ((wrap .i64 (Int.tdiv (wrap .i64 (x2-x1)) (4:Int)))*(2:Int)))))+(1:Int)))) then
     (xs (()) x6).bind fun (r8:Int×Int)=>
     Option.bind (α:=Int) (
      bif decide ((wrap .i64 (bitAnd .u64 r8.1 (wrap .u64 (r4-(1:Int)))))>=(wrap .i64 (x2-x1))) then
       some (wrap .i64 ((wrap .i64 (bitAnd .u64 r8.1 (wrap .u64 (r4-(1:Int)))))-(wrap .i64 (x2-x1))))
      else
       some (wrap .i64 (bitAnd .u64 r8.1 (wrap .u64 (r4-(1:Int)))))) fun (r9:Int)=>
     bif decide (0<=(wrap .i64 (x1+r9))/\(wrap .i64 (x1+r9))< (x7.length:Int)) then
      (idxL x7 (wrap .i64 (x1+r9))).bind fun (r10:α)=>
      bif decide (0<=x5/\x5< (x7.length:Int)) then
       (idxL x7 x5).bind fun (r11:α)=>
       bif decide (0<=x5/\x5< (x7.length:Int)) then
        (idxL x7 x5).bind fun (r12:α)=>
        bif decide (0<=(wrap .i64 (x1+r9))/\(wrap .i64 (x1+r9))< (((setL x7 x5 r10).length:Nat):Int)) then
         (idxL (setL x7 x5 r10) (wrap .i64 (x1+r9))).bind fun (r13:α)=>
         B5 x1 x2 r4 m ((wrap .i64 (x5+(1:Int)),(r8.2,setL (setL x7 x5 r10) (wrap .i64 (x1+r9)) r11)))
        else
         none
       else
        none
      else
       none
     else
      none
    else
     some (((),x7))
   else
    none)
 (hP:∀(x1 x2:Int) (x3:List α),brk (((),(x1,(x2,((),()))))) (x3)=
   bif decide ((wrap .i64 (x2-x1))>=(8:Int)) then
    (np (wrap .i64 (x2-x1))).bind fun (r4:Int)=>
    bif !((4:Int)==(0:Int)) then
     (B5 x1 x2 r4 n ((wrap .i64 ((wrap .i64 (x1+(wrap .i64 ((wrap .i64 (Int.tdiv (wrap .i64 (x2-x1)) (4:Int)))*(2:Int)))))-(1:Int)),(wrap .u64 (wrap .i64 (x2-x1)),x3)))).bind fun (r14:PUnit×List α)=>
     some (((),r14.2))
    else
     none
   else
    some (((),x3)))
include hN hX h5 hP
theorem brkAll {a b:Int} {l:List α} (h0:0<=a) (hab:a<=b) (hbl:b<=l.length) (hb:l.length<256) (hn:8<n):
 ∃r,brk ((),a,b,((),())) l=some r/\Rp d a b l r.2:=by
 have ht:Int.tdiv (b-a) 4=(b-a)/4:=Int.tdiv_eq_ediv_of_nonneg (by omega)
 rw[hP]
 simp (disch:=omega) only[wr]
 refine tD (fun h8=>?_) (fun h8=>tS (.refl _ _ _ _))
 obtain⟨M,e,m1,m2⟩:=hN (b-a) h8 (by omega)
 refine tE e (tG (by decide) ?_)
 simp (disch:=omega) only[wr,ht]
 refine tB (Q:=fun s:PUnit×List α=>Rp d a b l s.2) ?_ fun s hs=>tS hs
 generalize wrap .u64 (b-a)=z
 refine mu (τ:=Int×Int×List α) (L:=B5 a b M) (fun p=>a+(b-a)/4*2-1<=p.1/\p.1<=a+(b-a)/4*2+2/\Rp d a b l p.2.2) (fun p=>(a+(b-a)/4*2+2-p.1).toNat) _ ?_ n (a+(b-a)/4*2-1,(z,l)) ⟨R5 _,by dsimp only;omega,.refl _ _ _ _⟩ (by dsimp only;omega)
 rintro m ⟨x,y,D⟩ ⟨i1,i2,i3⟩ aS
 dsimp only at i1 i2 i3 aS⊢
 have hl:=i3.len
 rw[h5]
 refine tG (by decide) ?_
 simp (disch:=omega) only[wr,ht]
 refine tD (fun hx=>?_) (fun hx=>tS i3)
 obtain⟨q,hq⟩:=hX y
 refine tE hq ?_
 have hw:wrap .u64 (M-1)=M-1:=by rw[IntKind.wrap_u64];omega
 rw[hw]
 obtain⟨b1,b2⟩:=Ra (x:=q.1) (y:=M-1) (by omega) (by omega)
 generalize bitAnd .u64 q.1 (M-1)=v at*
 simp (disch:=omega) only[wr]
 refine tB (Q:=fun o:Int=>0<=o/\o<b-a) ?_ fun o=>?_
 ·exact tD (fun h=>tS (by omega)) (fun h=>tS (by omega))
 ·rintro⟨o1,o2⟩
  simp (disch:=omega) only[wr]
  refine tI (by omega) (by first|omega| (simp only[aC];omega)) (tE (aG d (by omega) (by first|omega| (simp only[aC];omega))) ?_)
  refine tI (by omega) (by first|omega| (simp only[aC];omega)) (tE (aG d (by omega) (by first|omega| (simp only[aC];omega))) ?_)
  refine tI (by omega) (by first|omega| (simp only[aC];omega)) (tE (aG d (by omega) (by first|omega| (simp only[aC];omega))) ?_)
  refine tI (by omega) (by first|omega| (simp only[aC];omega)) (tE (aG d (by omega) (by first|omega| (simp only[aC];omega))) ?_)
  exact aS (x+1,(q.2,swp d D x (a+o))) ⟨by dsimp only;omega,by dsimp only;omega,i3.swp h0 (by omega) (by omega) (by omega) (by omega) (by omega)⟩ (by dsimp only;omega)
end
section
variable {n:Nat} (d:α) {Ok:α->Prop} {lt:α->α->Prop} {cmp:α×α->Option Int} (hc:CmpO Ok lt cmp)
 {o2:List α×Int×Int×Unit×Unit×Unit->Int->Option ((Int×Int)×Int)} {med:List α×Int×Int×Int×Unit×Unit×Unit->Int->Option (Int×Int)} {mad:List α×Int×Unit×Unit×Unit->Int->Option (Int×Int)} {cho:List α×Int×Int×Unit×Unit->Option (Int×Int)}
 (h2:∀(x1:List α) (x2 x3 x4:Int),o2 ((x1,(x2,(x3,((),((),())))))) (x4)=
   (idxL x1 x3).bind fun (r5:α)=>
   (idxL x1 x2).bind fun (r6:α)=>
   (cmp ((r5,r6))).bind fun (r7:Int)=>
   bif decide (r7< (0:Int)) then
    some (((x3,x2),wrap .i64 (x4+(1:Int))))
   else
    some (((x2,x3),x4)))
 (h3:∀(x1:List α) (x2 x3 x4 x5:Int),med ((x1,(x2,(x3,(x4,((),((),()))))))) (x5)=
   (o2 ((x1,(x2,(x3,((),((),())))))) x5).bind fun (r6:(Int×Int)×Int)=>
   (o2 ((x1,(r6.1.2,(x4,((),((),())))))) r6.2).bind fun (r7:(Int×Int)×Int)=>
   (o2 ((x1,(r6.1.1,(r7.1.1,((),((),())))))) r7.2).bind fun (r8:(Int×Int)×Int)=>
   some ((r8.1.2,r8.2)))
 (h4:∀(x1:List α) (x2 x3:Int),mad ((x1,(x2,((),((),()))))) (x3)=
   (med ((x1,(wrap .i64 (x2-(1:Int)),(x2,(wrap .i64 (x2+(1:Int)),((),((),()))))))) x3).bind fun (r4:Int×Int)=>
   some ((r4.1,r4.2)))
 (hP:∀(x1:List α) (x2 x3:Int),cho (x1,(x2,(x3,((),()))))=
   bif !((4:Int)==(0:Int)) then
    bif !((4:Int)==(0:Int)) then
     bif !((4:Int)==(0:Int)) then
      bif decide ((wrap .i64 (x3-x2))>=(8:Int)) then
       bif decide ((wrap .i64 (x3-x2))>=(50:Int)) then
        (mad ((x1,(wrap .i64 (x2+(wrap .i64 ((wrap .i64 (Int.tdiv (wrap .i64 (x3-x2)) (4:Int)))*(1:Int)))),((),((),()))))) (0:Int)).bind fun (r4:Int×Int)=>
        (mad ((x1,(wrap .i64 (x2+(wrap .i64 ((wrap .i64 (Int.tdiv (wrap .i64 (x3-x2)) (4:Int)))*(2:Int)))),((),((),()))))) r4.2).bind fun (r5:Int×Int)=>
        (mad ((x1,(wrap .i64 (x2+(wrap .i64 ((wrap .i64 (Int.tdiv (wrap .i64 (x3-x2)) (4:Int)))*(3:Int)))),((),((),()))))) r5.2).bind fun (r6:Int×Int)=>
        (med ((x1,(r4.1,(r5.1,(r6.1,((),((),()))))))) r6.2).bind fun (r7:Int×Int)=>
        bif r7.2==(0:Int) then
         some ((r7.1,(1:Int)))
        else
         bif r7.2==(12:Int) then
          some ((r7.1,(2:Int)))
         else
          some ((r7.1,(0:Int)))
       else
        (med ((x1,(wrap .i64 (x2+(wrap .i64 ((wrap .i64 (Int.tdiv (wrap .i64 (x3-x2)) (4:Int)))*(1:Int)))),(wrap .i64 (x2+(wrap .i64 ((wrap .i64 (Int.tdiv (wrap .i64 (x3-x2)) (4:Int)))*(2:Int)))),(wrap .i64 (x2+(wrap .i64 ((wrap .i64 (Int.tdiv (wrap .i64 (x3-x2)) (4:Int)))*(3:Int)))),((),((),()))))))) (0:Int)).bind fun (r8:Int×Int)=>
        bif r8.2==(0:Int) then
         some ((r8.1,(1:Int)))
        else
         bif r8.2==(12:Int) then
          some ((r8.1,(2:Int)))
         else
          some ((r8.1,(0:Int)))
      else
       bif (0:Int)==(0:Int) then
        some ((wrap .i64 (x2+(wrap .i64 ((wrap .i64 (Int.tdiv (wrap .i64 (x3-x2)) (4:Int)))*(2:Int)))),(1:Int)))
       else
        bif (0:Int)==(12:Int) then
         some ((wrap .i64 (x2+(wrap .i64 ((wrap .i64 (Int.tdiv (wrap .i64 (x3-x2)) (4:Int)))*(2:Int)))),(2:Int)))
        else
         some ((wrap .i64 (x2+(wrap .i64 ((wrap .i64 (Int.tdiv (wrap .i64 (x3-x2)) (4:Int)))*(2:Int)))),(0:Int)))
     else
      none
    else
     none
   else
    none)
include d hc h2
theorem Ai {l:List α} {x y z:Int} (hal:Al Ok l) (h1:0<=x) (h3:x<l.length) (h4:0<=y) (h5:y<l.length):∃r,o2 (l,x,y,(),(),()) z=some r/\((r.1.1=y/\r.1.2=x)\/(r.1.1=x/\r.1.2=y)):=by
 rw[h2]
 refine tE (aG d (by omega) (by omega)) (tE (aG d (by omega) (by omega)) (tM hc (hal.at d (by omega) (by omega)) (hal.at d (by omega) (by omega)) fun q hq=>?_))
 exact tD (fun _=>tS (.inl ⟨rfl,rfl⟩)) (fun _=>tS (.inr ⟨rfl,rfl⟩))
include h3
theorem Aj {l:List α} {x y w z a b:Int} (hal:Al Ok l) (h0:0<=a) (hb:b<=l.length) (k1:a<=x/\x<b) (k2:a<=y/\y<b) (k3:a<=w/\w<b):∃r,med (l,x,y,w,(),(),()) z=some r/\a<=r.1/\r.1<b:=by
 rw[h3]
 refine tB (Ai hc h2 (d:=d) hal (by omega) (by omega) (by omega) (by omega)) fun r hr=>?_
 have r1:a<=r.1.1/\r.1.1<b/\a<=r.1.2/\r.1.2<b:=by omega
 refine tB (Ai hc h2 (d:=d) hal (by omega) (by omega) (by omega) (by omega)) fun s hs=>?_
 have s1:a<=s.1.1/\s.1.1<b/\a<=s.1.2/\s.1.2<b:=by omega
 refine tB (Ai hc h2 (d:=d) hal (by omega) (by omega) (by omega) (by omega)) fun t ht=>?_
 exact tS (by dsimp only;omega)
include h4
theorem Ak {l:List α} {x z a b:Int} (hal:Al Ok l) (h0:0<=a) (hb:b<=l.length) (hl:l.length<2^57) (k1:a<x/\x+1<b):∃r,mad (l,x,(),(),()) z=some r/\a<=r.1/\r.1<b:=by
 rw[h4]
 simp (disch:=omega) only[wr]
 exact tB (Aj hc h2 h3 (d:=d) (a:=a) (b:=b) hal h0 hb (by omega) (by omega) (by omega)) fun r hr=>tS hr
include hP
theorem choAll {l:List α} {a b:Int} (hal:Al Ok l) (h0:0<=a) (hb:b<=l.length) (hl:l.length<2^57) (hab:12<b-a):∃r,cho (l,a,b,(),())=some r/\a<=r.1/\r.1<b:=by
 have ht:Int.tdiv (b-a) 4=(b-a)/4:=Int.tdiv_eq_ediv_of_nonneg (by omega)
 rw[hP]
 refine tG (by decide) (tG (by decide) (tG (by decide) ?_))
 simp (disch:=omega) only[wr,ht]
 have fin:∀q:Int×Int,a<=q.1/\q.1<b->∃r,(bif q.2==(0:Int) then some ((q.1,(1:Int))) else bif q.2==(12:Int) then some ((q.1,(2:Int))) else some ((q.1,(0:Int))))=some r/\a<=r.1/\r.1<b:=fun q hq=>tC (fun _=>tS hq) (fun _=>tC (fun _=>tS hq) (fun _=>tS hq))
 refine tD (fun _=>?_) (fun h=>by omega)
 refine tD (fun h50=>?_) (fun _=>?_)
 ·refine tB (Ak hc h2 h3 h4 (d:=d) (a:=a) (b:=b) hal h0 hb hl (by omega)) fun r hr=>?_
  refine tB (Ak hc h2 h3 h4 (d:=d) (a:=a) (b:=b) hal h0 hb hl (by omega)) fun s hs=>?_
  refine tB (Ak hc h2 h3 h4 (d:=d) (a:=a) (b:=b) hal h0 hb hl (by omega)) fun t ht=>?_
  exact tB (Aj hc h2 h3 (d:=d) (a:=a) (b:=b) hal h0 hb hr hs ht) fun u hu=>fin u hu
 ·exact tB (Aj hc h2 h3 (d:=d) (a:=a) (b:=b) hal h0 hb (by omega) (by omega) (by omega)) fun u hu=>fin u hu
end
end Pq
end
