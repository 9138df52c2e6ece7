import Derived.Test.YtgdialomgeijcaaGreatF3726
set_option linter.all false
open Go.IntKind (wrap)
section
open Go Aq
namespace Pq
variable {α:Type}
def Pa (lt:α->α->Prop) (d:α) (a b x y:Int) (l:List α):Prop:=∀u v,a<=u->u<v->v<b->(u<x\/y<=v)->¬lt (gI d l v) (gI d l u)
theorem Pa.rp {lt:α->α->Prop} {d:α} {a b x y:Int} {l l':List α} (h:Pa lt d a b x y l) (k:Rp d x y l l') (ha:a<=x) (hb:y<=b) (h0:0<=a):Pa lt d a b x y l':=by
 intro u v k1 k2 k3 k4
 by_cases e1:x<=u/\u<y
 ·have hv:y<=v:=by omega
  rw[k.out v (by omega) (.inr hv)]
  exact k.all (fun z=>¬lt (gI d l v) z) (fun w w1 w2=>h w v (by omega) (by omega) k3 (.inr hv)) u e1.1 e1.2
 ·rw[k.out u (by omega) (by omega)]
  by_cases e2:x<=v/\v<y
  ·exact k.all (fun z=>¬lt z (gI d l u)) (fun w w1 w2=>h u w k1 (by omega) (by omega) (.inl (by omega))) v e2.1 e2.2
  ·rw[k.out v (by omega) (by omega)]
   exact h u v k1 k2 k3 k4
theorem Pa.fin {lt:α->α->Prop} {d:α} {a b x y:Int} {l l':List α} (h:Pa lt d a b x y l) (k:Rp d x y l l') (ha:a<=x) (hb:y<=b) (h0:0<=a) (hs:Sd lt d x y l'):Sd lt d a b l':=by
 intro u v k1 k2 k3
 by_cases e:u<x\/y<=v
 ·exact h.rp k ha hb h0 u v k1 k2 k3 e
 ·exact hs u v (by omega) k2 (by omega)
section
variable {n:Nat} {d:α} {Ok:α->Prop} {lt:α->α->Prop} {cmp:α×α->Option Int} (hc:CmpO Ok lt cmp) (ho:Ord lt)
 {ins heap brk rev:Unit×Int×Int×(Unit×Unit)->List α->Option (PUnit×List α)} {cho:List α×Int×Int×Unit×Unit->Option (Int×Int)} {pin:Unit×Int×Int×(Unit×Unit)->List α->Option (Bool×List α)}
 {peq:Unit×Int×Int×Int×(Unit×Unit)->List α->Option (Int×List α)} {prt:Unit×Int×Int×Int×(Unit×Unit)->List α->Option ((Int×Bool)×List α)}
 (He:∀{a b:Int} {l:List α},0<=a->a<=b->b<=l.length->l.length<256->Al Ok l->∃r,ins ((),a,b,((),())) l=some r/\Rp d a b l r.2/\Sd lt d a b r.2)
 (Hf:∀{a b:Int} {l:List α},0<=a->a<=b->b<=l.length->l.length<256->Al Ok l->∃r,heap ((),a,b,((),())) l=some r/\Rp d a b l r.2/\Sd lt d a b r.2)
 (Hg:∀{a b:Int} {l:List α},0<=a->a<=b->b<=l.length->l.length<256->∃r,brk ((),a,b,((),())) l=some r/\Rp d a b l r.2)
 (Hl:∀{a b:Int} {l:List α},Al Ok l->0<=a->b<=l.length->l.length<256->12<b-a->∃r,cho (l,a,b,(),())=some r/\a<=r.1/\r.1<b)
 (Ho:∀{a b:Int} {l:List α},0<=a->a<=b->b<=l.length->l.length<256->∃r,rev ((),a,b,((),())) l=some r/\Rp d a b l r.2)
 (Hq:∀{a b:Int} {l:List α},0<=a->a<b->b<=l.length->l.length<256->Al Ok l->(0<a->∀k,a<=k->k<b->¬lt (gI d l k) (gI d l (a-1)))->∃r,pin ((),a,b,((),())) l=some r/\Rp d a b l r.2/\(r.1=true->Sd lt d a b r.2))
 (Hr:∀{a b p:Int} {l:List α},0<=a->b<=l.length->l.length<256->Al Ok l->a<=p->p<b->∃r,peq ((),a,b,p,((),())) l=some r/\a<r.1/\r.1<=b/\Rp d a b l r.2/\gI d r.2 a=gI d l p/\(∀k,a<k->k<r.1->¬lt (gI d r.2 a) (gI d r.2 k))/\(∀k,r.1<=k->k<b->lt (gI d r.2 a) (gI d r.2 k)))
 (Am:∀{a b p:Int} {l:List α},0<=a->b<=l.length->l.length<256->Al Ok l->a<=p->p<b->∃r,prt ((),a,b,p,((),())) l=some r/\Parts lt d a b r.1.1 l r.2)
 {PL:Nat->Nat->(Int×Int×Int×Bool×Bool)×List α->Option (PUnit×List α)} {pd:Nat->Unit×Int×Int×Int×(Unit×Unit)->List α->Option (PUnit×List α)}
 (Ht:∀(g m:Nat) (x5 x6 x7:Int) (x8 x9:Bool) (x10:List α),PL g (m+1) ((x5,(x6,(x7,(x8,x9)))),x10)=
   bif decide ((wrap .i64 (x6-x5))<=(12:Int)) then
    (ins (((),(x5,(x6,((),()))))) x10).bind fun (r11:PUnit×List α)=>
    some (((),r11.2))
   else
    bif x7==(0:Int) then
     (heap (((),(x5,(x6,((),()))))) x10).bind fun (r12:PUnit×List α)=>
     some (((),r12.2))
    else
     Option.bind (α:=Int×List α) (
      bif !x8 then
       (brk (((),(x5,(x6,((),()))))) x10).bind fun (r13:PUnit×List α)=>
       some ((wrap .i64 (x7-(1:Int)),r13.2))
      else
       some ((x7,x10))) fun (r14:Int×List α)=>
     (cho ((r14.2,(x5,(x6,((),())))))).bind fun (r15:Int×Int)=>
     Option.bind (α:=(Int×Int)×List α) (
      bif r15.2==(2:Int) then
       (rev (((),(x5,(x6,((),()))))) r14.2).bind fun (r16:PUnit×List α)=>
       some (((wrap .i64 ((wrap .i64 (x6-(1:Int)))-(wrap .i64 (r15.1-x5))),(1:Int)),r16.2))
      else
       some (((r15.1,r15.2),r14.2))) fun (r17:(Int×Int)×List α)=>
     Option.bind (α:=(PUnit×List α)⊕(PUnit×List α)) (
      bif bif bif x8 then x9 else false then r17.1.2==(1:Int) else false then
       (pin (((),(x5,(x6,((),()))))) r17.2).bind fun (r18:Bool×List α)=>
       bif r18.1 then
        some (.inr (((),r18.2)))
       else
        some (.inl (((),r18.2)))
      else
       some (.inl (((),r17.2)))) fun (r19:(PUnit×List α)⊕(PUnit×List α))=>
     Sum.elim (fun (q20:PUnit×List α)=>
      bif decide (x5> (0:Int)) then
       bif decide (0<=(wrap .i64 (x5-(1:Int)))/\(wrap .i64 (x5-(1:Int)))< (q20.2.length:Int)) then
        (idxL q20.2 (wrap .i64 (x5-(1:Int)))).bind fun (r22:α)=>
        bif decide (0<=r17.1.1/\r17.1.1< (q20.2.length:Int)) then
         (idxL q20.2 r17.1.1).bind fun (r23:α)=>
         (cmp ((r22,r23))).bind fun (r24:Int)=>
         bif !(decide (r24< (0:Int))) then
          (peq (((),(x5,(x6,(r17.1.1,((),())))))) q20.2).bind fun (r25:Int×List α)=>
          PL g m (((r25.1,(x6,(r14.1,(x8,x9)))),r25.2))
         else
          (prt (((),(x5,(x6,(r17.1.1,((),())))))) q20.2).bind fun (r26:(Int×Bool)×List α)=>
          bif !((8:Int)==(0:Int)) then
           bif decide ((wrap .i64 (r26.1.1-x5))< (wrap .i64 (x6-r26.1.1))) then
            (pd g (((),(x5,(r26.1.1,(r14.1,((),())))))) r26.2).bind fun (r27:PUnit×List α)=>
            PL g m (((wrap .i64 (r26.1.1+(1:Int)),(x6,(r14.1,(decide ((wrap .i64 (r26.1.1-x5))>=(wrap .i64 (Int.tdiv (wrap .i64 (x6-x5)) (8:Int)))),r26.1.2)))),r27.2))
           else
            (pd g (((),(wrap .i64 (r26.1.1+(1:Int)),(x6,(r14.1,((),())))))) r26.2).bind fun (r28:PUnit×List α)=>
            PL g m (((x5,(r26.1.1,(r14.1,(decide ((wrap .i64 (x6-r26.1.1))>=(wrap .i64 (Int.tdiv (wrap .i64 (x6-x5)) (8:Int)))),r26.1.2)))),r28.2))
          else
           none
        else
         none
       else
        none
      else
       (prt (((),(x5,(x6,(r17.1.1,((),())))))) q20.2).bind fun (r29:(Int×Bool)×List α)=>
       bif !((8:Int)==(0:Int)) then
        bif decide ((wrap .i64 (r29.1.1-x5))< (wrap .i64 (x6-r29.1.1))) then
         (pd g (((),(x5,(r29.1.1,(r14.1,((),())))))) r29.2).bind fun (r30:PUnit×List α)=>
         PL g m (((wrap .i64 (r29.1.1+(1:Int)),(x6,(r14.1,(decide ((wrap .i64 (r29.1.1-x5))>=(wrap .i64 (Int.tdiv (wrap .i64 (x6-x5)) (8:Int)))),r29.1.2)))),r30.2))
        else
         (pd g (((),(wrap .i64 (r29.1.1+(1:Int)),(x6,(r14.1,((),())))))) r29.2).bind fun (r31:PUnit×List α)=>
         PL g m (((x5,(r29.1.1,(r14.1,(decide ((wrap .i64 (x6-r29.1.1))>=(wrap .i64 (Int.tdiv (wrap .i64 (x6-x5)) (8:Int)))),r29.1.2)))),r31.2))
       else
        none)
      (fun (q21:PUnit×List α)=>
       some (((),q21.2))) r19)
 (Hu:∀(g:Nat) (x1 x2 x3:Int) (x4:List α),pd (g+1) (((),(x1,(x2,(x3,((),())))))) (x4)=
   (PL g n (((x1,(x2,(x3,(true,true)))),x4))).bind fun (r32:PUnit×List α)=>
   some (((),r32.2)))
include hc ho He Hf Hg Hl Ho Hq Hr Am Ht Hu
theorem pdqAll (hn:300<n):∀(g:Nat) (a b lim:Int) (l:List α),(b-a).toNat<g->0<=a->a<=b->b<=l.length->l.length<256->Al Ok l->(0<a->∀k,a<=k->k<b->¬lt (gI d l k) (gI d l (a-1)))->∃r,pd g ((),a,b,lim,((),())) l=some r/\Rp d a b l r.2/\Sd lt d a b r.2:=by
 intro g
 induction g with
 |zero=>intro a b lim l h;omega
 |succ g ih=>
  intro a b lim l hg h0 hab hbl hb hal hp
  rw[Hu]
  refine tB (Q:=fun r:PUnit×List α=>Rp d a b l r.2/\Sd lt d a b r.2) ?_ fun r hr=>tS hr
  refine mu (τ:=(Int×Int×Int×Bool×Bool)×List α) (L:=PL g) (fun p=>a<=p.1.1/\p.1.1<=p.1.2.1/\p.1.2.1<=b/\Rp d a b l p.2/\Pa lt d a b p.1.1 p.1.2.1 p.2) (fun p=>(p.1.2.1-p.1.1).toNat) _ ?_ n ((a,(b,(lim,(true,true)))),l)
   ⟨R5 _,hab,R5 _,.refl _ _ _ _,fun u v k1 k2 k3 k4=>by dsimp only at k4;omega⟩ (by dsimp only;omega)
  rintro m ⟨⟨x5,x6,x7,x8,x9⟩,D⟩ ⟨i1,i2,i3,i4,i5⟩ aS
  dsimp only at i1 i2 i3 i4 i5 aS⊢
  have hl:=i4.len
  have pre:∀{D':List α},Rp d x5 x6 D D'->0<x5->∀k,x5<=k->k<x6->¬lt (gI d D' k) (gI d D' (x5-1)):=fun {D'} hD hx k k1 k2=>by
   have hP:=i5.rp hD i1 i3 h0
   by_cases e:a<x5
   ·exact hP (x5-1) k (by omega) (by omega) (by omega) (.inl (by omega))
   ·have e':x5=a:=by omega
    have hw:=i4.trans (hD.wide i1 i3 h0)
    rw[e',hw.out (a-1) (by omega) (.inl (by omega))]
    exact hw.all (fun z=>¬lt z (gI d l (a-1))) (hp (by omega)) k (by omega) (by omega)
  rw[Ht]
  simp (disch:=omega) only[wr]
  refine tD (fun _=>?_) (fun h12=>?_)
  ·refine tB (He (a:=x5) (b:=x6) (l:=D) (by omega) i2 (by omega) (by omega) (i4.al hal)) fun r=>?_
   rintro⟨r1,r2⟩
   exact tS ⟨i4.trans (r1.wide i1 i3 h0),i5.fin r1 i1 i3 h0 r2⟩
  refine tC (fun _=>?_) (fun _=>?_)
  ·refine tB (Hf (a:=x5) (b:=x6) (l:=D) (by omega) i2 (by omega) (by omega) (i4.al hal)) fun r=>?_
   rintro⟨r1,r2⟩
   exact tS ⟨i4.trans (r1.wide i1 i3 h0),i5.fin r1 i1 i3 h0 r2⟩
  refine tB (Q:=fun s:Int×List α=>Rp d x5 x6 D s.2) ?_ fun s hs=>?_
  ·refine tC (fun _=>?_) (fun _=>tS (.refl _ _ _ _))
   exact tB (Hg (a:=x5) (b:=x6) (l:=D) (by omega) i2 (by omega) (by omega)) fun r hr=>tS hr
  have hl1:=hs.len
  refine tB (Hl (a:=x5) (b:=x6) (l:=s.2) (hs.al (i4.al hal)) (by omega) (by omega) (by omega) (by omega)) fun c=>?_
  rintro⟨c1,c2⟩
  refine tB (Q:=fun t:(Int×Int)×List α=>x5<=t.1.1/\t.1.1<x6/\Rp d x5 x6 D t.2) ?_ fun t=>?_
  ·refine tC (fun _=>?_) (fun _=>tS ⟨c1,c2,hs⟩)
   refine tB (Ho (a:=x5) (b:=x6) (l:=s.2) (by omega) i2 (by omega) (by omega)) fun r hr=>?_
   simp (disch:=omega) only[wr]
   exact tS ⟨by dsimp only;omega,by dsimp only;omega,hs.trans hr⟩
  rintro⟨t1,t2,t3⟩
  have hl2:=t3.len
  refine tB (Q:=fun w:(PUnit×List α)⊕(PUnit×List α)=>Sum.elim (fun q:PUnit×List α=>Rp d x5 x6 D q.2) (fun q:PUnit×List α=>Rp d x5 x6 D q.2/\Sd lt d x5 x6 q.2) w) ?_ fun w hw=>?_
  ·refine tC (fun _=>?_) (fun _=>tS t3)
   refine tB (Hq (a:=x5) (b:=x6) (l:=t.2) (by omega) (by omega) (by omega) (by omega) (t3.al (i4.al hal)) (pre t3)) fun r=>?_
   rintro⟨r1,r2⟩
   exact tC (fun h=>tS ⟨t3.trans r1,r2 h⟩) (fun _=>tS (t3.trans r1))
  rcases w with q|q
  ·have d1:Rp d x5 x6 D q.2:=hw
   have hl1:=d1.len
   change∃r,(bif decide (x5>0) then _ else _)=some r/\_
   generalize q.2=D1 at*
   refine tD (fun hx0=>?_) (fun hx0=>?_)
   ·refine tI (by omega) (by omega) (tE (aG d (by omega) (by omega)) (tI (by omega) (by omega) (tE (aG d (by omega) (by omega)) (tM hc ((d1.al (i4.al hal)).at d (by omega) (by omega)) ((d1.al (i4.al hal)).at d (by omega) (by omega)) fun z hz=>?_))))
    refine tN (fun hlt=>?_) (fun hlt=>?_)
    ·have hlt':¬lt (gI d D1 (x5-1)) (gI d D1 t.1.1):=fun k=>hlt (hz.2 k)
     refine tB (Hr (a:=x5) (b:=x6) (p:=t.1.1) (l:=D1) (by omega) (by omega) (by omega) (d1.al (i4.al hal)) t1 t2) fun r=>?_
     rintro⟨r1,r2,r3,r4,r5,r6⟩
     have hl3:=r3.len
     have d2:=d1.trans r3
     have P2:=i5.rp (x:=x5) (y:=x6) d2 i1 i3 h0
     refine aS _ ⟨by dsimp only;omega,by dsimp only;omega,by dsimp only;omega,i4.trans (d2.wide i1 i3 h0),fun u v k1 k2 k3 k4=>?_⟩ (by dsimp only;omega)
     dsimp only at k4⊢
     by_cases e:u<x5\/x6<=v
     ·exact P2 u v k1 k2 k3 e
     ·have hu:¬lt (gI d r.2 x5) (gI d r.2 u):=by
       by_cases e2:u=x5
       ·rw[e2];exact ho.iM _
       ·exact r5 u (by omega) (by omega)
      have hv:¬lt (gI d r.2 v) (gI d r.2 x5):=by
       by_cases e2:v<r.1
       ·have h1:=pre d2 hx0 v (by omega) (by omega)
        rw[r3.out (x5-1) (by omega) (.inl (by omega))] at h1
        rw[r4]
        exact ho.neg _ _ _ h1 hlt'
       ·exact ho.asym _ _ (r6 v (by omega) (by omega))
      exact ho.neg _ _ _ hv hu
    ·refine tB (Am (a:=x5) (b:=x6) (p:=t.1.1) (l:=D1) (by omega) (by omega) (by omega) (d1.al (i4.al hal)) t1 t2) fun r=>?_
     intro hr
     obtain⟨p1,p2,p3,p4,p5⟩:=hr
     have hl3:=p3.len
     have d2:=d1.trans p3
     have P2:=i5.rp (x:=x5) (y:=x6) d2 i1 i3 h0
     have rY:=d2.al (i4.al hal)
     refine tG (by decide) ?_
     simp (disch:=omega) only[wr]
     refine tD (fun hlt=>?_) (fun hlt=>?_)
     ·refine tB (ih x5 r.1.1 _ r.2 (by omega) (by omega) (by omega) (by omega) (by omega) rY (fun hx k k1 k2=>?_)) fun s=>?_
      ·exact pre d2 hx k k1 (by omega)
      ·rintro⟨s1,s2⟩
       have hl4:=s1.len
       have em:gI d s.2 r.1.1=gI d r.2 r.1.1:=s1.out _ (by omega) (.inr (by omega))
       have s1':=s1.wide (a':=x5) (b':=x6) (by omega) (by omega) (by omega)
       refine aS _ ⟨by dsimp only;omega,by dsimp only;omega,by dsimp only;omega,i4.trans ((d2.trans s1').wide (by omega) (by omega) h0),fun u v k1 k2 k3 k4=>?_⟩ (by dsimp only;omega)
       dsimp only at k4⊢
       by_cases e:u<x5\/x6<=v
       ·exact P2.rp s1' i1 i3 h0 u v k1 k2 k3 e
       ·by_cases e1:v<r.1.1
        ·exact s2 u v (by omega) k2 e1
        ·have hu:¬lt (gI d s.2 r.1.1) (gI d s.2 u):=by
          by_cases e2:u=r.1.1
          ·rw[e2];exact ho.iM _
          ·rw[em]
           exact s1.all (fun z=>¬lt (gI d r.2 r.1.1) z) (fun w w1 w2=>p4 w w1 w2) u (by omega) (by omega)
         have hv:¬lt (gI d s.2 v) (gI d s.2 r.1.1):=by
          by_cases e2:v=r.1.1
          ·rw[e2];exact ho.iM _
          ·rw[em,s1.out v (by omega) (.inr (by omega))];exact p5 v (by omega) (by omega)
         exact ho.neg _ _ _ hv hu
     ·refine tB (ih (r.1.1+1) x6 _ r.2 (by omega) (by omega) (by omega) (by omega) (by omega) rY (fun hx k k1 k2=>?_)) fun s=>?_
      ·rw[show r.1.1+1-1=r.1.1 by omega]
       exact p5 k (by omega) k2
      ·rintro⟨s1,s2⟩
       have hl4:=s1.len
       have em:gI d s.2 r.1.1=gI d r.2 r.1.1:=s1.out _ (by omega) (.inl (by omega))
       have s1':=s1.wide (a':=x5) (b':=x6) (by omega) (by omega) (by omega)
       refine aS _ ⟨by dsimp only;omega,by dsimp only;omega,by dsimp only;omega,i4.trans ((d2.trans s1').wide (by omega) (by omega) h0),fun u v k1 k2 k3 k4=>?_⟩ (by dsimp only;omega)
       dsimp only at k4⊢
       by_cases e:u<x5\/x6<=v
       ·exact P2.rp s1' i1 i3 h0 u v k1 k2 k3 e
       ·by_cases e1:r.1.1<u
        ·exact s2 u v (by omega) k2 (by omega)
        ·have hu:¬lt (gI d s.2 r.1.1) (gI d s.2 u):=by
          by_cases e2:u=r.1.1
          ·rw[e2];exact ho.iM _
          ·rw[em,s1.out u (by omega) (.inl (by omega))];exact p4 u (by omega) (by omega)
         have hv:¬lt (gI d s.2 v) (gI d s.2 r.1.1):=by
          by_cases e2:v=r.1.1
          ·rw[e2];exact ho.iM _
          ·rw[em]
           exact s1.all (fun z=>¬lt z (gI d r.2 r.1.1)) (fun w w1 w2=>p5 w (by omega) w2) v (by omega) (by omega)
         exact ho.neg _ _ _ hv hu
   ·refine tB (Am (a:=x5) (b:=x6) (p:=t.1.1) (l:=D1) (by omega) (by omega) (by omega) (d1.al (i4.al hal)) t1 t2) fun r=>?_
    intro hr
    obtain⟨p1,p2,p3,p4,p5⟩:=hr
    have hl3:=p3.len
    have d2:=d1.trans p3
    have P2:=i5.rp (x:=x5) (y:=x6) d2 i1 i3 h0
    have rY:=d2.al (i4.al hal)
    refine tG (by decide) ?_
    simp (disch:=omega) only[wr]
    refine tD (fun hlt=>?_) (fun hlt=>?_)
    ·refine tB (ih x5 r.1.1 _ r.2 (by omega) (by omega) (by omega) (by omega) (by omega) rY (fun hx k k1 k2=>?_)) fun s=>?_
     ·exact pre d2 hx k k1 (by omega)
     ·rintro⟨s1,s2⟩
      have hl4:=s1.len
      have em:gI d s.2 r.1.1=gI d r.2 r.1.1:=s1.out _ (by omega) (.inr (by omega))
      have s1':=s1.wide (a':=x5) (b':=x6) (by omega) (by omega) (by omega)
      refine aS _ ⟨by dsimp only;omega,by dsimp only;omega,by dsimp only;omega,i4.trans ((d2.trans s1').wide (by omega) (by omega) h0),fun u v k1 k2 k3 k4=>?_⟩ (by dsimp only;omega)
      dsimp only at k4⊢
      by_cases e:u<x5\/x6<=v
      ·exact P2.rp s1' i1 i3 h0 u v k1 k2 k3 e
      ·by_cases e1:v<r.1.1
       ·exact s2 u v (by omega) k2 e1
       ·have hu:¬lt (gI d s.2 r.1.1) (gI d s.2 u):=by
         by_cases e2:u=r.1.1
         ·rw[e2];exact ho.iM _
         ·rw[em]
          exact s1.all (fun z=>¬lt (gI d r.2 r.1.1) z) (fun w w1 w2=>p4 w w1 w2) u (by omega) (by omega)
        have hv:¬lt (gI d s.2 v) (gI d s.2 r.1.1):=by
         by_cases e2:v=r.1.1
         ·rw[e2];exact ho.iM _
         ·rw[em,s1.out v (by omega) (.inr (by omega))];exact p5 v (by omega) (by omega)
        exact ho.neg _ _ _ hv hu
    ·refine tB (ih (r.1.1+1) x6 _ r.2 (by omega) (by omega) (by omega) (by omega) (by omega) rY (fun hx k k1 k2=>?_)) fun s=>?_
     ·rw[show r.1.1+1-1=r.1.1 by omega]
      exact p5 k (by omega) k2
     ·rintro⟨s1,s2⟩
      have hl4:=s1.len
      have em:gI d s.2 r.1.1=gI d r.2 r.1.1:=s1.out _ (by omega) (.inl (by omega))
      have s1':=s1.wide (a':=x5) (b':=x6) (by omega) (by omega) (by omega)
      refine aS _ ⟨by dsimp only;omega,by dsimp only;omega,by dsimp only;omega,i4.trans ((d2.trans s1').wide (by omega) (by omega) h0),fun u v k1 k2 k3 k4=>?_⟩ (by dsimp only;omega)
      dsimp only at k4⊢
      by_cases e:u<x5\/x6<=v
      ·exact P2.rp s1' i1 i3 h0 u v k1 k2 k3 e
      ·by_cases e1:r.1.1<u
       ·exact s2 u v (by omega) k2 (by omega)
       ·have hu:¬lt (gI d s.2 r.1.1) (gI d s.2 u):=by
         by_cases e2:u=r.1.1
         ·rw[e2];exact ho.iM _
         ·rw[em,s1.out u (by omega) (.inl (by omega))];exact p4 u (by omega) (by omega)
        have hv:¬lt (gI d s.2 v) (gI d s.2 r.1.1):=by
         by_cases e2:v=r.1.1
         ·rw[e2];exact ho.iM _
         ·rw[em]
          exact s1.all (fun z=>¬lt z (gI d r.2 r.1.1)) (fun w w1 w2=>p5 w (by omega) w2) v (by omega) (by omega)
        exact ho.neg _ _ _ hv hu
  ·obtain⟨w1,w2⟩:=hw
   exact tS ⟨i4.trans (w1.wide i1 i3 h0),i5.fin w1 i1 i3 h0 w2⟩
end
end Pq
end
section
open Go Go.Proofs Aq Pq
namespace Sh
set_option maxRecDepth 100000
theorem len_le {k:Int} (h0:1<=k) (h1:k<256) (n:Nat):∃r:Int,ZP n k=some r/\0<=r/\r<10/\(2:Int)^r.toNat<=2*k:=by
 obtain⟨j,rfl⟩:∃j:Nat,k=(j:Int):=⟨k.toNat,by omega⟩
 have hj:j<256:=by omega
 have key:∀j:Fin 256,1<=j.val->∃r:UInt8,idxL tabS0 ((j.val:Nat):Int)=some r/\r.toNat<10/\2^r.toNat<=2*j.val:=by decide+kernel
 obtain⟨r,e,r1,r2⟩:=key ⟨j,hj⟩ (by show 1<=j;omega)
 have ew:wrap .u8 ((j:Nat):Int)=(j:Int):=by rw[IntKind.wrap_u8];omega
 have d1:decide (((j:Nat):Int)>=(4294967296:Int))=false:=decide_eq_false (by omega)
 have d2:decide (((j:Nat):Int)>=(65536:Int))=false:=decide_eq_false (by omega)
 have d3:decide (((j:Nat):Int)>=(256:Int))=false:=decide_eq_false (by omega)
 rw[ZP_eq,Xl_eq,d1,d2,d3,cond_false,cond_false,cond_false,ew]
 have e:idxL tabS0 ((j:Nat):Int)=some r:=e
 rw[e]
 refine⟨(r.toNat:Int),?_,by omega,by omega,?_⟩
 ·show some (wrap .i64 ((0:Int)+wrap .i64 (r.toNat:Int)))=_
  rw[wr (i:=(r.toNat:Int)) (by omega) (by omega),Int.zero_add,wr (by omega) (by omega)]
 ·rw[Int.toNat_natCast]
  have:((2^r.toNat:Nat):Int)<=((2*j:Nat):Int):=Int.ofNat_le.2 r2
  rw[Int.natCast_pow] at this
  simpa using this
theorem next_le (n:Nat):∀k:Int,8<=k->k<256->∃M:Int,ZQ n k=some M/\0<M/\M<=2*k:=by
 intro k h0 h1
 obtain⟨r,e,r0,r1,r2⟩:=len_le (k:=k) (by omega) h1 n
 have ew:wrap .u64 k=k:=by rw[IntKind.wrap_u64];omega
 have hp:(0:Int)<2^r.toNat:=Int.pow_pos (by omega)
 have es:bitShl .u64 1 r=2^r.toNat:=by
  have:bitShl .u64 1 r=wrap .u64 (1*2^min r.toNat 64):=rfl
  rw[this,Tm (by omega),Int.one_mul,IntKind.wrap_u64]
  omega
 refine⟨2^r.toNat,?_,hp,r2⟩
 rw[ZQ_eq,ew]
 refine bs e ?_
 show (bif decide ((0:Int)<=r) then some (bitShl .u64 1 r) else none)=_
 rw[decide_eq_true r0,cond_true,es]
theorem tQ {β:Type} {o o':Option β} {P:β->Prop} (h:o=o') (k:∃r,o'=some r/\P r):∃r,o=some r/\P r:=by rw[h];exact k
theorem shift_some (n:Nat):∀x:Int,∃r:Int×Int,ZH n () x=some r:=by
 intro x
 rw[ZH_eq]
 exact⟨_,rfl⟩
section
variable {n:Nat} {Ok:Pred->Prop} {lt:Pred->Pred->Prop} (hc:CmpO Ok lt (QR n)) (ho:Ord lt) (d:Pred)
include hc ho d
theorem pdq_api_Pred (hn:400<n) {l:List Pred} (hl:l.length<256) (hal:Al Ok l) (lim:Int):∃r:PUnit×List Pred,QP n ((),(0:Int),(l.length:Int),lim,((),())) l=some r/\r.2.Perm l/\r.2.Pairwise fun x y=>¬lt y x:=by
 have h:=pdqAll (n:=n) (d:=d) (cmp:=QR n) (PL:=QP_m_L2 n) (pd:=QP_m n) hc ho (ins:=Zo n) (heap:=Zl n) (brk:=Zv n) (rev:=Zw n) (cho:=ZR n) (pin:=Za n) (peq:=Zd n) (prt:=QQ n)
  (fun h0 h1 h2 h3 h4=>by
    refine tQ (Zo_eq ..) ?_
    exact tB (insAll (n:=n) (d:=d) (cmp:=QR n) (L4:=Zo_L4 n) (L1:=Zo_L1 n) hc ho (by intros;refine Eq.trans (Zo_L4_s ..) ?_;(try simp only[Pred.re_eq]);(first|done|rfl)) (by intros;refine Eq.trans (Zo_L1_s ..) ?_;(try simp only[Pred.re_eq]);(first|done|rfl)) h0 h1 h2 (by omega) h4 (by omega)) fun r hr=>tS hr)
  (fun h0 h1 h2 h3 h4=>heapAll (n:=n) (d:=d) (cmp:=QR n) (S1:=Zu_L1 n) (sift:=Zu n) (H4:=Zl_L4 n) (H8:=Zl_L8 n) (heap:=Zl n) hc ho (by intros;refine Eq.trans (Zu_L1_s ..) ?_;(try simp only[Pred.re_eq]);(first|done|rfl)) (by intros;refine Eq.trans (Zu_eq ..) ?_;(try simp only[Pred.re_eq]);(first|done|rfl)) (by intros;refine Eq.trans (Zl_L4_s ..) ?_;(try simp only[Pred.re_eq]);(first|done|rfl)) (by intros;refine Eq.trans (Zl_L8_s ..) ?_;(try simp only[Pred.re_eq]);(first|done|rfl)) (by intros;refine Eq.trans (Zl_eq ..) ?_;(try simp only[Pred.re_eq]);(first|done|rfl)) h0 h1 h2 (by omega) h4 (by omega))
  (fun h0 h1 h2 h3=>brkAll (n:=n) (d:=d) (np:=ZQ n) (xs:=ZH n) (next_le n) (shift_some n) (B5:=Zv_L5 n) (brk:=Zv n) (by intros;refine Eq.trans (Zv_L5_s ..) ?_;(try simp only[Pred.re_eq]);(first|done|rfl)) (by intros;refine Eq.trans (Zv_eq ..) ?_;(try simp only[Pred.re_eq]);(first|done|rfl)) h0 h1 h2 h3 (by omega))
  (fun h0 h1 h2 h3 h4=>choAll d (cmp:=QR n) hc (o2:=ZD n) (med:=ZE n) (mad:=ZF n) (cho:=ZR n) (by intros;refine Eq.trans (ZD_eq ..) ?_;(try simp only[Pred.re_eq]);(first|done|rfl)) (by intros;refine Eq.trans (ZE_eq ..) ?_;(try simp only[Pred.re_eq]);(first|done|rfl)) (by intros;refine Eq.trans (ZF_eq ..) ?_;(try simp only[Pred.re_eq]);(first|done|rfl)) (by intros;refine Eq.trans (ZR_eq ..) ?_;(try simp only[Pred.re_eq]);(first|done|rfl)) h0 h1 h2 (by omega) h4)
  (fun h0 h1 h2 h3=>by
    refine tQ (Zw_eq ..) ?_
    exact tB (revAll (n:=n) (d:=d) (L2:=Zw_L2 n) (by intros;refine Eq.trans (Zw_L2_s ..) ?_;(try simp only[Pred.re_eq]);(first|done|rfl)) h0 h1 h2 (by omega) (by omega)) fun r hr=>tS hr)
  (fun h0 h1 h2 h3 h4 h5=>pinAll (n:=n) (d:=d) (cmp:=QR n) hc ho (I5:=Za_L5 n) (I14:=Za_L14 n) (I20:=Za_L20 n) (IM:=Za_L3 n) (pin:=Za n) (by intros;refine Eq.trans (Za_L5_s ..) ?_;(try simp only[Pred.re_eq]);(first|done|rfl)) (by intros;refine Eq.trans (Za_L14_s ..) ?_;(try simp only[Pred.re_eq]);(first|done|rfl)) (by intros;refine Eq.trans (Za_L20_s ..) ?_;(try simp only[Pred.re_eq]);(first|done|rfl)) (by intros;refine Eq.trans (Za_L3_s ..) ?_;(try simp only[Pred.re_eq]);(first|done|rfl)) (by intros;refine Eq.trans (Za_eq ..) ?_;(try simp only[Pred.re_eq]);(first|done|rfl)) h0 h1 h2 (by omega) h4 (by omega) h5)
  (fun h0 h1 h2 h3 h4 h5=>peqAll (n:=n) (d:=d) (cmp:=QR n) hc (E3:=Zd_L3 n) (E5:=Zd_L5 n) (EM:=Zd_L503 n) (peq:=Zd n) (by intros;refine Eq.trans (Zd_L3_s ..) ?_;(try simp only[Pred.re_eq]);(first|done|rfl)) (by intros;refine Eq.trans (Zd_L5_s ..) ?_;(try simp only[Pred.re_eq]);(first|done|rfl)) (by intros;refine Eq.trans (Zd_L503_s ..) ?_;(try simp only[Pred.re_eq]);(first|done|rfl)) (by intros;refine Eq.trans (Zd_eq ..) ?_;(try simp only[Pred.re_eq]);(first|done|rfl)) h0 h1 (by omega) h3 (by omega) h4 h5)
  (fun h0 h1 h2 h3 h4 h5=>prtAll (n:=n) (d:=d) (cmp:=QR n) hc ho (P3:=QQ_L3 n) (P5:=QQ_L5 n) (P13:=QQ_L13 n) (P15:=QQ_L15 n) (PM:=QQ_L513 n) (prt:=QQ n) (by intros;refine Eq.trans (QQ_L3_s ..) ?_;(try simp only[Pred.re_eq]);(first|done|rfl)) (by intros;refine Eq.trans (QQ_L5_s ..) ?_;(try simp only[Pred.re_eq]);(first|done|rfl)) (by intros;refine Eq.trans (QQ_L13_s ..) ?_;(try simp only[Pred.re_eq]);(first|done|rfl)) (by intros;refine Eq.trans (QQ_L15_s ..) ?_;(try simp only[Pred.re_eq]);(first|done|rfl)) (by intros;refine Eq.trans (QQ_L513_s ..) ?_;(try simp only[Pred.re_eq]);(first|done|rfl)) (by intros;refine Eq.trans (QQ_eq ..) ?_;(try simp only[Pred.re_eq]);(first|done|rfl)) h0 h1 (by omega) h3 (by omega) h4 h5)
  (by intros;refine Eq.trans (QP_m_L2_s ..) ?_;(try simp only[Pred.re_eq]);(first|done|rfl)) (by intros;refine Eq.trans (QP_m_eq ..) ?_;(try simp only[Pred.re_eq]);(first|done|rfl)) (by omega) n 0 (l.length:Int) lim l (by omega) (R5 _) (by omega) (R5 _) hl hal (fun h=>by omega)
 have e:QP n=QP_m n n:=by unfold QP;rfl
 rw[e]
 refine tW h fun r hr=>⟨hr.1.perm,?_⟩
 have:=hr.2
 rw[<-hr.1.len] at this
 exact this.pw
theorem sort_api_Pred (hn:400<n) {l:List Pred} (hl:l.length<256) (hal:Al Ok l):∃r:PUnit×List Pred,ZI n ((),(),()) l=some r/\r.2.Perm l/\r.2.Pairwise fun x y=>¬lt y x:=by
 refine tQ (ZI_eq ..) ?_
 have hlen:∃r:Int,ZP n (wrap .u64 (l.length:Int))=some r:=by
  have ew:wrap .u64 (l.length:Int)=(l.length:Int):=by rw[IntKind.wrap_u64];omega
  rw[ew]
  by_cases h:l.length=0
  ·rw[h]
   rw[ZP_eq,Xl_eq];exact⟨_,rfl⟩
  ·obtain⟨r,e,_⟩:=len_le (k:=(l.length:Int)) (by omega) (by omega) n
   exact⟨r,e⟩
 obtain⟨r,e⟩:=hlen
 exact tE e (tB (pdq_api_Pred hc ho d hn hl hal r) fun s hs=>tS hs)
end
end Sh
end
section
open Go Aq
namespace Pq
variable {α:Type}
def compG (e:α->α->Bool):α->List α->List α
 |_,[]=>[]
 |p,y::l=>bif e y p then compG e y l else y::compG e y l
def comp (e:α->α->Bool):List α->List α
 | []=>[]
 |x::l=>x::compG e x l
theorem Hw (e:α->α->Bool) (y:α):∀(m:List α) (p:α),compG e p (m++[y])=bif e y ((p::m).getLast (by simp)) then compG e p m else compG e p m++[y]
 | [],p=>by
   show (bif e y p then [] else [y])=bif e y p then [] else [y]
   rfl
 |x::m,p=>by
  have ih:=Hw e y m x
  have el:(p::x::m).getLast (by simp)=(x::m).getLast (by simp):=by simp
  rw[el]
  show (bif e x p then compG e x (m++[y]) else x::compG e x (m++[y]))=bif e y ((x::m).getLast (by simp)) then (bif e x p then compG e x m else x::compG e x m) else (bif e x p then compG e x m else x::compG e x m)++[y]
  rw[ih]
  cases e x p<;>cases e y ((x::m).getLast (by simp))<;>rfl
theorem Hy (e:α->α->Bool) (d:α) {l:List α} {k:Nat} (h0:0<k) (h1:k<l.length):comp e (l.take (k+1))=bif e (gI d l (k:Int)) (gI d l ((k:Int)-1)) then comp e (l.take k) else comp e (l.take k)++[gI d l (k:Int)]:=by
 have e1:gI d l (k:Int)=l[k]:=by unfold gI;rw[Int.toNat_natCast,Sc h1];rfl
 have e2:gI d l ((k:Int)-1)=l[k-1]'(by omega):=by unfold gI;rw[show ((k:Int)-1).toNat=k-1 by omega,Sc (by omega)];rfl
 rw[e1,e2]
 cases l with
 |nil=>simp at h1
 |cons x l=>
  obtain⟨k,rfl⟩:∃k',k=k'+1:=⟨k-1,by omega⟩
  have hk:k<l.length:=by simpa using h1
  have et:(x::l).take (k+1+1)=x::(l.take k++[l[k]]):=by
   rw[List.take_succ_cons,<-List.take_append_getElem hk]
  rw[et,List.take_succ_cons]
  show x::compG e x (l.take k++[l[k]])=bif e ((x::l)[k+1]) ((x::l)[k+1-1]) then x::compG e x (l.take k) else (x::compG e x (l.take k))++[(x::l)[k+1]]
  rw[Hw]
  have el:(x::l.take k).getLast (by simp)=(x::l)[k+1-1]:=by
   rw[List.getLast_eq_getElem]
   simp only[List.length_cons,R3,Nat.add_sub_cancel]
   cases k with
   |zero=>simp
   |succ k=>
    simp only[Tm (Nat.le_of_lt hk),List.getElem_cons_succ,List.getElem_take]
  rw[el]
  show x::(bif e l[k] _ then _ else _)=bif e l[k] _ then _ else _
  cases e l[k] ((x::l)[k+1-1])<;>rfl
theorem Rb {D:List α} {w:Int} {x:α} (h0:0<=w) (h1:w<D.length):(setL D w x).take (w+1).toNat=D.take w.toNat++[x]:=by
 obtain⟨k,rfl⟩:∃k:Nat,w=(k:Int):=⟨w.toNat,by omega⟩
 have hk:k<D.length:=by omega
 rw[show (((k:Nat):Int)+1).toNat=k+1 by omega,Int.toNat_natCast]
 unfold setL
 rw[Int.toNat_natCast]
 rw[<-List.take_append_getElem (by rw[List.length_set];exact hk),List.getElem_set_self,List.take_set_of_le (mF _)]
section
variable {n:Nat} (d:α) {z:α} {e:α->α->Bool} {Ok:α->Prop} {sm:α×α->Option Bool} (hs:∀a b,Ok a->Ok b->sm (a,b)=some (e a b))
 {C9:Int->(List α)->Nat->((Int×Int)×List α)->Option (Int×List α)} {C4:Nat->(Int×List α)->Option ((PUnit×List α)⊕((Int×Int)×List α))} {cpt:Unit×Unit×Unit->List α->Option ((Int×Int)×List α)}
 (h9:∀(x2:Int) (x3:List α) (m:Nat) (x7 x8:Int) (x9:List α),C9 x2 x3 (m+1) ((x7,x8),x9)=
   bif decide (x8< (((Int.toNat (((0:Int)+((x3.length:Int)-(0:Int)))-((0:Int)+x2)):Nat):Int))) then
    bif inJ x8 (((0:Int)+((x3.length:Int)-(0:Int)))-((0:Int)+x2)) then
     (idxL x9 (((0:Int)+x2)+x8)).bind fun (r10:α)=>
     bif inJ (wrap .i64 (x8-(1:Int))) (((0:Int)+((x3.length:Int)-(0:Int)))-((0:Int)+x2)) then
      (idxL x9 (((0:Int)+x2)+(wrap .i64 (x8-(1:Int))))).bind fun (r11:α)=>
      (sm ((r10,r11))).bind fun (r12:Bool)=>
      bif !r12 then
       bif inJ x8 (((0:Int)+((x3.length:Int)-(0:Int)))-((0:Int)+x2)) then
        (idxL x9 (((0:Int)+x2)+x8)).bind fun (r13:α)=>
        bif decide (0<=x7/\x7< (x9.length:Int)) then
         (idxL x9 x7).bind fun (r14:α)=>
         C9 x2 x3 m (((wrap .i64 (x7+(1:Int)),wrap .i64 (x8+(1:Int))),setL x9 x7 r13))
        else
         none
       else
        none
      else
       C9 x2 x3 m (((x7,wrap .i64 (x8+(1:Int))),x9))
     else
      none
    else
     none
   else
    some ((x7,x9)))
 (h4:∀(m:Nat) (x2:Int) (x3:List α),C4 (m+1) (x2,x3)=
   bif decide (x2< (x3.length:Int)) then
    bif decide (0<=x2/\x2< (x3.length:Int)) then
     (idxL x3 x2).bind fun (r4:α)=>
     bif decide (0<=(wrap .i64 (x2-(1:Int)))/\(wrap .i64 (x2-(1:Int)))< (x3.length:Int)) then
      (idxL x3 (wrap .i64 (x2-(1:Int)))).bind fun (r5:α)=>
      (sm ((r4,r5))).bind fun (r6:Bool)=>
      bif r6 then
       bif inV x2 ((x3.length:Int)-(0:Int)) ((x3.length:Int)-(0:Int)) then
        (C9 x2 x3 n (((x2,(1:Int)),x3))).bind fun (r15:Int×List α)=>
        bif inV r15.1 ((r15.2.length:Int)-(0:Int)) ((r15.2.length:Int)-(0:Int)) then
         bif inV (0:Int) r15.1 (((((clrL r15.2 ((0:Int)+r15.1) ((0:Int)+((r15.2.length:Int)-(0:Int))) z).length:Nat):Int))-(0:Int)) then
          some (.inr ((((0:Int)+(0:Int),(0:Int)+r15.1),clrL r15.2 ((0:Int)+r15.1) ((0:Int)+((r15.2.length:Int)-(0:Int))) z)))
         else
          none
        else
         none
       else
        none
      else
       C4 m ((wrap .i64 (x2+(1:Int)),x3))
     else
      none
    else
     none
   else
    some (.inl (((),x3))))
 (hP:∀(x1:List α),cpt (((),((),()))) (x1)=
   bif decide ((x1.length:Int)< (2:Int)) then
    some ((((0:Int),(x1.length:Int)),x1))
   else
    (C4 n (((1:Int),x1))).bind fun (r16:(PUnit×List α)⊕((Int×Int)×List α))=>
    Sum.elim (fun (q17:PUnit×List α)=>
     some ((((0:Int),(q17.2.length:Int)),q17.2)))
     (fun (q18:(Int×Int)×List α)=>
      some (((q18.1.1,q18.1.2),q18.2))) r16)
include d hs h9
theorem Rc {l:List α} {k:Int} {m:Nat} (hk:1<=k) (hkl:k<l.length) (hb:l.length<2^57) (hal:Al Ok l) (h0:l.take k.toNat=comp e (l.take (k.toNat+1))) (hm:l.length<m):
 ∃r,C9 k l m ((k,1),l)=some r/\k<=r.1/\r.1<=l.length/\r.2.length=l.length/\r.2.take r.1.toNat=comp e l:=by
 refine mu (τ:=(Int×Int)×List α) (L:=C9 k l) (fun p=>1<=p.1.2/\p.1.2<=l.length-k/\k<=p.1.1/\p.1.1<=k+p.1.2-1/\p.2.length=l.length/\(∀j,k+p.1.2-1<=j->j<l.length->gI d p.2 j=gI d l j)/\p.2.take p.1.1.toNat=comp e (l.take (k+p.1.2).toNat)) (fun p=>(l.length-p.1.2).toNat) _ ?_ m ((k,1),l)
  ⟨R5 _,by dsimp only;omega,R5 _,by dsimp only;omega,rfl,fun j _ _=>rfl,by rw[show (k+1).toNat=k.toNat+1 by omega];exact h0⟩ (by dsimp only;omega)
 rintro m ⟨⟨w,q⟩,D⟩ ⟨i1,i2,i3,i4,i5,i6,i7⟩ aS
 dsimp only at i1 i2 i3 i4 i5 i6 i7 aS⊢
 rw[h9]
 simp only[Int.zero_add,Int.sub_zero,inJ]
 simp (disch:=omega) only[wr]
 refine tD (fun hq=>?_) (fun hq=>tS ⟨i3,by omega,i5,?_⟩)
 ·refine tG (decide_eq_true (by omega)) (tE (aG d (by omega) (by omega)) (tG (decide_eq_true (by omega)) (tE (aG d (by omega) (by omega)) ?_)))
  have g1:gI d D (k+q)=gI d l (k+q):=i6 _ (by omega) (by omega)
  have g2:gI d D (k+(q-1))=gI d l (k+q-1):=by rw[show k+(q-1)=k+q-1 by omega];exact i6 _ (by omega) (by omega)
  rw[g1,g2]
  refine tE (hs _ _ (hal.at d (by omega) (by omega)) (hal.at d (by omega) (by omega))) ?_
  have hct:=Hy e d (l:=l) (k:=(k+q).toNat) (by omega) (by omega)
  rw[show (((k+q).toNat:Nat):Int)=k+q by omega,<-i7] at hct
  cases he:e (gI d l (k+q)) (gI d l (k+q-1)) with
  |false=>
   rw[he,cond_false] at hct
   rw[Bool.not_false,cond_true]
   refine tG (decide_eq_true (by omega)) (tE (aG d (by omega) (by omega)) (tI (by omega) (by omega) (tE (aG d (by omega) (by omega)) ?_)))
   rw[g1]
   refine aS ((w+1,q+1),setL D w (gI d l (k+q))) ⟨by dsimp only;omega,by dsimp only;omega,by dsimp only;omega,by dsimp only;omega,by dsimp only;rw[aC,i5],fun j j1 j2=>?_,?_⟩ (by dsimp only;omega)
   ·dsimp only at j1⊢
    rw[Ae (by omega) (by omega) (by omega),if_neg (by omega)]
    exact i6 j (by omega) j2
   ·dsimp only
    rw[Rb (by omega) (by omega),show (k+(q+1)).toNat=(k+q).toNat+1 by omega,hct]
  |true=>
   rw[he,cond_true] at hct
   rw[Bool.not_true,cond_false]
   refine aS ((w,q+1),D) ⟨by dsimp only;omega,by dsimp only;omega,i3,by dsimp only;omega,i5,fun j j1 j2=>i6 j (by dsimp only at j1;omega) j2,?_⟩ (by dsimp only;omega)
   dsimp only
   rw[show (k+(q+1)).toNat=(k+q).toNat+1 by omega,hct]
 ·dsimp only
  rw[i7,R7 (by omega)]
include h4 hP
theorem cptAll {l:List α} (hb:l.length<2^57) (hal:Al Ok l) (hn:l.length<n):
 ∃r,cpt ((),(),()) l=some r/\r.1.1=0/\0<=r.1.2/\r.1.2<=r.2.length/\r.2.take r.1.2.toNat=comp e l:=by
 rw[hP]
 refine tD (fun h2=>tS ⟨rfl,by dsimp only;omega,by dsimp only;omega,?_⟩) (fun h2=>?_)
 ·dsimp only
  rw[R7 (by omega)]
  match l,h2 with
  | [],_=>rfl
  | [x],_=>rfl
  |x::y::l,h2=>simp at h2;omega
 refine tB (Q:=fun s=>Sum.elim (fun q:PUnit×List α=>q.2=l/\comp e l=l) (fun q:(Int×Int)×List α=>q.1.1=0/\0<=q.1.2/\q.1.2<=q.2.length/\q.2.take q.1.2.toNat=comp e l) s) ?_ fun s hs'=>?_
 ·refine mu (τ:=Int×List α) (L:=C4) (fun p=>1<=p.1/\p.1<=l.length/\p.2=l/\comp e (l.take p.1.toNat)=l.take p.1.toNat) (fun p=>(l.length-p.1).toNat) _ ?_ n (1,l) ⟨R5 _,by dsimp only;omega,rfl,?_⟩ (by dsimp only;omega)
  ·rintro m ⟨k,D⟩ ⟨i1,i2,i3,i4⟩ aS
   dsimp only at i1 i2 i3 i4 aS⊢
   subst i3
   rw[h4]
   simp only[Int.zero_add,Int.sub_zero,inV]
   simp (disch:=omega) only[wr]
   refine tD (fun hk=>?_) (fun hk=>tS ⟨rfl,?_⟩)
   ·refine tI (by omega) (by omega) (tE (aG d (by omega) (by omega)) (tI (by omega) (by omega) (tE (aG d (by omega) (by omega)) (tE (hs _ _ (hal.at d (by omega) (by omega)) (hal.at d (by omega) (by omega))) ?_))))
    have hct:=Hy e d (l:=D) (k:=k.toNat) (by omega) (by omega)
    rw[show (k.toNat:Int)=k by omega] at hct
    cases he:e (gI d D k) (gI d D (k-1)) with
    |true=>
     rw[he,cond_true] at hct
     rw[cond_true]
     refine tG (decide_eq_true (by omega)) ?_
     refine tB (Rc (d:=d) hs h9 (l:=D) (k:=k) i1 hk hb hal (by rw[hct,i4]) hn) fun r=>?_
     rintro⟨r1,r2,r3,r4⟩
     refine tG (decide_eq_true (by omega)) ?_
     have hcl:(clrL r.2 r.1 (r.2.length:Int) z).length=r.2.length:=by
      unfold clrL
      rw[RY,RY,R3,List.length_replicate,Sz];omega
     rw[hcl]
     refine tG (decide_eq_true (by omega)) (tS ⟨rfl,by dsimp only;omega,by dsimp only;rw[hcl];omega,?_⟩)
     dsimp only
     unfold clrL
     rw[Td (by rw[R3];omega),List.take_take,Nat.min_self]
     exact r4
    |false=>
     rw[he,cond_false] at hct
     rw[cond_false]
     refine aS (k+1,D) ⟨by dsimp only;omega,by dsimp only;omega,rfl,?_⟩ (by dsimp only;omega)
     dsimp only
     rw[show (k+1).toNat=k.toNat+1 by omega,hct,i4]
     have hlt:k.toNat<D.length:=by omega
     have eg:gI d D k=D[k.toNat]:=by unfold gI;rw[Sc hlt];rfl
     rw[eg,List.take_append_getElem hlt]
   ·rw[R7 (by omega)] at i4
    exact i4
  ·dsimp only
   match l,h2 with
   | [],h2=>simp at h2
   |x::l,_=>rfl
 ·rcases s with q|q
  ·obtain⟨e1,e2⟩:=hs'
   refine tS ⟨rfl,by dsimp only;omega,by dsimp only;omega,?_⟩
   dsimp only
   rw[R7 (by omega),e1,e2]
  ·exact tS hs'
end
end Pq
end
section
open Go Go.Proofs Aq Pq
namespace Sh
def insU (p:Pred):List Pred->List Pred
 | []=>[p]
 |q::l=>if cmpP p q<0 then p::q::l else if cmpP p q=0 then q::l else q::insU p l
def srtU (l:List Pred):List Pred:=l.foldr insU []
def SS (l:List Pred):Prop:=l.Pairwise fun x y=>cmpP x y<0
theorem cmp_lt_trans {x y z:Pred} (h:cmpP x y<0) (k:cmpP y z<0):cmpP x z<0:=by
 have h1:=cmpP_law.trans x y z (by omega) (by omega)
 rcases Int.lt_or_eq_of_le h1 with e|e
 ·exact e
 ·have e2:=cmpP_zero x z e
  subst e2
  have:=cmpP_anti x y
  omega
theorem insU_mem (p x:Pred):∀l:List Pred,x∈insU p l↔x=p\/x∈l
 | []=>by simp[insU]
 |q::l=>by
  unfold insU
  split
  ·simp
  ·split
   ·rename_i h
    have:=cmpP_zero p q h
    subst this
    simp
   ·rw[RL,insU_mem p x l,RL]
    constructor
    ·rintro (h|h|h)
     ·exact .inr (.inl h)
     ·exact .inl h
     ·exact .inr (.inr h)
    ·rintro (h|h|h)
     ·exact .inr (.inl h)
     ·exact .inl h
     ·exact .inr (.inr h)
theorem insU_ss (p:Pred):∀l:List Pred,SS l->SS (insU p l)
 | [],_=>List.pairwise_singleton _ _
 |q::l,h=>by
  unfold SS at h
  rw[List.pairwise_cons] at h
  unfold insU
  split
  ·rename_i hlt
   refine List.pairwise_cons.2 ⟨fun z hz=>?_,List.pairwise_cons.2 h⟩
   rcases RL.1 hz with rfl|hz
   ·exact hlt
   ·exact cmp_lt_trans hlt (h.1 z hz)
  ·split
   ·exact List.pairwise_cons.2 h
   ·rename_i h1 h2
    refine List.pairwise_cons.2 ⟨fun z hz=>?_,insU_ss p l h.2⟩
    rcases (insU_mem p z l).1 hz with rfl|hz
    ·have:=cmpP_anti z q;omega
    ·exact h.1 z hz
theorem insU_sz (p:Pred):∀l:List Pred,szL (insU p l)<=szP p+szL l
 | []=>by simp[insU,szL]
 |q::l=>by
  unfold insU
  split
  ·simp[szL]
  ·split
   ·simp only[szL];have:=szP_pos p;omega
   ·have:=insU_sz p l;simp only[szL];omega
theorem srtU_mem (x:Pred):∀l:List Pred,x∈srtU l↔x∈l
 | []=>by simp[srtU]
 |p::l=>by
  show x∈insU p (srtU l)↔_
  rw[insU_mem,srtU_mem x l,RL]
theorem srtU_ss:∀l:List Pred,SS (srtU l)
 | []=>List.Pairwise.nil
 |p::l=>insU_ss p _ (srtU_ss l)
theorem srtU_sz:∀l:List Pred,szL (srtU l)<=szL l
 | []=>mF _
 |p::l=>RG (insU_sz p _) (by have:=srtU_sz l;show szP p+szL (srtU l)<=_;simp only[szL];omega)
theorem cmp_irr {x:Pred} (h:cmpP x x<0):False:=by rw[cmpP_self] at h;omega
theorem SS.uniq:∀{l m:List Pred},SS l->SS m->(∀x,x∈l↔x∈m)->l=m
 | [],[],_,_,_=>rfl
 | [],y::m,_,_,h=>absurd ((h y).2 (RJ ..)) (by simp)
 |x::l,[],_,_,h=>absurd ((h x).1 (RJ ..)) (by simp)
 |x::l,y::m,hl,hm,h=>by
  have hl':=List.pairwise_cons.1 hl
  have hm':=List.pairwise_cons.1 hm
  have e:x=y:=by
   rcases RL.1 ((h x).1 (RJ ..)) with e|e
   ·exact e
   ·rcases RL.1 ((h y).2 (RJ ..)) with e2|e2
    ·exact e2.symm
    ·exact(cmp_irr (cmp_lt_trans (hl'.1 y e2) (hm'.1 x e))).elim
  subst e
  rw[SS.uniq hl'.2 hm'.2 fun z=>?_]
  constructor
  ·intro hz
   rcases RL.1 ((h z).1 (RQ _ hz)) with e|e
   ·subst e;exact(cmp_irr (hl'.1 z hz)).elim
   ·exact e
  ·intro hz
   rcases RL.1 ((h z).2 (RQ _ hz)) with e|e
   ·subst e;exact(cmp_irr (hm'.1 z hz)).elim
   ·exact e
theorem srtU_of {l m:List Pred} (hl:SS l) (h:∀x,x∈l↔x∈m):srtU m=l:=
 (srtU_ss m).uniq hl fun x=>(srtU_mem x m).trans (h x).symm
instance instDecEqPredS:DecidableEq Pred:=fun x y=>if h:cmpP x y=0 then isTrue (cmpP_zero x y h) else isFalse fun e=>h (e▸cmpP_self x)
def eqP (x y:Pred):Bool:=cmpP x y==0
theorem compG_ss:∀(l:List Pred) (p:Pred),(∀y∈l,cmpP p y<=0)->l.Pairwise (fun x y=>cmpP x y<=0)->(∀y∈compG eqP p l,cmpP p y<0)/\SS (compG eqP p l)/\∀x,x∈l->x=p\/x∈compG eqP p l
 | [],p,_,_=>⟨fun y h=>(by simp[compG] at h),List.Pairwise.nil,fun x h=>(by simp at h)⟩
 |y::l,p,hp,hl=>by
  have hl':=List.pairwise_cons.1 hl
  obtain⟨i1,i2,i3⟩:=compG_ss l y hl'.1 hl'.2
  have hpy:=hp y (RJ ..)
  show (∀z∈(bif eqP y p then compG eqP y l else y::compG eqP y l),_)/\SS (bif eqP y p then compG eqP y l else y::compG eqP y l)/\∀x,x∈y::l->x=p\/x∈(bif eqP y p then compG eqP y l else y::compG eqP y l)
  cases he:eqP y p with
  |true=>
   have e:y=p:=cmpP_zero y p (by simpa [eqP] using he)
   subst e
   refine⟨i1,i2,fun x hx=>?_⟩
   rcases RL.1 hx with e|hx
   ·exact .inl e
   ·exact i3 x hx
  |false=>
   have hne:cmpP y p≠0:=by simpa [eqP] using he
   have hlt:cmpP p y<0:=by
    have:=cmpP_anti y p;omega
   refine⟨fun z hz=>?_,List.pairwise_cons.2 ⟨i1,i2⟩,fun x hx=>?_⟩
   ·rcases RL.1 hz with rfl|hz
    ·exact hlt
    ·exact cmp_lt_trans hlt (i1 z hz)
   ·rcases RL.1 hx with rfl|hx
    ·exact .inr (RJ ..)
    ·rcases i3 x hx with rfl|h
     ·exact .inr (RJ ..)
     ·exact .inr (RQ _ h)
theorem compG_sub (x:Pred):∀(l:List Pred) (p:Pred),x∈compG eqP p l->x∈l
 | [],p,h=>h
 |y::l,p,h=>by
  have h':x∈(bif eqP y p then compG eqP y l else y::compG eqP y l):=h
  cases he:eqP y p with
  |true=>rw[he] at h';exact RQ _ (compG_sub x l y h')
  |false=>
   rw[he] at h'
   rcases RL.1 h' with e|h'
   ·rw[e];exact RJ ..
   ·exact RQ _ (compG_sub x l y h')
theorem comp_srtU {l m:List Pred} (hp:m.Perm l) (hs:m.Pairwise fun x y=>¬cmpP y x<0):comp eqP m=srtU l:=by
 have hs':m.Pairwise fun x y=>cmpP x y<=0:=hs.imp fun {x y} h=>by have:=cmpP_anti x y;omega
 refine(srtU_of ?_ fun x=>?_).symm
 ·cases m with
  |nil=>exact List.Pairwise.nil
  |cons y m=>
   have h:=List.pairwise_cons.1 hs'
   obtain⟨i1,i2,i3⟩:=compG_ss m y h.1 h.2
   exact List.pairwise_cons.2 ⟨i1,i2⟩
 ·rw[<-hp.mem_iff]
  cases m with
  |nil=>rfl
  |cons y m=>
   have h:=List.pairwise_cons.1 hs'
   obtain⟨i1,i2,i3⟩:=compG_ss m y h.1 h.2
   constructor
   ·intro hx
    rcases RL.1 hx with e|hx
    ·rw[e];exact RJ ..
    ·exact RQ _ (compG_sub x m y hx)
   ·intro hx
    rcases RL.1 hx with e|hx
    ·rw[e];exact RJ ..
    ·rcases i3 x hx with e|h
     ·rw[e];exact RJ ..
     ·exact RQ _ h
def notP (p:Pred):Pred:=⟨4,[],0,0,[],[p]⟩
def constP (b:Bool):Pred:=if b then ⟨1,[],0,0,[],[]⟩ else notP ⟨1,[],0,0,[],[]⟩
def neuP (c:Int):Pred:=constP (decide (c=2))
def absP (c:Int):Pred:=constP (!decide (c=2))
def flat1 (c:Int) (y:Pred):List Pred:=if y.Op=c then y.Subs else if y=neuP c then [] else [y]
def flatS (c:Int) (ys:List Pred):List Pred:=ys.flatMap (flat1 c)
def endS (c:Int):List Pred->Pred
 | []=>neuP c
 | [x]=>x
 |L=>⟨c,[],0,0,[],L⟩
noncomputable def joinS (c:Int) (ys:List Pred):Pred:=if absP c∈srtU (flatS c ys) then absP c else endS c (srtU (flatS c ys))
def opS (op:Int) (o:Bool):Int:=if decide (op=2) !=o then 2 else 3
mutual
noncomputable def nf:Pred->Bool->Pred
 | ⟨op,name,a,b,s,subs⟩,o=>if op=4 then nfH subs (!o) else if op=2\/op=3 then joinS (opS op o) (nfL subs o) else if o then notP ⟨op,name,a,b,s,subs⟩ else ⟨op,name,a,b,s,subs⟩
noncomputable def nfL:List Pred->Bool->List Pred
 | [],_=>[]
 |p::l,o=>nf p o::nfL l o
noncomputable def nfH:List Pred->Bool->Pred
 | [],o=>constP o
 |p::_,o=>nf p o
end
theorem nfL_map:∀(l:List Pred) (o:Bool),nfL l o=l.map fun x=>nf x o
 | [],_=>by rw[nfL];rfl
 |p::l,o=>by rw[nfL,nfL_map l o];rfl
theorem szL_app:∀l m:List Pred,szL (l++m)=szL l+szL m
 | [],m=>by simp[szL]
 |p::l,m=>by rw[List.cons_append];simp only[szL,szL_app l m];omega
theorem flat1_sz (c:Int) (y:Pred):szL (flat1 c y)<=szP y:=by
 unfold flat1
 split
 ·rw[szP_subs];omega
 ·split
  ·exact Sb _
  ·simp[szL]
theorem flatS_sz (c:Int):∀ys:List Pred,szL (flatS c ys)<=szL ys
 | []=>mF _
 |y::ys=>by
  show szL (flat1 c y++flatS c ys)<=_
  rw[szL_app]
  have:=flat1_sz c y;have:=flatS_sz c ys
  simp only[szL];omega
theorem const_sz (b:Bool):szP (constP b)<=2:=by cases b<;>decide
theorem joinS_sz (c:Int) (ys:List Pred):szP (joinS c ys)<=2\/szP (joinS c ys)<=szL ys+1:=by
 unfold joinS
 split
 ·exact .inl (const_sz _)
 ·have h1:=srtU_sz (flatS c ys)
  have h2:=flatS_sz c ys
  generalize srtU (flatS c ys)=L at*
  match L with
  | []=>exact .inl (const_sz _)
  | [x]=>right;show szP x<=_;simp only[szL] at h1;omega
  |x::y::L=>right;show szP ⟨c,[],0,0,[],x::y::L⟩<=_;rw[szP];omega
mutual
theorem nf_sz:∀(p:Pred) (o:Bool),szP (nf p o)<=2*szP p
 | ⟨op,name,a,b,s,subs⟩,o=>by
   rw[nf]
   split
   ·have:=nfH_sz subs (!o)
    rw[szP];omega
   ·split
    ·have:=nfL_sz subs o
     rw[szP]
     rcases joinS_sz (opS op o) (nfL subs o) with h|h<;>omega
    ·split
     ·have:=szP_pos ⟨op,name,a,b,s,subs⟩
      show szP (notP _)<=_
      unfold notP
      rw[szP];simp only[szL];omega
     ·omega
theorem nfL_sz:∀(l:List Pred) (o:Bool),szL (nfL l o)<=2*szL l
 | [],o=>by rw[nfL];exact mF _
 |p::l,o=>by
  rw[nfL]
  have:=nf_sz p o;have:=nfL_sz l o
  simp only[szL];omega
theorem nfH_sz:∀(l:List Pred) (o:Bool),szP (nfH l o)<=2*szL l+2
 | [],o=>by rw[nfH];exact const_sz o
 |p::l,o=>by
  rw[nfH]
  have:=nf_sz p o
  simp only[szL];omega
end
end Sh
end
section
open Go Go.Proofs Aq Pq
namespace Sh
inductive NF:Pred->Prop
 |leaf (x:Pred) (h2:x.Op≠2) (h3:x.Op≠3) (h4:x.Op≠4):NF x
 |neg (x:Pred) (h2:x.Op≠2) (h3:x.Op≠3) (h4:x.Op≠4):NF (notP x)
 |join (c:Int) (L:List Pred) (hc:c=2\/c=3) (hL:∀y∈L,NF y) (ho:∀y∈L,y.Op≠c) (ht:∀y∈L,∀b,y≠constP b) (hs:SS L) (hn:2<=L.length):NF ⟨c,[],0,0,[],L⟩
theorem NF.const (b:Bool):NF (constP b):=by
 cases b
 ·exact .neg _ (by decide) (by decide) (by decide)
 ·exact .leaf _ (by decide) (by decide) (by decide)
theorem NF.of_op {y:Pred} {c:Int} (hc:c=2\/c=3) (h:NF y) (ho:y.Op=c):∃L,y=⟨c,[],0,0,[],L⟩/\(∀y∈L,NF y)/\(∀y∈L,y.Op≠c)/\(∀y∈L,∀b,y≠constP b)/\SS L/\2<=L.length:=by
 cases h with
 |leaf _ h2 h3 h4=>exact absurd ho (by omega)
 |neg x h2 h3 h4=>have:(4:Int)=c:=ho;omega
 |join c' L hc' hL ho' ht hs hn=>
  have e:c'=c:=ho
  subst e
  exact⟨L,rfl,hL,ho',ht,hs,hn⟩
theorem flat1_op {c:Int} {y:Pred} (h:y.Op=c):flat1 c y=y.Subs:=by unfold flat1;rw[if_pos h]
theorem flat1_neu {c:Int} {y:Pred} (h:y.Op≠c) (k:y=neuP c):flat1 c y=[]:=by unfold flat1;rw[if_neg h,if_pos k]
theorem flat1_one {c:Int} {y:Pred} (h:y.Op≠c) (k:y≠neuP c):flat1 c y=[y]:=by unfold flat1;rw[if_neg h,if_neg k]
theorem flat_mem {c:Int} (hc:c=2\/c=3) {ys:List Pred} (h:∀y∈ys,NF y) {z:Pred} (hz:z∈flatS c ys):NF z/\z.Op≠c/\z≠neuP c:=by
 obtain⟨y,hy,hz⟩:=List.mem_flatMap.1 hz
 by_cases ho:y.Op=c
 ·obtain⟨L,e,hL,hO,hT,_⟩:=(h y hy).of_op hc ho
  rw[flat1_op ho] at hz
  subst e
  exact⟨hL z hz,hO z hz,hT z hz _⟩
 ·by_cases k:y=neuP c
  ·rw[flat1_neu ho k] at hz;cases hz
  ·rw[flat1_one ho k] at hz
   have e:=R4.1 hz
   subst e
   exact⟨h z hy,ho,k⟩
theorem endS_two {c:Int} {L:List Pred} (h:2<=L.length):endS c L=⟨c,[],0,0,[],L⟩:=by
 match L,h with
 |_::_::_,_=>rfl
theorem not_const {c:Int} {x:Pred} (h1:x≠neuP c) (h2:x≠absP c) (b:Bool):x≠constP b:=by
 unfold neuP at h1;unfold absP at h2
 by_cases e:b=decide (c=2)
 ·rw[e];exact h1
 ·have:b= !decide (c=2):=by cases b<;>cases h:decide (c=2)<;>simp_all
  rw[this];exact h2
theorem joinNF {c:Int} (hc:c=2\/c=3) {ys:List Pred} (h:∀y∈ys,NF y):NF (joinS c ys):=by
 unfold joinS
 split
 ·exact NF.const _
 ·rename_i ha
  have hm:∀z∈srtU (flatS c ys),NF z/\z.Op≠c/\z≠neuP c:=fun z hz=>flat_mem hc h ((srtU_mem z _).1 hz)
  have hs:=srtU_ss (flatS c ys)
  generalize srtU (flatS c ys)=L at*
  match L with
  | []=>exact NF.const _
  | [x]=>exact(hm x (RJ ..)).1
  |x::y::L=>exact .join c _ hc (fun z hz=>(hm z hz).1) (fun z hz=>(hm z hz).2.1) (fun z hz=>not_const (hm z hz).2.2 (fun e=>ha (e▸hz))) hs (by simp)
theorem opS_val (op:Int) (o:Bool):opS op o=2\/opS op o=3:=by
 unfold opS;split<;>simp
mutual
theorem nfNF:∀(p:Pred) (o:Bool),NF (nf p o)
 | ⟨op,name,a,b,s,subs⟩,o=>by
   rw[nf]
   split
   ·exact nfHNF subs (!o)
   ·split
    ·exact joinNF (opS_val op o) (nfLNF subs o)
    ·rename_i h4 h23
     have h2:op≠2:=fun e=>h23 (.inl e)
     have h3:op≠3:=fun e=>h23 (.inr e)
     split
     ·exact .neg _ h2 h3 h4
     ·exact .leaf _ h2 h3 h4
theorem nfLNF:∀(l:List Pred) (o:Bool),∀y∈nfL l o,NF y
 | [],o=>by rw[nfL];intro y hy;cases hy
 |p::l,o=>by
  rw[nfL]
  intro y hy
  rcases RL.1 hy with e|hy
  ·rw[e];exact nfNF p o
  ·exact nfLNF l o y hy
theorem nfHNF:∀(l:List Pred) (o:Bool),NF (nfH l o)
 | [],o=>by rw[nfH];exact NF.const _
 |p::l,o=>by rw[nfH];exact nfNF p o
end
theorem nf_leaf {x:Pred} (h2:x.Op≠2) (h3:x.Op≠3) (h4:x.Op≠4) (o:Bool):nf x o=if o then notP x else x:=by
 cases x
 rw[nf,if_neg h4,if_neg (by intro h;rcases h with h|h;exact h2 h;exact h3 h)]
theorem nf_notP (x:Pred) (o:Bool):nf (notP x) o=nf x (!o):=by
 unfold notP
 rw[nf,if_pos rfl,nfH]
theorem nf_join {c:Int} (hc:c=2\/c=3) (L:List Pred) (o:Bool):nf ⟨c,[],0,0,[],L⟩ o=joinS (opS c o) (L.map fun x=>nf x o):=by
 rw[nf,if_neg (by omega),if_pos hc,nfL_map]
theorem opS_false {c:Int} (hc:c=2\/c=3):opS c false=c:=by rcases hc with rfl|rfl<;>rfl
theorem opS_true {c:Int} (hc:c=2\/c=3):opS c true=5-c:=by rcases hc with rfl|rfl<;>rfl
theorem opS_not (op:Int) (o:Bool):opS op (!o)=5-opS op o:=by
 unfold opS;cases o<;>cases h:decide (op=2)<;>rfl
theorem flat_id {c:Int}:∀{L:List Pred},(∀y∈L,y.Op≠c)->(∀y∈L,∀b,y≠constP b)->flatS c L=L
 | [],_,_=>rfl
 |y::L,h,k=>by
  show flat1 c y++flatS c L=_
  rw[flat1_one (h y (RJ ..)) (k y (RJ ..) _),flat_id (fun z hz=>h z (RQ _ hz)) (fun z hz=>k z (RQ _ hz))]
  rfl
theorem join_id {c:Int} {L:List Pred} (ho:∀y∈L,y.Op≠c) (ht:∀y∈L,∀b,y≠constP b) (hn:2<=(srtU L).length):joinS c L=⟨c,[],0,0,[],srtU L⟩:=by
 unfold joinS
 have h:¬absP c∈srtU L:=fun h=>ht _ ((srtU_mem _ _).1 h) _ rfl
 rw[flat_id ho ht,if_neg h,endS_two hn]
theorem SS.srt {L:List Pred} (h:SS L):srtU L=L:=srtU_of h fun _=>Iff.rfl
theorem nf_id {x:Pred} (h:NF x):nf x false=x:=by
 induction h with
 |leaf x h2 h3 h4=>rw[nf_leaf h2 h3 h4];rfl
 |neg x h2 h3 h4=>rw[nf_notP,nf_leaf h2 h3 h4];rfl
 |join c L hc hL ho ht hs hn ih=>
  rw[nf_join hc,opS_false hc]
  have e:(L.map fun x=>nf x false)=L:=by
   conv=>rhs;rw[<-List.map_id L]
   exact Tn ih
  rw[e,join_id ho ht (by rw[hs.srt];exact hn),hs.srt]
noncomputable def du (x:Pred):Pred:=nf x true
theorem du_const (b:Bool):du (constP b)=constP (!b):=by
 unfold du
 cases b
 ·show nf (notP _) true=_
  rw[nf_notP,nf_leaf (by decide) (by decide) (by decide)];rfl
 ·show nf ⟨1,[],0,0,[],[]⟩ true=_
  rw[nf_leaf (by decide) (by decide) (by decide)];rfl
theorem two_of {L:List Pred} {x y:Pred} (hx:x∈L) (hy:y∈L) (h:x≠y):2<=L.length:=by
 match L with
 | []=>cases hx
 | [z]=>exact absurd ((R4.1 hx).trans (R4.1 hy).symm) h
 |_::_::_=>simp
structure DuOK (x:Pred):Prop where
 back:du (du x)=x
 op:∀c,c=2\/c=3->((du x).Op=5-c↔x.Op=c)
theorem DuOK.const {x:Pred} (h:DuOK x) {b:Bool} (e:du x=constP b):x=constP (!b):=by
 rw[<-h.back,e,du_const]
theorem du_map {c:Int} (hc:c=2\/c=3) {L:List Pred} (hd:∀y∈L,DuOK y) (ho:∀y∈L,y.Op≠c) (ht:∀y∈L,∀b,y≠constP b) (hn:∃x∈L,∃y∈L,x≠y):joinS (5-c) (L.map du)=⟨5-c,[],0,0,[],srtU (L.map du)⟩/\2<=(srtU (L.map du)).length:=by
 have h1:2<=(srtU (L.map du)).length:=by
  obtain⟨x,hx,y,hy,hxy⟩:=hn
  refine two_of (x:=du x) (y:=du y) ((srtU_mem _ _).2 (List.mem_map_of_mem hx)) ((srtU_mem _ _).2 (List.mem_map_of_mem hy)) fun e=>hxy ?_
  rw[<-(hd x hx).back,e,(hd y hy).back]
 refine⟨join_id (fun z hz=>?_) (fun z hz b e=>?_) h1,h1⟩
 ·obtain⟨y,hy,rfl⟩:=Sm.1 hz
  exact fun e=>ho y hy (((hd y hy).op c hc).1 e)
 ·obtain⟨y,hy,rfl⟩:=Sm.1 hz
  exact ht y hy _ ((hd y hy).const e)
theorem SS.ne {L:List Pred} (h:SS L) (hn:2<=L.length):∃x∈L,∃y∈L,x≠y:=by
 match L,h,hn with
 |x::y::L,h,_=>
  refine⟨x,RJ ..,y,RQ _ (RJ ..),fun e=>?_⟩
  have:=(List.pairwise_cons.1 h).1 y (RJ ..)
  rw[e] at this
  exact cmp_irr this
theorem du_join {c:Int} (hc:c=2\/c=3) {L:List Pred} (hd:∀y∈L,DuOK y) (ho:∀y∈L,y.Op≠c) (ht:∀y∈L,∀b,y≠constP b) (hs:SS L) (hn:2<=L.length):du ⟨c,[],0,0,[],L⟩=⟨5-c,[],0,0,[],srtU (L.map du)⟩:=by
 unfold du
 rw[nf_join hc,opS_true hc]
 exact(du_map hc hd ho ht (hs.ne hn)).1
theorem duOK {x:Pred} (h:NF x):DuOK x:=by
 induction h with
 |leaf x h2 h3 h4=>
  have e:du x=notP x:=by unfold du;rw[nf_leaf h2 h3 h4];rfl
  refine⟨?_,fun c hc=>?_⟩
  ·rw[e];unfold du;rw[nf_notP,nf_leaf h2 h3 h4];rfl
  ·rw[e]
   show (4:Int)=5-c↔_
   constructor
   ·intro h;omega
   ·intro h;omega
 |neg x h2 h3 h4=>
  have e:du (notP x)=x:=by unfold du;rw[nf_notP,nf_leaf h2 h3 h4];rfl
  refine⟨?_,fun c hc=>?_⟩
  ·rw[e];unfold du;rw[nf_leaf h2 h3 h4];rfl
  ·rw[e]
   show _↔(4:Int)=c
   constructor
   ·intro h;omega
   ·intro h;omega
 |join c L hc hL ho ht hs hn ih=>
  have e:=du_join hc ih ho ht hs hn
  have hc':5-c=2\/5-c=3:=by omega
  refine⟨?_,fun c' hc''=>?_⟩
  ·rw[e]
   have hmem:∀z,z∈srtU (L.map du)->∃y∈L,du y=z:=fun z hz=>Sm.1 ((srtU_mem _ _).1 hz)
   have hd2:∀z∈srtU (L.map du),DuOK z:=fun z hz=>by
    obtain⟨y,hy,rfl⟩:=hmem z hz
    refine⟨by rw[(ih y hy).back],fun c2 hc2=>?_⟩
    rw[(ih y hy).back]
    have:=(ih y hy).op (5-c2) (by omega)
    rw[<-this]
    have:(5:Int)-(5-c2)=c2:=by omega
    rw[this]
   have e2:=du_join hc' hd2 (fun z hz=>?_) (fun z hz b hb=>?_) (srtU_ss _) (du_map hc ih ho ht (hs.ne hn)).2
   ·rw[e2]
    have e3:srtU ((srtU (L.map du)).map du)=L:=srtU_of hs fun z=>by
     constructor
     ·intro hz
      refine Sm.2 ⟨du z,(srtU_mem _ _).2 (List.mem_map_of_mem hz),(ih z hz).back⟩
     ·intro hz
      obtain⟨w,hw,rfl⟩:=Sm.1 hz
      obtain⟨y,hy,rfl⟩:=hmem w hw
      rw[(ih y hy).back];exact hy
    rw[e3]
    have:(5:Int)-(5-c)=c:=by omega
    rw[this]
   ·obtain⟨y,hy,rfl⟩:=hmem z hz
    exact fun e=>ho y hy (((ih y hy).op c hc).1 e)
   ·obtain⟨y,hy,rfl⟩:=hmem z hz
    exact ht y hy _ ((ih y hy).const hb)
  ·rw[e]
   show (5:Int)-c=5-c'↔c=c'
   omega
theorem srtU_congr {l m:List Pred} (h:∀x,x∈l↔x∈m):srtU l=srtU m:=
 (srtU_ss l).uniq (srtU_ss m) fun x=>(srtU_mem x l).trans ((h x).trans (srtU_mem x m).symm)
theorem neu_du {c:Int} (hc:c=2\/c=3):du (neuP c)=neuP (5-c):=by
 unfold neuP;rw[du_const];rcases hc with rfl|rfl<;>rfl
theorem abs_du {c:Int} (hc:c=2\/c=3):du (absP c)=absP (5-c):=by
 unfold absP;rw[du_const];rcases hc with rfl|rfl<;>rfl
theorem du_inj {x y:Pred} (hx:DuOK x) (hy:DuOK y) (h:du x=du y):x=y:=by rw[<-hx.back,h,hy.back]
theorem flat_du {c:Int} (hc:c=2\/c=3) {ys:List Pred} (h:∀y∈ys,NF y) (z:Pred):z∈flatS (5-c) (ys.map du)↔z∈(flatS c ys).map du:=by
 have one:∀y,NF y->(z∈flat1 (5-c) (du y)↔z∈(flat1 c y).map du):=fun y hy=>by
  by_cases ho:y.Op=c
  ·have hk:=((duOK hy).op c hc).2 ho
   rw[flat1_op hk,flat1_op ho]
   obtain⟨L,e,hL,hO,hT,hS,hN⟩:=hy.of_op hc ho
   subst e
   rw[du_join hc (fun w hw=>duOK (hL w hw)) hO hT hS hN]
   exact srtU_mem z _
  ·have hk:¬(du y).Op=5-c:=fun e=>ho (((duOK hy).op c hc).1 e)
   by_cases k:y=neuP c
   ·rw[flat1_neu ho k,flat1_neu hk (by rw[k,neu_du hc])];rfl
   ·have k2:du y≠neuP (5-c):=fun e=>k (du_inj (duOK hy) (duOK (NF.const _)) (e.trans (neu_du hc).symm))
    rw[flat1_one ho k,flat1_one hk k2];rfl
 constructor
 ·intro hz
  obtain⟨w,hw,hz⟩:=List.mem_flatMap.1 hz
  obtain⟨y,hy,rfl⟩:=Sm.1 hw
  obtain⟨v,hv,e⟩:=Sm.1 ((one y (h y hy)).1 hz)
  exact Sm.2 ⟨v,List.mem_flatMap.2 ⟨y,hy,hv⟩,e⟩
 ·intro hz
  obtain⟨v,hv,e⟩:=Sm.1 hz
  obtain⟨y,hy,hv⟩:=List.mem_flatMap.1 hv
  exact List.mem_flatMap.2 ⟨du y,List.mem_map_of_mem hy,(one y (h y hy)).2 (Sm.2 ⟨v,hv,e⟩)⟩
theorem joinDu {c:Int} (hc:c=2\/c=3) {ys:List Pred} (h:∀y∈ys,NF y):joinS (5-c) (ys.map du)=du (joinS c ys):=by
 have e1:srtU (flatS (5-c) (ys.map du))=srtU ((srtU (flatS c ys)).map du):=srtU_congr fun z=>by
  rw[flat_du hc h z]
  constructor
  ·intro hz
   obtain⟨v,hv,e⟩:=Sm.1 hz
   exact Sm.2 ⟨v,(srtU_mem _ _).2 hv,e⟩
  ·intro hz
   obtain⟨v,hv,e⟩:=Sm.1 hz
   exact Sm.2 ⟨v,(srtU_mem _ _).1 hv,e⟩
 have hm:∀z∈srtU (flatS c ys),NF z/\z.Op≠c/\z≠neuP c:=fun z hz=>flat_mem hc h ((srtU_mem z _).1 hz)
 have hs:=srtU_ss (flatS c ys)
 have ea:absP (5-c)∈srtU ((srtU (flatS c ys)).map du)↔absP c∈srtU (flatS c ys):=by
  rw[srtU_mem,<-abs_du hc]
  constructor
  ·intro hz
   obtain⟨v,hv,e⟩:=Sm.1 hz
   have e':v=absP c:=du_inj (duOK (hm v hv).1) (duOK (NF.const _)) e
   rw[<-e'];exact hv
  ·exact fun hz=>List.mem_map_of_mem hz
 unfold joinS
 rw[e1]
 by_cases ha:absP c∈srtU (flatS c ys)
 ·rw[if_pos ha,if_pos (ea.2 ha),abs_du hc]
 ·rw[if_neg ha,if_neg (fun k=>ha (ea.1 k))]
  clear e1 ea
  generalize srtU (flatS c ys)=L at*
  match L,hm,hs,ha with
  | [],_,_,_=>exact(neu_du hc).symm
  | [x],_,_,_=>rfl
  |x::y::L,hm,hs,ha=>
   have hT:∀z∈x::y::L,∀b,z≠constP b:=fun z hz=>not_const (hm z hz).2.2 (fun e=>ha (e▸hz))
   have hD:∀z∈x::y::L,DuOK z:=fun z hz=>duOK (hm z hz).1
   have hO:∀z∈x::y::L,z.Op≠c:=fun z hz=>(hm z hz).2.1
   rw[endS_two (du_map hc hD hO hT (hs.ne (by simp))).2]
   exact(du_join hc hD hO hT hs (by simp)).symm
mutual
theorem nf_du:∀(p:Pred) (o:Bool),du (nf p o)=nf p (!o)
 | ⟨op,name,a,b,s,subs⟩,o=>by
   by_cases h4:op=4
   ·rw[nf,nf,if_pos h4,if_pos h4]
    exact nfH_du subs (!o)
   ·by_cases h23:op=2\/op=3
    ·rw[nf,nf,if_neg h4,if_neg h4,if_pos h23,if_pos h23,opS_not,<-nfL_du subs o]
     exact(joinDu (opS_val op o) (nfLNF subs o)).symm
    ·have h2:op≠2:=fun e=>h23 (.inl e)
     have h3:op≠3:=fun e=>h23 (.inr e)
     have e:=fun o=>nf_leaf (x:=⟨op,name,a,b,s,subs⟩) h2 h3 h4 o
     rw[e,e]
     unfold du
     cases o
     ·rw[if_neg (by decide),e];rfl
     ·rw[if_pos rfl,nf_notP,e]
theorem nfL_du:∀(l:List Pred) (o:Bool),(nfL l o).map du=nfL l (!o)
 | [],o=>by rw[nfL,nfL];rfl
 |p::l,o=>by rw[nfL,nfL,RU,nf_du p o,nfL_du l o]
theorem nfH_du:∀(l:List Pred) (o:Bool),du (nfH l o)=nfH l (!o)
 | [],o=>by rw[nfH,nfH,du_const]
 |p::l,o=>by rw[nfH,nfH,nf_du p o]
end
theorem nf_opp (p:Pred):nf (notP (nf (notP p) false)) false=nf p false:=by
 rw[nf_notP,nf_notP]
 exact nf_du p true
theorem nf_idem (p:Pred):nf (nf p false) false=nf p false:=nf_id (nfNF p false)
mutual
def wf:Pred->Prop
 | ⟨op,_,_,_,_,subs⟩=>(op=4->subs.length<=1)/\wfL subs
def wfL:List Pred->Prop
 | []=>True
 |p::l=>wf p/\wfL l
end
def quS (l:List Attr) (c:Int) (ys:List Pred):Bool:=if c=2 then allS l ys else anyS l ys
theorem holds_join (l:List Attr) {c:Int} (hc:c=2\/c=3) (name:List UInt8) (a b:Int) (s:List UInt8) (L:List Pred):holdsS l ⟨c,name,a,b,s,L⟩=quS l c L:=by
 rcases hc with rfl|rfl<;>rw[holdsS]<;>rfl
theorem holds_const (l:List Attr) (b:Bool):holdsS l (constP b)=b:=by
 cases b<;>simp[constP,notP,holdsS,anyS]
theorem holds_notP (l:List Attr) (x:Pred):holdsS l (notP x)= !holdsS l x:=by
 unfold notP;rw[holdsS];simp[anyS]
theorem qu_true {l:List Attr} {c:Int} (hc:c=2\/c=3) {ys:List Pred}:quS l c ys=(!decide (c=2))↔∃y∈ys,holdsS l y= !decide (c=2):=by
 rcases hc with rfl|rfl
 ·show allS l ys=false↔∃y∈ys,holdsS l y=false
  rw[allS_eq];simp
 ·show anyS l ys=true↔∃y∈ys,holdsS l y=true
  rw[anyS_eq];simp
theorem qu_eq {l:List Attr} {c:Int} (hc:c=2\/c=3) {ys zs:List Pred} (h:(∃y∈ys,holdsS l y= !decide (c=2))↔∃y∈zs,holdsS l y= !decide (c=2)):quS l c ys=quS l c zs:=by
 rw[<-qu_true hc,<-qu_true hc] at h
 generalize (!decide (c=2))=d at h
 generalize quS l c ys=u at*
 generalize quS l c zs=v at*
 cases d<;>cases u<;>cases v<;>simp_all
theorem qu_mem {l:List Attr} {c:Int} (hc:c=2\/c=3) {ys zs:List Pred} (h:∀x,x∈ys↔x∈zs):quS l c ys=quS l c zs:=by
 refine qu_eq hc ?_
 constructor
 ·rintro⟨y,hy,e⟩;exact⟨y,(h y).1 hy,e⟩
 ·rintro⟨y,hy,e⟩;exact⟨y,(h y).2 hy,e⟩
theorem holds_end (l:List Attr) {c:Int} (hc:c=2\/c=3):∀L:List Pred,holdsS l (endS c L)=quS l c L
 | []=>by
   show holdsS l (neuP c)=_
   unfold neuP;rw[holds_const];rcases hc with rfl|rfl<;>rfl
 | [x]=>by
   show holdsS l x=_
   rcases hc with rfl|rfl
   ·show _=allS l [x];rw[allS_eq];simp
   ·show _=anyS l [x];rw[anyS_eq];simp
 |x::y::L=>holds_join l hc [] 0 0 [] _
theorem flat_qu (l:List Attr) {c:Int} (hc:c=2\/c=3) (ys:List Pred):quS l c (flatS c ys)=quS l c ys:=by
 refine qu_eq hc ?_
 constructor
 ·rintro⟨z,hz,e⟩
  obtain⟨y,hy,hz2⟩:=List.mem_flatMap.1 hz
  refine⟨y,hy,?_⟩
  by_cases ho:y.Op=c
  ·rw[flat1_op ho] at hz2
   cases y with
   |mk op name a b s subs=>
    have ho:op=c:=ho
    subst ho
    rw[holds_join l hc]
    exact(qu_true hc).2 ⟨z,hz2,e⟩
  ·by_cases k:y=neuP c
   ·rw[flat1_neu ho k] at hz2;cases hz2
   ·rw[flat1_one ho k] at hz2
    have:=R4.1 hz2
    rw[<-this];exact e
 ·rintro⟨y,hy,e⟩
  by_cases ho:y.Op=c
  ·have e':holdsS l y=quS l c y.Subs:=by
    cases y with
    |mk op name a b s subs=>
     have ho:op=c:=ho
     subst ho
     exact holds_join l hc _ _ _ _ _
   rw[e'] at e
   obtain⟨z,hz,e⟩:=(qu_true hc).1 e
   exact⟨z,List.mem_flatMap.2 ⟨y,hy,by rw[flat1_op ho];exact hz⟩,e⟩
  ·by_cases k:y=neuP c
   ·rw[k] at e
    unfold neuP at e
    rw[holds_const] at e
    cases h:decide (c=2)<;>rw[h] at e<;>cases e
   ·exact⟨y,List.mem_flatMap.2 ⟨y,hy,by rw[flat1_one ho k];exact RJ ..⟩,e⟩
theorem join_qu (l:List Attr) {c:Int} (hc:c=2\/c=3) (ys:List Pred):holdsS l (joinS c ys)=quS l c ys:=by
 rw[<-flat_qu l hc ys,<-qu_mem hc (fun x=>srtU_mem x (flatS c ys))]
 unfold joinS
 split
 ·rename_i h
  have e:holdsS l (absP c)= !decide (c=2):=holds_const l _
  rw[e]
  exact((qu_true hc).2 ⟨_,h,e⟩).symm
 ·exact holds_end l hc _
theorem qu_not (l:List Attr) {c:Int} (hc:c=2\/c=3) {ys zs:List Pred} (f:Pred->Pred) (e:zs=ys.map f) (h:∀y∈ys,holdsS l (f y)= !holdsS l y):quS l (5-c) zs= !quS l c ys:=by
 subst e
 rcases hc with rfl|rfl
 ·show anyS l (ys.map f)= !allS l ys
  rw[anyS_eq,allS_eq]
  induction ys with
  |nil=>rfl
  |cons y ys ih=>
   rw[RU,List.any_cons,List.all_cons,ih fun z hz=>h z (RQ _ hz),h y (RJ ..)]
   cases holdsS l y<;>rfl
 ·show allS l (ys.map f)= !anyS l ys
  rw[anyS_eq,allS_eq]
  induction ys with
  |nil=>rfl
  |cons y ys ih=>
   rw[RU,List.any_cons,List.all_cons,ih fun z hz=>h z (RQ _ hz),h y (RJ ..)]
   cases holdsS l y<;>rfl
theorem qu_map (l:List Attr) (c:Int) {ys:List Pred} (f:Pred->Pred) (h:∀y∈ys,holdsS l (f y)=holdsS l y):quS l c (ys.map f)=quS l c ys:=by
 unfold quS
 rw[allS_eq,anyS_eq,allS_eq,anyS_eq,List.all_map,List.any_map]
 have e0:∀{ys:List Pred},(∀y∈ys,holdsS l (f y)=holdsS l y)->ys.all (holdsS l∘f)=ys.all (holdsS l):=fun {ys} h=>by
  induction ys with
  |nil=>rfl
  |cons y ys ih=>rw[List.all_cons,List.all_cons,ih fun z hz=>h z (RQ _ hz)];rw[show (holdsS l∘f) y=holdsS l y from h y (RJ ..)]
 have e1:ys.all (holdsS l∘f)=ys.all (holdsS l):=by
  induction ys with
  |nil=>rfl
  |cons y ys ih=>rw[List.all_cons,List.all_cons,ih fun z hz=>h z (RQ _ hz)];rw[show (holdsS l∘f) y=holdsS l y from h y (RJ ..)]
 clear e1
 have e2:ys.any (holdsS l∘f)=ys.any (holdsS l):=by
  induction ys with
  |nil=>rfl
  |cons y ys ih=>rw[List.any_cons,List.any_cons,ih (fun z hz=>h z (RQ _ hz))];rw[show (holdsS l∘f) y=holdsS l y from h y (RJ ..)]
 rw[e0 h,e2]
mutual
theorem nf_holds (l:List Attr):∀(p:Pred) (o:Bool),wf p->holdsS l (nf p o)=(holdsS l p !=o)
 | ⟨op,name,a,b,s,subs⟩,o,hw=>by
   rw[wf] at hw
   by_cases h4:op=4
   ·rw[nf,if_pos h4,holdsS]
    subst h4
    rw[nfH_holds l subs (!o) (hw.1 rfl) hw.2]
    cases anyS l subs<;>cases o<;>rfl
   ·by_cases h23:op=2\/op=3
    ·rw[nf,if_neg h4,if_pos h23,join_qu l (opS_val op o),holds_join l h23,nfL_map]
     have hh:=nfL_holds l subs o hw.2
     cases o
     ·rw[opS_false h23,qu_map l op _ (fun y hy=>(hh y hy).trans (by simp))];simp
     ·rw[opS_true h23,qu_not l h23 _ rfl (fun y hy=>(hh y hy).trans (by simp))];simp
    ·have h2:op≠2:=fun e=>h23 (.inl e)
     have h3:op≠3:=fun e=>h23 (.inr e)
     rw[nf_leaf h2 h3 h4]
     cases o
     ·rw[if_neg (by decide)];simp
     ·rw[if_pos rfl,holds_notP];simp
theorem nfL_holds (l:List Attr):∀(ys:List Pred) (o:Bool),wfL ys->∀y∈ys,holdsS l (nf y o)=(holdsS l y !=o)
 | [],o,_=>by intro y hy;cases hy
 |p::ys,o,hw=>by
  rw[wfL] at hw
  intro y hy
  rcases RL.1 hy with e|hy
  ·rw[e];exact nf_holds l p o hw.1
  ·exact nfL_holds l ys o hw.2 y hy
theorem nfH_holds (l:List Attr):∀(ys:List Pred) (o:Bool),ys.length<=1->wfL ys->holdsS l (nfH ys o)=(anyS l ys !=o)
 | [],o,_,_=>by rw[nfH,holds_const,anyS];cases o<;>rfl
 | [p],o,_,hw=>by
   rw[wfL] at hw
   rw[nfH,nf_holds l p o hw.1]
   simp[anyS]
 |_::_::_,_,h,_=>by simp at h
end
end Sh
end
section
open Go Go.Proofs Aq Pq
namespace Sh
def OkP (n:Nat) (x:Pred):Prop:=2*szP x<n/\szP x<2^62
theorem vC {n:Nat} {x y:Pred} (hn:8<n) (hx:2*szP x<n) (hx2:szP x<2^62) (hy:szP y<2^62):QR n (x,y)=some (cmpP x y):=by
 have e1:QR n (x,y)=QR_m n n (x,y):=by unfold QR;rfl
 rw[e1]
 exact QR_m_spec hn (szP x) n x y (mF _) (by omega) (by omega) hx2 hy
theorem cmp_ok {n:Nat} (hn:8<n):CmpO (OkP n) (fun x y=>cmpP x y<0) (QR n):=
 fun a b ha hb=>⟨_,vC hn ha.1 ha.2 hb.2,Iff.rfl⟩
theorem cmp_ord:Ord fun x y=>cmpP x y<0 where
 asym:=fun x y h k=>by have:=cmpP_anti x y;omega
 neg:=fun x y z h k=>by
  have h1:=cmpP_anti x y
  have h2:=cmpP_anti y z
  have h3:=cmpP_anti x z
  have:=cmpP_law.trans z y x (by omega) (by omega)
  omega
theorem same_spec {n:Nat} (hn:8<n) {x y:Pred} (hx:OkP n x) (hy:OkP n y):ZM n (x,y)=some (eqP x y):=by
 rw[ZM_eq]
 simp only[Pred.re_eq]
 exact bs (vC hn hx.1 hx.2 hy.2) rfl
theorem eqP_iff {x y:Pred}:eqP x y=true↔x=y:=by
 unfold eqP
 constructor
 ·intro h;exact cmpP_zero x y (by simpa using h)
 ·intro h;rw[h,cmpP_self];rfl
theorem constant_spec {n:Nat} (b:Bool):Xf n b=some (constP b):=by
 rw[Xf_eq]
 cases b
 ·rw[cond_false]
  refine bs (Xe_eq ..) ?_
  simp only[Pred.re_eq];rfl
 ·rfl
theorem compact_api_Pred {n:Nat} (hn:400<n) {l:List Pred} (hl:l.length<256) (hal:Al (OkP n) l):∃r:(Int×Int)×List Pred,Zk n ((),(),()) l=some r/\r.1.1=0/\0<=r.1.2/\r.1.2<=r.2.length/\r.2.take r.1.2.toNat=comp eqP l:=
 cptAll (n:=n) (neuP 2) (e:=eqP) (Ok:=OkP n) (sm:=ZM n) (fun a b ha hb=>same_spec (by omega) ha hb) (C9:=Zk_L9 n) (C4:=Zk_L4 n) (cpt:=Zk n)
  (by intros;refine Eq.trans (Zk_L9_s ..) ?_;(try simp only[Pred.re_eq]);(first|done|rfl)) (by intros;refine Eq.trans (Zk_L4_s ..) ?_;(try simp only[Pred.re_eq]);(first|done|rfl)) (by intros;refine Eq.trans (Zk_eq ..) ?_;(try simp only[Pred.re_eq]);(first|done|rfl)) (by omega) hal (by omega)
theorem contains_spec {n:Nat} (hn:400<n) {l:List Pred} {y:Pred} (hl:l.length<256) (hal:Al (OkP n) l) (hy:OkP n y):ZN n (l,(),y.Op,y.Name,y.N,y.M,y.S,y.Subs)=some (l.any fun x=>eqP x y):=by
 have hb:∀x∈l,ZX n (x,y.Op,y.Name,y.N,y.M,y.S,y.Subs)=some (eqP x y):=fun x hx=>by
  rw[ZX_eq]
  simp only[Pred.re_eq]
  have e:(⟨y.Op,y.Name,y.N,y.M,y.S,y.Subs⟩:Pred)=y:=by cases y;rfl
  rw[e]
  exact bs (same_spec (by omega) (hal x hx) hy) rfl
 have:=loop_ix (L:=fun m i=>ZB_L2 n l y.Op y.Name y.N y.M y.S y.Subs m i) (l:=l) (fun x i r=>bif eqP x y then some (.inr (i:Int)) else r) (some (.inl ()))
  (fun m i x hx=>by
    have hlt:=lt_of_get hx
    rw[ZB_L2_s,dec_of hx,idxL_of hx,wrap_succ (by omega)]
    simp only[cond_true,Option.bind_some,Pred.re_eq]
    rw[hb x (Sw hx)];rfl)
  (fun m=>by rw[ZB_L2_s,dec_end];rfl) (show l.length<n by omega)
 rw[ZN_eq,ZB_eq,this,foldI_find (fun x=>eqP x y) (fun i=>(Sum.inr (i:Int):PUnit⊕Int)) (.inl ())]
 cases hf:l.findIdx? (fun x=>eqP x y) with
 |none=>
  rw[List.findIdx?_eq_none_iff] at hf
  have:l.any (fun x=>eqP x y)=false:=by rw[List.any_eq_false];intro z hz;simpa using hf z hz
  rw[this];rfl
 |some j=>
  obtain⟨hj,h2,_⟩:=List.findIdx?_eq_some_iff_getElem.1 hf
  have:l.any (fun x=>eqP x y)=true:=by rw[List.any_eq_true];exact⟨l[j],SI hj,h2⟩
  rw[this]
  show some (decide (((0+j:Nat):Int)>=(0:Int)))=some true
  rw[decide_eq_true (by omega)]
theorem any_eqP (l:List Pred) (y:Pred):(l.any fun x=>eqP x y)=decide (y∈l):=by
 by_cases h:y∈l
 ·rw[decide_eq_true h,List.any_eq_true];exact⟨y,h,eqP_iff.2 rfl⟩
 ·rw[decide_eq_false h,List.any_eq_false]
  intro x hx e
  exact h (eqP_iff.1 e▸hx)
theorem const_ok {n:Nat} (hn:400<n) (b:Bool):OkP n (constP b):=by
 have:=const_sz b
 exact⟨by omega,by omega⟩
theorem flatS_cons (c:Int) (y:Pred) (ys:List Pred):flatS c (y::ys)=flat1 c y++flatS c ys:=rfl
theorem join_loop {n g:Nat} {p:Pred} {o:Bool} {c:Int} {r5:Pred} (hn:600<n) (hN:∀x∈p.Subs,Zg_m n g (x,o)=some (nf x o)) (hz:szL p.Subs<=127):∀(k i m:Nat) (s:List Pred),i+k=p.Subs.length->k<m->s.length+szL (nfL (p.Subs.drop i) o)<=254->
 Ze_m_L8 n g p o c (neuP c) r5 m (((),(i:Int)),s)=some ((),s++flatS c (nfL (p.Subs.drop i) o))
 |0,i,m,s,hi,hm,_=>by
  obtain⟨m,rfl⟩:∃m',m=m'+1:=⟨m-1,by omega⟩
  have e:i=p.Subs.length:=by omega
  rw[Ze_m_L8_s,dec_ge (by omega),cond_false,e,List.drop_length,nfL]
  show some ((),s)=some ((),s++[])
  rw[SB]
 |k+1,i,m,s,hi,hm,hs=>by
  obtain⟨m,rfl⟩:∃m',m=m'+1:=⟨m-1,by omega⟩
  have hlt:i<p.Subs.length:=by omega
  have hx:p.Subs[i]? =some p.Subs[i]:=Sc hlt
  have hlen:=szL_len p.Subs
  have hmem:p.Subs[i]∈p.Subs:=SI hlt
  have hsz:=nf_sz p.Subs[i] o
  have hsm:=szL_mem hmem
  have hok:OkP n (nf p.Subs[i] o):=⟨by omega,by omega⟩
  rw[Tz hlt,nfL] at hs⊢
  simp only[szL] at hs
  rw[Ze_m_L8_s,dec_of hx,cond_true]
  refine bs (idxL_of hx) ?_
  simp only[Pred.re_eq]
  refine bs (hN _ hmem) ?_
  rw[flatS_cons,wrap_succ (by omega)]
  have hf:=flat1_sz c (nf p.Subs[i] o)
  have hfl:=szL_len (flat1 c (nf p.Subs[i] o))
  by_cases ho:(nf p.Subs[i] o).Op=c
  ·rw[flat1_op ho] at hf hfl⊢
   have e:((nf p.Subs[i] o).Op==c)=true:=by rw[ho];exact beq_self_eq_true _
   rw[e,cond_true,room_2000 (by omega),cond_true,join_loop hn hN hz k (i+1) m _ (by omega) (by omega) (by rw[RY];omega),Si]
  ·have e:((nf p.Subs[i] o).Op==c)=false:=by simpa using ho
   rw[e,cond_false]
   refine bs (same_spec (by omega) hok (const_ok (by omega) _)) ?_
   by_cases hk:nf p.Subs[i] o=neuP c
   ·rw[flat1_neu ho hk]
    have e2:eqP (nf p.Subs[i] o) (neuP c)=true:=eqP_iff.2 hk
    rw[e2]
    show Ze_m_L8 n g p o c (neuP c) r5 m (((),((i+1:Nat):Int)),s)=_
    rw[join_loop hn hN hz k (i+1) m _ (by omega) (by omega) (by omega)];rfl
   ·rw[flat1_one ho hk]
    have e2:eqP (nf p.Subs[i] o) (neuP c)=false:=by
     cases h:eqP (nf p.Subs[i] o) (neuP c)
     ·rfl
     ·exact absurd (eqP_iff.1 h) hk
    rw[e2]
    show (bif roomOK (s.length+1) 80 then Ze_m_L8 n g p o c (neuP c) r5 m (((),((i+1:Nat):Int)),s++[nf p.Subs[i] o]) else none)=_
    have:=szP_pos (nf p.Subs[i] o)
    rw[room_2000 (by omega),cond_true,join_loop hn hN hz k (i+1) m _ (by omega) (by omega) (by rw[RY,List.length_singleton];omega),Si]
theorem join_spec {n g:Nat} {p:Pred} {o:Bool} (hn:600<n) (hp:p.Op=2\/p.Op=3) (hN:∀x∈p.Subs,Zg_m n g (x,o)=some (nf x o)) (hz:szL p.Subs<=127):Ze_m n (g+1) (p,o)=some (joinS (opS p.Op o) (nfL p.Subs o)):=by
 have hlen:=szL_len p.Subs
 have hsz:=nfL_sz p.Subs o
 rw[Ze_m_eq]
 simp only[Pred.re_eq]
 unfold joinS
 have e1:(!((p.Op==(2:Int))==o))=decide (opS p.Op o=2):=by
  unfold opS
  have:(p.Op==(2:Int))=decide (p.Op=2):=rfl
  rw[this]
  cases decide (p.Op=2)<;>cases o<;>rfl
 have e0:(bif decide (opS p.Op o=2) then some (2:Int) else some 3)=some (opS p.Op o):=by
  rcases opS_val p.Op o with h|h<;>rw[h]<;>rfl
 rw[e1]
 refine bs e0 ?_
 generalize opS p.Op o=c
 refine bs (constant_spec _) (bs (constant_spec _) ?_)
 have hL:=join_loop (n:=n) (g:=g) (p:=p) (o:=o) (c:=c) (r5:=absP c) hn hN hz p.Subs.length 0 n [] (by omega) (by omega) (by rw[Tv];simp only[List.length_nil];omega)
 rw[Tv,List.nil_append] at hL
 refine bs hL ?_
 have hfs:=flatS_sz c (nfL p.Subs o)
 have hfl:=szL_len (flatS c (nfL p.Subs o))
 have hsr:∀x,x∈flatS c (nfL p.Subs o)->OkP n x:=fun x hx=>by
  have:=szL_mem hx
  exact⟨by omega,by omega⟩
 generalize flatS c (nfL p.Subs o)=F at*
 obtain⟨⟨u1,S⟩,q1,q2,q3⟩:=sort_api_Pred (n:=n) (cmp_ok (by omega)) cmp_ord (neuP 2) (by omega) (l:=F) (by omega) hsr
 refine bs q1 ?_
 have q2:S.Perm F:=q2
 have hsl:S.length=F.length:=q2.length_eq
 obtain⟨⟨⟨a,b⟩,C⟩,w1,w2,w3,w4,w5⟩:=compact_api_Pred (n:=n) (by omega) (l:=S) (by omega) (fun x hx=>hsr x (q2.mem_iff.1 hx))
 refine bs w1 ?_
 dsimp only at w2 w3 w4 w5
 subst w2
 have es:subI C 0 b=srtU F:=by
  unfold subI
  rw[w5]
  show (comp eqP S).drop 0=_
  rw[Tv]
  exact comp_srtU q2 q3
 have hm:=fun x=>srtU_mem x F
 have hul:(srtU F).length=b.toNat:=by
  rw[<-es];unfold subI;rw[Sz,R3];omega
 have hus:=srtU_sz F
 have hul2:=szL_len (srtU F)
 have hix:∀x,srtU F=[x]->idxL C ((0:Int)+0)=some x:=fun x hx=>by
  have h1:(C.take b.toNat)[0]? =some x:=by
   have:subI C 0 b=C.take b.toNat:=rfl
   rw[<-this,es,hx];rfl
  have hb:b.toNat=1:=by rw[<-hul,hx];rfl
  have h2:C[0]? =some x:=by
   rw[List.getElem?_take] at h1
   rw[hb] at h1
   simpa using h1
  exact idxL_of h2
 have hcon0:ZN n (srtU F,(),(absP c).Op,(absP c).Name,(absP c).N,(absP c).M,(absP c).S,(absP c).Subs)=some (decide (absP c∈srtU F)):=by
  rw[contains_spec (y:=absP c) (by omega) (by omega) (fun x hx=>hsr x ((hm x).1 hx)) (const_ok (by omega) _),any_eqP]
 have hcon:=Eq.trans (congrArg (fun l:List Pred=>ZN n (l,(),(absP c).Op,(absP c).Name,(absP c).N,(absP c).M,(absP c).S,(absP c).Subs)) es) hcon0
 refine bs hcon ?_
 show (bif decide (absP c∈srtU F) then some (absP c) else bif (((b-0).toNat:Nat):Int)==0 then some (neuP c) else bif (((b-0).toNat:Nat):Int)==1 then bif inJ 0 (b-0) then (idxL C (0+0)).bind fun r15=>some r15 else none else some ⟨c,[],0,0,[],subI C 0 b⟩)=_
 rw[es]
 by_cases ha:absP c∈srtU F
 ·rw[decide_eq_true ha,if_pos ha,cond_true]
 ·rw[decide_eq_false ha,if_neg ha,cond_false,Int.sub_zero]
  rw[<-hul]
  generalize srtU F=L at*
  match L,hix,hul with
  | [],_,_=>rfl
  | [x],hix,hul=>
    show (bif inJ (0:Int) b then (idxL C ((0:Int)+0)).bind fun r15=>some r15 else none)=some x
    have hb:b.toNat=1:=by rw[<-hul];rfl
    have:inJ (0:Int) b=true:=decide_eq_true (by omega)
    rw[this,cond_true,hix x rfl];rfl
  |x::y::L,_,_=>
   have h0:((((x::y::L).length:Nat):Int)==0)=false:=by simp;omega
   have h1:((((x::y::L).length:Nat):Int)==1)=false:=by simp;omega
   rw[h0,cond_false,h1,cond_false];rfl
mutual
def acc:Pred->Prop
 | ⟨op,_,_,_,_,subs⟩=>(op=4->subs.length=1)/\accL subs
def accL:List Pred->Prop
 | []=>True
 |p::l=>acc p/\accL l
end
theorem accL_iff:∀{l:List Pred},accL l↔∀x∈l,acc x
 | []=>by rw[accL];simp
 |p::l=>by rw[accL,accL_iff (l:=l)];simp
theorem acc_iff (p:Pred):acc p↔(p.Op=4->p.Subs.length=1)/\∀x∈p.Subs,acc x:=by
 cases p;rw[acc,accL_iff]
mutual
theorem acc_wf:∀p:Pred,acc p->wf p
 | ⟨op,name,a,b,s,subs⟩,h=>by
   rw[acc] at h;rw[wf]
   exact⟨fun e=>SV (h.1 e),accL_wf subs h.2⟩
theorem accL_wf:∀l:List Pred,accL l->wfL l
 | [],_=>by rw[wfL];trivial
 |p::l,h=>by
  rw[accL] at h;rw[wfL]
  exact⟨acc_wf p h.1,accL_wf l h.2⟩
end
theorem normal_spec {n:Nat} (hn:600<n):∀(k g:Nat) (p:Pred) (o:Bool),szP p<=k->2*szP p<=g->acc p->szP p<=128->Zg_m n g (p,o)=some (nf p o)
 |0,g,p,o,hk,_,_,_=>by have:=szP_pos p;omega
 |k+1,g,p,o,hk,hg,ha,hp=>by
  have hs:=szP_subs p
  have ha':=(acc_iff p).1 ha
  obtain⟨g,rfl⟩:∃g',g=g'+2:=⟨g-2,by omega⟩
  have ih:∀x∈p.Subs,∀o,Zg_m n g (x,o)=some (nf x o):=fun x hx o=>by
   have:=szL_mem hx
   exact normal_spec hn k g x o (by omega) (by omega) (ha'.2 x hx) (by omega)
  have ih1:∀x∈p.Subs,∀o,Zg_m n (g+1) (x,o)=some (nf x o):=fun x hx o=>by
   have:=szL_mem hx
   exact normal_spec hn k (g+1) x o (by omega) (by omega) (ha'.2 x hx) (by omega)
  rw[Zg_m_eq]
  simp only[Pred.re_eq]
  have en:nf p o=if p.Op=4 then nfH p.Subs (!o) else if p.Op=2\/p.Op=3 then joinS (opS p.Op o) (nfL p.Subs o) else if o then notP p else p:=by
   cases p;rw[nf]
  rw[en]
  by_cases h4:p.Op=4
  ·have e:(p.Op==(4:Int))=true:=by rw[h4];rfl
   rw[e,cond_true,if_pos h4]
   have hl:=ha'.1 h4
   generalize p.Subs=l at*
   match l,hl with
   | [x],_=>
     refine bs (idxL_of (i:=0) (x:=x) rfl) ?_
     refine bs (ih1 x (RJ ..) (!o)) ?_
     rw[nfH]
  ·have e:(p.Op==(4:Int))=false:=by simpa using h4
   rw[e,cond_false,if_neg h4]
   by_cases h2:p.Op=2
   ·have e:(p.Op==(2:Int))=true:=by rw[h2];rfl
    rw[e,cond_true,if_pos (.inl h2),join_spec hn (.inl h2) (fun x hx=>ih x hx o) (by omega)];rfl
   ·have e:(p.Op==(2:Int))=false:=by simpa using h2
    rw[e,cond_false]
    by_cases h3:p.Op=3
    ·have e:(p.Op==(3:Int))=true:=by rw[h3];rfl
     rw[e,cond_true,if_pos (.inr h3),join_spec hn (.inr h3) (fun x hx=>ih x hx o) (by omega)];rfl
    ·have e:(p.Op==(3:Int))=false:=by simpa using h3
     rw[e,cond_false,if_neg (by intro h;rcases h with h|h;exact h2 h;exact h3 h)]
     cases o
     ·rfl
     ·rw[cond_true,Xe_eq,if_pos rfl]
      simp only[Pred.re_eq];rfl
theorem Normal_spec {n:Nat} (hn:600<n) {p:Pred} (ha:acc p) (hp:szP p<=128):ZK n p=some (nf p false):=by
 rw[ZK_eq]
 simp only[Pred.re_eq]
 have e:Zg n (p,false)=Zg_m n n (p,false):=by unfold Zg;rfl
 rw[e,normal_spec hn (szP p) n p false (mF _) (by omega) ha hp];rfl
theorem Normal_not {n:Nat} (hn:600<n) {p:Pred} (ha:acc p) (hp:szP p<=128):ZK n (notP p)=some (nf (notP p) false):=by
 rw[ZK_eq]
 simp only[Pred.re_eq]
 have e:Zg n (notP p,false)=Zg_m n n (notP p,false):=by unfold Zg;rfl
 obtain⟨g,rfl⟩:∃g,n=g+1:=⟨n-1,by omega⟩
 rw[e,Zg_m_eq,nf_notP]
 simp only[Pred.re_eq]
 rw[show ((notP p).Op==(4:Int))=true from rfl,cond_true]
 have e0:idxL (notP p).Subs (0:Int)=some p:=rfl
 rw[e0,Option.bind_some,normal_spec hn (szP p) g p (!false) (mF _) (by omega) ha hp];rfl
theorem acc_const (b:Bool):acc (constP b):=by
 cases b
 ·refine(acc_iff _).2 ⟨fun _=>rfl,fun x hx=>?_⟩
  have e:=R4.1 hx
  rw[e]
  exact(acc_iff _).2 ⟨fun h=>absurd h (by decide),fun y hy=>by cases hy⟩
 ·exact(acc_iff _).2 ⟨fun h=>absurd h (by decide),fun y hy=>by cases hy⟩
theorem acc_join {c:Int} (hc:c=2\/c=3) {ys:List Pred} (h:∀y∈ys,acc y):acc (joinS c ys):=by
 unfold joinS
 split
 ·exact acc_const _
 ·have hm:∀z∈srtU (flatS c ys),acc z:=fun z hz=>by
   obtain⟨y,hy,hz⟩:=List.mem_flatMap.1 ((srtU_mem _ _).1 hz)
   by_cases ho:y.Op=c
   ·rw[flat1_op ho] at hz;exact((acc_iff y).1 (h y hy)).2 z hz
   ·by_cases k:y=neuP c
    ·rw[flat1_neu ho k] at hz;cases hz
    ·rw[flat1_one ho k] at hz
     rw[R4.1 hz];exact h y hy
  generalize srtU (flatS c ys)=L at*
  match L with
  | []=>exact acc_const _
  | [x]=>exact hm x (RJ ..)
  |x::y::L=>exact(acc_iff _).2 ⟨fun e=>by have:c=4:=e;omega,hm⟩
mutual
theorem acc_nf:∀(p:Pred) (o:Bool),acc p->acc (nf p o)
 | ⟨op,name,a,b,s,subs⟩,o,h=>by
   have h':=h
   rw[acc] at h'
   rw[nf]
   split
   ·exact acc_nfH subs (!o) h'.2
   ·split
    ·exact acc_join (opS_val op o) (acc_nfL subs o h'.2)
    ·split
     ·exact(acc_iff _).2 ⟨fun _=>rfl,fun x hx=>by rw[R4.1 hx];exact h⟩
     ·exact h
theorem acc_nfL:∀(l:List Pred) (o:Bool),accL l->∀y∈nfL l o,acc y
 | [],o,_=>by rw[nfL];intro y hy;cases hy
 |p::l,o,h=>by
  rw[accL] at h
  rw[nfL]
  intro y hy
  rcases RL.1 hy with e|hy
  ·rw[e];exact acc_nf p o h.1
  ·exact acc_nfL l o h.2 y hy
theorem acc_nfH:∀(l:List Pred) (o:Bool),accL l->acc (nfH l o)
 | [],o,_=>by rw[nfH];exact acc_const _
 |p::l,o,h=>by
  rw[accL] at h
  rw[nfH];exact acc_nf p o h.1
end
end Sh
end
