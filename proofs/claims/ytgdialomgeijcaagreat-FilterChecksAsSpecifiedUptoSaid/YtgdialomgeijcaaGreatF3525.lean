import Derived.Test.YtgdialomgeijcaaGreatF3524
set_option linter.all false
open Go.IntKind (wrap)
section
open Go Go.Proofs Aq Pq
namespace Sh
set_option maxRecDepth 100000
noncomputable abbrev KI (n:Nat) {β:Type} (a b:Int) (f:Bool->Option β):Option β:=(XD n (a,b)).bind f
theorem less_ltC (n:Nat) (a b:Int):XD n (a,b)=some (decide (a<b)):=by
 have e:∀x:Int,Xn n x=some false:=fun x=>(Xn_eq n x).trans (congrArg some (show (x !=x)=false by simp))
 exact(XD_eq n a b).trans (bs (e a) rfl)
theorem ltC_ok (n:Nat):CmpO (fun _=>True) (fun a b:Int=>a<b) (KI n):=fun a b _ _=>⟨decide (a<b),by simp,fun f=>bs (less_ltC n a b) rfl⟩
theorem ordI:Ord (fun a b:Int=>a<b):=⟨fun _ _=>by omega,fun _ _ _=>by omega⟩
theorem pdq_int {n:Nat} (hn:400<n) {l:List Int} (hl:l.length<256) (lim:Int):∃r:PUnit×List Int,Zb n ((),(0:Int),(l.length:Int),lim) l=some r/\r.2.Perm l/\r.2.Pairwise fun x y=>¬y<x:=by
 have hc:=ltC_ok n
 have ho:=ordI
 have hal:Al (fun _:Int=>True) l:=fun _ _=>trivial
 have h:=pdqAll (n:=n) (d:=(0:Int)) (K:=KI n) (PL:=Zb_m_L2 n) (pd:=(fun m p q=>Zb_m n m (p.1,p.2.1,p.2.2.1,p.2.2.2.1) q)) hc ho (ins:=(fun p q=>Zz n (p.1,p.2.1,p.2.2.1) q)) (heap:=(fun p q=>ZG n (p.1,p.2.1,p.2.2.1) q)) (brk:=(fun p q=>ZV n (p.1,p.2.1,p.2.2.1) q)) (rev:=(fun p q=>ZJ n (p.1,p.2.1,p.2.2.1) q)) (cho:=(fun p=>XN n (p.1,p.2.1,p.2.2.1))) (pin:=(fun p q=>Zs n (p.1,p.2.1,p.2.2.1) q)) (peq:=(fun p q=>Zw n (p.1,p.2.1,p.2.2.1,p.2.2.2.1) q)) (prt:=(fun p q=>Zi n (p.1,p.2.1,p.2.2.1,p.2.2.2.1) q))
  (fun h0 h1 h2 h3 h4=>by
    refine tQ (Zz_eq ..) ?_
    exact tB (insAll (n:=n) (d:=(0:Int)) (K:=KI n) (L4:=Zz_L4 n) (L1:=Zz_L1 n) hc ho (by intros;kernel_rfl) (by intros;kernel_rfl) h0 h1 h2 (by first|omega| (dsimp only;omega)) h4 (by first|omega| (dsimp only;omega))) fun r hr=>tS hr)
  (fun h0 h1 h2 h3 h4=>heapAll (n:=n) (d:=(0:Int)) (K:=KI n) (S1:=ZX_L1 n) (sift:=(fun p q=>ZX n (p.1,p.2.1,p.2.2.1,p.2.2.2.1) q)) (H4:=ZG_L4 n) (H8:=ZG_L8 n) (heap:=(fun p q=>ZG n (p.1,p.2.1,p.2.2.1) q)) hc ho (by intros;kernel_rfl) (by intros;kernel_rfl) (by intros;kernel_rfl) (by intros;kernel_rfl) (by intros;kernel_rfl) h0 h1 h2 (by first|omega| (dsimp only;omega)) h4 (by first|omega| (dsimp only;omega)))
  (fun h0 h1 h2 h3=>brkAll (n:=n) (d:=(0:Int)) (np:=Xu n) (xs:=ZZ n) (next_le n) (shift_some n) (B5:=ZV_L5 n) (brk:=(fun p q=>ZV n (p.1,p.2.1,p.2.2.1) q)) (by intros;kernel_rfl) (by intros;kernel_rfl) h0 h1 h2 h3 (by first|omega| (dsimp only;omega)))
  (fun h0 h1 h2 h3 h4=>choAll (0:Int) (K:=KI n) hc (o2:=(fun p q=>Xk n (p.1,p.2.1,p.2.2.1,p.2.2.2.1) q)) (med:=(fun p q=>Xl n (p.1,p.2.1,p.2.2.1,p.2.2.2.1,p.2.2.2.2.1) q)) (mad:=(fun p q=>Xm n (p.1,p.2.1,p.2.2.1) q)) (cho:=(fun p=>XN n (p.1,p.2.1,p.2.2.1))) (by intros;kernel_rfl) (by intros;kernel_rfl) (by intros;kernel_rfl) (by intros;kernel_rfl) h0 h1 h2 (by first|omega| (dsimp only;omega)) h4)
  (fun h0 h1 h2 h3=>by
    refine tQ (ZJ_eq ..) ?_
    exact tB (revAll (n:=n) (d:=(0:Int)) (L2:=ZJ_L2 n) (by intros;kernel_rfl) h0 h1 h2 (by first|omega| (dsimp only;omega)) (by first|omega| (dsimp only;omega))) fun r hr=>tS hr)
  (fun h0 h1 h2 h3 h4 h5=>pinAll (n:=n) (d:=(0:Int)) (K:=KI n) hc ho (I5:=Zs_L5 n) (I14:=Zs_L14 n) (I20:=Zs_L20 n) (IM:=Zs_L3 n) (pin:=(fun p q=>Zs n (p.1,p.2.1,p.2.2.1) q)) (by intros;kernel_rfl) (by intros;kernel_rfl) (by intros;kernel_rfl) (by intros;kernel_rfl) (by intros;kernel_rfl) h0 h1 h2 (by first|omega| (dsimp only;omega)) h4 (by first|omega| (dsimp only;omega)) h5)
  (fun h0 h1 h2 h3 h4 h5=>peqAll (n:=n) (d:=(0:Int)) (K:=KI n) hc (E3:=Zw_L3 n) (E5:=Zw_L5 n) (EM:=Zw_L503 n) (peq:=(fun p q=>Zw n (p.1,p.2.1,p.2.2.1,p.2.2.2.1) q)) (by intros;kernel_rfl) (by intros;kernel_rfl) (by intros;kernel_rfl) (by intros;kernel_rfl) h0 h1 (by first|omega| (dsimp only;omega)) h3 (by first|omega| (dsimp only;omega)) h4 h5)
  (fun h0 h1 h2 h3 h4 h5=>prtAll (n:=n) (d:=(0:Int)) (K:=KI n) hc ho (P3:=Zi_L3 n) (P5:=Zi_L5 n) (P13:=Zi_L13 n) (P15:=Zi_L15 n) (PM:=Zi_L513 n) (prt:=(fun p q=>Zi n (p.1,p.2.1,p.2.2.1,p.2.2.2.1) q)) (by intros;kernel_rfl) (by intros;kernel_rfl) (by intros;kernel_rfl) (by intros;kernel_rfl) (by intros;kernel_rfl) (by intros;kernel_rfl) h0 h1 (by first|omega| (dsimp only;omega)) h3 (by first|omega| (dsimp only;omega)) h4 h5)
  (by intros;kernel_rfl) (by intros;kernel_rfl) (by first|omega| (dsimp only;omega)) n 0 (l.length:Int) lim l (by first|omega| (dsimp only;omega)) (Qj _) (by first|omega| (dsimp only;omega)) (Qj _) hl hal (fun h=>by omega)
 refine tQ (show Zb n ((),(0:Int),(l.length:Int),lim) l=Zb_m n n ((),(0:Int),(l.length:Int),lim) l by unfold Zb;rfl) ?_
 refine tW h fun r hr=>⟨hr.1.perm,?_⟩
 have:=hr.2
 rw[<-hr.1.len] at this
 exact this.pw
theorem sort_int {n:Nat} (hn:400<n) {l:List Int} (hl:l.length<256):∃r:PUnit×List Int,Xd n () l=some r/\r.2.Perm l/\r.2.Pairwise fun x y=>¬y<x:=by
 refine tQ (Xd_eq ..) ?_
 have hlen:∃r:Int,Xf n (wrap .u64 (l.length:Int))=some r:=by
  have ew:wrap .u64 (l.length:Int)=(l.length:Int):=by rw[IntKind.wrap_u64];omega
  rw[ew]
  by_cases h:l.length=0
  .rw[h]
   rw[Xf_eq,XI_eq];exact⟨_,rfl⟩
  .obtain⟨r,e,_⟩:=len_le (k:=(l.length:Int)) (by first|omega| (dsimp only;omega)) (by first|omega| (dsimp only;omega)) n
   exact⟨r,e⟩
 obtain⟨r,e⟩:=hlen
 exact tE e (tB (pdq_int hn hl r) fun s hs=>tS hs)
end Sh
end
section
open Go Aq
namespace Pq
variable {U:Type}
section
variable {n:Nat} (d:U) {z:U} {b:Int} {e:U->U->Bool} {sm:U->U->Option Bool} (hs:∀a c,sm a c=some (e a c))
 {C9:Int->Nat->((Int×Int)×List U)->Option (Int×List U)} {C4:Nat->(Int×List U)->Option ((PUnit×List U)⊕((Int×Int)×List U))}
 (h9:∀(x2:Int) (m:Nat) (x7 x8:Int) (x9:List U),C9 x2 (m+1) ((x7,x8),x9)=
   bif decide (x8< (((Int.toNat (((0:Int)+(b-(0:Int)))-((0:Int)+x2)):Nat):Int))) then
    bif inJ x8 (((0:Int)+(b-(0:Int)))-((0:Int)+x2)) then
     (idxL x9 (((0:Int)+x2)+x8)).bind fun (r10:U)=>
     bif inJ (wrap .i64 (x8-(1:Int))) (((0:Int)+(b-(0:Int)))-((0:Int)+x2)) then
      (idxL x9 (((0:Int)+x2)+(wrap .i64 (x8-(1:Int))))).bind fun (r11:U)=>
      (sm r10 r11).bind fun (r12:Bool)=>
      bif !r12 then
       bif inJ x8 (((0:Int)+(b-(0:Int)))-((0:Int)+x2)) then
        (idxL x9 (((0:Int)+x2)+x8)).bind fun (r13:U)=>
        bif inJ x7 (b-(0:Int)) then
         (idxL x9 ((0:Int)+x7)).bind fun (r14:U)=>
         C9 x2 m (((wrap .i64 (x7+(1:Int)),wrap .i64 (x8+(1:Int))),setL x9 ((0:Int)+x7) r13))
        else
         none
       else
        none
      else
       C9 x2 m (((x7,wrap .i64 (x8+(1:Int))),x9))
     else
      none
    else
     none
   else
    some ((x7,x9)))
 (h4:∀(m:Nat) (x2:Int) (x3:List U),C4 (m+1) (x2,x3)=
   bif decide (x2< (((Int.toNat (b-(0:Int)):Nat):Int))) then
    bif inJ x2 (b-(0:Int)) then
     (idxL x3 ((0:Int)+x2)).bind fun (r4:U)=>
     bif inJ (wrap .i64 (x2-(1:Int))) (b-(0:Int)) then
      (idxL x3 ((0:Int)+(wrap .i64 (x2-(1:Int))))).bind fun (r5:U)=>
      (sm r4 r5).bind fun (r6:Bool)=>
      bif r6 then
       bif inV x2 (b-(0:Int)) (b-(0:Int)) then
        (C9 x2 n (((x2,(1:Int)),x3))).bind fun (r15:Int×List U)=>
        bif inV r15.1 (b-(0:Int)) (b-(0:Int)) then
         bif inV (0:Int) r15.1 (b-(0:Int)) then
          some (.inr ((((0:Int)+(0:Int),(0:Int)+r15.1),clrL r15.2 ((0:Int)+r15.1) ((0:Int)+(b-(0:Int))) z)))
         else
          none
        else
         none
       else
        none
      else
       C4 m ((wrap .i64 (x2+(1:Int)),x3))
     else
      none
    else
     none
   else
    some (.inl (((),x3))))
include d hs h9
theorem Pv {l:List U} {k:Int} {m:Nat} (hk:1<=k) (hkl:k<b) (hbl:b<=l.length) (hb:b<2^57) (h0:l.take k.toNat=comp e (l.take (k.toNat+1))) (hm:b.toNat<m):
 ∃r,C9 k m ((k,1),l)=some r/\k<=r.1/\r.1<=b/\r.2.length=l.length/\r.2.take r.1.toNat=comp e (l.take b.toNat):=by
 refine mu (τ:=(Int×Int)×List U) (L:=C9 k) (fun p=>1<=p.1.2/\p.1.2<=b-k/\k<=p.1.1/\p.1.1<=k+p.1.2-1/\p.2.length=l.length/\(∀j,k+p.1.2-1<=j->j<l.length->gI d p.2 j=gI d l j)/\p.2.take p.1.1.toNat=comp e (l.take (k+p.1.2).toNat)) (fun p=>(b-p.1.2).toNat) _ ?_ m ((k,1),l)
  ⟨Qj _,by dsimp only;omega,Qj _,by dsimp only;omega,rfl,fun j _ _=>rfl,by rw[show (k+1).toNat=k.toNat+1 by omega];exact h0⟩ (by dsimp only;omega)
 rintro m ⟨⟨w,q⟩,D⟩ ⟨i1,i2,i3,i4,i5,i6,i7⟩ aK
 dsimp only at i1 i2 i3 i4 i5 i6 i7 aK⊢
 rw[h9]
 simp only[Int.zero_add,Int.sub_zero,inJ]
 simp (disch:=omega) only[wr]
 refine tD (fun hq=>?_) (fun hq=>tS ⟨i3,by omega,i5,?_⟩)
 .refine tG (decide_eq_true (by omega)) (tE (aC d (by omega) (by omega)) (tG (decide_eq_true (by omega)) (tE (aC d (by omega) (by omega)) ?_)))
  have g1:gI d D (k+q)=gI d l (k+q):=i6 _ (by omega) (by omega)
  have g2:gI d D (k+(q-1))=gI d l (k+q-1):=by rw[show k+(q-1)=k+q-1 by omega];exact i6 _ (by omega) (by omega)
  rw[g1,g2]
  refine tE (hs _ _) ?_
  have hct:=tK e d (l:=l) (k:=(k+q).toNat) (by omega) (by omega)
  rw[show (((k+q).toNat:Nat):Int)=k+q by omega,<-i7] at hct
  cases he:e (gI d l (k+q)) (gI d l (k+q-1)) with
  |false=>
   rw[he,cond_false] at hct
   rw[Bool.not_false,cond_true]
   refine tG (decide_eq_true (by omega)) (tE (aC d (by omega) (by omega)) (tG (decide_eq_true (by omega)) (tE (aC d (by omega) (by omega)) ?_)))
   rw[g1]
   refine aK ((w+1,q+1),setL D w (gI d l (k+q))) ⟨by dsimp only;omega,by dsimp only;omega,by dsimp only;omega,by dsimp only;omega,by dsimp only;rw[aA,i5],fun j j1 j2=>?_,?_⟩ (by dsimp only;omega)
   .dsimp only at j1⊢
    rw[tJ (by omega) (by omega) (by omega),if_neg (by omega)]
    exact i6 j (by omega) j2
   .dsimp only
    rw[Fe (by omega) (by omega),show (k+(q+1)).toNat=(k+q).toNat+1 by omega,hct]
  |true=>
   rw[he,cond_true] at hct
   rw[Bool.not_true,cond_false]
   refine aK ((w,q+1),D) ⟨by dsimp only;omega,by dsimp only;omega,i3,by dsimp only;omega,i5,fun j j1 j2=>i6 j (by dsimp only at j1;omega) j2,?_⟩ (by dsimp only;omega)
   dsimp only
   rw[show (k+(q+1)).toNat=(k+q).toNat+1 by omega,hct]
 .dsimp only
  rw[i7,show (k+q).toNat=b.toNat by omega]
include h4
theorem cptV {l:List U} (h2:2<=b) (hbl:b<=l.length) (hb:b<2^57) (hn:b.toNat<n):
 ∃s,C4 n (1,l)=some s/\Sum.elim (fun q:PUnit×List U=>q.2=l/\comp e (l.take b.toNat)=l.take b.toNat) (fun q:(Int×Int)×List U=>q.1.1=0/\0<=q.1.2/\q.1.2<=q.2.length/\q.2.take q.1.2.toNat=comp e (l.take b.toNat)) s:=by
 refine mu (τ:=Int×List U) (L:=C4) (fun p=>1<=p.1/\p.1<=b/\p.2=l/\comp e (l.take p.1.toNat)=l.take p.1.toNat) (fun p=>(b-p.1).toNat) _ ?_ n (1,l) ⟨Qj _,by dsimp only;omega,rfl,?_⟩ (by dsimp only;omega)
 .rintro m ⟨k,D⟩ ⟨i1,i2,i3,i4⟩ aK
  dsimp only at i1 i2 i3 i4 aK⊢
  subst i3
  rw[h4]
  simp only[Int.zero_add,Int.sub_zero,inV,inJ]
  simp (disch:=omega) only[wr]
  refine tD (fun hk=>?_) (fun hk=>tS ⟨rfl,?_⟩)
  .refine tG (decide_eq_true (by omega)) (tE (aC d (by omega) (by omega)) (tG (decide_eq_true (by omega)) (tE (aC d (by omega) (by omega)) (tE (hs _ _) ?_))))
   have hct:=tK e d (l:=D) (k:=k.toNat) (by omega) (by omega)
   rw[show (k.toNat:Int)=k by omega] at hct
   cases he:e (gI d D k) (gI d D (k-1)) with
   |true=>
    rw[he,cond_true] at hct
    rw[cond_true]
    refine tG (decide_eq_true (by omega)) ?_
    refine tB (Pv (d:=d) hs h9 (l:=D) (k:=k) i1 (by omega) hbl hb (by rw[hct,i4]) hn) fun r=>?_
    rintro⟨r1,r2,r3,r4⟩
    refine tG (decide_eq_true (by omega)) ?_
    have hcl:(clrL r.2 r.1 b z).length=r.2.length:=by
     unfold clrL
     rw[Qc,Qc,Qs,List.length_replicate,QY];omega
    refine tG (decide_eq_true (by omega)) (tS ⟨rfl,by dsimp only;omega,by dsimp only;rw[hcl];omega,?_⟩)
    dsimp only
    unfold clrL
    rw[Rf (by rw[Qs];omega),List.take_take,Nat.min_self]
    exact r4
   |false=>
    rw[he,cond_false] at hct
    rw[cond_false]
    refine aK (k+1,D) ⟨by dsimp only;omega,by dsimp only;omega,rfl,?_⟩ (by dsimp only;omega)
    dsimp only
    rw[show (k+1).toNat=k.toNat+1 by omega,hct,i4]
    have hlt:k.toNat<D.length:=by omega
    have eg:gI d D k=D[k.toNat]:=by unfold gI;rw[Qh hlt];rfl
    rw[eg,List.take_append_getElem hlt]
  .rw[show k.toNat=b.toNat by omega] at i4
   exact i4
 .dsimp only
  match l,hbl with
  | [],hbl=>simp at hbl;omega
  |x::l,_=>rfl
end
end Pq
end
section
open Go Go.Proofs Aq Pq
namespace Sh
theorem roomS {a k:Nat} (h:a<2^30) (hk:k<=4096):roomOK a k=true:=by
 unfold roomOK
 have h1:a*k<=2^30*4096:=Nat.mul_le_mul (Nat.le_of_lt h) hk
 have:a<=2^47:=by omega
 have:a*k<=2^47:=by omega
 simp[*]
theorem filter_I_pos {nm:List UInt8} {x:Pred} {l:List Pred} (h:isI nm x=true):(x::l).filter (isI nm)=x::l.filter (isI nm):=by rw[List.filter_cons,if_pos h]
theorem filter_I_neg {nm:List UInt8} {x:Pred} {l:List Pred} (h:isI nm x=false):(x::l).filter (isI nm)=l.filter (isI nm):=by rw[List.filter_cons,if_neg (by rw[h];simp)]
theorem merge1_R {n:Nat} {v:Int} {nm:List UInt8} {a b c:Int} {ws:List (List UInt8)}:∀(l:List Pred) (acc:List Bool),acc.length+l.length<2^30->ZB_R4 n v nm a b c ws l ((),acc)=some ((),acc++toldS nm l v)
 | [],acc,_=>by rw[ZB_R4_0];unfold toldS;simp
 |x::l,acc,h=>by
  simp only[List.length_cons] at h
  rw[ZB_R4_s]
  change (bif isI nm x then (bif roomOK (acc.length+1) 1 then ZB_R4 n v nm a b c ws l ((),acc++[inR x v]) else none) else ZB_R4 n v nm a b c ws l ((),acc))=_
  cases hx:isI nm x with
  |true=>
   rw[cond_true,roomS (by omega) (by omega),cond_true,merge1_R l (acc++[inR x v]) (by rw[Qc,List.length_singleton];omega)]
   unfold toldS
   rw[filter_I_pos hx,Qt];rfl
  |false=>
   rw[cond_false,merge1_R l acc (by omega)]
   unfold toldS
   rw[filter_I_neg hx]
theorem merge1_spec {n:Nat} {v:Int} {d:Def} {p:Pred} (h:szP p<2^30):ZB n (v,((p.Op,(p.Name,(p.N,(p.M,(p.S,p.Subs))))),(d.Name,(d.Kind,(d.Lo,(d.Hi,d.Words))))))=some (toldS d.Name (pre p) v):=by
 rw[ZB_eq]
 refine bs (Xe_eq n _) ?_
 show ((partsO p.re).bind _).bind _=_
 rw[Pred.re_eq,partsO_some (by omega),Option.bind_some]
 have:=merge1_R (n:=n) (v:=v) (nm:=d.Name) (a:=d.Kind) (b:=d.Lo) (c:=d.Hi) (ws:=d.Words) (pre p) [] (by rw[pre_len];simpa using h)
 exact bs this rfl
theorem equal_bool {n:Nat} {a b:List Bool} (hl:a.length=b.length) (hb:a.length<2^62):∀(k i m:Nat),i+k=a.length->k<m->ZO_L4 n a b m (i:Int)=some (if a.drop i=b.drop i then .inl () else .inr false):=by
 intro k
 induction k with
 |zero=>
  intro i m hi hm
  obtain⟨m,rfl⟩:∃m',m=m'+1:=⟨m-1,by omega⟩
  obtain rfl:i=a.length:=by omega
  rw[ZO_L4_s,dec_end,cond_false,List.drop_length,hl,List.drop_length];rfl
 |succ k ih=>
  intro i m hi hm
  obtain⟨m,rfl⟩:∃m',m=m'+1:=⟨m-1,by omega⟩
  have h1:i<a.length:=by omega
  have h2:i<b.length:=by omega
  have x1:a[i]? =some a[i]:=Qh h1
  have x2:b[i]? =some b[i]:=Qh h2
  rw[ZO_L4_s,dec_of x1,cond_true]
  refine bs (idxL_of x1) (bs (idxL_of x2) ?_)
  rw[wrap_succ (by omega),ih (i+1) m (by omega) (by omega),Qq h1,Qq h2]
  by_cases e:a[i]=b[i]
  .have:(a[i]==b[i])=true:=by simpa using e
   rw[this]
   simp only[Bool.not_true,cond_false,e,QA,true_and]
  .have:(a[i]==b[i])=false:=by simpa using e
   rw[this]
   simp only[Bool.not_false,cond_true,e,QA,false_and,if_false]
theorem equal_spec {n:Nat} {a b:List Bool} (hl:a.length=b.length) (hb:a.length<2^62) (hn:a.length<n):ZO n (a,b)=some (a==b):=by
 rw[ZO_eq]
 have e:((a.length:Int) !=(b.length:Int))=false:=by rw[hl];simp
 rw[e,cond_false]
 refine bs (equal_bool hl hb a.length 0 n (by omega) hn) ?_
 rw[Qu,Qu]
 by_cases h:a=b
 .rw[if_pos h,h];simp
 .rw[if_neg h]
  have:(a==b)=false:=by simpa using h
  rw[this];rfl
theorem told_len (nm:List UInt8) (l:List Pred) (a b:Int):(toldS nm l a).length=(toldS nm l b).length:=by unfold toldS;rw[Qi,Qi]
theorem told_le (nm:List UInt8) (l:List Pred) (a:Int):(toldS nm l a).length<=l.length:=by unfold toldS;rw[Qi];exact List.length_filter_le _ _
theorem merge2_spec {n:Nat} {v w:Int} {d:Def} {p:Pred} (h:szP p<2^30) (hn:szP p<n):Xs n (v,(w,((),((p.Op,(p.Name,(p.N,(p.M,(p.S,p.Subs))))),(d.Name,(d.Kind,(d.Lo,(d.Hi,d.Words))))))))=some (toldS d.Name (pre p) v==toldS d.Name (pre p) w):=by
 rw[Xs_eq]
 have hle:=told_le d.Name (pre p) v
 rw[pre_len] at hle
 exact bs (merge1_spec h) (bs (merge1_spec h) (bs (equal_spec (told_len ..) (by omega) (by omega)) rfl))
theorem numbers_R {n:Nat} {d:Def} {p:Pred} (hlo: -(2^40)<=d.Lo) (hhi:d.Hi<=2^40):∀(l:List Pred) (acc:List Int),acc.length+2*l.length<2^30->ZA_R4 n d p l ((),((),acc))=some ((),((),acc++candS d l))
 | [],acc,_=>by rw[ZA_R4_0];unfold candS;simp
 |x::l,acc,h=>by
  simp only[List.length_cons] at h
  have ih:=fun acc h=>numbers_R (n:=n) (p:=p) hlo hhi l acc h
  rw[ZA_R4_s]
  have e:(bif x.Op !=(6:Int) then true else !(x.Name==d.Name))= !(isI d.Name x):=by
   unfold isI
   cases h1:x.Op==(6:Int)<;>simp[bne,h1]
  rw[e]
  cases hx:isI d.Name x with
  |false=>
   rw[Bool.not_false,cond_true,ih acc (by omega)]
   unfold candS
   rw[filter_I_neg hx]
  |true=>
   rw[Bool.not_true,cond_false]
   have ec:candS d (x::l)=candP d x++candS d l:=by
    unfold candS
    rw[filter_I_pos hx,Qo]
   rw[ec]
   unfold candP
   cases h1:(bif decide (x.N>d.Lo) then decide (x.N<=d.Hi) else false)<;>cases h2:(bif decide (x.M>=d.Lo) then decide (x.M<d.Hi) else false)
   .simp only[cond_false]
    rw[ih acc (by omega)];simp
   .simp only[cond_false,cond_true]
    have hw:wrap .i64 (x.M+(1:Int))=x.M+1:=by
     have:d.Lo<=x.M/\x.M<d.Hi:=by
      by_cases a:x.M>=d.Lo
      .rw[decide_eq_true a,cond_true] at h2;exact⟨a,of_decide_eq_true h2⟩
      .rw[decide_eq_false a] at h2;cases h2
     rw[IntKind.wrap_i64];omega
    rw[hw]
    refine(show (bif roomOK (acc.length+1) 8 then _ else none)=_ from ?_)
    rw[roomS (by omega) (by omega),cond_true,ih _ (by rw[Qc,List.length_singleton];omega)];simp
   .simp only[cond_false,cond_true]
    refine(show (bif roomOK (acc.length+1) 8 then _ else none)=_ from ?_)
    rw[roomS (by omega) (by omega),cond_true,ih _ (by rw[Qc,List.length_singleton];omega)];simp
   .simp only[cond_true]
    have hw:wrap .i64 (x.M+(1:Int))=x.M+1:=by
     have:d.Lo<=x.M/\x.M<d.Hi:=by
      by_cases a:x.M>=d.Lo
      .rw[decide_eq_true a,cond_true] at h2;exact⟨a,of_decide_eq_true h2⟩
      .rw[decide_eq_false a] at h2;cases h2
     rw[IntKind.wrap_i64];omega
    rw[hw]
    refine(show (bif roomOK (acc.length+1) 8 then (bif roomOK ((acc++[x.N]).length+1) 8 then _ else none) else none)=_ from ?_)
    rw[roomS (by omega) (by omega),cond_true,roomS (by rw[Qc,List.length_singleton];omega) (by omega),cond_true,ih _ (by simp only[Qc,List.length_singleton];omega)];simp
theorem merge_spec {n:Nat} {d:Def} {p:Pred} (h:szP p<2^30) (hn:szP p<n) {l:List Int} {b:Int} (h0:0<=b) (hb:b<=l.length) (hl:b<2^57) (hln:b.toNat<n):
 ∃r:(Int×Int)×List Int,Xa n (d,(p,((0:Int),b))) l=some r/\r.1.1=0/\0<=r.1.2/\r.2.take r.1.2.toNat=comp (fun a c=>toldS d.Name (pre p) a==toldS d.Name (pre p) c) (l.take b.toNat):=by
 rw[Xa_eq]
 refine tB (Q:=fun r=>r.1.1=0/\0<=r.1.2/\r.2.1.take r.1.2.toNat=comp (fun a c=>toldS d.Name (pre p) a==toldS d.Name (pre p) c) (l.take b.toNat)) ?_ fun r hr=>tS hr
 refine tQ (Zp_eq ..) ?_
 refine tD (fun h2=>tS ⟨rfl,h0,?_⟩) (fun h2=>?_)
 .dsimp only
  have:(l.take b.toNat).length<=1:=by rw[Qs];omega
  generalize l.take b.toNat=q at*
  match q,this with
  | [],_=>rfl
  | [x],_=>rfl
  |x::y::q,h=>simp at h
 have key:=cptV (n:=n) (0:Int) (z:=(0:Int)) (b:=b) (e:=fun a c=>toldS d.Name (pre p) a==toldS d.Name (pre p) c) (sm:=fun a c=>Xs n (a,(c,((),((p.Op,(p.Name,(p.N,(p.M,(p.S,p.Subs))))),(d.Name,(d.Kind,(d.Lo,(d.Hi,d.Words)))))))))
  (fun a c=>merge2_spec h hn)
  (C9:=Zp_L9 n 0 b p.Op p.Name p.N p.M p.S p.Subs d.Name d.Kind d.Lo d.Hi d.Words)
  (C4:=Zp_L4 n 0 b p.Op p.Name p.N p.M p.S p.Subs d.Name d.Kind d.Lo d.Hi d.Words)
  (by intros;refine Eq.trans (Zp_L9_s ..) ?_;rfl) (by intros;refine Eq.trans (Zp_L4_s ..) ?_;rfl) (l:=l) (by omega) hb hl hln
 refine tB key fun s hs=>?_
 rcases s with q|q
 .obtain⟨e1,e2⟩:=hs
  refine tS ⟨rfl,h0,?_⟩
  dsimp only
  rw[e1,e2]
 .obtain⟨e1,e2,_,e4⟩:=hs
  exact tS ⟨e1,e2,e4⟩
theorem compact_int {n:Nat} (hn:400<n) {l:List Int} (hl:l.length<256):∃r:(Int×Int)×List Int,Zm n () l=some r/\r.1.1=0/\0<=r.1.2/\r.1.2<=r.2.length/\r.2.take r.1.2.toNat=comp (fun a b=>a==b) l:=by
 have h:=cptAll (n:=n) (0:Int) (z:=(0:Int)) (e:=fun a b:Int=>a==b) (Ok:=fun _:Int=>True) (sm:=fun p:Int×Int=>some (p.1==p.2)) (fun a b _ _=>rfl) (C9:=Zm_L9 n) (C4:=Zm_L4 n) (cpt:=fun _ l=>Zm n () l)
  (by intros;refine Eq.trans (Zm_L9_s ..) ?_;rfl) (by intros;refine Eq.trans (Zm_L4_s ..) ?_;rfl) (by intros;refine Eq.trans (Zm_eq ..) ?_;rfl) (l:=l) (by omega) (fun _ _=>trivial) (by omega)
 exact h
theorem sz_comp {e:Int->Int->Bool}:∀l:List Int,(comp e l).length<=l.length:=by
 have g:∀(l:List Int) (p:Int),(compG e p l).length<=l.length:=by
  intro l
  induction l with
  |nil=>intro p;exact mF _
  |cons y l ih=>
   intro p
   show (bif e y p then compG e y l else y::compG e y l).length<=_
   have:=ih y
   cases e y p
   .rw[cond_false,List.length_cons,List.length_cons];omega
   .rw[cond_true,List.length_cons];omega
 intro l
 cases l with
 |nil=>exact mF _
 |cons y l=>show (y::compG e y l).length<=_;rw[List.length_cons,List.length_cons];have:=g l y;omega
theorem cand_len (d:Def):∀l:List Pred,(candS d l).length<=2*l.length
 | []=>by unfold candS;simp
 |x::l=>by
  have ih:=cand_len d l
  rw[List.length_cons]
  cases hx:isI d.Name x with
  |false=>unfold candS at*;rw[filter_I_neg hx];omega
  |true=>
   unfold candS at*
   rw[filter_I_pos hx,Qo,Qc]
   have:(candP d x).length<=2:=by
    unfold candP
    rw[Qc]
    cases (bif decide (x.N>d.Lo) then decide (x.N<=d.Hi) else false)<;>cases (bif decide (x.M>=d.Lo) then decide (x.M<d.Hi) else false)<;>simp
   omega
theorem numbers_spec {n:Nat} (hn:400<n) {d:Def} {p:Pred} (hlo: -(2^40)<=d.Lo) (hhi:d.Hi<=2^40) (h:szP p<=120):
 ∃S:List Int,(d.Lo::S).Pairwise (· < ·)/\(∀x,x∈S↔x∈candS d (pre p))/\ZA n (d,p)=some (d.Lo::RS (toldS d.Name (pre p)) S):=by
 have hcl:=cand_len d (pre p)
 rw[pre_len] at hcl
 have hR:=numbers_R (n:=n) (d:=d) (p:=p) hlo hhi (pre p) [d.Lo] (by rw[pre_len];simp;omega)
 have hlen:([d.Lo]++candS d (pre p)).length<256:=by rw[Qc,List.length_singleton];omega
 obtain⟨r1,s1,s2,s3⟩:=sort_int hn hlen
 have hl1:r1.2.length<256:=by rw[s2.length_eq];exact hlen
 obtain⟨r2,c1,c2,c3,c4,c5⟩:=compact_int hn hl1
 obtain⟨a1,a2⟩:=comp_asc s3
 have hmem:∀x,x∈comp (fun a b=>a==b) r1.2↔x=d.Lo\/x∈candS d (pre p):=fun x=>by
  rw[a2,s2.mem_iff];simp
 have hhd:∃S,comp (fun a b=>a==b) r1.2=d.Lo::S:=by
  cases hc:comp (fun a b=>a==b) r1.2 with
  |nil=>have:=(hmem d.Lo).2 (.inl rfl);rw[hc] at this;cases this
  |cons y S=>
   have hy:=(hmem y).1 (by rw[hc];exact Qa ..)
   rcases hy with rfl|hy
   .exact⟨S,rfl⟩
   .have:=(hmem d.Lo).2 (.inl rfl)
    rw[hc] at this a1
    rcases P9.1 this with e|hm
    .exact⟨S,by rw[<-e]⟩
    .have h1:=(List.pairwise_cons.1 a1).1 _ hm
     have h2:=(candS_rng hy).1
     omega
 obtain⟨S,hS⟩:=hhd
 rw[hS] at a1 hmem
 have hSm:∀x,x∈S↔x∈candS d (pre p):=fun x=>by
  constructor
  .intro hx
   rcases (hmem x).1 (Qb _ hx) with rfl|h
   .have:=(List.pairwise_cons.1 a1).1 _ hx;omega
   .exact h
  .intro hx
   rcases P9.1 ((hmem x).2 (.inr hx)) with rfl|h
   .have:=(candS_rng hx).1;omega
   .exact h
 refine⟨S,a1,hSm,?_⟩
 have hb:r2.1.2.toNat<256:=by
  have h1:(r2.2.take r2.1.2.toNat).length=r2.1.2.toNat:=by rw[Qs];omega
  rw[c5] at h1
  have:=sz_comp (e:=fun a b=>a==b) r1.2
  omega
 obtain⟨r3,m1,m2,m3,m4⟩:=merge_spec (n:=n) (d:=d) (p:=p) (by omega) (by omega) (l:=r2.2) (b:=r2.1.2) c3 c4 (by omega) (by omega)
 rw[ZA_eq]
 refine bs (Xe_eq n _) ?_
 show ((partsO p.re.re).bind _).bind _=_
 rw[Pred.re_eq,Pred.re_eq,partsO_some (by omega),Option.bind_some]
 refine bs hR ?_
 refine bs s1 ?_
 refine bs c1 ?_
 have e0:(r2.1.1,r2.1.2)=((0:Int),r2.1.2):=by rw[c2]
 refine bs (show Xa n (d,(p,(r2.1.1,r2.1.2))) r2.2=some r3 from ?_) ?_
 .rw[e0];exact m1
 .have e1:subI r3.2 r3.1.1 r3.1.2=r3.2.take r3.1.2.toNat:=by
   unfold subI
   rw[m2];rfl
  rw[e1,m4,c5,hS]
  rw[comp_RS (hi:=d.Hi) a1 (fun x hx=>(candS_rng ((hSm x).1 hx)).2) fun v h1 h2 h3=>(hSm v).2 (told_bd h1 h2 h3)]
end Sh
end
section
open Go Go.Proofs Aq Pq
namespace Sh
def insI (p:Int):List Int->List Int
 | []=>[p]
 |y::l=>if p<y then p::y::l else if p=y then y::l else y::insI p l
def ascI:List Int->List Int
 | []=>[]
 |x::l=>insI x (ascI l)
theorem insI_mem (p x:Int):∀l:List Int,x∈insI p l↔x=p\/x∈l
 | []=>by simp[insI]
 |y::l=>by
  unfold insI
  by_cases h1:p<y
  .rw[if_pos h1,P9]
  .rw[if_neg h1]
   by_cases h2:p=y
   .rw[if_pos h2,h2];simp
   .rw[if_neg h2,P9,insI_mem p x l,P9]
    constructor
    .rintro (h|h|h)
     .exact .inr (.inl h)
     .exact .inl h
     .exact .inr (.inr h)
    .rintro (h|h|h)
     .exact .inr (.inl h)
     .exact .inl h
     .exact .inr (.inr h)
theorem insI_asc (p:Int):∀l:List Int,l.Pairwise (· < ·)->(insI p l).Pairwise (· < ·)
 | [],_=>by simp[insI]
 |y::l,h=>by
  have h':=List.pairwise_cons.1 h
  unfold insI
  by_cases h1:p<y
  .rw[if_pos h1]
   refine List.pairwise_cons.2 ⟨fun x hx=>?_,h⟩
   rcases P9.1 hx with rfl|hx
   .exact h1
   .have:=h'.1 x hx;omega
  .rw[if_neg h1]
   by_cases h2:p=y
   .rw[if_pos h2];exact h
   .rw[if_neg h2]
    refine List.pairwise_cons.2 ⟨fun x hx=>?_,insI_asc p l h'.2⟩
    rcases (insI_mem p x l).1 hx with rfl|hx
    .omega
    .exact h'.1 x hx
theorem ascI_mem (x:Int):∀l:List Int,x∈ascI l↔x∈l
 | []=>Iff.rfl
 |y::l=>by unfold ascI;rw[insI_mem,ascI_mem x l,P9]
theorem ascI_asc:∀l:List Int,(ascI l).Pairwise (· < ·)
 | []=>.nil
 |y::l=>insI_asc y _ (ascI_asc l)
theorem asc_uniq:∀{l m:List Int},l.Pairwise (· < ·)->m.Pairwise (· < ·)->(∀x,x∈l↔x∈m)->l=m
 | [],[],_,_,_=>rfl
 | [],y::m,_,_,h=>by have:=(h y).2 (Qa ..);cases this
 |x::l,[],_,_,h=>by have:=(h x).1 (Qa ..);cases this
 |x::l,y::m,hl,hm,h=>by
  have hl':=List.pairwise_cons.1 hl
  have hm':=List.pairwise_cons.1 hm
  have e:x=y:=by
   rcases P9.1 ((h x).1 (Qa ..)) with e|h1
   .exact e
   .rcases P9.1 ((h y).2 (Qa ..)) with e|h2
    .exact e.symm
    .have:=hl'.1 _ h2;have:=hm'.1 _ h1;omega
  subst e
  congr 1
  refine asc_uniq hl'.2 hm'.2 fun z=>?_
  constructor
  .intro hz
   rcases P9.1 ((h z).1 (Qb _ hz)) with rfl|h1
   .have:=hl'.1 _ hz;omega
   .exact h1
  .intro hz
   rcases P9.1 ((h z).2 (Qb _ hz)) with rfl|h1
   .have:=hm'.1 _ hz;omega
   .exact h1
def numS (d:Def) (l:List Pred):List Int:=d.Lo::RS (toldS d.Name l) (ascI (candS d l))
theorem asc_lo {d:Def} {l:List Pred}:(d.Lo::ascI (candS d l)).Pairwise (· < ·):=List.pairwise_cons.2 ⟨fun x hx=>(candS_rng ((ascI_mem x _).1 hx)).1,ascI_asc _⟩
theorem numbers_is {n:Nat} (hn:400<n) {d:Def} {p:Pred} (hlo: -(2^40)<=d.Lo) (hhi:d.Hi<=2^40) (h:szP p<=120):ZA n (d,p)=some (numS d (pre p)):=by
 obtain⟨S,h1,h2,h3⟩:=numbers_spec hn hlo hhi h
 rw[h3]
 have e:S=ascI (candS d (pre p)):=asc_uniq (List.pairwise_cons.1 h1).2 (ascI_asc _) fun x=>by rw[h2,ascI_mem]
 rw[e];rfl
def stepN (d:Def) (last nx:Int) (x:Pred):Int:=
 bif isI d.Name x then
  (if last<=x.M/\x.M<d.Hi/\x.M+1< (if last<x.N/\x.N<nx then x.N else nx) then x.M+1 else (if last<x.N/\x.N<nx then x.N else nx))
 else nx
theorem whenO_t {U:Type} {o:Option U} {d:U}:whenO true o d=o:=rfl
theorem whenO_f {U:Type} {o:Option U} {d:U}:whenO false o d=some d:=rfl
theorem L20_step {n m i:Nat} {d:Def} {l:List Pred} {last nx:Int} {out:List ref17_Cell} {x:Pred} (hlo: -(2^40)<=last) (hhi:d.Hi<=2^40) (hb:l.length<2^62) (hx:l[i]? =some x):
 QQ_L20 n d l last (m+1) (out,(nx,(i:Int)))=QQ_L20 n d l last m (out,(stepN d last nx x,((i+1:Nat):Int))):=by
 have hlt:=lt_of_get hx
 have hi:=idxL_of hx
 rw[QQ_L20_s,dec_of hx,cond_true]
 refine bs hi ?_
 unfold stepN isI
 rw[wrap_succ (by omega)]
 cases h6:x.Op==(6:Int) with
 |false=>rfl
 |true=>
  rw[cond_true,cond_true]
  refine bs hi ?_
  cases hn:x.Name==d.Name with
  |false=>rfl
  |true=>
   rw[cond_true,cond_true]
   refine bs hi ?_
   have tail:∀(y:Int),(bif decide (x.M>=last) then ((idxL l (i:Int)).bind fun r=>bif decide (r.M<d.Hi) then ((idxL l (i:Int)).bind fun r=>bif decide (wrap .i64 (r.M+(1:Int))<y) then ((idxL l (i:Int)).bind fun r=>QQ_L20 n d l last m (out,(wrap .i64 (r.M+(1:Int)),((i+1:Nat):Int)))) else QQ_L20 n d l last m (out,(y,((i+1:Nat):Int)))) else QQ_L20 n d l last m (out,(y,((i+1:Nat):Int)))) else QQ_L20 n d l last m (out,(y,((i+1:Nat):Int))))=
    QQ_L20 n d l last m (out,((if last<=x.M/\x.M<d.Hi/\x.M+1<y then x.M+1 else y),((i+1:Nat):Int))):=by
    intro y
    by_cases h1:last<=x.M
    .rw[decide_eq_true (p:=x.M>=last) h1,cond_true]
     refine bs hi ?_
     by_cases h2:x.M<d.Hi
     .rw[decide_eq_true h2,cond_true]
      refine bs hi ?_
      have hw:wrap .i64 (x.M+(1:Int))=x.M+1:=by rw[IntKind.wrap_i64];omega
      rw[hw]
      by_cases h3:x.M+1<y
      .rw[decide_eq_true h3,cond_true,if_pos ⟨h1,h2,h3⟩]
       refine bs hi ?_
       rw[hw]
      .rw[decide_eq_false h3,cond_false,if_neg (fun k=>h3 k.2.2)]
     .rw[decide_eq_false h2,cond_false,if_neg (fun k=>h2 k.2.1)]
    .rw[decide_eq_false (p:=x.M>=last) h1,cond_false,if_neg (fun k=>h1 k.1)]
   by_cases h1:last<x.N
   .rw[decide_eq_true (p:=x.N>last) h1,whenO_t]
    refine bs hi ?_
    rw[cond_true]
    by_cases h2:x.N<nx
    .rw[decide_eq_true h2,cond_true,show (if last<x.N/\x.N<nx then x.N else nx)=x.N from if_pos ⟨h1,h2⟩]
     refine bs hi (bs hi ?_)
     exact tail x.N
    .rw[decide_eq_false h2,cond_false,show (if last<x.N/\x.N<nx then x.N else nx)=nx from if_neg (fun k=>h2 k.2)]
     refine bs hi ?_
     exact tail nx
   .rw[decide_eq_false (p:=x.N>last) h1,whenO_f,Option.bind_some,cond_false,cond_false,show (if last<x.N/\x.N<nx then x.N else nx)=nx from if_neg (fun k=>h1 k.1)]
    refine bs hi ?_
    exact tail nx
theorem stepN_nxt {d:Def} {last nx:Int} {x:Pred} {cs:List Int} (hl:d.Lo<=last) (hx:nx<=d.Hi+1):nxt last ((bif isI d.Name x then candP d x else [])++cs) nx=nxt last cs (stepN d last nx x)/\stepN d last nx x<=d.Hi+1:=by
 unfold stepN
 cases hi:isI d.Name x with
 |false=>exact⟨rfl,hx⟩
 |true=>
  rw[cond_true,cond_true]
  have e1:∀(c:Int) (cs:List Int) (m:Int),nxt last (c::cs) m=nxt last cs (if last<c/\c<m then c else m):=fun c cs m=>by
   show nxt last cs _=_
   congr 1
   by_cases h1:c>last<;>by_cases h2:c<m<;>simp[h1,h2]<;>first|done| (intro _;omega)|omega
  unfold candP
  have a1:(bif decide (x.N>d.Lo) then decide (x.N<=d.Hi) else false)=decide (d.Lo<x.N/\x.N<=d.Hi):=by
   by_cases h1:x.N>d.Lo<;>by_cases h2:x.N<=d.Hi<;>simp[h1,h2]<;>first|done| (intro _;omega)|omega
  have a2:(bif decide (x.M>=d.Lo) then decide (x.M<d.Hi) else false)=decide (d.Lo<=x.M/\x.M<d.Hi):=by
   by_cases h1:x.M>=d.Lo<;>by_cases h2:x.M<d.Hi<;>simp[h1,h2]<;>first|done| (intro _;omega)|omega
  rw[a1,a2]
  have f1:∀cs,nxt last ((bif decide (d.Lo<x.N/\x.N<=d.Hi) then [x.N] else [])++cs) nx=nxt last cs (if last<x.N/\x.N<nx then x.N else nx):=fun cs=>by
   by_cases h:d.Lo<x.N/\x.N<=d.Hi
   .rw[decide_eq_true h,cond_true];exact e1 ..
   .rw[decide_eq_false h,cond_false,if_neg (by omega)];rfl
  have hle:(if last<x.N/\x.N<nx then x.N else nx)<=d.Hi+1:=by split<;>omega
  rw[Qt,f1]
  generalize (if last<x.N/\x.N<nx then x.N else nx)=y at*
  by_cases h:d.Lo<=x.M/\x.M<d.Hi
  .rw[decide_eq_true h,cond_true]
   refine⟨(e1 ..).trans ?_,by split<;>omega⟩
   congr 1
   by_cases h2:last<x.M+1/\x.M+1<y
   .rw[if_pos h2,if_pos (by omega)]
   .rw[if_neg h2,if_neg (by omega)]
  .rw[decide_eq_false h,cond_false,if_neg (by omega)]
   exact⟨rfl,hle⟩
theorem cand_cons (d:Def) (x:Pred) (l:List Pred):candS d (x::l)=(bif isI d.Name x then candP d x else [])++candS d l:=by
 unfold candS
 cases hx:isI d.Name x with
 |true=>rw[filter_I_pos hx,Qo];rfl
 |false=>rw[filter_I_neg hx];rfl
theorem L20_spec {n:Nat} {d:Def} {l:List Pred} {last:Int} {out:List ref17_Cell} (hl:d.Lo<=last) (hlo: -(2^40)<=d.Lo) (hhi:d.Hi<=2^40) (hb:l.length<2^62):∀(k i m:Nat) (nx:Int),i+k=l.length->k<m->nx<=d.Hi+1->QQ_L20 n d l last m (out,(nx,(i:Int)))=some (out,nxt last (candS d (l.drop i)) nx):=by
 intro k
 induction k with
 |zero=>
  intro i m nx hi hm _
  obtain⟨m,rfl⟩:∃m',m=m'+1:=⟨m-1,by omega⟩
  obtain rfl:i=l.length:=by omega
  rw[QQ_L20_s,dec_end,cond_false,List.drop_length];rfl
 |succ k ih=>
  intro i m nx hi hm hnx
  obtain⟨m,rfl⟩:∃m',m=m'+1:=⟨m-1,by omega⟩
  have hlt:i<l.length:=by omega
  have hx:l[i]? =some l[i]:=Qh hlt
  obtain⟨s1,s2⟩:=stepN_nxt (d:=d) (last:=last) (nx:=nx) (x:=l[i]) (cs:=candS d (l.drop (i+1))) hl hnx
  rw[L20_step (by omega) hhi hb hx,ih (i+1) m _ (by omega) (by omega) s2,Qq hlt,cand_cons,s1]
theorem alike_L {n:Nat} {l:List Pred} {nm:List UInt8} {a b:Int} (hb:l.length<2^62):∀(k i m:Nat),i+k=l.length->k<m->ZM_L2 n l nm a b m (i:Int)=some (if toldS nm (l.drop i) a=toldS nm (l.drop i) b then .inl () else .inr false):=by
 intro k
 induction k with
 |zero=>
  intro i m hi hm
  obtain⟨m,rfl⟩:∃m',m=m'+1:=⟨m-1,by omega⟩
  obtain rfl:i=l.length:=by omega
  rw[ZM_L2_s,dec_end,cond_false,List.drop_length];rfl
 |succ k ih=>
  intro i m hi hm
  obtain⟨m,rfl⟩:∃m',m=m'+1:=⟨m-1,by omega⟩
  have hlt:i<l.length:=by omega
  have hx:l[i]? =some l[i]:=Qh hlt
  have he:=idxL_of hx
  have ih':=ih (i+1) m (by omega) (by omega)
  rw[Qq hlt,ZM_L2_s,dec_of hx,cond_true,wrap_succ (by omega)]
  generalize l[i]=x at*
  refine bs he ?_
  have hneg:isI nm x=false->(if toldS nm (l.drop (i+1)) a=toldS nm (l.drop (i+1)) b then (Sum.inl ():PUnit⊕Bool) else .inr false)=if toldS nm (x::l.drop (i+1)) a=toldS nm (x::l.drop (i+1)) b then .inl () else .inr false:=fun h=>by
   unfold toldS;rw[filter_I_neg h]
  cases h6:x.Op==(6:Int) with
  |false=>
   rw[whenO_f,Option.bind_some,cond_false,cond_false,ih',hneg (by unfold isI;rw[h6];rfl)]
  |true=>
   rw[whenO_t]
   refine bs he ?_
   rw[cond_true]
   cases hn:x.Name==nm with
   |false=>rw[cond_false,ih',hneg (by unfold isI;rw[h6,hn];rfl)]
   |true=>
    rw[cond_true]
    have hI:isI nm x=true:=by unfold isI;rw[h6,hn];rfl
    refine bs he ?_
    have w1:∀v:Int,∃r:Pred,whenO (decide (v>=x.N)) (idxL l (i:Int)) (⟨(0:Int),[],(0:Int),(0:Int),[],[]⟩:Pred)=some r/\(bif decide (v>=x.N) then decide (v<=r.M) else false)=inR x v:=fun v=>by
     cases h:decide (v>=x.N) with
     |true=>exact⟨x,he,by unfold inR;rw[h]⟩
     |false=>exact⟨_,rfl,by unfold inR;rw[h];rfl⟩
    obtain⟨r1,g1,g2⟩:=w1 a
    obtain⟨r2,g3,g4⟩:=w1 b
    refine bs g1 (bs he (bs g3 ?_))
    rw[g2,g4]
    have et:∀v,toldS nm (x::l.drop (i+1)) v=inR x v::toldS nm (l.drop (i+1)) v:=fun v=>by unfold toldS;rw[filter_I_pos hI];rfl
    rw[et,et]
    by_cases e:inR x a=inR x b
    .rw[e]
     simp only[beq_self_eq_true,Bool.not_true,cond_false,QA,true_and]
     exact ih'
    .have:(inR x a==inR x b)=false:=by simpa using e
     rw[this]
     simp only[Bool.not_false,cond_true,e,QA,false_and,if_false]
theorem alike_spec {n:Nat} {l:List Pred} {nm:List UInt8} {a b:Int} (hb:l.length<2^62) (hn:l.length<n):ZM n (l,(nm,(a,b)))=some (toldS nm l a==toldS nm l b):=by
 rw[ZM_eq]
 refine bs (alike_L hb l.length 0 n (by omega) hn) ?_
 rw[Qu]
 by_cases h:toldS nm l a=toldS nm l b
 .rw[if_pos h,h];simp
 .rw[if_neg h]
  have:(toldS nm l a==toldS nm l b)=false:=by simpa using h
  rw[this];rfl
theorem app_loop {U γ:Type} {L:Nat->(List γ×Int)->Option (List γ)} {l:List U} {f:U->γ} (hs:∀m (i:Nat) x acc,l[i]? =some x->acc.length+1<2^30->L (m+1) (acc,(i:Int))=L m (acc++[f x],((i+1:Nat):Int))) (hf:∀m acc,L (m+1) (acc,(l.length:Int))=some acc):
 ∀(k i m:Nat) (acc:List γ),i+k=l.length->k<m->acc.length+k<2^30->L m (acc,(i:Int))=some (acc++(l.drop i).map f):=by
 intro k
 induction k with
 |zero=>
  intro i m acc hi hm _
  obtain⟨m,rfl⟩:∃m',m=m'+1:=⟨m-1,by omega⟩
  obtain rfl:i=l.length:=by omega
  rw[hf,List.drop_length];simp
 |succ k ih=>
  intro i m acc hi hm ha
  obtain⟨m,rfl⟩:∃m',m=m'+1:=⟨m-1,by omega⟩
  have hlt:i<l.length:=by omega
  have hx:l[i]? =some l[i]:=Qh hlt
  rw[hs m i _ acc hx (by omega),ih (i+1) m _ (by omega) (by omega) (by rw[Qc,List.length_singleton];omega),Qq hlt,Qd,Qt]
  rfl
def wgo (said:List UInt8->Bool):Bool->List (List UInt8)->List (List UInt8)
 |_,[]=>[]
 |o,w::ws=>(bif (bif said w then true else !o) then [w] else [])++wgo said (bif o then true else !(said w)) ws
theorem wgo_len (said:List UInt8->Bool):∀(ws:List (List UInt8)) (o:Bool),(wgo said o ws).length<=ws.length
 | [],_=>mF _
 |w::ws,o=>by
  have:=wgo_len said ws (bif o then true else !(said w))
  unfold wgo
  rw[Qc,List.length_cons]
  cases (bif said w then true else !o)
  .simp only[cond_false,List.length_nil];omega
  .simp only[cond_true,List.length_singleton];omega
def isW (nm:List UInt8) (x:Pred):Bool:=bif x.Op==(7:Int) then x.Name==nm else false
def saidS (nm:List UInt8) (l:List Pred) (w:List UInt8):Bool:=l.any fun x=>isW nm x&& x.S==w
def wordS (d:Def) (l:List Pred):List (List UInt8):=wgo (saidS d.Name l) false d.Words
theorem beqS (a b:List UInt8):beqD R .str a b=(a==b):=rfl
theorem mget_mset (x y:List UInt8):∀m:List (List UInt8×Bool),mget (beqD R Ty.str) y (mset (beqD R Ty.str) x true m)=if y=x then some true else mget (beqD R Ty.str) y m
 | []=>by
   show (bif beqD R .str y x then some true else none)=_
   rw[beqS]
   by_cases e:y=x
   .rw[if_pos e,e];simp
   .have h:(y==x)=false:=by simpa using e
    rw[if_neg e,h];rfl
 | (a,v)::m=>by
   have ih:=mget_mset x y m
   show mget (beqD R Ty.str) y (bif beqD R .str x a then (x,true)::m else (a,v)::mset (beqD R Ty.str) x true m)=if y=x then some true else (bif beqD R .str y a then some v else mget (beqD R Ty.str) y m)
   rw[beqS,beqS]
   by_cases h:x=a
   .subst h
    rw[beq_self_eq_true,cond_true]
    show (bif beqD R .str y x then some true else mget (beqD R Ty.str) y m)=_
    rw[beqS]
    by_cases e:y=x
    .subst e;simp
    .have h:(y==x)=false:=by simpa using e
     rw[if_neg e,h];rfl
   .have hx:(x==a)=false:=by simpa using h
    rw[hx,cond_false]
    show (bif beqD R .str y a then some v else mget (beqD R Ty.str) y (mset (beqD R Ty.str) x true m))=_
    rw[ih,beqS]
    by_cases e:y=a
    .subst e
     have:¬y=x:=fun e=>h e.symm
     simp[this]
    .have h2:(y==a)=false:=by simpa using e
     rw[h2];rfl
theorem words_R {n:Nat} {d:Def}:∀(l:List Pred) (m:List (List UInt8×Bool)),∃m',Zn_R4 n d l ((),m)=some ((),m')/\∀w:List UInt8,optGet false (mget (beqD R Ty.str) w m')=(optGet false (mget (beqD R Ty.str) w m)||saidS d.Name l w)
 | [],m=>⟨m,Zn_R4_0 ..,fun w=>by unfold saidS;simp⟩
 |x::l,m=>by
  rw[Zn_R4_s]
  change∃m',(bif isW d.Name x then Zn_R4 n d l ((),mset (beqD R Ty.str) x.S true m) else Zn_R4 n d l ((),m))=some ((),m')/\_
  cases hx:isW d.Name x with
  |false=>
   obtain⟨m',h1,h2⟩:=words_R (n:=n) (d:=d) l m
   refine⟨m',h1,fun w=>?_⟩
   rw[h2]
   unfold saidS
   rw[List.any_cons,hx];simp
  |true=>
   obtain⟨m',h1,h2⟩:=words_R (n:=n) (d:=d) l (mset (beqD R Ty.str) x.S true m)
   refine⟨m',h1,fun w=>?_⟩
   have e:optGet false (mget (beqD R Ty.str) w (mset (beqD R Ty.str) x.S true m))=optGet false (if w=x.S then some true else mget (beqD R Ty.str) w m):=congrArg (optGet false) (mget_mset x.S w m)
   refine(h2 w).trans ((congrArg (fun b=>b||saidS d.Name l w) e).trans ?_)
   unfold saidS
   rw[List.any_cons,hx]
   by_cases h:w=x.S
   .rw[if_pos h,h];simp[optGet]
   .have:(x.S==w)=false:=by simpa using Ne.symm h
    rw[if_neg h,this];simp
theorem words_L {n:Nat} {d:Def} {r8:PUnit×List ((List UInt8)×Bool)} {said:List UInt8->Bool} (hs:∀w:List UInt8,optGet false (mget (beqD R Ty.str) w r8.2)=said w) (hb:d.Words.length<2^29):
 ∀(k i m:Nat) (acc:List (List UInt8)) (o:Bool),i+k=d.Words.length->k<m->acc.length<=i->Zn_L9 n d r8 m (acc,(o,(i:Int)))=some (acc++wgo said o (d.Words.drop i)):=by
 intro k
 induction k with
 |zero=>
  intro i m acc o hi hm _
  obtain⟨m,rfl⟩:∃m',m=m'+1:=⟨m-1,by omega⟩
  obtain rfl:i=d.Words.length:=by omega
  rw[Zn_L9_s,dec_end,cond_false,List.drop_length];simp[wgo]
 |succ k ih=>
  intro i m acc o hi hm ha
  obtain⟨m,rfl⟩:∃m',m=m'+1:=⟨m-1,by omega⟩
  have hlt:i<d.Words.length:=by omega
  have hx:d.Words[i]? =some d.Words[i]:=Qh hlt
  rw[Zn_L9_s,dec_of hx,cond_true,Qq hlt]
  refine bs (idxL_of hx) ?_
  rw[hs,wrap_succ (by omega)]
  unfold wgo
  cases hc:(bif said d.Words[i] then true else !o) with
  |true=>
   refine(show (bif roomOK (acc.length+1) 16 then _ else none)=_ from ?_)
   rw[roomS (by omega) (by omega),cond_true,ih (i+1) m _ _ (by omega) (by omega) (by rw[Qc,List.length_singleton];omega)]
   simp
  |false=>
   rw[cond_false,ih (i+1) m _ _ (by omega) (by omega) (by omega)]
   simp
theorem words_spec {n:Nat} {d:Def} {p:Pred} (h:szP p<2^30) (hw:d.Words.length<2^29) (hn:d.Words.length<n):Zn n (d,p)=some (wordS d (pre p)):=by
 rw[Zn_eq]
 refine bs (Xe_eq n _) ?_
 show ((partsO p.re.re).bind _).bind _=_
 rw[Pred.re_eq,Pred.re_eq,partsO_some (by omega),Option.bind_some]
 obtain⟨m',h1,h2⟩:=words_R (n:=n) (d:=d) (pre p) []
 refine bs h1 ?_
 refine bs (words_L (r8:=((),m')) (said:=saidS d.Name (pre p)) (fun w=>(h2 w).trans (by simp[mget,optGet])) hw d.Words.length 0 n [] false (by omega) hn (mF _)) ?_
 rfl
theorem said_L {n:Nat} {d:Def} {l:List Pred} {o:Bool} {j:Nat} {w:List UInt8} {out:List ref17_Cell} (hj:d.Words[j]? =some w) (hb:l.length<2^62):∀(k i m:Nat) (s:Bool),i+k=l.length->k<m->QQ_L9 n d l o (j:Int) m (out,(s,(i:Int)))=some (out,s||saidS d.Name (l.drop i) w):=by
 intro k
 induction k with
 |zero=>
  intro i m s hi hm
  obtain⟨m,rfl⟩:∃m',m=m'+1:=⟨m-1,by omega⟩
  obtain rfl:i=l.length:=by omega
  rw[QQ_L9_s,dec_end,cond_false,List.drop_length];simp[saidS]
 |succ k ih=>
  intro i m s hi hm
  obtain⟨m,rfl⟩:∃m',m=m'+1:=⟨m-1,by omega⟩
  have hlt:i<l.length:=by omega
  have hx:l[i]? =some l[i]:=Qh hlt
  have he:=idxL_of hx
  have ih':=fun s=>ih (i+1) m s (by omega) (by omega)
  rw[QQ_L9_s,dec_of hx,cond_true,Qq hlt,wrap_succ (by omega)]
  generalize l[i]=x at*
  have ec:saidS d.Name (x::l.drop (i+1)) w=((isW d.Name x&& x.S==w)||saidS d.Name (l.drop (i+1)) w):=by unfold saidS;rw[List.any_cons]
  rw[ec]
  cases s with
  |true=>rw[Bool.not_true,cond_false,ih'];simp
  |false=>
   rw[Bool.not_false,cond_true]
   refine bs he ?_
   unfold isW
   cases h7:x.Op==(7:Int) with
   |false=>rw[cond_false,ih'];simp
   |true=>
    rw[cond_true]
    refine bs he ?_
    cases hn:x.Name==d.Name with
    |false=>rw[cond_false,ih'];simp
    |true=>
     rw[cond_true]
     refine bs he (bs (idxL_of hj) ?_)
     rw[ih'];simp
def wcell (d:Def) (w:List UInt8):ref17_Cell:=⟨⟨d.Name,d.Kind,0,w⟩,true⟩
theorem rwords_L {n:Nat} {d:Def} {l:List Pred} (hb:l.length<2^62) (hln:l.length<n) (hw:d.Words.length<2^29):∀(k i m:Nat) (acc:List ref17_Cell) (o:Bool),i+k=d.Words.length->k<m->acc.length<=i+1->QQ_L5 n d l m (acc,(o,(i:Int)))=some (acc++(wgo (saidS d.Name l) o (d.Words.drop i)).map (wcell d)):=by
 intro k
 induction k with
 |zero=>
  intro i m acc o hi hm _
  obtain⟨m,rfl⟩:∃m',m=m'+1:=⟨m-1,by omega⟩
  obtain rfl:i=d.Words.length:=by omega
  rw[QQ_L5_s,dec_end,cond_false,List.drop_length];simp[wgo]
 |succ k ih=>
  intro i m acc o hi hm ha
  obtain⟨m,rfl⟩:∃m',m=m'+1:=⟨m-1,by omega⟩
  have hlt:i<d.Words.length:=by omega
  have hx:d.Words[i]? =some d.Words[i]:=Qh hlt
  rw[QQ_L5_s,dec_of hx,cond_true,Qq hlt]
  have hsd:=said_L (n:=n) (d:=d) (l:=l) (o:=o) (out:=acc) hx hb l.length 0 n false (by omega) hln
  rw[Qu,Bool.false_or] at hsd
  refine bs hsd ?_
  dsimp only
  rw[wrap_succ (by omega)]
  unfold wgo
  cases hc:(bif saidS d.Name l d.Words[i] then true else !o) with
  |true=>
   rw[cond_true,cond_true]
   refine bs (idxL_of hx) ?_
   refine(show (bif roomOK (acc.length+1) 56 then _ else none)=_ from ?_)
   rw[roomS (by omega) (by omega),cond_true,ih (i+1) m _ _ (by omega) (by omega) (by rw[Qc,List.length_singleton];omega)]
   simp;rfl
  |false=>
   rw[cond_false,cond_false,ih (i+1) m _ _ (by omega) (by omega) (by omega)]
   simp
def ncell (d:Def) (v:Int):ref17_Cell:=⟨⟨d.Name,d.Kind,v,[]⟩,true⟩
theorem rnums_L {n:Nat} {d:Def} {l:List Pred} (hlo: -(2^40)<=d.Lo) (hle:d.Lo<=d.Hi) (hhi:d.Hi<=2^40) (hb:l.length<2^62) (hln:l.length<n):∀(S:List Int) (last:Int) (m:Nat) (out:List ref17_Cell),(last::S).Pairwise (· < ·)->d.Lo<=last->(∀x,last<x->(x∈candS d l↔x∈S))->S.length<m->out.length+S.length<2^29->
 QQ_L18 n d l m (out,last)=some (out++(RS (toldS d.Name l) S).map (ncell d)):=by
 intro S
 have ew:wrap .i64 (d.Hi+(1:Int))=d.Hi+1:=by rw[IntKind.wrap_i64];omega
 induction S with
 |nil=>
  intro last m out _ hl hm hlt _
  obtain⟨m,rfl⟩:∃m',m=m'+1:=⟨m-1,by omega⟩
  rw[QQ_L18_s,ew]
  refine bs (L20_spec (out:=out) hl hlo hhi hb l.length 0 n (d.Hi+1) (by omega) hln (Qj _)) ?_
  rw[Qu,nxt_nil (fun x hx hc=>by cases (hm x hx).1 hc)]
  show (bif decide (d.Hi+1>d.Hi) then some out else _)=_
  rw[decide_eq_true (by omega),cond_true];simp[RS]
 |cons y S ih=>
  intro last m out hs hl hm hlt hol
  simp only[List.length_cons] at hlt hol
  obtain⟨m,rfl⟩:∃m',m=m'+1:=⟨m-1,by omega⟩
  have hs':=List.pairwise_cons.1 hs
  have hs2:=List.pairwise_cons.1 hs'.2
  have hly:=hs'.1 y (Qa ..)
  have hyc:=(hm y hly).2 (Qa ..)
  have hyr:=candS_rng hyc
  rw[QQ_L18_s,ew]
  refine bs (L20_spec (out:=out) hl hlo hhi hb l.length 0 n (d.Hi+1) (by omega) hln (Qj _)) ?_
  rw[Qu,nxt_cons hs'.2 hm hly (by omega)]
  show (bif decide (y>d.Hi) then some out else _)=_
  rw[decide_eq_false (by omega),cond_false]
  have ey:wrap .i64 (y-(1:Int))=y-1:=by rw[IntKind.wrap_i64];omega
  rw[ey]
  refine bs (alike_spec hb hln) ?_
  have hm':∀x,y<x->(x∈candS d l↔x∈S):=fun x hx=>by
   rw[hm x (by omega),P9]
   constructor
   .rintro (h|h)
    .omega
    .exact h
   .exact .inr
  unfold RS
  cases ht:toldS d.Name l (y-1)==toldS d.Name l y with
  |true=>
   rw[Bool.not_true,cond_false,cond_true,ih y m out hs'.2 (by omega) hm' (by omega) (by omega)]
  |false=>
   rw[Bool.not_false,cond_true,cond_false]
   refine(show (bif roomOK (out.length+1) 56 then _ else none)=_ from ?_)
   rw[roomS (by omega) (by omega),cond_true]
   refine Eq.trans (ih y m (out++[ncell d y]) hs'.2 (by omega) hm' (by omega) (by rw[Qc,List.length_singleton];omega)) ?_
   simp
def cellO (d:Def) (l:List Pred):List (Option Attr):=none::(if d.Kind=1 then (numS d l).map fun v=>some ⟨d.Name,d.Kind,v,[]⟩ else (wordS d l).map fun w=>some ⟨d.Name,d.Kind,0,w⟩)
def noA:Attr:=⟨[],0,0,[]⟩
def toF:Option Attr->filter_cell
 |none=>⟨noA,false⟩
 |some a=>⟨a,true⟩
def toR:Option Attr->ref17_Cell
 |none=>⟨noA,false⟩
 |some a=>⟨a,true⟩
structure DefG (n:Nat) (d:Def):Prop where
 kind:d.Kind=1\/d.Kind=2
 lo: -(2^40)<=d.Lo
 le:d.Lo<=d.Hi
 hi:d.Hi<=2^40
 words:d.Words.length<2^29
 wn:d.Words.length<n
theorem RS_len (t:Int->List Bool):∀S:List Int,(RS t S).length<=S.length
 | []=>mF _
 |y::S=>by
  have:=RS_len t S
  unfold RS
  cases t (y-1)==t y
  .rw[cond_false,List.length_cons,List.length_cons];omega
  .rw[cond_true,List.length_cons];omega
theorem insI_len (p:Int):∀l:List Int,(insI p l).length<=l.length+1
 | []=>mF _
 |y::l=>by
  have:=insI_len p l
  unfold insI
  split
  .simp
  .split
   .simp
   .simp;omega
theorem ascI_len:∀l:List Int,(ascI l).length<=l.length
 | []=>mF _
 |y::l=>by
  have:=ascI_len l
  have h2:=insI_len y (ascI l)
  unfold ascI
  rw[List.length_cons];omega
theorem numS_len (d:Def) (l:List Pred):(numS d l).length<=2*l.length+1:=by
 unfold numS
 have h1:=RS_len (toldS d.Name l) (ascI (candS d l))
 have h2:=ascI_len (candS d l)
 have h3:=cand_len d l
 rw[List.length_cons];omega
theorem fcells_spec {n:Nat} (hn:400<n) {d:Def} {p:Pred} (hd:DefG n d) (h:szP p<=120):Zt n (d,p)=some ((cellO d (pre p)).map toF):=by
 have hnl:=numS_len d (pre p)
 rw[pre_len] at hnl
 have hwl:(wordS d (pre p)).length<=d.Words.length:=wgo_len _ _ _
 have hw:=hd.words
 have hw2:=hd.wn
 rw[Zt_eq]
 unfold cellO
 by_cases hk:d.Kind=1
 .have e:(d.Kind==(1:Int))=true:=by rw[hk];rfl
  rw[e,cond_true,if_pos hk]
  refine bs (show ZA n (d,p.re)=_ by rw[Pred.re_eq];exact numbers_is hn hd.lo hd.hi h) ?_
  refine bs (app_loop (L:=fun m q=>Zt_L4 n d (numS d (pre p)) m q) (l:=numS d (pre p)) (f:=fun v=>toF (some ⟨d.Name,d.Kind,v,[]⟩)) (fun m i x acc hx ha=>?_) (fun m acc=>?_) (numS d (pre p)).length 0 n [toF none] (by omega) (by omega) (by simp;omega)) ?_
  .rw[Zt_L4_s,dec_of hx,cond_true]
   refine bs (idxL_of hx) ?_
   have hlt:=lt_of_get hx
   rw[wrap_succ (by omega)]
   refine(show (bif roomOK (acc.length+1) 56 then _ else none)=_ from ?_)
   rw[roomS (by omega) (by omega)];rfl
  .rw[Zt_L4_s,dec_end];rfl
  .simp
 .have e:(d.Kind==(1:Int))=false:=by simpa using hk
  rw[e,cond_false,if_neg hk]
  refine bs (show Zn n (d,p.re)=_ by rw[Pred.re_eq];exact words_spec (by omega) hw hw2) ?_
  refine bs (app_loop (L:=fun m q=>Zt_L10 n d (wordS d (pre p)) m q) (l:=wordS d (pre p)) (f:=fun w=>toF (some ⟨d.Name,d.Kind,0,w⟩)) (fun m i x acc hx ha=>?_) (fun m acc=>?_) (wordS d (pre p)).length 0 n [toF none] (by omega) (by omega) (by simp;omega)) ?_
  .rw[Zt_L10_s,dec_of hx,cond_true]
   refine bs (idxL_of hx) ?_
   have hlt:=lt_of_get hx
   rw[wrap_succ (by omega)]
   refine(show (bif roomOK (acc.length+1) 56 then _ else none)=_ from ?_)
   rw[roomS (by omega) (by omega)];rfl
  .rw[Zt_L10_s,dec_end];rfl
  .simp
theorem rcells_spec {n:Nat} (hn:400<n) {d:Def} {l:List Pred} (hd:DefG n d) (h:l.length<=120):QQ n (d,l)=some ((cellO d l).map toR):=by
 have hw:=hd.words
 have hw2:=hd.wn
 rw[QQ_eq]
 unfold cellO
 rcases hd.kind with hk|hk
 .have e:(d.Kind==(2:Int))=false:=by rw[hk];rfl
  rw[e,cond_false,if_pos hk]
  refine(show (bif roomOK 2 56 then _ else none)=_ from ?_)
  rw[roomS (by omega) (by omega),cond_true]
  have h2:=ascI_len (candS d l)
  have h3:=cand_len d l
  refine bs (rnums_L (n:=n) (d:=d) (l:=l) hd.lo hd.le hd.hi (by omega) (by omega) (ascI (candS d l)) d.Lo n _ asc_lo (Qj _) (fun x _=>(ascI_mem x _).symm) (by omega) ?_) ?_
  .simp only[Qc,List.length_singleton];omega
  .simp[numS];exact⟨rfl,rfl,fun _ _=>rfl⟩
 .have e:(d.Kind==(2:Int))=true:=by rw[hk];rfl
  rw[e,cond_true,if_neg (by rw[hk];decide)]
  refine bs (rwords_L (n:=n) (d:=d) (l:=l) (by omega) (by omega) hw d.Words.length 0 n _ false (by omega) hw2 (by simp)) ?_
  simp[wordS];exact⟨rfl,fun _ _=>rfl⟩
end Sh
end
section
open Go Go.Proofs Aq
namespace Sh
theorem vszL_mem {l:List V} {v:V} (h:v∈l):vsz v<=vszL l:=by
 induction l with
 |nil=>cases h
 |cons x l ih=>
  rcases P9.1 h with rfl|h
  .show vsz v<=vsz v+vszL l;omega
  .have:=ih h
   show vsz v<=vsz x+vszL l;omega
theorem lst_mem {U:Type} (f:U->V) {l:List U} {x:U} (h:x∈l):vsz (f x)<=vszL (l.map f):=vszL_mem (List.mem_map_of_mem h)
theorem lst_len {U:Type} (f:U->V) (hf:∀x,1<=vsz (f x)) (l:List U):l.length<=vszL (l.map f):=by
 induction l with
 |nil=>exact QF _
 |cons x l ih=>
  have:=hf x
  show l.length+1<=vsz (f x)+vszL (l.map f)
  omega
mutual
theorem szP_vsz:∀p:Pred,szP p<=vsz (Pred.vr p)
 | ⟨op,name,n,m,s,subs⟩=>by
   have:=szL_vsz subs
   simp only[szP,Pred.vr,vsz,vszL]
   omega
theorem szL_vsz:∀l:List Pred,szL l<=vszL (Pred.vl l)
 | []=>QF _
 |p::l=>by
  have:=szP_vsz p
  have:=szL_vsz l
  simp only[szL,Pred.vl,vszL]
  omega
end
theorem pred_small (x:Pred):szP x<=vsr (Pred.v x):=by
 rw[<-Pred.vr_eq];exact P7 (szP_vsz x) (vsz_le _)
end Sh
end
section
open Go Go.Proofs Aq
namespace Sh
theorem ZL_spec {n:Nat} {l:List (List UInt8)} {x:List UInt8} (h:l.length<n) (hb:l.length<2^62):ZL n (l,x)=some (l.any (· ==x)):=by
 have:=loop_ix (L:=fun m i=>ZL_L2 n l x m i) (l:=l) (fun d i r=>bif d==x then some (.inr true) else r) (some (.inl ()))
  (fun m i d hd=>by
    have hlt:=lt_of_get hd
    rw[ZL_L2_s,dec_of hd,idxL_of hd,wrap_succ (by omega)];rfl)
  (fun m=>by rw[ZL_L2_s,dec_end];rfl) h
 rw[ZL_eq,this,foldI_find (fun d:List UInt8=>d==x) (fun i=>(Sum.inr true:PUnit⊕Bool)) (.inl ())]
 cases hf:l.findIdx? (fun d=>d==x) with
 |none=>
  rw[List.findIdx?_eq_none_iff] at hf
  have:l.any (· ==x)=false:=by rw[List.any_eq_false];intro y hy;simpa using hf y hy
  rw[this];rfl
 |some j=>
  obtain⟨hj,h2,_⟩:=List.findIdx?_eq_some_iff_getElem.1 hf
  have:l.any (· ==x)=true:=by rw[List.any_eq_true];exact⟨l[j],QM hj,h2⟩
  rw[this];rfl
def SmallS (s:Schema) (n:Nat):Prop:=s.Defs.length<n/\s.Defs.length<2^62/\∀d∈s.Defs,d.Name.length<n/\d.Name.length<2^62/\d.Words.length<n/\d.Words.length<2^62/\∀w∈d.Words,w.length<n/\w.length<2^62
theorem ZC_total {n:Nat} {x:List UInt8} (h:x.length<n) (hb:x.length<2^62) (hn:6<n):∃b:Bool,ZC n x=some b:=by
 obtain⟨r,hr⟩:=loop_tot (L:=fun m (_:Unit) i=>ZC_L2 n x m i) (l:=x)
  (fun m i c _ hc ih=>by
    have hlt:=lt_of_get hc
    show∃r,ZC_L2 n x (m+1) (i:Int)=some r
    rw[ZC_L2_s,dec_of hc,idxL_of hc,wrap_succ (by omega),cond_true,Option.bind_some]
    cases (bif !(bif decide ((c.toNat:Int)>=(97:Int)) then decide ((c.toNat:Int)<=(122:Int)) else false) then bif (i:Int)==(0:Int) then true else !(bif bif decide ((c.toNat:Int)>=(48:Int)) then decide ((c.toNat:Int)<=(57:Int)) else false then true else (c.toNat:Int)==(95:Int)) else false)
    .exact ih ()
    .exact⟨_,rfl⟩)
  (fun m _ i hi=>by
    show∃r,ZC_L2 n x (m+1) (i:Int)=some r
    rw[ZC_L2_s,dec_ge hi];exact⟨_,rfl⟩) x.length 0 n () (by omega) h
 have hr':ZC_L2 n x n (0:Int)=some r:=hr
 rw[ZC_eq,hr']
 cases r with
 |inl q=>
  obtain⟨b,hb'⟩:=whenO_total (c:=bif decide ((x.length:Int)>=(1:Int)) then decide ((x.length:Int)<=(40:Int)) else false) (o:=ZL n (([[(97:UInt8),(108:UInt8),(108:UInt8)],[(97:UInt8),(110:UInt8),(100:UInt8)],[(104:UInt8),(97:UInt8),(115:UInt8)],[(105:UInt8),(110:UInt8)],[(110:UInt8),(111:UInt8),(116:UInt8)],[(111:UInt8),(114:UInt8)]],x))) (d:=false) (fun _=>⟨_,ZL_spec (show 6<n from hn) (show 6<2^62 by omega)⟩)
  rw[Option.bind_some]
  show∃b,Option.bind (whenO _ _ _) _=some b
  rw[hb']
  exact⟨_,rfl⟩
 |inr q=>exact⟨q,rfl⟩
theorem Zj_total {n:Nat} {l:List (List UInt8)} (h:l.length<n) (hb:l.length<2^62) (hw:∀w∈l,w.length<n/\w.length<2^62) (hn:6<n):∃e:Int,Zj n l=some e:=by
 rw[Zj_eq]
 cases (bif decide ((l.length:Int)< (1:Int)) then true else decide ((l.length:Int)> (50:Int)))
 .obtain⟨r,hr⟩:=loop_tot (L:=fun m (_:Unit) i=>Zj_L4 n l m i) (l:=l)
   (fun m i c _ hc ih=>by
     have hlt:=lt_of_get hc
     show∃r,Zj_L4 n l (m+1) (i:Int)=some r
     obtain⟨b,hb'⟩:=ZC_total (hw c (Qw hc)).1 (hw c (Qw hc)).2 hn
     rw[Zj_L4_s,dec_of hc,idxL_of hc,wrap_succ (by omega),cond_true,Option.bind_some,hb']
     cases b
     .exact⟨_,rfl⟩
     .exact ih ())
   (fun m _ i hi=>by
     show∃r,Zj_L4 n l (m+1) (i:Int)=some r
     rw[Zj_L4_s,dec_ge hi];exact⟨_,rfl⟩) l.length 0 n () (by omega) h
  have hr':Zj_L4 n l n (0:Int)=some r:=hr
  rw[cond_false,hr',Option.bind_some]
  cases r with
  |inr q=>exact⟨q,rfl⟩
  |inl q=>
   obtain⟨r,hr2⟩:=loop_tot (L:=fun m (_:Unit) i=>Zj_L9 n l m (i+1)) (l:=l.tail)
    (fun m i c _ hc ih=>by
      have hc':l[i+1]? =some c:=by rw[List.getElem?_tail] at hc;exact hc
      have hlt:=lt_of_get hc'
      show∃r,Zj_L9 n l (m+1) ((i:Int)+1)=some r
      have ei:(i:Int)+1=((i+1:Nat):Int):=by omega
      have e0:wrap .i64 (((i+1:Nat):Int)-(1:Int))=(i:Int):=by rw[IntKind.wrap_i64];omega
      have hi0:l[i]? =some l[i]:=Qh (by omega)
      rw[ei,Zj_L9_s,dec_of hc',idxL_of hc',wrap_succ (by omega),e0,idxL_of hi0,cond_true,Option.bind_some,Option.bind_some]
      cases (Go.Op.bytesLess c l[i]||c==l[i])
      .have:=ih ()
       have e1:(((i+1:Nat):Int))+1=((i+1+1:Nat):Int):=by omega
       simp only[e1] at this
       exact this
      .exact⟨_,rfl⟩)
    (fun m _ i hi=>by
      show∃r,Zj_L9 n l (m+1) ((i:Int)+1)=some r
      have ei:(i:Int)+1=((i+1:Nat):Int):=by omega
      rw[ei,Zj_L9_s,dec_ge (by rw[List.length_tail] at hi;omega)];exact⟨_,rfl⟩) l.length 0 n () (by rw[List.length_tail];omega) h
   have hr2':Zj_L9 n l n (1:Int)=some r:=hr2
   rw[Sum.elim_inl,hr2',Option.bind_some]
   cases r with
   |inl q=>exact⟨0,rfl⟩
   |inr q=>exact⟨q,rfl⟩
 .exact⟨_,rfl⟩
theorem Xo_total {n:Nat} {d:Def} {x:List UInt8} (h:d.Name.length<n/\d.Name.length<2^62/\d.Words.length<n/\d.Words.length<2^62/\∀w∈d.Words,w.length<n/\w.length<2^62) (hn:6<n):∃e:Int,Xo n (d,x)=some e:=by
 obtain⟨b,hb⟩:=ZC_total h.1 h.2.1 hn
 obtain⟨e,he⟩:=Zj_total h.2.2.1 h.2.2.2.1 h.2.2.2.2 hn
 rw[Xo_eq,hb]
 show∃e:Int,(bif !b then some (5:Int) else _)=some e
 refine bifx ⟨_,rfl⟩ (bifx ⟨_,rfl⟩ (bifx (bifx ⟨_,rfl⟩ (bifx ⟨_,rfl⟩ ⟨_,rfl⟩)) (bifx (bifx ⟨_,rfl⟩ ?_) ⟨_,rfl⟩)))
 rw[he];exact⟨e,rfl⟩
theorem Zu_total {n:Nat} {s:Schema} (h:SmallS s n) (hn:6<n):∃e:Int,Zu n s=some e:=by
 obtain⟨h1,h2,h3⟩:=h
 obtain⟨b,hb⟩:=whenO_total (c:= !(bif decide (s.Dims< (1:Int)) then true else decide (s.Dims> (32:Int)))) (o:=XJ n s.Metric) (d:=false) (fun _=>by rw[XJ_eq];exact⟨_,rfl⟩)
 obtain⟨r,hr⟩:=loop_tot (L:=fun m (x:List UInt8) i=>Zu_L7 n s m (x,i)) (l:=s.Defs)
  (fun m i d x hd ih=>by
    have hlt:=lt_of_get hd
    show∃r,Zu_L7 n s (m+1) (x,(i:Int))=some r
    obtain⟨e,he⟩:=Xo_total (x:=x) (h3 d (Qw hd)) hn
    rw[Zu_L7_s,dec_of hd,idxL_of hd,wrap_succ (by omega),cond_true,Option.bind_some,he]
    show∃r,(bif e !=(0:Int) then _ else _)=some r
    exact bifx ⟨_,rfl⟩ (ih _))
  (fun m x i hi=>by
    show∃r,Zu_L7 n s (m+1) (x,(i:Int))=some r
    rw[Zu_L7_s,dec_ge hi];exact⟨_,rfl⟩) s.Defs.length 0 n [] (by omega) h1
 have hr':Zu_L7 n s n ([],(0:Int))=some r:=hr
 rw[Zu_eq]
 show∃e:Int,Option.bind (whenO _ _ _) _=some e
 rw[hb]
 show∃e:Int,(bif _ then some (1:Int) else _)=some e
 refine bifx ⟨_,rfl⟩ (bifx ⟨_,rfl⟩ ?_)
 rw[hr',Option.bind_some]
 cases r with
 |inl q=>exact⟨0,rfl⟩
 |inr q=>exact⟨q,rfl⟩
theorem Zo_total {n:Nat} {s:Schema} {k:Int} (h:SmallS s n):∃b:Bool,Zo n (s,k)=some b:=by
 obtain⟨h1,h2,h3⟩:=h
 obtain⟨r,hr⟩:=loop_tot (L:=fun m (_:Unit) i=>Zo_L2 n s k m i) (l:=s.Defs)
  (fun m i d _ hd ih=>by
    have hlt:=lt_of_get hd
    obtain⟨w1,w2,w3,w4,w5⟩:=h3 d (Qw hd)
    show∃r,Zo_L2 n s k (m+1) (i:Int)=some r
    obtain⟨r,hr⟩:=loop_tot (L:=fun m (_:Unit) j=>Zo_L8 n s k (i:Int) d m j) (l:=d.Words)
     (fun m j w _ hw ih=>by
       have hlt:=lt_of_get hw
       show∃r,Zo_L8 n s k (i:Int) d (m+1) (j:Int)=some r
       rw[Zo_L8_s,dec_of hw,idxL_of hw,wrap_succ (by omega),cond_true,Option.bind_some]
       exact bifx ⟨_,rfl⟩ (ih ()))
     (fun m _ j hj=>by
       show∃r,Zo_L8 n s k (i:Int) d (m+1) (j:Int)=some r
       rw[Zo_L8_s,dec_ge hj];exact⟨_,rfl⟩) d.Words.length 0 n () (by omega) w3
    have hr':Zo_L8 n s k (i:Int) d n (0:Int)=some r:=hr
    rw[Zo_L2_s,dec_of hd,idxL_of hd,wrap_succ (by omega),Option.bind_some,hr']
    refine bifx (bifx ⟨_,rfl⟩ ?_) ⟨_,rfl⟩
    cases r with
    |inl q=>exact ih ()
    |inr q=>exact⟨_,rfl⟩)
  (fun m _ i hi=>by
    show∃r,Zo_L2 n s k (m+1) (i:Int)=some r
    rw[Zo_L2_s,dec_ge hi];exact⟨_,rfl⟩) s.Defs.length 0 n () (by omega) h1
 have hr':Zo_L2 n s k n (0:Int)=some r:=hr
 rw[Zo_eq,hr',Option.bind_some]
 cases r with
 |inl q=>exact⟨_,rfl⟩
 |inr q=>exact⟨q,rfl⟩
def formS (p:Pred):Bool:=
 if (p.Op<5/\p.Name≠[])\/(p.Op≠6/\(p.N≠0\/p.M≠0))\/(p.Op≠7/\p.S≠[]) then false else
 if p.N>p.M then false else
 if p.Op=2\/p.Op=3 then decide (p.Subs≠[]) else
 if p.Op=4 then decide (p.Subs.length=1) else decide (p.Subs=[])
theorem len_pos {U:Type} (l:List U):decide ((l.length:Int)> (0:Int))=decide (l≠[]):=by
 cases l with
 |nil=>simp
 |cons a l=>simp<;>omega
theorem len_zero {U:Type} (l:List U):((l.length:Int)==(0:Int))=decide (l=[]):=by
 cases l with
 |nil=>simp
 |cons a l=>simp<;>omega
theorem nil_beq (l:List UInt8):(l==[])=decide (l=[]):=by cases l<;>simp
theorem Xx_spec (n:Nat) (p:Pred):Xx n p=some (formS p):=by
 obtain⟨op,name,a,b,s,subs⟩:=p
 rw[Xx_eq]
 simp only[len_zero,nil_beq]
 have key:(bif bif bif bif !(decide (op>=(5:Int))) then !(decide (name=[])) else false then true else bif op !=(6:Int) then bif a !=(0:Int) then true else b !=(0:Int) else false then true else bif op !=(7:Int) then !(decide (s=[])) else false then
  some false
  else
   bif bif bif decide (a>b) then true else bif bif op==(2:Int) then true else op==(3:Int) then decide (subs=[]) else false then true else bif op==(4:Int) then (subs.length:Int) !=(1:Int) else false then
    some false
   else
    some (bif bif bif op==(2:Int) then true else op==(3:Int) then true else op==(4:Int) then true else decide (subs=[])))=some (formS ⟨op,name,a,b,s,subs⟩):=by
  unfold formS
  dsimp only
  by_cases c1:(op<5/\name≠[])\/(op≠6/\(a≠0\/b≠0))\/(op≠7/\s≠[])
  .rw[if_pos c1]
   have:(bif bif bif !(decide (op>=(5:Int))) then !(decide (name=[])) else false then true else bif op !=(6:Int) then bif a !=(0:Int) then true else b !=(0:Int) else false then true else bif op !=(7:Int) then !(decide (s=[])) else false)=true:=by
    simp only[Bool.cond_true_right,Bool.cond_false_right,Bool.cond_true_left,QS,P6,decide_eq_true_iff,bne_iff_ne,QN,decide_eq_false_iff_not]
    rcases c1 with c|c|c
    .exact .inl (.inl ⟨by omega,c.2⟩)
    .exact .inl (.inr c)
    .exact .inr c
   rw[this];rfl
  .rw[if_neg c1]
   have:(bif bif bif !(decide (op>=(5:Int))) then !(decide (name=[])) else false then true else bif op !=(6:Int) then bif a !=(0:Int) then true else b !=(0:Int) else false then true else bif op !=(7:Int) then !(decide (s=[])) else false)=false:=by
    rw[Bool.eq_false_iff]
    intro h
    simp only[Bool.cond_true_right,Bool.cond_false_right,Bool.cond_true_left,QS,P6,decide_eq_true_iff,bne_iff_ne,QN,decide_eq_false_iff_not] at h
    rcases h with (h|h)|h
    .exact c1 (.inl ⟨by omega,h.2⟩)
    .exact c1 (.inr (.inl h))
    .exact c1 (.inr (.inr h))
   rw[this,cond_false]
   by_cases c2:a>b
   .rw[if_pos c2,decide_eq_true c2];rfl
   .rw[if_neg c2,decide_eq_false c2,cond_false]
    by_cases c3:op=2\/op=3
    .rw[if_pos c3]
     have h4:(op==(4:Int))=false:=by rcases c3 with rfl|rfl<;>rfl
     have:(bif op==(2:Int) then true else op==(3:Int))=true:=by rcases c3 with rfl|rfl<;>rfl
     rw[this,h4]
     by_cases hs:subs=[]<;>simp[hs]
    .rw[if_neg c3]
     have:(bif op==(2:Int) then true else op==(3:Int))=false:=by
      rw[Bool.eq_false_iff];intro h;simp at h;exact c3 h
     rw[this,cond_false]
     by_cases c4:op=4
     .rw[if_pos c4,c4]
      by_cases hl:subs.length=1
      .simp[hl]
      .have:((subs.length:Int) !=(1:Int))=true:=by rw[bne_iff_ne];omega
       rw[this];simp[hl]
     .rw[if_neg c4]
      have:(op==(4:Int))=false:=by simpa using c4
      rw[this];rfl
 exact key
theorem Xy_spec {n:Nat} {s:Schema} {x:List UInt8} (h:s.Defs.length<n) (hb:s.Defs.length<2^62):Xy n (s,x)=some (match s.Defs.find? (fun d=>d.Name==x) with|some d=>(d,true)|none=>(⟨[],0,0,0,[]⟩,false)):=by
 have:=loop_ix (L:=fun m i=>ZY_L2 n s.Defs x m i) (l:=s.Defs) (fun d i r=>bif d.Name==x then some (.inr (i:Int)) else r) (some (.inl ()))
  (fun m i d hd=>by
    have hlt:=lt_of_get hd
    rw[ZY_L2_s,dec_of hd,idxL_of hd,wrap_succ (by omega)]
    simp only[cond_true,Option.bind_some,XL_eq];rfl)
  (fun m=>by rw[ZY_L2_s,dec_end];rfl) h
 rw[Xy_eq,ZY_eq,this,foldI_find (fun d:Def=>d.Name==x) (fun i=>(Sum.inr (i:Int):PUnit⊕Int)) (.inl ())]
 have hg:=get_find (fun d:Def=>d.Name==x) s.Defs
 rw[<-hg]
 cases hf:s.Defs.findIdx? (fun d=>d.Name==x) with
 |none=>rfl
 |some j=>
  obtain⟨hj,_,_⟩:=List.findIdx?_eq_some_iff_getElem.1 hf
  simp only[Option.bind_some,Sum.elim_inr,Qz]
  have e:decide (((j:Nat):Int)< (0:Int))=false:=by simp
  show (bif decide (((j:Nat):Int)< (0:Int)) then (some ((⟨[],(0:Int),(0:Int),(0:Int),[]⟩:Def),false):Option (Def×Bool)) else (idxL s.Defs ((j:Nat):Int)).bind fun r4=>some (r4,true))=_
  rw[e,cond_false,idxL_nat,Qh hj];rfl
def checkP (s:Schema) (x:Pred):Option Int:=
 if x.Op<1\/x.Op>7 then some 1 else
 if formS x=false then some 3 else
 if x.Op<5 then none else
 match s.Defs.find? (fun d=>d.Name==x.Name) with
 |none=>some 5
 |some d=>if (x.Op=6/\d.Kind≠1)\/(x.Op=7/\d.Kind≠2) then some 130 else none
def checkL (s:Schema):List Pred->Option Int
 | []=>none
 |x::l=>match checkP s x with
  |some e=>some e
  |none=>checkL s l
theorem foldI_first {U:Type} (c:U->Option Int):∀(l:List U) (i:Nat),foldI (Y:=Unit) (fun x _ _ (k:Unit->Option (PUnit⊕Int))=>match c x with|some e=>some (Sum.inr e:PUnit⊕Int)|none=>k ()) (fun _=>some (Sum.inl ():PUnit⊕Int)) i l ()=some (match l.findSome? c with|some e=>(Sum.inr e:PUnit⊕Int)|none=>.inl ())
 | [],i=>rfl
 |x::l,i=>by
  show (match c x with|some e=>some (Sum.inr e:PUnit⊕Int)|none=>foldI _ _ (i+1) l ())=_
  rw[List.findSome?_cons]
  cases c x with
  |none=>exact foldI_first c l (i+1)
  |some e=>rfl
theorem checkL_eq (s:Schema):∀l:List Pred,checkL s l=l.findSome? (checkP s)
 | []=>rfl
 |x::l=>by
  rw[checkL,List.findSome?_cons,checkL_eq s l];cases checkP s x<;>rfl
theorem filter_Check_R_spec {n:Nat} {s:Schema} (hd:s.Defs.length<n) (hdb:s.Defs.length<2^62):∀l:List Pred,Zx_R5 n s l ((),(0:Int))=some (match checkL s l with|some e=>.inr ((),e)|none=>.inl ((),(0:Int)))
 | []=>Zx_R5_0 n s 0
 |x::l=>by
  have ih:=filter_Check_R_spec (n:=n) (s:=s) hd hdb l
  have:=Zx_R5_s n s x l (0:Int)
  rw[show Zx_R5 n s (x::l) ((),(0:Int))=_ from this,Pred.re_eq]
  rw[checkL]
  unfold checkP
  by_cases c1:x.Op<1\/x.Op>7
  .rw[if_pos c1]
   have:(bif decide (x.Op< (1:Int)) then true else decide (x.Op> (7:Int)))=true:=by
    rcases c1 with c|c
    .rw[decide_eq_true c];rfl
    .rw[decide_eq_true c];cases decide (x.Op<1)<;>rfl
   rw[this];rfl
  .rw[if_neg c1]
   have:(bif decide (x.Op< (1:Int)) then true else decide (x.Op> (7:Int)))=false:=by
    rw[decide_eq_false (by omega),decide_eq_false (by omega)];rfl
   rw[this,cond_false]
   refine bs (Xx_spec n x) ?_
   cases hform:formS x
   .rw[if_pos rfl];rfl
   .rw[if_neg (by simp)]
    show (bif decide (x.Op< (5:Int)) then _ else _)=_
    by_cases c2:x.Op<5
    .rw[if_pos c2,decide_eq_true c2,cond_true];exact ih
    .rw[if_neg c2,decide_eq_false c2,cond_false]
     refine bs (Xy_spec hd hdb) ?_
     cases hf:s.Defs.find? (fun d=>d.Name==x.Name) with
     |none=>rfl
     |some d=>
      dsimp only
      have o:x.Op=5\/x.Op=6\/x.Op=7:=by omega
      have key:(bif bif bif x.Op==(6:Int) then d.Kind !=(1:Int) else false then true else bif x.Op==(7:Int) then d.Kind !=(2:Int) else false then
       some (.inr (((),(130:Int)))) else Zx_R5 n s l (((),(0:Int))))=(if (x.Op=6/\d.Kind≠1)\/(x.Op=7/\d.Kind≠2) then some (.inr (((),(130:Int)))) else Zx_R5 n s l (((),(0:Int)))):=by
       by_cases k1:d.Kind=1<;>by_cases k2:d.Kind=2<;>rcases o with o|o|o<;>simp[o,k1,k2]<;>first
        | (have h1:(d.Kind !=(1:Int))=true:=bne_iff_ne.2 (by omega);rw[h1];rfl)
        | (have h2:(d.Kind !=(2:Int))=true:=bne_iff_ne.2 (by omega);rw[h2];rfl)
      rw[show Zx_R5 n s l (((),(0:Int)))=_ from ih] at key⊢
      refine key.trans ?_
      by_cases c3:(x.Op=6/\d.Kind≠1)\/(x.Op=7/\d.Kind≠2)
      .rw[if_pos c3,if_pos c3]
      .rw[if_neg c3,if_neg c3]
theorem Zx_spec {n:Nat} {s:Schema} {p:Pred} (hp:szP p<2^62) (hd:s.Defs.length<n) (hdb:s.Defs.length<2^62):
 Zx n (s,p)=some (if ((pre p).take 1000).length>64 then 2 else (checkL s ((pre p).take 1000)).getD 0):=by
 rw[Zx_eq,Pred.re_eq]
 refine bs (ZD_spec hp) ?_
 show (bif decide ((((((pre p).take 1000).length:Nat):Int))> (64:Int)) then _ else _)=_
 by_cases c:((pre p).take 1000).length>64
 .rw[if_pos c,decide_eq_true (by omega)];rfl
 .rw[if_neg c,decide_eq_false (by omega),cond_false]
  refine bs (Xe_eq n p) ?_
  show ((partsO p.re).bind _).bind _=_
  rw[Pred.re_eq]
  have hlen:(pre p).length<=64:=by rw[Qs] at c;omega
  rw[partsO_some hp,Option.bind_some,filter_Check_R_spec hd hdb,QJ (by omega)]
  cases checkL s (pre p)<;>rfl
end Sh
end
section
open Go Go.Proofs Aq Pq
namespace Sh
def insU (p:Pred):List Pred->List Pred
 | []=>[p]
 |q::l=>if cmpP p q<0 then p::q::l else if cmpP p q=0 then q::l else q::insU p l
def srtU (l:List Pred):List Pred:=l.foldr insU []
def SS (l:List Pred):Prop:=l.Pairwise fun x y=>cmpP x y<0
theorem cmp_lt_trans {x y z:Pred} (h:cmpP x y<0) (k:cmpP y z<0):cmpP x z<0:=by
 have h1:=cmpP_law.trans x y z (by omega) (by omega)
 rcases Int.lt_or_eq_of_le h1 with e|e
 .exact e
 .have e2:=cmpP_zero x z e
  subst e2
  have:=cmpP_anti x y
  omega
theorem insU_mem (p x:Pred):∀l:List Pred,x∈insU p l↔x=p\/x∈l
 | []=>by simp[insU]
 |q::l=>by
  unfold insU
  split
  .simp
  .split
   .rename_i h
    have:=cmpP_zero p q h
    subst this
    simp
   .rw[P9,insU_mem p x l,P9]
    constructor
    .rintro (h|h|h)
     .exact .inr (.inl h)
     .exact .inl h
     .exact .inr (.inr h)
    .rintro (h|h|h)
     .exact .inr (.inl h)
     .exact .inl h
     .exact .inr (.inr h)
theorem insU_ss (p:Pred):∀l:List Pred,SS l->SS (insU p l)
 | [],_=>List.pairwise_singleton _ _
 |q::l,h=>by
  unfold SS at h
  rw[List.pairwise_cons] at h
  unfold insU
  split
  .rename_i hlt
   refine List.pairwise_cons.2 ⟨fun z hz=>?_,List.pairwise_cons.2 h⟩
   rcases P9.1 hz with rfl|hz
   .exact hlt
   .exact cmp_lt_trans hlt (h.1 z hz)
  .split
   .exact List.pairwise_cons.2 h
   .rename_i h1 h2
    refine List.pairwise_cons.2 ⟨fun z hz=>?_,insU_ss p l h.2⟩
    rcases (insU_mem p z l).1 hz with rfl|hz
    .have:=cmpP_anti z q;omega
    .exact h.1 z hz
theorem insU_sz (p:Pred):∀l:List Pred,szL (insU p l)<=szP p+szL l
 | []=>by simp[insU,szL]
 |q::l=>by
  unfold insU
  split
  .simp[szL]
  .split
   .simp only[szL];have:=szP_pos p;omega
   .have:=insU_sz p l;simp only[szL];omega
theorem srtU_mem (x:Pred):∀l:List Pred,x∈srtU l↔x∈l
 | []=>by simp[srtU]
 |p::l=>by
  show x∈insU p (srtU l)↔_
  rw[insU_mem,srtU_mem x l,P9]
theorem srtU_ss:∀l:List Pred,SS (srtU l)
 | []=>List.Pairwise.nil
 |p::l=>insU_ss p _ (srtU_ss l)
theorem srtU_sz:∀l:List Pred,szL (srtU l)<=szL l
 | []=>mF _
 |p::l=>P7 (insU_sz p _) (by have:=srtU_sz l;show szP p+szL (srtU l)<=_;simp only[szL];omega)
theorem cmp_irr {x:Pred} (h:cmpP x x<0):False:=by rw[cmpP_self] at h;omega
theorem SS.uniq:∀{l m:List Pred},SS l->SS m->(∀x,x∈l↔x∈m)->l=m
 | [],[],_,_,_=>rfl
 | [],y::m,_,_,h=>absurd ((h y).2 (Qa ..)) (by simp)
 |x::l,[],_,_,h=>absurd ((h x).1 (Qa ..)) (by simp)
 |x::l,y::m,hl,hm,h=>by
  have hl':=List.pairwise_cons.1 hl
  have hm':=List.pairwise_cons.1 hm
  have e:x=y:=by
   rcases P9.1 ((h x).1 (Qa ..)) with e|e
   .exact e
   .rcases P9.1 ((h y).2 (Qa ..)) with e2|e2
    .exact e2.symm
    .exact(cmp_irr (cmp_lt_trans (hl'.1 y e2) (hm'.1 x e))).elim
  subst e
  rw[SS.uniq hl'.2 hm'.2 fun z=>?_]
  constructor
  .intro hz
   rcases P9.1 ((h z).1 (Qb _ hz)) with e|e
   .subst e;exact(cmp_irr (hl'.1 z hz)).elim
   .exact e
  .intro hz
   rcases P9.1 ((h z).2 (Qb _ hz)) with e|e
   .subst e;exact(cmp_irr (hm'.1 z hz)).elim
   .exact e
theorem srtU_of {l m:List Pred} (hl:SS l) (h:∀x,x∈l↔x∈m):srtU m=l:=
 (srtU_ss m).uniq hl fun x=>(srtU_mem x m).trans (h x).symm
instance instDecEqPredS:DecidableEq Pred:=fun x y=>if h:cmpP x y=0 then isTrue (cmpP_zero x y h) else isFalse fun e=>h (e▸cmpP_self x)
def eqP (x y:Pred):Bool:=cmpP x y==0
theorem compG_ss:∀(l:List Pred) (p:Pred),(∀y∈l,cmpP p y<=0)->l.Pairwise (fun x y=>cmpP x y<=0)->(∀y∈compG eqP p l,cmpP p y<0)/\SS (compG eqP p l)/\∀x,x∈l->x=p\/x∈compG eqP p l
 | [],p,_,_=>⟨fun y h=>(by simp[compG] at h),List.Pairwise.nil,fun x h=>(by simp at h)⟩
 |y::l,p,hp,hl=>by
  have hl':=List.pairwise_cons.1 hl
  obtain⟨i1,i2,i3⟩:=compG_ss l y hl'.1 hl'.2
  have hpy:=hp y (Qa ..)
  show (∀z∈(bif eqP y p then compG eqP y l else y::compG eqP y l),_)/\SS (bif eqP y p then compG eqP y l else y::compG eqP y l)/\∀x,x∈y::l->x=p\/x∈(bif eqP y p then compG eqP y l else y::compG eqP y l)
  cases he:eqP y p with
  |true=>
   have e:y=p:=cmpP_zero y p (by simpa [eqP] using he)
   subst e
   refine⟨i1,i2,fun x hx=>?_⟩
   rcases P9.1 hx with e|hx
   .exact .inl e
   .exact i3 x hx
  |false=>
   have hne:cmpP y p≠0:=by simpa [eqP] using he
   have hlt:cmpP p y<0:=by
    have:=cmpP_anti y p;omega
   refine⟨fun z hz=>?_,List.pairwise_cons.2 ⟨i1,i2⟩,fun x hx=>?_⟩
   .rcases P9.1 hz with rfl|hz
    .exact hlt
    .exact cmp_lt_trans hlt (i1 z hz)
   .rcases P9.1 hx with rfl|hx
    .exact .inr (Qa ..)
    .rcases i3 x hx with rfl|h
     .exact .inr (Qa ..)
     .exact .inr (Qb _ h)
theorem compG_sub (x:Pred):∀(l:List Pred) (p:Pred),x∈compG eqP p l->x∈l
 | [],p,h=>h
 |y::l,p,h=>by
  have h':x∈(bif eqP y p then compG eqP y l else y::compG eqP y l):=h
  cases he:eqP y p with
  |true=>rw[he] at h';exact Qb _ (compG_sub x l y h')
  |false=>
   rw[he] at h'
   rcases P9.1 h' with e|h'
   .rw[e];exact Qa ..
   .exact Qb _ (compG_sub x l y h')
theorem comp_srtU {l m:List Pred} (hp:m.Perm l) (hs:m.Pairwise fun x y=>¬cmpP y x<0):comp eqP m=srtU l:=by
 have hs':m.Pairwise fun x y=>cmpP x y<=0:=hs.imp fun {x y} h=>by have:=cmpP_anti x y;omega
 refine(srtU_of ?_ fun x=>?_).symm
 .cases m with
  |nil=>exact List.Pairwise.nil
  |cons y m=>
   have h:=List.pairwise_cons.1 hs'
   obtain⟨i1,i2,i3⟩:=compG_ss m y h.1 h.2
   exact List.pairwise_cons.2 ⟨i1,i2⟩
 .rw[<-hp.mem_iff]
  cases m with
  |nil=>rfl
  |cons y m=>
   have h:=List.pairwise_cons.1 hs'
   obtain⟨i1,i2,i3⟩:=compG_ss m y h.1 h.2
   constructor
   .intro hx
    rcases P9.1 hx with e|hx
    .rw[e];exact Qa ..
    .exact Qb _ (compG_sub x m y hx)
   .intro hx
    rcases P9.1 hx with e|hx
    .rw[e];exact Qa ..
    .rcases i3 x hx with e|h
     .rw[e];exact Qa ..
     .exact Qb _ h
def notP (p:Pred):Pred:=⟨4,[],0,0,[],[p]⟩
def constP (b:Bool):Pred:=if b then ⟨1,[],0,0,[],[]⟩ else notP ⟨1,[],0,0,[],[]⟩
def neuP (c:Int):Pred:=constP (decide (c=2))
def absP (c:Int):Pred:=constP (!decide (c=2))
def flat1 (c:Int) (y:Pred):List Pred:=if y.Op=c then y.Subs else if y=neuP c then [] else [y]
def flatS (c:Int) (ys:List Pred):List Pred:=ys.flatMap (flat1 c)
def endS (c:Int):List Pred->Pred
 | []=>neuP c
 | [x]=>x
 |L=>⟨c,[],0,0,[],L⟩
noncomputable def joinS (c:Int) (ys:List Pred):Pred:=if absP c∈srtU (flatS c ys) then absP c else endS c (srtU (flatS c ys))
def opS (op:Int) (o:Bool):Int:=if decide (op=2) !=o then 2 else 3
mutual
noncomputable def nf:Pred->Bool->Pred
 | ⟨op,name,a,b,s,subs⟩,o=>if op=4 then nfH subs (!o) else if op=2\/op=3 then joinS (opS op o) (nfL subs o) else if o then notP ⟨op,name,a,b,s,subs⟩ else ⟨op,name,a,b,s,subs⟩
noncomputable def nfL:List Pred->Bool->List Pred
 | [],_=>[]
 |p::l,o=>nf p o::nfL l o
noncomputable def nfH:List Pred->Bool->Pred
 | [],o=>constP o
 |p::_,o=>nf p o
end
theorem nfL_map:∀(l:List Pred) (o:Bool),nfL l o=l.map fun x=>nf x o
 | [],_=>by rw[nfL];rfl
 |p::l,o=>by rw[nfL,nfL_map l o];rfl
theorem szL_app:∀l m:List Pred,szL (l++m)=szL l+szL m
 | [],m=>by simp[szL]
 |p::l,m=>by rw[List.cons_append];simp only[szL,szL_app l m];omega
theorem flat1_sz (c:Int) (y:Pred):szL (flat1 c y)<=szP y:=by
 unfold flat1
 split
 .rw[szP_subs];omega
 .split
  .exact QF _
  .simp[szL]
theorem flatS_sz (c:Int):∀ys:List Pred,szL (flatS c ys)<=szL ys
 | []=>mF _
 |y::ys=>by
  show szL (flat1 c y++flatS c ys)<=_
  rw[szL_app]
  have:=flat1_sz c y;have:=flatS_sz c ys
  simp only[szL];omega
theorem const_sz (b:Bool):szP (constP b)<=2:=by cases b<;>decide
theorem joinS_sz (c:Int) (ys:List Pred):szP (joinS c ys)<=2\/szP (joinS c ys)<=szL ys+1:=by
 unfold joinS
 split
 .exact .inl (const_sz _)
 .have h1:=srtU_sz (flatS c ys)
  have h2:=flatS_sz c ys
  generalize srtU (flatS c ys)=L at*
  match L with
  | []=>exact .inl (const_sz _)
  | [x]=>right;show szP x<=_;simp only[szL] at h1;omega
  |x::y::L=>right;show szP ⟨c,[],0,0,[],x::y::L⟩<=_;rw[szP];omega
mutual
theorem nf_sz:∀(p:Pred) (o:Bool),szP (nf p o)<=2*szP p
 | ⟨op,name,a,b,s,subs⟩,o=>by
   rw[nf]
   split
   .have:=nfH_sz subs (!o)
    rw[szP];omega
   .split
    .have:=nfL_sz subs o
     rw[szP]
     rcases joinS_sz (opS op o) (nfL subs o) with h|h<;>omega
    .split
     .have:=szP_pos ⟨op,name,a,b,s,subs⟩
      show szP (notP _)<=_
      unfold notP
      rw[szP];simp only[szL];omega
     .omega
theorem nfL_sz:∀(l:List Pred) (o:Bool),szL (nfL l o)<=2*szL l
 | [],o=>by rw[nfL];exact mF _
 |p::l,o=>by
  rw[nfL]
  have:=nf_sz p o;have:=nfL_sz l o
  simp only[szL];omega
theorem nfH_sz:∀(l:List Pred) (o:Bool),szP (nfH l o)<=2*szL l+2
 | [],o=>by rw[nfH];exact const_sz o
 |p::l,o=>by
  rw[nfH]
  have:=nf_sz p o
  simp only[szL];omega
end
end Sh
end
