import Derived.Test.YtgdialomgeijcaaGreatF4028
set_option linter.all false
open Go.IntKind (wrap)
section
open Go Go.Proofs Aq Pq
namespace Sh
set_option maxRecDepth 100000
noncomputable abbrev KI (n:Nat){β:Type}(a b:Int)(f:Bool->Option β):Option β:=(XT n (a,b)).bind f
theorem aBe (n:Nat)(a b:Int):XT n (a,b)=some (decide (a<b)):=by have e:∀x:Int,Xu n x=some false:=fun x=>(arO n x).trans (congrArg some (show (x !=x)=false by simp));exact(az6 n a b).trans (bs (e a) rfl)
theorem aBf (n:Nat):aas (fun _=>True) (fun a b:Int=>a<b) (KI n):=fun a b _ _=>⟨decide (a<b),by simp,fun f=>bs (aBe n a b) rfl⟩
theorem aBg:Ord (fun a b:Int=>a<b):=⟨fun _ _=>by omega,fun _ _ _=>by omega⟩
theorem aBh {n:Nat}(hn:800<n){l:List Int}(hl:l.length<512)(lim:Int):∃r:PUnit×List Int,QR n ((),(0:Int),(l.length:Int),lim) l=some r/\r.2.Perm l/\r.2.Pairwise fun x y=>¬y<x:=by
 have hc:=aBf n;have ho:=aBg;have hal:Al (fun _:Int=>True) l:=fun _ _=>trivial;have h:=ate (n:=n) (d:=(0:Int)) (K:=KI n) (PL:=ar6 n) (pd:=(fun m p q=>aaw n m (p.1,p.2.1,p.2.2.1,p.2.2.2.1) q)) hc ho (ins:=(fun p q=>ZC n (p.1,p.2.1,p.2.2.1) q)) (heap:=(fun p q=>ZK n (p.1,p.2.1,p.2.2.1) q)) (brk:=(fun p q=>ZV n (p.1,p.2.1,p.2.2.1) q)) (rev:=(fun p q=>ZM n (p.1,p.2.1,p.2.2.1) q)) (cho:=(fun p=>XZ n (p.1,p.2.1,p.2.2.1))) (pin:=(fun p q=>Zs n (p.1,p.2.1,p.2.2.1) q)) (peq:=(fun p q=>ZA n (p.1,p.2.1,p.2.2.1,p.2.2.2.1) q)) (prt:=(fun p q=>Zi n (p.1,p.2.1,p.2.2.1,p.2.2.2.1) q))
  (fun h0 h1 h2 h3 h4=>by refine tQ (az7 ..) ?_;exact tB (as6 (n:=n) (d:=(0:Int)) (K:=KI n) (L4:=arP n) (L1:=anY n) hc ho (by intros;kernel_rfl) (by intros;kernel_rfl) h0 h1 h2 (by first|omega| (dsimp only;omega)) h4 (by first|omega| (dsimp only;omega))) fun r hr=>tS hr)
  (fun h0 h1 h2 h3 h4=>as7 (n:=n) (d:=(0:Int)) (K:=KI n) (S1:=arQ n) (sift:=(fun p q=>ZZ n (p.1,p.2.1,p.2.2.1,p.2.2.2.1) q)) (H4:=arR n) (H8:=arS n) (heap:=(fun p q=>ZK n (p.1,p.2.1,p.2.2.1) q)) hc ho (by intros;kernel_rfl) (by intros;kernel_rfl) (by intros;kernel_rfl) (by intros;kernel_rfl) (by intros;kernel_rfl) h0 h1 h2 (by first|omega| (dsimp only;omega)) h4 (by first|omega| (dsimp only;omega)))
  (fun h0 h1 h2 h3=>atc (n:=n) (d:=(0:Int)) (np:=XB n) (xs:=Xd n) (atf n) (atg n) (B5:=arT n) (brk:=(fun p q=>ZV n (p.1,p.2.1,p.2.2.1) q)) (by intros;kernel_rfl) (by intros;kernel_rfl) h0 h1 h2 h3 (by first|omega| (dsimp only;omega)))
  (fun h0 h1 h2 h3 h4=>atd (0:Int) (K:=KI n) hc (o2:=(fun p q=>Xl n (p.1,p.2.1,p.2.2.1,p.2.2.2.1) q)) (med:=(fun p q=>Xm n (p.1,p.2.1,p.2.2.1,p.2.2.2.1,p.2.2.2.2.1) q)) (mad:=(fun p q=>Xn n (p.1,p.2.1,p.2.2.1) q)) (cho:=(fun p=>XZ n (p.1,p.2.1,p.2.2.1))) (by intros;kernel_rfl) (by intros;kernel_rfl) (by intros;kernel_rfl) (by intros;kernel_rfl) h0 h1 h2 (by first|omega| (dsimp only;omega)) h4)
  (fun h0 h1 h2 h3=>by refine tQ (aAa ..) ?_;exact tB (revAll (n:=n) (d:=(0:Int)) (L2:=anZ n) (by intros;kernel_rfl) h0 h1 h2 (by first|omega| (dsimp only;omega)) (by first|omega| (dsimp only;omega))) fun r hr=>tS hr)
  (fun h0 h1 h2 h3 h4 h5=>atb (n:=n) (d:=(0:Int)) (K:=KI n) hc ho (I5:=arU n) (I14:=arV n) (I20:=arW n) (IM:=arX n) (pin:=(fun p q=>Zs n (p.1,p.2.1,p.2.2.1) q)) (by intros;kernel_rfl) (by intros;kernel_rfl) (by intros;kernel_rfl) (by intros;kernel_rfl) (by intros;kernel_rfl) h0 h1 h2 (by first|omega| (dsimp only;omega)) h4 (by first|omega| (dsimp only;omega)) h5)
  (fun h0 h1 h2 h3 h4 h5=>as9 (n:=n) (d:=(0:Int)) (K:=KI n) hc (E3:=arY n) (E5:=arZ n) (EM:=ar0 n) (peq:=(fun p q=>ZA n (p.1,p.2.1,p.2.2.1,p.2.2.2.1) q)) (by intros;kernel_rfl) (by intros;kernel_rfl) (by intros;kernel_rfl) (by intros;kernel_rfl) h0 h1 (by first|omega| (dsimp only;omega)) h3 (by first|omega| (dsimp only;omega)) h4 h5)
  (fun h0 h1 h2 h3 h4 h5=>as8 (n:=n) (d:=(0:Int)) (K:=KI n) hc ho (P3:=ar1 n) (P5:=ar2 n) (P13:=ar3 n) (P15:=ar4 n) (PM:=ar5 n) (prt:=(fun p q=>Zi n (p.1,p.2.1,p.2.2.1,p.2.2.2.1) q)) (by intros;kernel_rfl) (by intros;kernel_rfl) (by intros;kernel_rfl) (by intros;kernel_rfl) (by intros;kernel_rfl) (by intros;kernel_rfl) h0 h1 (by first|omega| (dsimp only;omega)) h3 (by first|omega| (dsimp only;omega)) h4 h5)
  (by intros;kernel_rfl) (by intros;kernel_rfl) (by first|omega| (dsimp only;omega)) n 0 (l.length:Int) lim l (by first|omega| (dsimp only;omega)) (P6 _) (by first|omega| (dsimp only;omega)) (P6 _) hl hal (fun h=>by omega)
 refine tQ (show QR n ((),(0:Int),(l.length:Int),lim) l=aaw n n ((),(0:Int),(l.length:Int),lim) l by unfold QR;rfl) ?_;refine tW h fun r hr=>⟨hr.1.perm,?_⟩;have:=hr.2;rw[<-hr.1.len] at this;exact this.pw
theorem aBi {n:Nat}(hn:800<n){l:List Int}(hl:l.length<512):∃r:PUnit×List Int,Xf n () l=some r/\r.2.Perm l/\r.2.Pairwise fun x y=>¬y<x:=by
 refine tQ (aAb ..) ?_;have hlen:∃r:Int,Xj n (wrap .u64 (l.length:Int))=some r:=by
  have ew:wrap .u64 (l.length:Int)=(l.length:Int):=by rw[IntKind.wrap_u64];omega
  rw[ew];by_cases h:l.length=0
  .rw[h];rw[ahU,ahT];exact⟨_,rfl⟩
  .obtain⟨r,e,_⟩:=aog (k:=(l.length:Int)) (by first|omega| (dsimp only;omega)) (by first|omega| (dsimp only;omega)) n;exact⟨r,e⟩
 obtain⟨r,e⟩:=hlen;exact tE e (tB (aBh hn hl r) fun s hs=>tS hs)
end Sh
end
section
open Go Aq
namespace Pq
variable {U:Type}
section
variable {n:Nat}(d:U){z:U}{b:Int}{e:U->U->Bool}{sm:U->U->Option Bool}(hs:∀a c,sm a c=some (e a c)){C9:Int->Nat->((Int×Int)×List U)->Option (Int×List U)}{C4:Nat->(Int×List U)->Option ((PUnit×List U)⊕((Int×Int)×List U))}(h9:∀(x2:Int) (m:Nat) (x7 x8:Int) (x9:List U),C9 x2 (m+1) ((x7,x8),x9)=bif decide (x8< (((Int.toNat (((0:Int)+(b-(0:Int)))-((0:Int)+x2)):Nat):Int))) then bif Uu x8 (((0:Int)+(b-(0:Int)))-((0:Int)+x2)) then (Q5 x9 (((0:Int)+x2)+x8)).bind fun (Sc:U)=>bif Uu (wrap .i64 (x8-(1:Int))) (((0:Int)+(b-(0:Int)))-((0:Int)+x2)) then (Q5 x9 (((0:Int)+x2)+(wrap .i64 (x8-(1:Int))))).bind fun (Ry:U)=>(sm Sc Ry).bind fun (Tw:Bool)=>bif !Tw then bif Uu x8 (((0:Int)+(b-(0:Int)))-((0:Int)+x2)) then (Q5 x9 (((0:Int)+x2)+x8)).bind fun (RG:U)=>bif Uu x7 (b-(0:Int)) then (Q5 x9 ((0:Int)+x7)).bind fun (Tx:U)=>
         C9 x2 m (((wrap .i64 (x7+(1:Int)),wrap .i64 (x8+(1:Int))),Rk x9 ((0:Int)+x7) RG))else none else none else C9 x2 m (((x7,wrap .i64 (x8+(1:Int))),x9))else none else none else some ((x7,x9)))(h4:∀(m:Nat) (x2:Int) (x3:List U),C4 (m+1) (x2,x3)=bif decide (x2< (((Int.toNat (b-(0:Int)):Nat):Int))) then bif Uu x2 (b-(0:Int)) then (Q5 x3 ((0:Int)+x2)).bind fun (r4:U)=>bif Uu (wrap .i64 (x2-(1:Int))) (b-(0:Int)) then (Q5 x3 ((0:Int)+(wrap .i64 (x2-(1:Int))))).bind fun (r5:U)=>(sm r4 r5).bind fun (r6:Bool)=>bif r6 then bif VG x2 (b-(0:Int)) (b-(0:Int)) then (C9 x2 n (((x2,(1:Int)),x3))).bind fun (Sr:Int×List U)=>bif VG Sr.1 (b-(0:Int)) (b-(0:Int)) then bif VG (0:Int) Sr.1 (b-(0:Int)) then some (.inr ((((0:Int)+(0:Int),(0:Int)+Sr.1),Ve Sr.2 ((0:Int)+Sr.1) ((0:Int)+(b-(0:Int))) z)))else none else none else none else C4 m ((wrap .i64 (x2+(1:Int)),x3))else none else none else some (.inl (((),x3))))
include d hs h9
theorem O9 {l:List U}{k:Int}{m:Nat}(hk:1<=k)(hkl:k<b)(hbl:b<=l.length)(hb:b<2^57)(h0:l.take k.toNat=comp e (l.take (k.toNat+1)))(hm:b.toNat<m):
 ∃r,C9 k m ((k,1),l)=some r/\k<=r.1/\r.1<=b/\r.2.length=l.length/\r.2.take r.1.toNat=comp e (l.take b.toNat):=by
 refine mu (τ:=(Int×Int)×List U) (L:=C9 k) (fun p=>1<=p.1.2/\p.1.2<=b-k/\k<=p.1.1/\p.1.1<=k+p.1.2-1/\p.2.length=l.length/\(∀j,k+p.1.2-1<=j->j<l.length->gI d p.2 j=gI d l j)/\p.2.take p.1.1.toNat=comp e (l.take (k+p.1.2).toNat)) (fun p=>(b-p.1.2).toNat) _ ?_ m ((k,1),l)
  ⟨P6 _,by dsimp only;omega,P6 _,by dsimp only;omega,rfl,fun j _ _=>rfl,by rw[show (k+1).toNat=k.toNat+1 by omega];exact h0⟩ (by dsimp only;omega)
 rintro m ⟨⟨w,q⟩,D⟩ ⟨i1,i2,i3,i4,i5,i6,i7⟩ aJ;dsimp only at i1 i2 i3 i4 i5 i6 i7 aJ⊢;rw[h9];simp only[Int.zero_add,Int.sub_zero,Uu];simp (disch:=omega) only[wr];refine tD (fun hq=>?_) (fun hq=>tS ⟨i3,by omega,i5,?_⟩)
 .refine tG (decide_eq_true (by omega)) (tE (aB d (by omega) (by omega)) (tG (decide_eq_true (by omega)) (tE (aB d (by omega) (by omega)) ?_)));have g1:gI d D (k+q)=gI d l (k+q):=i6 _ (by omega) (by omega);have g2:gI d D (k+(q-1))=gI d l (k+q-1):=by rw[show k+(q-1)=k+q-1 by omega];exact i6 _ (by omega) (by omega)
  rw[g1,g2];refine tE (hs _ _) ?_;have hct:=tH e d (l:=l) (k:=(k+q).toNat) (by omega) (by omega);rw[show (((k+q).toNat:Nat):Int)=k+q by omega,<-i7] at hct;cases he:e (gI d l (k+q)) (gI d l (k+q-1)) with
  |false=>
   rw[he,cond_false] at hct;rw[Bool.not_false,cond_true];refine tG (decide_eq_true (by omega)) (tE (aB d (by omega) (by omega)) (tG (decide_eq_true (by omega)) (tE (aB d (by omega) (by omega)) ?_)));rw[g1];refine aJ ((w+1,q+1),Rk D w (gI d l (k+q))) ⟨by dsimp only;omega,by dsimp only;omega,by dsimp only;omega,by dsimp only;omega,by dsimp only;rw[ay,i5],fun j j1 j2=>?_,?_⟩ (by dsimp only;omega)
   .dsimp only at j1⊢;rw[tF (by omega) (by omega) (by omega),if_neg (by omega)];exact i6 j (by omega) j2
   .dsimp only;rw[E9 (by omega) (by omega),show (k+(q+1)).toNat=(k+q).toNat+1 by omega,hct]
  |true=>rw[he,cond_true] at hct;rw[Bool.not_true,cond_false];refine aJ ((w,q+1),D) ⟨by dsimp only;omega,by dsimp only;omega,i3,by dsimp only;omega,i5,fun j j1 j2=>i6 j (by dsimp only at j1;omega) j2,?_⟩ (by dsimp only;omega);dsimp only;rw[show (k+(q+1)).toNat=(k+q).toNat+1 by omega,hct]
 .dsimp only;rw[i7,show (k+q).toNat=b.toNat by omega]
include h4
theorem aBj {l:List U}(h2:2<=b)(hbl:b<=l.length)(hb:b<2^57)(hn:b.toNat<n):
 ∃s,C4 n (1,l)=some s/\Sum.elim (fun q:PUnit×List U=>q.2=l/\comp e (l.take b.toNat)=l.take b.toNat) (fun q:(Int×Int)×List U=>q.1.1=0/\0<=q.1.2/\q.1.2<=q.2.length/\q.2.take q.1.2.toNat=comp e (l.take b.toNat)) s:=by
 refine mu (τ:=Int×List U) (L:=C4) (fun p=>1<=p.1/\p.1<=b/\p.2=l/\comp e (l.take p.1.toNat)=l.take p.1.toNat) (fun p=>(b-p.1).toNat) _ ?_ n (1,l) ⟨P6 _,by dsimp only;omega,rfl,?_⟩ (by dsimp only;omega)
 .rintro m ⟨k,D⟩ ⟨i1,i2,i3,i4⟩ aJ;dsimp only at i1 i2 i3 i4 aJ⊢;subst i3;rw[h4];simp only[Int.zero_add,Int.sub_zero,VG,Uu];simp (disch:=omega) only[wr];refine tD (fun hk=>?_) (fun hk=>tS ⟨rfl,?_⟩)
  .refine tG (decide_eq_true (by omega)) (tE (aB d (by omega) (by omega)) (tG (decide_eq_true (by omega)) (tE (aB d (by omega) (by omega)) (tE (hs _ _) ?_))));have hct:=tH e d (l:=D) (k:=k.toNat) (by omega) (by omega);rw[show (k.toNat:Int)=k by omega] at hct;cases he:e (gI d D k) (gI d D (k-1)) with
   |true=>rw[he,cond_true] at hct;rw[cond_true];refine tG (decide_eq_true (by omega)) ?_;refine tB (O9 (d:=d) hs h9 (l:=D) (k:=k) i1 (by omega) hbl hb (by rw[hct,i4]) hn) fun r=>?_;rintro⟨r1,r2,r3,r4⟩;refine tG (decide_eq_true (by omega)) ?_;have hcl:(Ve r.2 r.1 b z).length=r.2.length:=(by unfold Ve;rw[PU,PU,Qc,List.length_replicate,QL];omega);refine tG (decide_eq_true (by omega)) (tS ⟨rfl,by dsimp only;omega,by dsimp only;rw[hcl];omega,?_⟩);dsimp only;unfold Ve;rw[QY (by rw[Qc];omega),List.take_take,Nat.min_self];exact r4
   |false=>rw[he,cond_false] at hct;rw[cond_false];refine aJ (k+1,D) ⟨by dsimp only;omega,by dsimp only;omega,rfl,?_⟩ (by dsimp only;omega);dsimp only;rw[show (k+1).toNat=k.toNat+1 by omega,hct,i4];have hlt:k.toNat<D.length:=(by omega);have eg:gI d D k=D[k.toNat]:=(by unfold gI;rw[PZ hlt];rfl);rw[eg,List.take_append_getElem hlt]
  .rw[show k.toNat=b.toNat by omega] at i4;exact i4
 .dsimp only
  match l,hbl with
  | [],hbl=>simp at hbl;omega|x::l,_=>rfl
end
end Pq
end
section
open Go Go.Proofs Aq Pq
namespace Sh
theorem YB {a k:Nat}(h:a<2^30)(hk:k<=4096):SB a k=true:=by
 unfold SB;have h1:a*k<=2^30*4096:=Nat.mul_le_mul (Nat.le_of_lt h) hk;have:a<=2^47:=by omega
 have:a*k<=2^47:=by omega
 simp[*]
theorem aga {nm:List UInt8}{x:Pred}{l:List Pred}(h:Ua nm x=true):(x::l).filter (Ua nm)=x::l.filter (Ua nm):=by rw[List.filter_cons,if_pos h]
theorem agb {nm:List UInt8}{x:Pred}{l:List Pred}(h:Ua nm x=false):(x::l).filter (Ua nm)=l.filter (Ua nm):=by rw[List.filter_cons,if_neg (by rw[h];simp)]
theorem aoh {n:Nat}{v:Int}{nm:List UInt8}{a b c:Int}{ws:List (List UInt8)}:∀(l:List Pred)(acc:List Bool),acc.length+l.length<2^30->abR n v nm a b c ws l ((),acc)=some ((),acc++Sy nm l v)
 | [],acc,_=>by rw[aAf];unfold Sy;simp|x::l,acc,h=>by
  simp only[List.length_cons] at h;rw[aAg];change (bif Ua nm x then (bif SB (acc.length+1) 1 then abR n v nm a b c ws l ((),acc++[Vy x v]) else none) else abR n v nm a b c ws l ((),acc))=_;cases hx:Ua nm x with
  |true=>rw[cond_true,YB (by omega) (by omega),cond_true,aoh l (acc++[Vy x v]) (by rw[PU,List.length_singleton];omega)];unfold Sy;rw[aga hx,Qe];rfl|false=>rw[cond_false,aoh l acc (by omega)];unfold Sy;rw[agb hx]
theorem ati {n:Nat}{v:Int}{d:Def}{p:Pred}(h:Rq p<2^30):ZH n (v,((p.Op,(p.Name,(p.N,(p.M,(p.S,p.Ra))))),(d.Name,(d.Kind,(d.Lo,(d.Hi,d.Words))))))=some (Sy d.Name (pre p) v):=by rw[aAh];refine bs (aev n _) ?_;show ((Wv p.re).bind _).bind _=_;rw[Pred.Sb,aeD (by omega),Option.bind_some];have:=aoh (n:=n) (v:=v) (nm:=d.Name) (a:=d.Kind) (b:=d.Lo) (c:=d.Hi) (ws:=d.Words) (pre p) [] (by rw[VN];simpa using h);exact bs this rfl
theorem aBk {n:Nat}{a b:List Bool}(hl:a.length=b.length)(hb:a.length<2^62):∀(k i m:Nat),i+k=a.length->k<m->af0 n a b m (i:Int)=some (if a.drop i=b.drop i then .inl () else .inr false):=by
 intro k;induction k with
 |zero=>
  intro i m hi hm;obtain⟨m,rfl⟩:∃m',m=m'+1:=⟨m-1,by omega⟩;obtain rfl:i=a.length:=by omega
  rw[ar8,U3,cond_false,List.drop_length,hl,List.drop_length];rfl
 |succ k ih=>
  intro i m hi hm;obtain⟨m,rfl⟩:∃m',m=m'+1:=⟨m-1,by omega⟩;have h1:i<a.length:=by omega
  have h2:i<b.length:=by omega
  have x1:a[i]? =some a[i]:=PZ h1;have x2:b[i]? =some b[i]:=PZ h2;rw[ar8,Ui x1,cond_true];refine bs (Tv x1) (bs (Tv x2) ?_);rw[Ud (by omega),ih (i+1) m (by omega) (by omega),Qf h1,Qf h2];by_cases e:a[i]=b[i]
  .have:(a[i]==b[i])=true:=by simpa using e
   rw[this];simp only[Bool.not_true,cond_false,e,Qd,true_and]
  .have:(a[i]==b[i])=false:=by simpa using e
   rw[this];simp only[Bool.not_false,cond_true,e,Qd,false_and,if_false]
theorem aBl {n:Nat}{a b:List Bool}(hl:a.length=b.length)(hb:a.length<2^62)(hn:a.length<n):ZR n (a,b)=some (a==b):=by
 rw[aAi];have e:((a.length:Int) !=(b.length:Int))=false:=by rw[hl];simp
 rw[e,cond_false];refine bs (aBk hl hb a.length 0 n (by omega) hn) ?_;rw[Qt,Qt];by_cases h:a=b
 .rw[if_pos h,h];simp
 .rw[if_neg h];have:(a==b)=false:=by simpa using h
  rw[this];rfl
theorem aBm (nm:List UInt8)(l:List Pred)(a b:Int):(Sy nm l a).length=(Sy nm l b).length:=by unfold Sy;rw[PX,PX]
theorem aBn (nm:List UInt8)(l:List Pred)(a:Int):(Sy nm l a).length<=l.length:=by unfold Sy;rw[PX];exact List.length_filter_le _ _
theorem aBo {n:Nat}{v w:Int}{d:Def}{p:Pred}(h:Rq p<2^30)(hn:Rq p<n):Xy n (v,(w,((),((p.Op,(p.Name,(p.N,(p.M,(p.S,p.Ra))))),(d.Name,(d.Kind,(d.Lo,(d.Hi,d.Words))))))))=some (Sy d.Name (pre p) v==Sy d.Name (pre p) w):=by rw[aAj];have hle:=aBn d.Name (pre p) v;rw[VN] at hle;exact bs (ati h) (bs (ati h) (bs (aBl (aBm ..) (by omega) (by omega)) rfl))
theorem atj {n:Nat}{d:Def}{p:Pred}(hlo: -(2^40)<=d.Lo)(hhi:d.Hi<=2^40):∀(l:List Pred)(acc:List Int),acc.length+2*l.length<2^30->abl n d p l ((),((),acc))=some ((),((),acc++Ue d l))
 | [],acc,_=>by rw[aAp];unfold Ue;simp|x::l,acc,h=>by
  simp only[List.length_cons] at h;have ih:=fun acc h=>atj (n:=n) (p:=p) hlo hhi l acc h;rw[aAq];have e:(bif x.Op !=(6:Int) then true else !(x.Name==d.Name))= !(Ua d.Name x):=by unfold Ua;cases h1:x.Op==(6:Int)<;>simp[bne,h1]
  rw[e];cases hx:Ua d.Name x with
  |false=>rw[Bool.not_false,cond_true,ih acc (by omega)];unfold Ue;rw[agb hx]|true=>
   rw[Bool.not_true,cond_false];have ec:Ue d (x::l)=abm d x++Ue d l:=by unfold Ue;rw[aga hx,P7]
   rw[ec];unfold abm;cases h1:(bif decide (x.N>d.Lo) then decide (x.N<=d.Hi) else false)<;>cases h2:(bif decide (x.M>=d.Lo) then decide (x.M<d.Hi) else false)
   .simp only[cond_false];rw[ih acc (by omega)];simp
   .simp only[cond_false,cond_true];have hw:wrap .i64 (x.M+(1:Int))=x.M+1:=by
     have:d.Lo<=x.M/\x.M<d.Hi:=by
      by_cases a:x.M>=d.Lo
      .rw[decide_eq_true a,cond_true] at h2;exact⟨a,of_decide_eq_true h2⟩
      .rw[decide_eq_false a] at h2;cases h2
     rw[IntKind.wrap_i64];omega
    rw[hw];refine(show (bif SB (acc.length+1) 8 then _ else none)=_ from ?_);rw[YB (by omega) (by omega),cond_true,ih _ (by rw[PU,List.length_singleton];omega)];simp
   .simp only[cond_false,cond_true];refine(show (bif SB (acc.length+1) 8 then _ else none)=_ from ?_);rw[YB (by omega) (by omega),cond_true,ih _ (by rw[PU,List.length_singleton];omega)];simp
   .simp only[cond_true];have hw:wrap .i64 (x.M+(1:Int))=x.M+1:=by
     have:d.Lo<=x.M/\x.M<d.Hi:=by
      by_cases a:x.M>=d.Lo
      .rw[decide_eq_true a,cond_true] at h2;exact⟨a,of_decide_eq_true h2⟩
      .rw[decide_eq_false a] at h2;cases h2
     rw[IntKind.wrap_i64];omega
    rw[hw];refine(show (bif SB (acc.length+1) 8 then (bif SB ((acc++[x.N]).length+1) 8 then _ else none) else none)=_ from ?_);rw[YB (by omega) (by omega),cond_true,YB (by rw[PU,List.length_singleton];omega) (by omega),cond_true,ih _ (by simp only[PU,List.length_singleton];omega)];simp
theorem aBp {n:Nat}{d:Def}{p:Pred}(h:Rq p<2^30)(hn:Rq p<n){l:List Int}{b:Int}(h0:0<=b)(hb:b<=l.length)(hl:b<2^57)(hln:b.toNat<n):
 ∃r:(Int×Int)×List Int,Xe n (d,(p,((0:Int),b))) l=some r/\r.1.1=0/\0<=r.1.2/\r.2.take r.1.2.toNat=comp (fun a c=>Sy d.Name (pre p) a==Sy d.Name (pre p) c) (l.take b.toNat):=by
 rw[aAo];refine tB (Q:=fun r=>r.1.1=0/\0<=r.1.2/\r.2.1.take r.1.2.toNat=comp (fun a c=>Sy d.Name (pre p) a==Sy d.Name (pre p) c) (l.take b.toNat)) ?_ fun r hr=>tS hr;refine tQ (aAm ..) ?_;refine tD (fun h2=>tS ⟨rfl,h0,?_⟩) (fun h2=>?_)
 .dsimp only;have:(l.take b.toNat).length<=1:=by rw[Qc];omega
  generalize l.take b.toNat=q at*
  match q,this with
  | [],_=>rfl| [x],_=>rfl|x::y::q,h=>simp at h
 have key:=aBj (n:=n) (0:Int) (z:=(0:Int)) (b:=b) (e:=fun a c=>Sy d.Name (pre p) a==Sy d.Name (pre p) c) (sm:=fun a c=>Xy n (a,(c,((),((p.Op,(p.Name,(p.N,(p.M,(p.S,p.Ra))))),(d.Name,(d.Kind,(d.Lo,(d.Hi,d.Words)))))))))
  (fun a c=>aBo h hn)
  (C9:=aex n 0 b p.Op p.Name p.N p.M p.S p.Ra d.Name d.Kind d.Lo d.Hi d.Words)
  (C4:=af2 n 0 b p.Op p.Name p.N p.M p.S p.Ra d.Name d.Kind d.Lo d.Hi d.Words)
  (by intros;refine Eq.trans (aAk ..) ?_;rfl) (by intros;refine Eq.trans (aAl ..) ?_;rfl) (l:=l) (by omega) hb hl hln
 refine tB key fun s hs=>?_;rcases s with q|q
 .obtain⟨e1,e2⟩:=hs;refine tS ⟨rfl,h0,?_⟩;dsimp only;rw[e1,e2]
 .obtain⟨e1,e2,_,e4⟩:=hs;exact tS ⟨e1,e2,e4⟩
theorem aBq {n:Nat}(hn:800<n){l:List Int}(hl:l.length<512):∃r:(Int×Int)×List Int,Zn n () l=some r/\r.1.1=0/\0<=r.1.2/\r.1.2<=r.2.length/\r.2.take r.1.2.toNat=comp (fun a b=>a==b) l:=by
 have h:=asI (n:=n) (0:Int) (z:=(0:Int)) (e:=fun a b:Int=>a==b) (Ok:=fun _:Int=>True) (sm:=fun p:Int×Int=>some (p.1==p.2)) (fun a b _ _=>rfl) (C9:=aew n) (C4:=afZ n) (cpt:=fun _ l=>Zn n () l)
  (by intros;refine Eq.trans (aAc ..) ?_;rfl) (by intros;refine Eq.trans (aAd ..) ?_;rfl) (by intros;refine Eq.trans (aAe ..) ?_;rfl) (l:=l) (by omega) (fun _ _=>trivial) (by omega)
 exact h
theorem aBr {e:Int->Int->Bool}:∀l:List Int,(comp e l).length<=l.length:=by
 have g:∀(l:List Int)(p:Int),(SX e p l).length<=l.length:=by
  intro l;induction l with
  |nil=>intro p;exact mF _|cons y l ih=>
   intro p;show (bif e y p then SX e y l else y::SX e y l).length<=_;have:=ih y;cases e y p
   .rw[cond_false,List.length_cons,List.length_cons];omega
   .rw[cond_true,List.length_cons];omega
 intro l;cases l with
 |nil=>exact mF _|cons y l=>show (y::SX e y l).length<=_;rw[List.length_cons,List.length_cons];have:=g l y;omega
theorem ahY (d:Def):∀l:List Pred,(Ue d l).length<=2*l.length
 | []=>by unfold Ue;simp|x::l=>by
  have ih:=ahY d l;rw[List.length_cons];cases hx:Ua d.Name x with
  |false=>unfold Ue at*;rw[agb hx];omega|true=>
   unfold Ue at*;rw[aga hx,P7,PU];have:(abm d x).length<=2:=by unfold abm;rw[PU];cases (bif decide (x.N>d.Lo) then decide (x.N<=d.Hi) else false)<;>cases (bif decide (x.M>=d.Lo) then decide (x.M<d.Hi) else false)<;>simp
   omega
theorem aBs {n:Nat}(hn:800<n){d:Def}{p:Pred}(hlo: -(2^40)<=d.Lo)(hhi:d.Hi<=2^40)(h:Rq p<=240):
 ∃S:List Int,(d.Lo::S).Pairwise (· < ·)/\(∀x,x∈S↔x∈Ue d (pre p))/\ZD n (d,p)=some (d.Lo::RS (Sy d.Name (pre p)) S):=by
 have hcl:=ahY d (pre p);rw[VN] at hcl;have hR:=atj (n:=n) (d:=d) (p:=p) hlo hhi (pre p) [d.Lo] (by rw[VN];simp;omega);have hlen:([d.Lo]++Ue d (pre p)).length<512:=by rw[PU,List.length_singleton];omega
 obtain⟨r1,s1,s2,s3⟩:=aBi hn hlen;have hl1:r1.2.length<512:=by rw[s2.length_eq];exact hlen
 obtain⟨r2,c1,c2,c3,c4,c5⟩:=aBq hn hl1;obtain⟨a1,a2⟩:=aAZ s3;have hmem:∀x,x∈comp (fun a b=>a==b) r1.2↔x=d.Lo\/x∈Ue d (pre p):=fun x=>by rw[a2,s2.mem_iff];simp
 have hhd:∃S,comp (fun a b=>a==b) r1.2=d.Lo::S:=by
  cases hc:comp (fun a b=>a==b) r1.2 with
  |nil=>have:=(hmem d.Lo).2 (.inl rfl);rw[hc] at this;cases this|cons y S=>
   have hy:=(hmem y).1 (by rw[hc];exact PG ..);rcases hy with rfl|hy
   .exact⟨S,rfl⟩
   .have:=(hmem d.Lo).2 (.inl rfl);rw[hc] at this a1;rcases PI.1 this with e|hm
    .exact⟨S,by rw[<-e]⟩
    .have h1:=(List.pairwise_cons.1 a1).1 _ hm;have h2:=(adq hy).1;omega
 obtain⟨S,hS⟩:=hhd;rw[hS] at a1 hmem;have hSm:∀x,x∈S↔x∈Ue d (pre p):=fun x=>by
  constructor
  .intro hx;rcases (hmem x).1 (PK _ hx) with rfl|h
   .have:=(List.pairwise_cons.1 a1).1 _ hx;omega
   .exact h
  .intro hx;rcases PI.1 ((hmem x).2 (.inr hx)) with rfl|h
   .have:=(adq hx).1;omega
   .exact h
 refine⟨S,a1,hSm,?_⟩;have hb:r2.1.2.toNat<512:=by
  have h1:(r2.2.take r2.1.2.toNat).length=r2.1.2.toNat:=by rw[Qc];omega
  rw[c5] at h1;have:=aBr (e:=fun a b=>a==b) r1.2;omega
 obtain⟨r3,m1,m2,m3,m4⟩:=aBp (n:=n) (d:=d) (p:=p) (by omega) (by omega) (l:=r2.2) (b:=r2.1.2) c3 c4 (by omega) (by omega);rw[aAr];refine bs (aev n _) ?_;show ((Wv p.re.re).bind _).bind _=_;rw[Pred.Sb,Pred.Sb,aeD (by omega),Option.bind_some];refine bs hR ?_;refine bs s1 ?_;refine bs c1 ?_;have e0:(r2.1.1,r2.1.2)=((0:Int),r2.1.2):=by rw[c2]
 refine bs (show Xe n (d,(p,(r2.1.1,r2.1.2))) r2.2=some r3 from ?_) ?_
 .rw[e0];exact m1
 .have e1:V9 r3.2 r3.1.1 r3.1.2=r3.2.take r3.1.2.toNat:=by unfold V9;rw[m2];rfl
  rw[e1,m4,c5,hS];rw[aAV (hi:=d.Hi) a1 (fun x hx=>(adq ((hSm x).1 hx)).2) fun v h1 h2 h3=>(hSm v).2 (an5 h1 h2 h3)]
end Sh
end
section
open Go Go.Proofs Aq Pq
namespace Sh
def abp (p:Int):List Int->List Int
 | []=>[p]|y::l=>if p<y then p::y::l else if p=y then y::l else y::abp p l
def Z7:List Int->List Int
 | []=>[]|x::l=>abp x (Z7 l)
theorem aoj (p x:Int):∀l:List Int,x∈abp p l↔x=p\/x∈l
 | []=>by simp[abp]|y::l=>by
  unfold abp;by_cases h1:p<y
  .rw[if_pos h1,PI]
  .rw[if_neg h1];by_cases h2:p=y
   .rw[if_pos h2,h2];simp
   .rw[if_neg h2,PI,aoj p x l,PI];constructor
    .rintro (h|h|h)
     .exact .inr (.inl h)
     .exact .inl h
     .exact .inr (.inr h)
    .rintro (h|h|h)
     .exact .inr (.inl h)
     .exact .inl h
     .exact .inr (.inr h)
theorem atl (p:Int):∀l:List Int,l.Pairwise (· < ·)->(abp p l).Pairwise (· < ·)
 | [],_=>by simp[abp]|y::l,h=>by
  have h':=List.pairwise_cons.1 h;unfold abp;by_cases h1:p<y
  .rw[if_pos h1];refine List.pairwise_cons.2 ⟨fun x hx=>?_,h⟩;rcases PI.1 hx with rfl|hx
   .exact h1
   .have:=h'.1 x hx;omega
  .rw[if_neg h1];by_cases h2:p=y
   .rw[if_pos h2];exact h
   .rw[if_neg h2];refine List.pairwise_cons.2 ⟨fun x hx=>?_,atl p l h'.2⟩;rcases (aoj p x l).1 hx with rfl|hx
    .omega
    .exact h'.1 x hx
theorem acR (x:Int):∀l:List Int,x∈Z7 l↔x∈l
 | []=>Iff.rfl|y::l=>by unfold Z7;rw[aoj,acR x l,PI]
theorem aok:∀l:List Int,(Z7 l).Pairwise (· < ·)
 | []=>.nil|y::l=>atl y _ (aok l)
theorem atm:∀{l m:List Int},l.Pairwise (· < ·)->m.Pairwise (· < ·)->(∀x,x∈l↔x∈m)->l=m
 | [],[],_,_,_=>rfl| [],y::m,_,_,h=>by have:=(h y).2 (PG ..);cases this|x::l,[],_,_,h=>by have:=(h x).1 (PG ..);cases this|x::l,y::m,hl,hm,h=>by
  have hl':=List.pairwise_cons.1 hl;have hm':=List.pairwise_cons.1 hm;have e:x=y:=by
   rcases PI.1 ((h x).1 (PG ..)) with e|h1
   .exact e
   .rcases PI.1 ((h y).2 (PG ..)) with e|h2
    .exact e.symm
    .have:=hl'.1 _ h2;have:=hm'.1 _ h1;omega
  subst e;congr 1;refine atm hl'.2 hm'.2 fun z=>?_;constructor
  .intro hz;rcases PI.1 ((h z).1 (PK _ hz)) with rfl|h1
   .have:=hl'.1 _ hz;omega
   .exact h1
  .intro hz;rcases PI.1 ((h z).2 (PK _ hz)) with rfl|h1
   .have:=hm'.1 _ hz;omega
   .exact h1
def YC (d:Def)(l:List Pred):List Int:=d.Lo::RS (Sy d.Name l) (Z7 (Ue d l))
theorem atn {d:Def}{l:List Pred}:(d.Lo::Z7 (Ue d l)).Pairwise (· < ·):=List.pairwise_cons.2 ⟨fun x hx=>(adq ((acR x _).1 hx)).1,aok _⟩
theorem aBt {n:Nat}(hn:800<n){d:Def}{p:Pred}(hlo: -(2^40)<=d.Lo)(hhi:d.Hi<=2^40)(h:Rq p<=240):ZD n (d,p)=some (YC d (pre p)):=by
 obtain⟨S,h1,h2,h3⟩:=aBs hn hlo hhi h;rw[h3];have e:S=Z7 (Ue d (pre p)):=atm (List.pairwise_cons.1 h1).2 (aok _) fun x=>by rw[h2,acR]
 rw[e];rfl
def agc (d:Def)(last nx:Int)(x:Pred):Int:=bif Ua d.Name x then (if last<=x.M/\x.M<d.Hi/\x.M+1< (if last<x.N/\x.N<nx then x.N else nx) then x.M+1 else (if last<x.N/\x.N<nx then x.N else nx))else nx
theorem aol {U:Type}{o:Option U}{d:U}:VZ true o d=o:=rfl
theorem aom {U:Type}{o:Option U}{d:U}:VZ false o d=some d:=rfl
theorem aBu {n m i:Nat}{d:Def}{l:List Pred}{last nx:Int}{out:List RI}{x:Pred}(hlo: -(2^40)<=last)(hhi:d.Hi<=2^40)(hb:l.length<2^62)(hx:l[i]? =some x):
 Vp n d l last (m+1) (out,(nx,(i:Int)))=Vp n d l last m (out,(agc d last nx x,((i+1:Nat):Int))):=by
 have hlt:=Vx hx;have hi:=Tv hx;rw[arI,Ui hx,cond_true];refine bs hi ?_;unfold agc Ua;rw[Ud (by omega)];cases h6:x.Op==(6:Int) with
 |false=>rfl|true=>
  rw[cond_true,cond_true];refine bs hi ?_;cases hn:x.Name==d.Name with
  |false=>rfl|true=>
   rw[cond_true,cond_true];refine bs hi ?_;have tail:∀(y:Int),(bif decide (x.M>=last) then ((Q5 l (i:Int)).bind fun r=>bif decide (r.M<d.Hi) then ((Q5 l (i:Int)).bind fun r=>bif decide (wrap .i64 (r.M+(1:Int))<y) then ((Q5 l (i:Int)).bind fun r=>Vp n d l last m (out,(wrap .i64 (r.M+(1:Int)),((i+1:Nat):Int)))) else Vp n d l last m (out,(y,((i+1:Nat):Int)))) else Vp n d l last m (out,(y,((i+1:Nat):Int)))) else Vp n d l last m (out,(y,((i+1:Nat):Int))))=
    Vp n d l last m (out,((if last<=x.M/\x.M<d.Hi/\x.M+1<y then x.M+1 else y),((i+1:Nat):Int))):=by
    intro y;by_cases h1:last<=x.M
    .rw[decide_eq_true (p:=x.M>=last) h1,cond_true];refine bs hi ?_;by_cases h2:x.M<d.Hi
     .rw[decide_eq_true h2,cond_true];refine bs hi ?_;have hw:wrap .i64 (x.M+(1:Int))=x.M+1:=(by rw[IntKind.wrap_i64];omega);rw[hw];by_cases h3:x.M+1<y
      .rw[decide_eq_true h3,cond_true,if_pos ⟨h1,h2,h3⟩];refine bs hi ?_;rw[hw]
      .rw[decide_eq_false h3,cond_false,if_neg (fun k=>h3 k.2.2)]
     .rw[decide_eq_false h2,cond_false,if_neg (fun k=>h2 k.2.1)]
    .rw[decide_eq_false (p:=x.M>=last) h1,cond_false,if_neg (fun k=>h1 k.1)]
   by_cases h1:last<x.N
   .rw[decide_eq_true (p:=x.N>last) h1,aol];refine bs hi ?_;rw[cond_true];by_cases h2:x.N<nx
    .rw[decide_eq_true h2,cond_true,show (if last<x.N/\x.N<nx then x.N else nx)=x.N from if_pos ⟨h1,h2⟩];refine bs hi (bs hi ?_);exact tail x.N
    .rw[decide_eq_false h2,cond_false,show (if last<x.N/\x.N<nx then x.N else nx)=nx from if_neg (fun k=>h2 k.2)];refine bs hi ?_;exact tail nx
   .rw[decide_eq_false (p:=x.N>last) h1,aom,Option.bind_some,cond_false,cond_false,show (if last<x.N/\x.N<nx then x.N else nx)=nx from if_neg (fun k=>h1 k.1)];refine bs hi ?_;exact tail nx
theorem aBv {d:Def}{last nx:Int}{x:Pred}{cs:List Int}(hl:d.Lo<=last)(hx:nx<=d.Hi+1):Wo last ((bif Ua d.Name x then abm d x else [])++cs) nx=Wo last cs (agc d last nx x)/\agc d last nx x<=d.Hi+1:=by
 unfold agc;cases hi:Ua d.Name x with
 |false=>exact⟨rfl,hx⟩|true=>
  rw[cond_true,cond_true];have e1:∀(c:Int)(cs:List Int)(m:Int),Wo last (c::cs) m=Wo last cs (if last<c/\c<m then c else m):=fun c cs m=>by show Wo last cs _=_;congr 1;by_cases h1:c>last<;>by_cases h2:c<m<;>simp[h1,h2]<;>first|done| (intro _;omega)|omega
  unfold abm;have a1:(bif decide (x.N>d.Lo) then decide (x.N<=d.Hi) else false)=decide (d.Lo<x.N/\x.N<=d.Hi):=by by_cases h1:x.N>d.Lo<;>by_cases h2:x.N<=d.Hi<;>simp[h1,h2]<;>first|done| (intro _;omega)|omega
  have a2:(bif decide (x.M>=d.Lo) then decide (x.M<d.Hi) else false)=decide (d.Lo<=x.M/\x.M<d.Hi):=by by_cases h1:x.M>=d.Lo<;>by_cases h2:x.M<d.Hi<;>simp[h1,h2]<;>first|done| (intro _;omega)|omega
  rw[a1,a2];have f1:∀cs,Wo last ((bif decide (d.Lo<x.N/\x.N<=d.Hi) then [x.N] else [])++cs) nx=Wo last cs (if last<x.N/\x.N<nx then x.N else nx):=fun cs=>by
   by_cases h:d.Lo<x.N/\x.N<=d.Hi
   .rw[decide_eq_true h,cond_true];exact e1 ..
   .rw[decide_eq_false h,cond_false,if_neg (by omega)];rfl
  have hle:(if last<x.N/\x.N<nx then x.N else nx)<=d.Hi+1:=by split<;>omega
  rw[Qe,f1];generalize (if last<x.N/\x.N<nx then x.N else nx)=y at*;by_cases h:d.Lo<=x.M/\x.M<d.Hi
  .rw[decide_eq_true h,cond_true];refine⟨(e1 ..).trans ?_,by split<;>omega⟩;congr 1;by_cases h2:last<x.M+1/\x.M+1<y
   .rw[if_pos h2,if_pos (by omega)]
   .rw[if_neg h2,if_neg (by omega)]
  .rw[decide_eq_false h,cond_false,if_neg (by omega)];exact⟨rfl,hle⟩
theorem aBw (d:Def)(x:Pred)(l:List Pred):Ue d (x::l)=(bif Ua d.Name x then abm d x else [])++Ue d l:=by
 unfold Ue;cases hx:Ua d.Name x with
 |true=>rw[aga hx,P7];rfl|false=>rw[agb hx];rfl
theorem ato {n:Nat}{d:Def}{l:List Pred}{last:Int}{out:List RI}(hl:d.Lo<=last)(hlo: -(2^40)<=d.Lo)(hhi:d.Hi<=2^40)(hb:l.length<2^62):∀(k i m:Nat)(nx:Int),i+k=l.length->k<m->nx<=d.Hi+1->Vp n d l last m (out,(nx,(i:Int)))=some (out,Wo last (Ue d (l.drop i)) nx):=by
 intro k;induction k with
 |zero=>
  intro i m nx hi hm _;obtain⟨m,rfl⟩:∃m',m=m'+1:=⟨m-1,by omega⟩;obtain rfl:i=l.length:=by omega
  rw[arI,U3,cond_false,List.drop_length];rfl
 |succ k ih=>
  intro i m nx hi hm hnx;obtain⟨m,rfl⟩:∃m',m=m'+1:=⟨m-1,by omega⟩;have hlt:i<l.length:=by omega
  have hx:l[i]? =some l[i]:=PZ hlt;obtain⟨s1,s2⟩:=aBv (d:=d) (last:=last) (nx:=nx) (x:=l[i]) (cs:=Ue d (l.drop (i+1))) hl hnx;rw[aBu (by omega) hhi hb hx,ih (i+1) m _ (by omega) (by omega) s2,Qf hlt,aBw,s1]
theorem aBx {n:Nat}{l:List Pred}{nm:List UInt8}{a b:Int}(hb:l.length<2^62):∀(k i m:Nat),i+k=l.length->k<m->aeo n l nm a b m (i:Int)=some (if Sy nm (l.drop i) a=Sy nm (l.drop i) b then .inl () else .inr false):=by
 intro k;induction k with
 |zero=>
  intro i m hi hm;obtain⟨m,rfl⟩:∃m',m=m'+1:=⟨m-1,by omega⟩;obtain rfl:i=l.length:=by omega
  rw[arF,U3,cond_false,List.drop_length];rfl
 |succ k ih=>
  intro i m hi hm;obtain⟨m,rfl⟩:∃m',m=m'+1:=⟨m-1,by omega⟩;have hlt:i<l.length:=by omega
  have hx:l[i]? =some l[i]:=PZ hlt;have he:=Tv hx;have ih':=ih (i+1) m (by omega) (by omega);rw[Qf hlt,arF,Ui hx,cond_true,Ud (by omega)];generalize l[i]=x at*;refine bs he ?_;have hneg:Ua nm x=false->(if Sy nm (l.drop (i+1)) a=Sy nm (l.drop (i+1)) b then (Sum.inl ():PUnit⊕Bool) else .inr false)=if Sy nm (x::l.drop (i+1)) a=Sy nm (x::l.drop (i+1)) b then .inl () else .inr false:=fun h=>by unfold Sy;rw[agb h]
  cases h6:x.Op==(6:Int) with
  |false=>rw[aom,Option.bind_some,cond_false,cond_false,ih',hneg (by unfold Ua;rw[h6];rfl)]|true=>
   rw[aol];refine bs he ?_;rw[cond_true];cases hn:x.Name==nm with
   |false=>rw[cond_false,ih',hneg (by unfold Ua;rw[h6,hn];rfl)]|true=>
    rw[cond_true];have hI:Ua nm x=true:=(by unfold Ua;rw[h6,hn];rfl);refine bs he ?_;have w1:∀v:Int,∃r:Pred,VZ (decide (v>=x.N)) (Q5 l (i:Int)) (⟨(0:Int),[],(0:Int),(0:Int),[],[]⟩:Pred)=some r/\(bif decide (v>=x.N) then decide (v<=r.M) else false)=Vy x v:=fun v=>by
     cases h:decide (v>=x.N) with
     |true=>exact⟨x,he,by unfold Vy;rw[h]⟩|false=>exact⟨_,rfl,by unfold Vy;rw[h];rfl⟩
    obtain⟨r1,g1,g2⟩:=w1 a;obtain⟨r2,g3,g4⟩:=w1 b;refine bs g1 (bs he (bs g3 ?_));rw[g2,g4];have et:∀v,Sy nm (x::l.drop (i+1)) v=Vy x v::Sy nm (l.drop (i+1)) v:=fun v=>by unfold Sy;rw[aga hI];rfl
    rw[et,et];by_cases e:Vy x a=Vy x b
    .rw[e];simp only[beq_self_eq_true,Bool.not_true,cond_false,Qd,true_and];exact ih'
    .have:(Vy x a==Vy x b)=false:=(by simpa using e);rw[this];simp only[Bool.not_false,cond_true,e,Qd,false_and,if_false]
theorem aBy {n:Nat}{l:List Pred}{nm:List UInt8}{a b:Int}(hb:l.length<2^62)(hn:l.length<n):ZT n (l,(nm,(a,b)))=some (Sy nm l a==Sy nm l b):=by
 rw[azR];refine bs (aBx hb l.length 0 n (by omega) hn) ?_;rw[Qt];by_cases h:Sy nm l a=Sy nm l b
 .rw[if_pos h,h];simp
 .rw[if_neg h];have:(Sy nm l a==Sy nm l b)=false:=by simpa using h
  rw[this];rfl
theorem atp {U γ:Type}{L:Nat->(List γ×Int)->Option (List γ)}{l:List U}{f:U->γ}(hs:∀m (i:Nat) x acc,l[i]? =some x->acc.length+1<2^30->L (m+1) (acc,(i:Int))=L m (acc++[f x],((i+1:Nat):Int)))(hf:∀m acc,L (m+1) (acc,(l.length:Int))=some acc):
 ∀(k i m:Nat)(acc:List γ),i+k=l.length->k<m->acc.length+k<2^30->L m (acc,(i:Int))=some (acc++(l.drop i).map f):=by
 intro k;induction k with
 |zero=>
  intro i m acc hi hm _;obtain⟨m,rfl⟩:∃m',m=m'+1:=⟨m-1,by omega⟩;obtain rfl:i=l.length:=by omega
  rw[hf,List.drop_length];simp
 |succ k ih=>
  intro i m acc hi hm ha;obtain⟨m,rfl⟩:∃m',m=m'+1:=⟨m-1,by omega⟩;have hlt:i<l.length:=by omega
  have hx:l[i]? =some l[i]:=PZ hlt;rw[hs m i _ acc hx (by omega),ih (i+1) m _ (by omega) (by omega) (by rw[PU,List.length_singleton];omega),Qf hlt,PS,Qe];rfl
def Vz (said:List UInt8->Bool):Bool->List (List UInt8)->List (List UInt8)
 |_,[]=>[]|o,w::ws=>(bif (bif said w then true else !o) then [w] else [])++Vz said (bif o then true else !(said w)) ws
theorem aon (said:List UInt8->Bool):∀(ws:List (List UInt8))(o:Bool),(Vz said o ws).length<=ws.length
 | [],_=>mF _|w::ws,o=>by
  have:=aon said ws (bif o then true else !(said w));unfold Vz;rw[PU,List.length_cons];cases (bif said w then true else !o)
  .simp only[cond_false,List.length_nil];omega
  .simp only[cond_true,List.length_singleton];omega
def YD (nm:List UInt8)(x:Pred):Bool:=bif x.Op==(7:Int) then x.Name==nm else false
def VA (nm:List UInt8)(l:List Pred)(w:List UInt8):Bool:=l.any fun x=>YD nm x&& x.S==w
def abY (d:Def)(l:List Pred):List (List UInt8):=Vz (VA d.Name l) false d.Words
theorem agd (a b:List UInt8):SV R .str a b=(a==b):=rfl
theorem atq (x y:List UInt8):∀m:List (List UInt8×Bool),Vd (SV R Ty.str) y (WR (SV R Ty.str) x true m)=if y=x then some true else Vd (SV R Ty.str) y m
 | []=>by
   show (bif SV R .str y x then some true else none)=_;rw[agd];by_cases e:y=x
   .rw[if_pos e,e];simp
   .have h:(y==x)=false:=(by simpa using e);rw[if_neg e,h];rfl
 | (a,v)::m=>by
   have ih:=atq x y m;show Vd (SV R Ty.str) y (bif SV R .str x a then (x,true)::m else (a,v)::WR (SV R Ty.str) x true m)=if y=x then some true else (bif SV R .str y a then some v else Vd (SV R Ty.str) y m)
   rw[agd,agd];by_cases h:x=a
   .subst h;rw[beq_self_eq_true,cond_true];show (bif SV R .str y x then some true else Vd (SV R Ty.str) y m)=_;rw[agd];by_cases e:y=x
    .subst e;simp
    .have h:(y==x)=false:=(by simpa using e);rw[if_neg e,h];rfl
   .have hx:(x==a)=false:=(by simpa using h);rw[hx,cond_false];show (bif SV R .str y a then some v else Vd (SV R Ty.str) y (WR (SV R Ty.str) x true m))=_;rw[ih,agd];by_cases e:y=a
    .subst e;have:¬y=x:=fun e=>h e.symm;simp[this]
    .have h2:(y==a)=false:=(by simpa using e);rw[h2];rfl
theorem aoo {n:Nat}{d:Def}:∀(l:List Pred)(m:List (List UInt8×Bool)),∃m',abS n d l ((),m)=some ((),m')/\∀w:List UInt8,Yo false (Vd (SV R Ty.str) w m')=(Yo false (Vd (SV R Ty.str) w m)||VA d.Name l w)
 | [],m=>⟨m,aAs ..,fun w=>by unfold VA;simp⟩
 |x::l,m=>by
  rw[aAt];change∃m',(bif YD d.Name x then abS n d l ((),WR (SV R Ty.str) x.S true m) else abS n d l ((),m))=some ((),m')/\_;cases hx:YD d.Name x with
  |false=>obtain⟨m',h1,h2⟩:=aoo (n:=n) (d:=d) l m;refine⟨m',h1,fun w=>?_⟩;rw[h2];unfold VA;rw[List.any_cons,hx];simp
  |true=>
   obtain⟨m',h1,h2⟩:=aoo (n:=n) (d:=d) l (WR (SV R Ty.str) x.S true m);refine⟨m',h1,fun w=>?_⟩;have e:Yo false (Vd (SV R Ty.str) w (WR (SV R Ty.str) x.S true m))=Yo false (if w=x.S then some true else Vd (SV R Ty.str) w m):=congrArg (Yo false) (atq x.S w m);refine(h2 w).trans ((congrArg (fun b=>b||VA d.Name l w) e).trans ?_);unfold VA;rw[List.any_cons,hx];by_cases h:w=x.S
   .rw[if_pos h,h];simp[Yo]
   .have:(x.S==w)=false:=(by simpa using Ne.symm h);rw[if_neg h,this];simp
theorem aBz {n:Nat}{d:Def}{r8:PUnit×List ((List UInt8)×Bool)}{said:List UInt8->Bool}(hs:∀w:List UInt8,Yo false (Vd (SV R Ty.str) w r8.2)=said w)(hb:d.Words.length<2^29):
 ∀(k i m:Nat)(acc:List (List UInt8))(o:Bool),i+k=d.Words.length->k<m->acc.length<=i->aey n d r8 m (acc,(o,(i:Int)))=some (acc++Vz said o (d.Words.drop i)):=by
 intro k;induction k with
 |zero=>
  intro i m acc o hi hm _;obtain⟨m,rfl⟩:∃m',m=m'+1:=⟨m-1,by omega⟩;obtain rfl:i=d.Words.length:=by omega
  rw[ar9,U3,cond_false,List.drop_length];simp[Vz]
 |succ k ih=>
  intro i m acc o hi hm ha;obtain⟨m,rfl⟩:∃m',m=m'+1:=⟨m-1,by omega⟩;have hlt:i<d.Words.length:=by omega
  have hx:d.Words[i]? =some d.Words[i]:=PZ hlt;rw[ar9,Ui hx,cond_true,Qf hlt];refine bs (Tv hx) ?_;rw[hs,Ud (by omega)];unfold Vz;cases hc:(bif said d.Words[i] then true else !o) with
  |true=>refine(show (bif SB (acc.length+1) 16 then _ else none)=_ from ?_);rw[YB (by omega) (by omega),cond_true,ih (i+1) m _ _ (by omega) (by omega) (by rw[PU,List.length_singleton];omega)];simp|false=>rw[cond_false,ih (i+1) m _ _ (by omega) (by omega) (by omega)];simp
theorem aBA {n:Nat}{d:Def}{p:Pred}(h:Rq p<2^30)(hw:d.Words.length<2^29)(hn:d.Words.length<n):Zp n (d,p)=some (abY d (pre p)):=by rw[aAu];refine bs (aev n _) ?_;show ((Wv p.re.re).bind _).bind _=_;rw[Pred.Sb,Pred.Sb,aeD (by omega),Option.bind_some];obtain⟨m',h1,h2⟩:=aoo (n:=n) (d:=d) (pre p) [];refine bs h1 ?_;refine bs (aBz (r8:=((),m')) (said:=VA d.Name (pre p)) (fun w=>(h2 w).trans (by simp[Vd,Yo])) hw d.Words.length 0 n [] false (by omega) hn (mF _)) ?_;rfl
theorem aBB {n:Nat}{d:Def}{l:List Pred}{o:Bool}{j:Nat}{w:List UInt8}{out:List RI}(hj:d.Words[j]? =some w)(hb:l.length<2^62):∀(k i m:Nat)(s:Bool),i+k=l.length->k<m->acK n d l o (j:Int) m (out,(s,(i:Int)))=some (out,s||VA d.Name (l.drop i) w):=by
 intro k;induction k with
 |zero=>
  intro i m s hi hm;obtain⟨m,rfl⟩:∃m',m=m'+1:=⟨m-1,by omega⟩;obtain rfl:i=l.length:=by omega
  rw[arG,U3,cond_false,List.drop_length];simp[VA]
 |succ k ih=>
  intro i m s hi hm;obtain⟨m,rfl⟩:∃m',m=m'+1:=⟨m-1,by omega⟩;have hlt:i<l.length:=by omega
  have hx:l[i]? =some l[i]:=PZ hlt;have he:=Tv hx;have ih':=fun s=>ih (i+1) m s (by omega) (by omega);rw[arG,Ui hx,cond_true,Qf hlt,Ud (by omega)];generalize l[i]=x at*;have ec:VA d.Name (x::l.drop (i+1)) w=((YD d.Name x&& x.S==w)||VA d.Name (l.drop (i+1)) w):=by unfold VA;rw[List.any_cons]
  rw[ec];cases s with
  |true=>rw[Bool.not_true,cond_false,ih'];simp|false=>
   rw[Bool.not_false,cond_true];refine bs he ?_;unfold YD;cases h7:x.Op==(7:Int) with
   |false=>rw[cond_false,ih'];simp|true=>
    rw[cond_true];refine bs he ?_;cases hn:x.Name==d.Name with
    |false=>rw[cond_false,ih'];simp|true=>rw[cond_true];refine bs he (bs (Tv hj) ?_);rw[ih'];simp
def aBC (d:Def)(w:List UInt8):RI:=⟨⟨d.Name,d.Kind,0,w⟩,true⟩
theorem aBD {n:Nat}{d:Def}{l:List Pred}(hb:l.length<2^62)(hln:l.length<n)(hw:d.Words.length<2^29):∀(k i m:Nat)(acc:List RI)(o:Bool),i+k=d.Words.length->k<m->acc.length<=i+1->aep n d l m (acc,(o,(i:Int)))=some (acc++(Vz (VA d.Name l) o (d.Words.drop i)).map (aBC d)):=by
 intro k;induction k with
 |zero=>
  intro i m acc o hi hm _;obtain⟨m,rfl⟩:∃m',m=m'+1:=⟨m-1,by omega⟩;obtain rfl:i=d.Words.length:=by omega
  rw[arH,U3,cond_false,List.drop_length];simp[Vz]
 |succ k ih=>
  intro i m acc o hi hm ha;obtain⟨m,rfl⟩:∃m',m=m'+1:=⟨m-1,by omega⟩;have hlt:i<d.Words.length:=by omega
  have hx:d.Words[i]? =some d.Words[i]:=PZ hlt;rw[arH,Ui hx,cond_true,Qf hlt];have hsd:=aBB (n:=n) (d:=d) (l:=l) (o:=o) (out:=acc) hx hb l.length 0 n false (by omega) hln;rw[Qt,Bool.false_or] at hsd;refine bs hsd ?_;dsimp only;rw[Ud (by omega)];unfold Vz;cases hc:(bif VA d.Name l d.Words[i] then true else !o) with
  |true=>rw[cond_true,cond_true];refine bs (Tv hx) ?_;refine(show (bif SB (acc.length+1) 56 then _ else none)=_ from ?_);rw[YB (by omega) (by omega),cond_true,ih (i+1) m _ _ (by omega) (by omega) (by rw[PU,List.length_singleton];omega)];simp;rfl|false=>rw[cond_false,cond_false,ih (i+1) m _ _ (by omega) (by omega) (by omega)];simp
def atr (d:Def)(v:Int):RI:=⟨⟨d.Name,d.Kind,v,[]⟩,true⟩
theorem aBE {n:Nat}{d:Def}{l:List Pred}(hlo: -(2^40)<=d.Lo)(hle:d.Lo<=d.Hi)(hhi:d.Hi<=2^40)(hb:l.length<2^62)(hln:l.length<n):∀(S:List Int)(last:Int)(m:Nat)(out:List RI),(last::S).Pairwise (· < ·)->d.Lo<=last->(∀x,last<x->(x∈Ue d l↔x∈S))->S.length<m->out.length+S.length<2^29->
 aer n d l m (out,last)=some (out++(RS (Sy d.Name l) S).map (atr d)):=by
 intro S;have ew:wrap .i64 (d.Hi+(1:Int))=d.Hi+1:=by rw[IntKind.wrap_i64];omega
 induction S with
 |nil=>intro last m out _ hl hm hlt _;obtain⟨m,rfl⟩:∃m',m=m'+1:=⟨m-1,by omega⟩;rw[arJ,ew];refine bs (ato (out:=out) hl hlo hhi hb l.length 0 n (d.Hi+1) (by omega) hln (P6 _)) ?_;rw[Qt,aAX (fun x hx hc=>by cases (hm x hx).1 hc)];show (bif decide (d.Hi+1>d.Hi) then some out else _)=_;rw[decide_eq_true (by omega),cond_true];simp[RS]
 |cons y S ih=>
  intro last m out hs hl hm hlt hol;simp only[List.length_cons] at hlt hol;obtain⟨m,rfl⟩:∃m',m=m'+1:=⟨m-1,by omega⟩;have hs':=List.pairwise_cons.1 hs;have hs2:=List.pairwise_cons.1 hs'.2;have hly:=hs'.1 y (PG ..);have hyc:=(hm y hly).2 (PG ..);have hyr:=adq hyc;rw[arJ,ew];refine bs (ato (out:=out) hl hlo hhi hb l.length 0 n (d.Hi+1) (by omega) hln (P6 _)) ?_;rw[Qt,aAW hs'.2 hm hly (by omega)];show (bif decide (y>d.Hi) then some out else _)=_;rw[decide_eq_false (by omega),cond_false];have ey:wrap .i64 (y-(1:Int))=y-1:=by rw[IntKind.wrap_i64];omega
  rw[ey];refine bs (aBy hb hln) ?_;have hm':∀x,y<x->(x∈Ue d l↔x∈S):=fun x hx=>by
   rw[hm x (by omega),PI];constructor
   .rintro (h|h)
    .omega
    .exact h
   .exact .inr
  unfold RS;cases ht:Sy d.Name l (y-1)==Sy d.Name l y with
  |true=>rw[Bool.not_true,cond_false,cond_true,ih y m out hs'.2 (by omega) hm' (by omega) (by omega)]|false=>rw[Bool.not_false,cond_true,cond_false];refine(show (bif SB (out.length+1) 56 then _ else none)=_ from ?_);rw[YB (by omega) (by omega),cond_true];refine Eq.trans (ih y m (out++[atr d y]) hs'.2 (by omega) hm' (by omega) (by rw[PU,List.length_singleton];omega)) ?_;simp
def UH (d:Def)(l:List Pred):List (Option Attr):=none::(if d.Kind=1 then (YC d l).map fun v=>some ⟨d.Name,d.Kind,v,[]⟩ else (abY d l).map fun w=>some ⟨d.Name,d.Kind,0,w⟩)
def noA:Attr:=⟨[],0,0,[]⟩
def TT:Option Attr->Rb
 |none=>⟨noA,false⟩|some a=>⟨a,true⟩
def toR:Option Attr->RI
 |none=>⟨noA,false⟩|some a=>⟨a,true⟩
structure abZ (n:Nat)(d:Def):Prop where
 kind:d.Kind=1\/d.Kind=2
 lo: -(2^40)<=d.Lo
 le:d.Lo<=d.Hi
 hi:d.Hi<=2^40
 words:d.Words.length<2^29
 wn:d.Words.length<n
theorem atu (t:Int->List Bool):∀S:List Int,(RS t S).length<=S.length
 | []=>mF _|y::S=>by
  have:=atu t S;unfold RS;cases t (y-1)==t y
  .rw[cond_false,List.length_cons,List.length_cons];omega
  .rw[cond_true,List.length_cons];omega
theorem atv (p:Int):∀l:List Int,(abp p l).length<=l.length+1
 | []=>mF _|y::l=>by
  have:=atv p l;unfold abp;split
  .simp
  .split
   .simp
   .simp;omega
theorem aop:∀l:List Int,(Z7 l).length<=l.length
 | []=>mF _|y::l=>by have:=aop l;have h2:=atv y (Z7 l);unfold Z7;rw[List.length_cons];omega
theorem atw (d:Def)(l:List Pred):(YC d l).length<=2*l.length+1:=by unfold YC;have h1:=atu (Sy d.Name l) (Z7 (Ue d l));have h2:=aop (Ue d l);have h3:=ahY d l;rw[List.length_cons];omega
theorem aBG {n:Nat}(hn:800<n){d:Def}{p:Pred}(hd:abZ n d)(h:Rq p<=240):Zw n (d,p)=some ((UH d (pre p)).map TT):=by
 have hnl:=atw d (pre p);rw[VN] at hnl;have hwl:(abY d (pre p)).length<=d.Words.length:=aon _ _ _;have hw:=hd.words;have hw2:=hd.wn;rw[aAv];unfold UH;by_cases hk:d.Kind=1
 .have e:(d.Kind==(1:Int))=true:=by rw[hk];rfl
  rw[e,cond_true,if_pos hk];refine bs (show ZD n (d,p.re)=_ by rw[Pred.Sb];exact aBt hn hd.lo hd.hi h) ?_;refine bs (atp (L:=fun m q=>af3 n d (YC d (pre p)) m q) (l:=YC d (pre p)) (f:=fun v=>TT (some ⟨d.Name,d.Kind,v,[]⟩)) (fun m i x acc hx ha=>?_) (fun m acc=>?_) (YC d (pre p)).length 0 n [TT none] (by omega) (by omega) (by simp;omega)) ?_
  .rw[asa,Ui hx,cond_true];refine bs (Tv hx) ?_;have hlt:=Vx hx;rw[Ud (by omega)];refine(show (bif SB (acc.length+1) 56 then _ else none)=_ from ?_);rw[YB (by omega) (by omega)];rfl
  .rw[asa,U3];rfl
  .simp
 .have e:(d.Kind==(1:Int))=false:=by simpa using hk
  rw[e,cond_false,if_neg hk];refine bs (show Zp n (d,p.re)=_ by rw[Pred.Sb];exact aBA (by omega) hw hw2) ?_;refine bs (atp (L:=fun m q=>af4 n d (abY d (pre p)) m q) (l:=abY d (pre p)) (f:=fun w=>TT (some ⟨d.Name,d.Kind,0,w⟩)) (fun m i x acc hx ha=>?_) (fun m acc=>?_) (abY d (pre p)).length 0 n [TT none] (by omega) (by omega) (by simp;omega)) ?_
  .rw[asb,Ui hx,cond_true];refine bs (Tv hx) ?_;have hlt:=Vx hx;rw[Ud (by omega)];refine(show (bif SB (acc.length+1) 56 then _ else none)=_ from ?_);rw[YB (by omega) (by omega)];rfl
  .rw[asb,U3];rfl
  .simp
theorem aBH {n:Nat}(hn:800<n){d:Def}{l:List Pred}(hd:abZ n d)(h:l.length<=240):QP n (d,l)=some ((UH d l).map toR):=by
 have hw:=hd.words;have hw2:=hd.wn;rw[azS];unfold UH;rcases hd.kind with hk|hk
 .have e:(d.Kind==(2:Int))=false:=by rw[hk];rfl
  rw[e,cond_false,if_pos hk];refine(show (bif SB 2 56 then _ else none)=_ from ?_);rw[YB (by omega) (by omega),cond_true];have h2:=aop (Ue d l);have h3:=ahY d l;refine bs (aBE (n:=n) (d:=d) (l:=l) hd.lo hd.le hd.hi (by omega) (by omega) (Z7 (Ue d l)) d.Lo n _ atn (P6 _) (fun x _=>(acR x _).symm) (by omega) ?_) ?_
  .simp only[PU,List.length_singleton];omega
  .simp[YC];exact⟨rfl,rfl,fun _ _=>rfl⟩
 .have e:(d.Kind==(2:Int))=true:=by rw[hk];rfl
  rw[e,cond_true,if_neg (by rw[hk];decide)];refine bs (aBD (n:=n) (d:=d) (l:=l) (by omega) (by omega) hw d.Words.length 0 n _ false (by omega) hw2 (by simp)) ?_;simp[abY];exact⟨rfl,fun _ _=>rfl⟩
end Sh
end
section
open Go Go.Proofs Aq
namespace Sh
theorem aBI {l:List V}{v:V}(h:v∈l):UO v<=Ws l:=by
 induction l with
 |nil=>cases h|cons x l ih=>
  rcases PI.1 h with rfl|h
  .show UO v<=UO v+Ws l;omega
  .have:=ih h;show UO v<=UO x+Ws l;omega
theorem atx {U:Type}(f:U->V){l:List U}{x:U}(h:x∈l):UO (f x)<=Ws (l.map f):=aBI (List.mem_map_of_mem h)
theorem aty {U:Type}(f:U->V)(hf:∀x,1<=UO (f x))(l:List U):l.length<=Ws (l.map f):=by
 induction l with
 |nil=>exact Ql _|cons x l ih=>have:=hf x;show l.length+1<=UO (f x)+Ws (l.map f);omega
mutual
theorem atz:∀p:Pred,Rq p<=UO (Pred.vr p)
 | ⟨op,name,n,m,s,subs⟩=>by have:=atA subs;simp only[Rq,Pred.vr,UO,Ws];omega
theorem atA:∀l:List Pred,Sm l<=Ws (Pred.vl l)
 | []=>Ql _|p::l=>by have:=atz p;have:=atA l;simp only[Sm,Pred.vl,Ws];omega
end
theorem atB (x:Pred):Rq x<=UQ (Pred.v x):=by rw[<-Pred.ag5];exact PE (atz x) (aiM _)
end Sh
end
section
open Go Go.Proofs Aq
namespace Sh
theorem aBJ {n:Nat}{l:List (List UInt8)}{x:List UInt8}(h:l.length<n)(hb:l.length<2^62):ZO n (l,x)=some (l.any (· ==x)):=by
 have:=adf (L:=fun m i=>afS n l x m i) (l:=l) (fun d i r=>bif d==x then some (.inr true) else r) (some (.inl ()))
  (fun m i d hd=>by have hlt:=Vx hd;rw[arp,Ui hd,Tv hd,Ud (by omega)];rfl)
  (fun m=>by rw[arp,U3];rfl) h
 rw[azL,this,aeg (fun d:List UInt8=>d==x) (fun i=>(Sum.inr true:PUnit⊕Bool)) (.inl ())];cases hf:l.findIdx? (fun d=>d==x) with
 |none=>
  rw[List.findIdx?_eq_none_iff] at hf;have:l.any (· ==x)=false:=by rw[List.any_eq_false];intro y hy;simpa using hf y hy
  rw[this];rfl
 |some j=>
  obtain⟨hj,h2,_⟩:=List.findIdx?_eq_some_iff_getElem.1 hf;have:l.any (· ==x)=true:=by rw[List.any_eq_true];exact⟨l[j],Qx hj,h2⟩
  rw[this];rfl
def adA (s:Ro)(n:Nat):Prop:=s.Defs.length<n/\s.Defs.length<2^62/\∀d∈s.Defs,d.Name.length<n/\d.Name.length<2^62/\d.Words.length<n/\d.Words.length<2^62/\∀w∈d.Words,w.length<n/\w.length<2^62
theorem atC {n:Nat}{x:List UInt8}(h:x.length<n)(hb:x.length<2^62)(hn:6<n):∃b:Bool,ZI n x=some b:=by
 obtain⟨r,hr⟩:=adr (L:=fun m (_:Unit) i=>acD n x m i) (l:=x)
  (fun m i c _ hc ih=>by
    have hlt:=Vx hc;show∃r,acD n x (m+1) (i:Int)=some r;rw[arq,Ui hc,Tv hc,Ud (by omega),cond_true,Option.bind_some];cases (bif !(bif decide ((c.toNat:Int)>=(97:Int)) then decide ((c.toNat:Int)<=(122:Int)) else false) then bif (i:Int)==(0:Int) then true else !(bif bif decide ((c.toNat:Int)>=(48:Int)) then decide ((c.toNat:Int)<=(57:Int)) else false then true else (c.toNat:Int)==(95:Int)) else false)
    .exact ih ()
    .exact⟨_,rfl⟩)
  (fun m _ i hi=>by show∃r,acD n x (m+1) (i:Int)=some r;rw[arq,acP hi];exact⟨_,rfl⟩) x.length 0 n () (by omega) h
 have hr':acD n x n (0:Int)=some r:=hr;rw[azM,hr'];cases r with
 |inl q=>obtain⟨b,hb'⟩:=ahj (c:=bif decide ((x.length:Int)>=(1:Int)) then decide ((x.length:Int)<=(40:Int)) else false) (o:=ZO n (([[(97:UInt8),(108:UInt8),(108:UInt8)],[(97:UInt8),(110:UInt8),(100:UInt8)],[(104:UInt8),(97:UInt8),(115:UInt8)],[(105:UInt8),(110:UInt8)],[(110:UInt8),(111:UInt8),(116:UInt8)],[(111:UInt8),(114:UInt8)]],x))) (d:=false) (fun _=>⟨_,aBJ (show 6<n from hn) (show 6<2^62 by omega)⟩);rw[Option.bind_some];show∃b,Option.bind (VZ _ _ _) _=some b;rw[hb'];exact⟨_,rfl⟩
 |inr q=>exact⟨q,rfl⟩
theorem aBK {n:Nat}{l:List (List UInt8)}(h:l.length<n)(hb:l.length<2^62)(hw:∀w∈l,w.length<n/\w.length<2^62)(hn:6<n):∃e:Int,Zl n l=some e:=by
 rw[arv];cases (bif decide ((l.length:Int)< (1:Int)) then true else decide ((l.length:Int)> (50:Int)))
 .obtain⟨r,hr⟩:=adr (L:=fun m (_:Unit) i=>acE n l m i) (l:=l)
   (fun m i c _ hc ih=>by
     have hlt:=Vx hc;show∃r,acE n l (m+1) (i:Int)=some r;obtain⟨b,hb'⟩:=atC (hw c (Qh hc)).1 (hw c (Qh hc)).2 hn;rw[ars,Ui hc,Tv hc,Ud (by omega),cond_true,Option.bind_some,hb'];cases b
     .exact⟨_,rfl⟩
     .exact ih ())
   (fun m _ i hi=>by show∃r,acE n l (m+1) (i:Int)=some r;rw[ars,acP hi];exact⟨_,rfl⟩) l.length 0 n () (by omega) h
  have hr':acE n l n (0:Int)=some r:=hr;rw[cond_false,hr',Option.bind_some];cases r with
  |inr q=>exact⟨q,rfl⟩|inl q=>
   obtain⟨r,hr2⟩:=adr (L:=fun m (_:Unit) i=>acF n l m (i+1)) (l:=l.tail)
    (fun m i c _ hc ih=>by
      have hc':l[i+1]? =some c:=(by rw[List.getElem?_tail] at hc;exact hc);have hlt:=Vx hc';show∃r,acF n l (m+1) ((i:Int)+1)=some r;have ei:(i:Int)+1=((i+1:Nat):Int):=(by omega);have e0:wrap .i64 (((i+1:Nat):Int)-(1:Int))=(i:Int):=(by rw[IntKind.wrap_i64];omega);have hi0:l[i]? =some l[i]:=PZ (by omega);rw[ei,aru,Ui hc',Tv hc',Ud (by omega),e0,Tv hi0,cond_true,Option.bind_some,Option.bind_some];cases (Go.Op.bytesLess c l[i]||c==l[i])
      .have:=ih ();have e1:(((i+1:Nat):Int))+1=((i+1+1:Nat):Int):=(by omega);simp only[e1] at this;exact this
      .exact⟨_,rfl⟩)
    (fun m _ i hi=>by show∃r,acF n l (m+1) ((i:Int)+1)=some r;have ei:(i:Int)+1=((i+1:Nat):Int):=(by omega);rw[ei,aru,acP (by rw[List.length_tail] at hi;omega)];exact⟨_,rfl⟩) l.length 0 n () (by rw[List.length_tail];omega) h
   have hr2':acF n l n (1:Int)=some r:=hr2;rw[Sum.elim_inl,hr2',Option.bind_some];cases r with
   |inl q=>exact⟨0,rfl⟩|inr q=>exact⟨q,rfl⟩
 .exact⟨_,rfl⟩
theorem aBL {n:Nat}{d:Def}{x:List UInt8}(h:d.Name.length<n/\d.Name.length<2^62/\d.Words.length<n/\d.Words.length<2^62/\∀w∈d.Words,w.length<n/\w.length<2^62)(hn:6<n):∃e:Int,Xw n (d,x)=some e:=by obtain⟨b,hb⟩:=atC h.1 h.2.1 hn;obtain⟨e,he⟩:=aBK h.2.2.1 h.2.2.2.1 h.2.2.2.2 hn;rw[arw,hb];show∃e:Int,(bif !b then some (5:Int) else _)=some e;refine WX ⟨_,rfl⟩ (WX ⟨_,rfl⟩ (WX (WX ⟨_,rfl⟩ (WX ⟨_,rfl⟩ ⟨_,rfl⟩)) (WX (WX ⟨_,rfl⟩ ?_) ⟨_,rfl⟩)));rw[he];exact⟨e,rfl⟩
theorem aBM {n:Nat}{s:Ro}(h:adA s n)(hn:6<n):∃e:Int,Zx n s=some e:=by
 obtain⟨h1,h2,h3⟩:=h;obtain⟨b,hb⟩:=ahj (c:= !(bif decide (s.X8< (1:Int)) then true else decide (s.X8> (32:Int)))) (o:=XR n s.aaX) (d:=false) (fun _=>by rw[azK];exact⟨_,rfl⟩);obtain⟨r,hr⟩:=adr (L:=fun m (x:List UInt8) i=>abk n s m (x,i)) (l:=s.Defs)
  (fun m i d x hd ih=>by have hlt:=Vx hd;show∃r,abk n s (m+1) (x,(i:Int))=some r;obtain⟨e,he⟩:=aBL (x:=x) (h3 d (Qh hd)) hn;rw[ahR,Ui hd,Tv hd,Ud (by omega),cond_true,Option.bind_some,he];show∃r,(bif e !=(0:Int) then _ else _)=some r;exact WX ⟨_,rfl⟩ (ih _))
  (fun m x i hi=>by show∃r,abk n s (m+1) (x,(i:Int))=some r;rw[ahR,acP hi];exact⟨_,rfl⟩) s.Defs.length 0 n [] (by omega) h1
 have hr':abk n s n ([],(0:Int))=some r:=hr;rw[arz];show∃e:Int,Option.bind (VZ _ _ _) _=some e;rw[hb];show∃e:Int,(bif _ then some (1:Int) else _)=some e;refine WX ⟨_,rfl⟩ (WX ⟨_,rfl⟩ ?_);rw[hr',Option.bind_some];cases r with
 |inl q=>exact⟨0,rfl⟩|inr q=>exact⟨q,rfl⟩
theorem aBN {n:Nat}{s:Ro}{k:Int}(h:adA s n):∃b:Bool,Zq n (s,k)=some b:=by
 obtain⟨h1,h2,h3⟩:=h;obtain⟨r,hr⟩:=adr (L:=fun m (_:Unit) i=>acC n s k m i) (l:=s.Defs)
  (fun m i d _ hd ih=>by
    have hlt:=Vx hd;obtain⟨w1,w2,w3,w4,w5⟩:=h3 d (Qh hd);show∃r,acC n s k (m+1) (i:Int)=some r;obtain⟨r,hr⟩:=adr (L:=fun m (_:Unit) j=>acB n s k (i:Int) d m j) (l:=d.Words)
     (fun m j w _ hw ih=>by have hlt:=Vx hw;show∃r,acB n s k (i:Int) d (m+1) (j:Int)=some r;rw[arn,Ui hw,Tv hw,Ud (by omega),cond_true,Option.bind_some];exact WX ⟨_,rfl⟩ (ih ()))
     (fun m _ j hj=>by show∃r,acB n s k (i:Int) d (m+1) (j:Int)=some r;rw[arn,acP hj];exact⟨_,rfl⟩) d.Words.length 0 n () (by omega) w3
    have hr':acB n s k (i:Int) d n (0:Int)=some r:=hr;rw[aro,Ui hd,Tv hd,Ud (by omega),Option.bind_some,hr'];refine WX (WX ⟨_,rfl⟩ ?_) ⟨_,rfl⟩;cases r with
    |inl q=>exact ih ()|inr q=>exact⟨_,rfl⟩)
  (fun m _ i hi=>by show∃r,acC n s k (m+1) (i:Int)=some r;rw[aro,acP hi];exact⟨_,rfl⟩) s.Defs.length 0 n () (by omega) h1
 have hr':acC n s k n (0:Int)=some r:=hr;rw[azJ,hr',Option.bind_some];cases r with
 |inl q=>exact⟨_,rfl⟩|inr q=>exact⟨q,rfl⟩
def aaI (p:Pred):Bool:=
 if (p.Op<5/\p.Name≠[])\/(p.Op≠6/\(p.N≠0\/p.M≠0))\/(p.Op≠7/\p.S≠[]) then false else if p.N>p.M then false else if p.Op=2\/p.Op=3 then decide (p.Ra≠[]) else if p.Op=4 then decide (p.Ra.length=1) else decide (p.Ra=[])
theorem aBO {U:Type}(l:List U):((l.length:Int)==(0:Int))=decide (l=[]):=by
 cases l with
 |nil=>simp|cons a l=>simp<;>omega
theorem aBP (l:List UInt8):(l==[])=decide (l=[]):=by cases l<;>simp
theorem aBQ (n:Nat)(p:Pred):XF n p=some (aaI p):=by
 obtain⟨op,name,a,b,s,subs⟩:=p;rw[azZ];simp only[aBO,aBP];have key:(bif bif bif bif !(decide (op>=(5:Int))) then !(decide (name=[])) else false then true else bif op !=(6:Int) then bif a !=(0:Int) then true else b !=(0:Int) else false then true else bif op !=(7:Int) then !(decide (s=[])) else false then some false else bif bif bif decide (a>b) then true else bif bif op==(2:Int) then true else op==(3:Int) then decide (subs=[]) else false then true else bif op==(4:Int) then (subs.length:Int) !=(1:Int) else false then some false else some (bif bif bif op==(2:Int) then true else op==(3:Int) then true else op==(4:Int) then true else decide (subs=[])))=some (aaI ⟨op,name,a,b,s,subs⟩):=by
  unfold aaI;dsimp only;by_cases c1:(op<5/\name≠[])\/(op≠6/\(a≠0\/b≠0))\/(op≠7/\s≠[])
  .rw[if_pos c1];have:(bif bif bif !(decide (op>=(5:Int))) then !(decide (name=[])) else false then true else bif op !=(6:Int) then bif a !=(0:Int) then true else b !=(0:Int) else false then true else bif op !=(7:Int) then !(decide (s=[])) else false)=true:=by
    simp only[Bool.cond_true_right,Bool.cond_false_right,Bool.cond_true_left,QH,PD,decide_eq_true_iff,bne_iff_ne,QA,decide_eq_false_iff_not];rcases c1 with c|c|c
    .exact .inl (.inl ⟨by omega,c.2⟩)
    .exact .inl (.inr c)
    .exact .inr c
   rw[this];rfl
  .rw[if_neg c1];have:(bif bif bif !(decide (op>=(5:Int))) then !(decide (name=[])) else false then true else bif op !=(6:Int) then bif a !=(0:Int) then true else b !=(0:Int) else false then true else bif op !=(7:Int) then !(decide (s=[])) else false)=false:=by
    rw[Bool.eq_false_iff];intro h;simp only[Bool.cond_true_right,Bool.cond_false_right,Bool.cond_true_left,QH,PD,decide_eq_true_iff,bne_iff_ne,QA,decide_eq_false_iff_not] at h;rcases h with (h|h)|h
    .exact c1 (.inl ⟨by omega,h.2⟩)
    .exact c1 (.inr (.inl h))
    .exact c1 (.inr (.inr h))
   rw[this,cond_false];by_cases c2:a>b
   .rw[if_pos c2,decide_eq_true c2];rfl
   .rw[if_neg c2,decide_eq_false c2,cond_false];by_cases c3:op=2\/op=3
    .rw[if_pos c3];have h4:(op==(4:Int))=false:=(by rcases c3 with rfl|rfl<;>rfl);have:(bif op==(2:Int) then true else op==(3:Int))=true:=(by rcases c3 with rfl|rfl<;>rfl);rw[this,h4];by_cases hs:subs=[]<;>simp[hs]
    .rw[if_neg c3];have:(bif op==(2:Int) then true else op==(3:Int))=false:=(by rw[Bool.eq_false_iff];intro h;simp at h;exact c3 h);rw[this,cond_false];by_cases c4:op=4
     .rw[if_pos c4,c4];by_cases hl:subs.length=1
      .simp[hl]
      .have:((subs.length:Int) !=(1:Int))=true:=(by rw[bne_iff_ne];omega);rw[this];simp[hl]
     .rw[if_neg c4];have:(op==(4:Int))=false:=(by simpa using c4);rw[this];rfl
 exact key
theorem aBR {n:Nat}{s:Ro}{x:List UInt8}(h:s.Defs.length<n)(hb:s.Defs.length<2^62):XG n (s,x)=some (match s.Defs.find? (fun d=>d.Name==x) with|some d=>(d,true)|none=>(⟨[],0,0,0,[]⟩,false)):=by
 have:=adf (L:=fun m i=>afY n s.Defs x m i) (l:=s.Defs) (fun d i r=>bif d.Name==x then some (.inr (i:Int)) else r) (some (.inl ()))
  (fun m i d hd=>by have hlt:=Vx hd;rw[arN,Ui hd,Tv hd,Ud (by omega)];simp only[cond_true,Option.bind_some,az0];rfl)
  (fun m=>by rw[arN,U3];rfl) h
 rw[az2,az1,this,aeg (fun d:Def=>d.Name==x) (fun i=>(Sum.inr (i:Int):PUnit⊕Int)) (.inl ())];have hg:=ajP (fun d:Def=>d.Name==x) s.Defs;rw[<-hg];cases hf:s.Defs.findIdx? (fun d=>d.Name==x) with
 |none=>rfl|some j=>
  obtain⟨hj,_,_⟩:=List.findIdx?_eq_some_iff_getElem.1 hf;simp only[Option.bind_some,Sum.elim_inr,Qk];have e:decide (((j:Nat):Int)< (0:Int))=false:=by simp
  show (bif decide (((j:Nat):Int)< (0:Int)) then (some ((⟨[],(0:Int),(0:Int),(0:Int),[]⟩:Def),false):Option (Def×Bool)) else (Q5 s.Defs ((j:Nat):Int)).bind fun r4=>some (r4,true))=_;rw[e,cond_false,ajO,PZ hj];rfl
def Yf (s:Ro)(x:Pred):Option Int:=
 if x.Op<1\/x.Op>7 then some 1 else if aaI x=false then some 3 else if x.Op<5 then none else match s.Defs.find? (fun d=>d.Name==x.Name) with
 |none=>some 5|some d=>if (x.Op=6/\d.Kind≠1)\/(x.Op=7/\d.Kind≠2) then some 130 else none
def abq (s:Ro):List Pred->Option Int
 | []=>none|x::l=>match Yf s x with
  |some e=>some e|none=>abq s l
theorem atD {n:Nat}{s:Ro}(hd:s.Defs.length<n)(hdb:s.Defs.length<2^62):∀l:List Pred,aaG n s l ((),(0:Int))=some (match abq s l with|some e=>.inr ((),e)|none=>.inl ((),(0:Int)))
 | []=>az3 n s 0|x::l=>by
  have ih:=atD (n:=n) (s:=s) hd hdb l;have:=az4 n s x l (0:Int);rw[show aaG n s (x::l) ((),(0:Int))=_ from this,Pred.Sb];rw[abq];unfold Yf;by_cases c1:x.Op<1\/x.Op>7
  .rw[if_pos c1];have:(bif decide (x.Op< (1:Int)) then true else decide (x.Op> (7:Int)))=true:=by
    rcases c1 with c|c
    .rw[decide_eq_true c];rfl
    .rw[decide_eq_true c];cases decide (x.Op<1)<;>rfl
   rw[this];rfl
  .rw[if_neg c1];have:(bif decide (x.Op< (1:Int)) then true else decide (x.Op> (7:Int)))=false:=by rw[decide_eq_false (by omega),decide_eq_false (by omega)];rfl
   rw[this,cond_false];refine bs (aBQ n x) ?_;cases hform:aaI x
   .rw[if_pos rfl];rfl
   .rw[if_neg (by simp)];show (bif decide (x.Op< (5:Int)) then _ else _)=_;by_cases c2:x.Op<5
    .rw[if_pos c2,decide_eq_true c2,cond_true];exact ih
    .rw[if_neg c2,decide_eq_false c2,cond_false];refine bs (aBR hd hdb) ?_;cases hf:s.Defs.find? (fun d=>d.Name==x.Name) with
     |none=>rfl|some d=>
      dsimp only;have o:x.Op=5\/x.Op=6\/x.Op=7:=(by omega);have key:(bif bif bif x.Op==(6:Int) then d.Kind !=(1:Int) else false then true else bif x.Op==(7:Int) then d.Kind !=(2:Int) else false then some (.inr (((),(130:Int)))) else aaG n s l (((),(0:Int))))=(if (x.Op=6/\d.Kind≠1)\/(x.Op=7/\d.Kind≠2) then some (.inr (((),(130:Int)))) else aaG n s l (((),(0:Int)))):=by
       by_cases k1:d.Kind=1<;>by_cases k2:d.Kind=2<;>rcases o with o|o|o<;>simp[o,k1,k2]<;>first
        | (have h1:(d.Kind !=(1:Int))=true:=bne_iff_ne.2 (by omega);rw[h1];rfl)
        | (have h2:(d.Kind !=(2:Int))=true:=bne_iff_ne.2 (by omega);rw[h2];rfl)
      rw[show aaG n s l (((),(0:Int)))=_ from ih] at key⊢;refine key.trans ?_;by_cases c3:(x.Op=6/\d.Kind≠1)\/(x.Op=7/\d.Kind≠2)
      .rw[if_pos c3,if_pos c3]
      .rw[if_neg c3,if_neg c3]
theorem aeJ {n:Nat}{s:Ro}{p:Pred}(hp:Rq p<2^62)(hd:s.Defs.length<n)(hdb:s.Defs.length<2^62):
 Zh n (s,p)=some (if ((pre p).take 1000).length>64 then 2 else (abq s ((pre p).take 1000)).getD 0):=by
 rw[az5,Pred.Sb];refine bs (aA0 hp) ?_;show (bif decide ((((((pre p).take 1000).length:Nat):Int))> (64:Int)) then _ else _)=_;by_cases c:((pre p).take 1000).length>64
 .rw[if_pos c,decide_eq_true (by omega)];rfl
 .rw[if_neg c,decide_eq_false (by omega),cond_false];refine bs (aev n p) ?_;show ((Wv p.re).bind _).bind _=_;rw[Pred.Sb];have hlen:(pre p).length<=64:=by rw[Qc] at c;omega
  rw[aeD hp,Option.bind_some,atD hd hdb,Qs (by omega)];cases abq s (pre p)<;>rfl
end Sh
end
section
open Go Go.Proofs Aq Pq
namespace Sh
def aaJ (p:Pred):List Pred->List Pred
 | []=>[p]|q::l=>if SL p q<0 then p::q::l else if SL p q=0 then q::l else q::aaJ p l
def Vh (l:List Pred):List Pred:=l.foldr aaJ []
def SS (l:List Pred):Prop:=l.Pairwise fun x y=>SL x y<0
theorem aoq {x y z:Pred}(h:SL x y<0)(k:SL y z<0):SL x z<0:=by
 have h1:=as5.trans x y z (by omega) (by omega);rcases Int.lt_or_eq_of_le h1 with e|e
 .exact e
 .have e2:=adw x z e;subst e2;have:=WY x y;omega
theorem aor (p x:Pred):∀l:List Pred,x∈aaJ p l↔x=p\/x∈l
 | []=>by simp[aaJ]|q::l=>by
  unfold aaJ;split
  .simp
  .split
   .rename_i h;have:=adw p q h;subst this;simp
   .rw[PI,aor p x l,PI];constructor
    .rintro (h|h|h)
     .exact .inr (.inl h)
     .exact .inl h
     .exact .inr (.inr h)
    .rintro (h|h|h)
     .exact .inr (.inl h)
     .exact .inl h
     .exact .inr (.inr h)
theorem atE (p:Pred):∀l:List Pred,SS l->SS (aaJ p l)
 | [],_=>List.pairwise_singleton _ _|q::l,h=>by
  unfold SS at h;rw[List.pairwise_cons] at h;unfold aaJ;split
  .rename_i hlt;refine List.pairwise_cons.2 ⟨fun z hz=>?_,List.pairwise_cons.2 h⟩;rcases PI.1 hz with rfl|hz
   .exact hlt
   .exact aoq hlt (h.1 z hz)
  .split
   .exact List.pairwise_cons.2 h
   .rename_i h1 h2;refine List.pairwise_cons.2 ⟨fun z hz=>?_,atE p l h.2⟩;rcases (aor p z l).1 hz with rfl|hz
    .have:=WY z q;omega
    .exact h.1 z hz
theorem atF (p:Pred):∀l:List Pred,Sm (aaJ p l)<=Rq p+Sm l
 | []=>by simp[aaJ,Sm]|q::l=>by
  unfold aaJ;split
  .simp[Sm]
  .split
   .simp only[Sm];have:=Yu p;omega
   .have:=atF p l;simp only[Sm];omega
theorem agf (x:Pred):∀l:List Pred,x∈Vh l↔x∈l
 | []=>by simp[Vh]|p::l=>by show x∈aaJ p (Vh l)↔_;rw[aor,agf x l,PI]
theorem atG:∀l:List Pred,SS (Vh l)
 | []=>List.Pairwise.nil|p::l=>atE p _ (atG l)
theorem aos:∀l:List Pred,Sm (Vh l)<=Sm l
 | []=>mF _|p::l=>PE (atF p _) (by have:=aos l;show Rq p+Sm (Vh l)<=_;simp only[Sm];omega)
theorem aot {x:Pred}(h:SL x x<0):False:=by rw[aoc] at h;omega
theorem SS.uniq:∀{l m:List Pred},SS l->SS m->(∀x,x∈l↔x∈m)->l=m
 | [],[],_,_,_=>rfl| [],y::m,_,_,h=>absurd ((h y).2 (PG ..)) (by simp)|x::l,[],_,_,h=>absurd ((h x).1 (PG ..)) (by simp)|x::l,y::m,hl,hm,h=>by
  have hl':=List.pairwise_cons.1 hl;have hm':=List.pairwise_cons.1 hm;have e:x=y:=by
   rcases PI.1 ((h x).1 (PG ..)) with e|e
   .exact e
   .rcases PI.1 ((h y).2 (PG ..)) with e2|e2
    .exact e2.symm
    .exact(aot (aoq (hl'.1 y e2) (hm'.1 x e))).elim
  subst e;rw[SS.uniq hl'.2 hm'.2 fun z=>?_];constructor
  .intro hz;rcases PI.1 ((h z).1 (PK _ hz)) with e|e
   .subst e;exact(aot (hl'.1 z hz)).elim
   .exact e
  .intro hz;rcases PI.1 ((h z).2 (PK _ hz)) with e|e
   .subst e;exact(aot (hm'.1 z hz)).elim
   .exact e
theorem aBS {l m:List Pred}(hl:SS l)(h:∀x,x∈l↔x∈m):Vh m=l:=
 (atG m).uniq hl fun x=>(agf x m).trans (h x).symm
instance instDecEqPredS:DecidableEq Pred:=fun x y=>if h:SL x y=0 then isTrue (adw x y h) else isFalse fun e=>h (e▸aoc x)
def TB (x y:Pred):Bool:=SL x y==0
theorem aou:∀(l:List Pred)(p:Pred),(∀y∈l,SL p y<=0)->l.Pairwise (fun x y=>SL x y<=0)->(∀y∈SX TB p l,SL p y<0)/\SS (SX TB p l)/\∀x,x∈l->x=p\/x∈SX TB p l
 | [],p,_,_=>⟨fun y h=>(by simp[SX] at h),List.Pairwise.nil,fun x h=>(by simp at h)⟩
 |y::l,p,hp,hl=>by
  have hl':=List.pairwise_cons.1 hl;obtain⟨i1,i2,i3⟩:=aou l y hl'.1 hl'.2;have hpy:=hp y (PG ..);show (∀z∈(bif TB y p then SX TB y l else y::SX TB y l),_)/\SS (bif TB y p then SX TB y l else y::SX TB y l)/\∀x,x∈y::l->x=p\/x∈(bif TB y p then SX TB y l else y::SX TB y l);cases he:TB y p with
  |true=>
   have e:y=p:=adw y p (by simpa [TB] using he);subst e;refine⟨i1,i2,fun x hx=>?_⟩;rcases PI.1 hx with e|hx
   .exact .inl e
   .exact i3 x hx
  |false=>
   have hne:SL y p≠0:=by simpa [TB] using he
   have hlt:SL p y<0:=by have:=WY y p;omega
   refine⟨fun z hz=>?_,List.pairwise_cons.2 ⟨i1,i2⟩,fun x hx=>?_⟩
   .rcases PI.1 hz with rfl|hz
    .exact hlt
    .exact aoq hlt (i1 z hz)
   .rcases PI.1 hx with rfl|hx
    .exact .inr (PG ..)
    .rcases i3 x hx with rfl|h
     .exact .inr (PG ..)
     .exact .inr (PK _ h)
theorem aov (x:Pred):∀(l:List Pred)(p:Pred),x∈SX TB p l->x∈l
 | [],p,h=>h|y::l,p,h=>by
  have h':x∈(bif TB y p then SX TB y l else y::SX TB y l):=h;cases he:TB y p with
  |true=>rw[he] at h';exact PK _ (aov x l y h')|false=>
   rw[he] at h';rcases PI.1 h' with e|h'
   .rw[e];exact PG ..
   .exact PK _ (aov x l y h')
theorem aBT {l m:List Pred}(hp:m.Perm l)(hs:m.Pairwise fun x y=>¬SL y x<0):comp TB m=Vh l:=by
 have hs':m.Pairwise fun x y=>SL x y<=0:=hs.imp fun {x y} h=>by have:=WY x y;omega
 refine(aBS ?_ fun x=>?_).symm
 .cases m with
  |nil=>exact List.Pairwise.nil|cons y m=>have h:=List.pairwise_cons.1 hs';obtain⟨i1,i2,i3⟩:=aou m y h.1 h.2;exact List.pairwise_cons.2 ⟨i1,i2⟩
 .rw[<-hp.mem_iff];cases m with
  |nil=>rfl|cons y m=>
   have h:=List.pairwise_cons.1 hs';obtain⟨i1,i2,i3⟩:=aou m y h.1 h.2;constructor
   .intro hx;rcases PI.1 hx with e|hx
    .rw[e];exact PG ..
    .exact PK _ (aov x m y hx)
   .intro hx;rcases PI.1 hx with e|hx
    .rw[e];exact PG ..
    .rcases i3 x hx with e|h
     .rw[e];exact PG ..
     .exact PK _ h
def notP (p:Pred):Pred:=⟨4,[],0,0,[],[p]⟩
def WZ (b:Bool):Pred:=if b then ⟨1,[],0,0,[],[]⟩ else notP ⟨1,[],0,0,[],[]⟩
def VB (c:Int):Pred:=WZ (decide (c=2))
def absP (c:Int):Pred:=WZ (!decide (c=2))
def Z8 (c:Int)(y:Pred):List Pred:=if y.Op=c then y.Ra else if y=VB c then [] else [y]
def WC (c:Int)(ys:List Pred):List Pred:=ys.flatMap (Z8 c)
def atH (c:Int):List Pred->Pred
 | []=>VB c| [x]=>x|L=>⟨c,[],0,0,[],L⟩
noncomputable def aaK (c:Int)(ys:List Pred):Pred:=if absP c∈Vh (WC c ys) then absP c else atH c (Vh (WC c ys))
def Yg (op:Int)(o:Bool):Int:=if decide (op=2) !=o then 2 else 3
mutual
noncomputable def nf:Pred->Bool->Pred
 | ⟨op,name,a,b,s,subs⟩,o=>if op=4 then YE subs (!o) else if op=2\/op=3 then aaK (Yg op o) (Vi subs o) else if o then notP ⟨op,name,a,b,s,subs⟩ else ⟨op,name,a,b,s,subs⟩
noncomputable def Vi:List Pred->Bool->List Pred
 | [],_=>[]|p::l,o=>nf p o::Vi l o
noncomputable def YE:List Pred->Bool->Pred
 | [],o=>WZ o|p::_,o=>nf p o
end
theorem atI:∀(l:List Pred)(o:Bool),Vi l o=l.map fun x=>nf x o
 | [],_=>by rw[Vi];rfl|p::l,o=>by rw[Vi,atI l o];rfl
theorem atJ:∀l m:List Pred,Sm (l++m)=Sm l+Sm m
 | [],m=>by simp[Sm]|p::l,m=>by rw[List.cons_append];simp only[Sm,atJ l m];omega
theorem atK (c:Int)(y:Pred):Sm (Z8 c y)<=Rq y:=by
 unfold Z8;split
 .rw[abM];omega
 .split
  .exact Ql _
  .simp[Sm]
theorem aow (c:Int):∀ys:List Pred,Sm (WC c ys)<=Sm ys
 | []=>mF _|y::ys=>by show Sm (Z8 c y++WC c ys)<=_;rw[atJ];have:=atK c y;have:=aow c ys;simp only[Sm];omega
theorem ahZ (b:Bool):Rq (WZ b)<=2:=by cases b<;>decide
theorem aBU (c:Int)(ys:List Pred):Rq (aaK c ys)<=2\/Rq (aaK c ys)<=Sm ys+1:=by
 unfold aaK;split
 .exact .inl (ahZ _)
 .have h1:=aos (WC c ys);have h2:=aow c ys;generalize Vh (WC c ys)=L at*
  match L with
  | []=>exact .inl (ahZ _)| [x]=>right;show Rq x<=_;simp only[Sm] at h1;omega|x::y::L=>right;show Rq ⟨c,[],0,0,[],x::y::L⟩<=_;rw[Rq];omega
mutual
theorem ah0:∀(p:Pred)(o:Bool),Rq (nf p o)<=2*Rq p
 | ⟨op,name,a,b,s,subs⟩,o=>by
   rw[nf];split
   .have:=aBV subs (!o);rw[Rq];omega
   .split
    .have:=aox subs o;rw[Rq];rcases aBU (Yg op o) (Vi subs o) with h|h<;>omega
    .split
     .have:=Yu ⟨op,name,a,b,s,subs⟩;show Rq (notP _)<=_;unfold notP;rw[Rq];simp only[Sm];omega
     .omega
theorem aox:∀(l:List Pred)(o:Bool),Sm (Vi l o)<=2*Sm l
 | [],o=>by rw[Vi];exact mF _|p::l,o=>by rw[Vi];have:=ah0 p o;have:=aox l o;simp only[Sm];omega
theorem aBV:∀(l:List Pred)(o:Bool),Rq (YE l o)<=2*Sm l+2
 | [],o=>by rw[YE];exact ahZ o|p::l,o=>by rw[YE];have:=ah0 p o;simp only[Sm];omega
end
end Sh
end
