import Derived.Test.YtgdialomgeijcaaGreatF3628
set_option linter.all false
open Go.IntKind (wrap)
section
open Go Aq
namespace Pq
variable {U:Type}
section
variable {n:Nat}(d:U){z:U}{b:Int}{e:U->U->Bool}{sm:U->U->Option Bool}(hs:∀a c,sm a c=some (e a c)){C9:Int->Nat->((Int×Int)×List U)->Option (Int×List U)}{C4:Nat->(Int×List U)->Option ((PUnit×List U)⊕((Int×Int)×List U))}(h9:∀(x2:Int) (m:Nat) (x7 x8:Int) (x9:List U),C9 x2 (m+1) ((x7,x8),x9)=bif decide (x8< (((Int.toNat (((0:Int)+(b-(0:Int)))-((0:Int)+x2)):Nat):Int))) then bif UK x8 (((0:Int)+(b-(0:Int)))-((0:Int)+x2)) then (Fb x9 (((0:Int)+x2)+x8)).bind fun (RZ:U)=>bif UK (wrap .i64 (x8-(1:Int))) (((0:Int)+(b-(0:Int)))-((0:Int)+x2)) then (Fb x9 (((0:Int)+x2)+(wrap .i64 (x8-(1:Int))))).bind fun (Rw:U)=>(sm RZ Rw).bind fun (Te:Bool)=>bif !Te then bif UK x8 (((0:Int)+(b-(0:Int)))-((0:Int)+x2)) then (Fb x9 (((0:Int)+x2)+x8)).bind fun (RQ:U)=>bif UK x7 (b-(0:Int)) then (Fb x9 ((0:Int)+x7)).bind fun (Tq:U)=>
         C9 x2 m (((wrap .i64 (x7+(1:Int)),wrap .i64 (x8+(1:Int))),Rc x9 ((0:Int)+x7) RQ))else none else none else C9 x2 m (((x7,wrap .i64 (x8+(1:Int))),x9))else none else none else some ((x7,x9)))(h4:∀(m:Nat) (x2:Int) (x3:List U),C4 (m+1) (x2,x3)=bif decide (x2< (((Int.toNat (b-(0:Int)):Nat):Int))) then bif UK x2 (b-(0:Int)) then (Fb x3 ((0:Int)+x2)).bind fun (r4:U)=>bif UK (wrap .i64 (x2-(1:Int))) (b-(0:Int)) then (Fb x3 ((0:Int)+(wrap .i64 (x2-(1:Int))))).bind fun (r5:U)=>(sm r4 r5).bind fun (r6:Bool)=>bif r6 then bif VE x2 (b-(0:Int)) (b-(0:Int)) then (C9 x2 n (((x2,(1:Int)),x3))).bind fun (Ti:Int×List U)=>bif VE Ti.1 (b-(0:Int)) (b-(0:Int)) then bif VE (0:Int) Ti.1 (b-(0:Int)) then some (.inr ((((0:Int)+(0:Int),(0:Int)+Ti.1),U3 Ti.2 ((0:Int)+Ti.1) ((0:Int)+(b-(0:Int))) z)))else none else none else none else C4 m ((wrap .i64 (x2+(1:Int)),x3))else none else none else some (.inl (((),x3))))
include d hs h9
theorem O8 {l:List U}{k:Int}{m:Nat}(hk:1<=k)(hkl:k<b)(hbl:b<=l.length)(hb:b<2^57)(h0:l.take k.toNat=comp e (l.take (k.toNat+1)))(hm:b.toNat<m):
 ∃r,C9 k m ((k,1),l)=some r/\k<=r.1/\r.1<=b/\r.2.length=l.length/\r.2.take r.1.toNat=comp e (l.take b.toNat):=by
 refine mu (τ:=(Int×Int)×List U) (L:=C9 k) (fun p=>1<=p.1.2/\p.1.2<=b-k/\k<=p.1.1/\p.1.1<=k+p.1.2-1/\p.2.length=l.length/\(∀j,k+p.1.2-1<=j->j<l.length->gI d p.2 j=gI d l j)/\p.2.take p.1.1.toNat=comp e (l.take (k+p.1.2).toNat)) (fun p=>(b-p.1.2).toNat) _ ?_ m ((k,1),l)
  ⟨PZ _,by dsimp only;omega,PZ _,by dsimp only;omega,rfl,fun j _ _=>rfl,by rw[show (k+1).toNat=k.toNat+1 by omega];exact h0⟩ (by dsimp only;omega)
 rintro m ⟨⟨w,q⟩,D⟩ ⟨i1,i2,i3,i4,i5,i6,i7⟩ aJ;dsimp only at i1 i2 i3 i4 i5 i6 i7 aJ⊢;rw[h9];simp only[Int.zero_add,Int.sub_zero,UK];simp (disch:=omega) only[wr];refine tD (fun hq=>?_) (fun hq=>tS ⟨i3,by omega,i5,?_⟩)
 .refine tG (decide_eq_true (by omega)) (tE (aB d (by omega) (by omega)) (tG (decide_eq_true (by omega)) (tE (aB d (by omega) (by omega)) ?_)));have g1:gI d D (k+q)=gI d l (k+q):=i6 _ (by omega) (by omega);have g2:gI d D (k+(q-1))=gI d l (k+q-1):=by rw[show k+(q-1)=k+q-1 by omega];exact i6 _ (by omega) (by omega)
  rw[g1,g2];refine tE (hs _ _) ?_;have hct:=tH e d (l:=l) (k:=(k+q).toNat) (by omega) (by omega);rw[show (((k+q).toNat:Nat):Int)=k+q by omega,<-i7] at hct;cases he:e (gI d l (k+q)) (gI d l (k+q-1)) with
  |false=>
   rw[he,cond_false] at hct;rw[Bool.not_false,cond_true];refine tG (decide_eq_true (by omega)) (tE (aB d (by omega) (by omega)) (tG (decide_eq_true (by omega)) (tE (aB d (by omega) (by omega)) ?_)));rw[g1];refine aJ ((w+1,q+1),Rc D w (gI d l (k+q))) ⟨by dsimp only;omega,by dsimp only;omega,by dsimp only;omega,by dsimp only;omega,by dsimp only;rw[ay,i5],fun j j1 j2=>?_,?_⟩ (by dsimp only;omega)
   .dsimp only at j1⊢;rw[tF (by omega) (by omega) (by omega),if_neg (by omega)];exact i6 j (by omega) j2
   .dsimp only;rw[E9 (by omega) (by omega),show (k+(q+1)).toNat=(k+q).toNat+1 by omega,hct]
  |true=>rw[he,cond_true] at hct;rw[Bool.not_true,cond_false];refine aJ ((w,q+1),D) ⟨by dsimp only;omega,by dsimp only;omega,i3,by dsimp only;omega,i5,fun j j1 j2=>i6 j (by dsimp only at j1;omega) j2,?_⟩ (by dsimp only;omega);dsimp only;rw[show (k+(q+1)).toNat=(k+q).toNat+1 by omega,hct]
 .dsimp only;rw[i7,show (k+q).toNat=b.toNat by omega]
include h4
theorem av4 {l:List U}(h2:2<=b)(hbl:b<=l.length)(hb:b<2^57)(hn:b.toNat<n):
 ∃s,C4 n (1,l)=some s/\Sum.elim (fun q:PUnit×List U=>q.2=l/\comp e (l.take b.toNat)=l.take b.toNat) (fun q:(Int×Int)×List U=>q.1.1=0/\0<=q.1.2/\q.1.2<=q.2.length/\q.2.take q.1.2.toNat=comp e (l.take b.toNat)) s:=by
 refine mu (τ:=Int×List U) (L:=C4) (fun p=>1<=p.1/\p.1<=b/\p.2=l/\comp e (l.take p.1.toNat)=l.take p.1.toNat) (fun p=>(b-p.1).toNat) _ ?_ n (1,l) ⟨PZ _,by dsimp only;omega,rfl,?_⟩ (by dsimp only;omega)
 .rintro m ⟨k,D⟩ ⟨i1,i2,i3,i4⟩ aJ;dsimp only at i1 i2 i3 i4 aJ⊢;subst i3;rw[h4];simp only[Int.zero_add,Int.sub_zero,VE,UK];simp (disch:=omega) only[wr];refine tD (fun hk=>?_) (fun hk=>tS ⟨rfl,?_⟩)
  .refine tG (decide_eq_true (by omega)) (tE (aB d (by omega) (by omega)) (tG (decide_eq_true (by omega)) (tE (aB d (by omega) (by omega)) (tE (hs _ _) ?_))));have hct:=tH e d (l:=D) (k:=k.toNat) (by omega) (by omega);rw[show (k.toNat:Int)=k by omega] at hct;cases he:e (gI d D k) (gI d D (k-1)) with
   |true=>rw[he,cond_true] at hct;rw[cond_true];refine tG (decide_eq_true (by omega)) ?_;refine tB (O8 (d:=d) hs h9 (l:=D) (k:=k) i1 (by omega) hbl hb (by rw[hct,i4]) hn) fun r=>?_;rintro⟨r1,r2,r3,r4⟩;refine tG (decide_eq_true (by omega)) ?_;have hcl:(U3 r.2 r.1 b z).length=r.2.length:=(by unfold U3;rw[PK,PK,Qa,List.length_replicate,QJ];omega);refine tG (decide_eq_true (by omega)) (tS ⟨rfl,by dsimp only;omega,by dsimp only;rw[hcl];omega,?_⟩);dsimp only;unfold U3;rw[QV (by rw[Qa];omega),List.take_take,Nat.min_self];exact r4
   |false=>rw[he,cond_false] at hct;rw[cond_false];refine aJ (k+1,D) ⟨by dsimp only;omega,by dsimp only;omega,rfl,?_⟩ (by dsimp only;omega);dsimp only;rw[show (k+1).toNat=k.toNat+1 by omega,hct,i4];have hlt:k.toNat<D.length:=(by omega);have eg:gI d D k=D[k.toNat]:=(by unfold gI;rw[PX hlt];rfl);rw[eg,List.take_append_getElem hlt]
  .rw[show k.toNat=b.toNat by omega] at i4;exact i4
 .dsimp only
  match l,hbl with
  | [],hbl=>simp at hbl;omega|x::l,_=>rfl
end
end Pq
end
section
open Go Go.Proofs Aq Pq
namespace Sh
theorem WX {a k:Nat}(h:a<2^30)(hk:k<=4096):R7 a k=true:=by
 unfold R7;have h1:a*k<=2^30*4096:=Nat.mul_le_mul (Nat.le_of_lt h) hk;have:a<=2^47:=by omega
 have:a*k<=2^47:=by omega
 simp[*]
theorem aez {nm:List UInt8}{x:Pred}{l:List Pred}(h:Ul nm x=true):(x::l).filter (Ul nm)=x::l.filter (Ul nm):=by rw[List.filter_cons,if_pos h]
theorem aeA {nm:List UInt8}{x:Pred}{l:List Pred}(h:Ul nm x=false):(x::l).filter (Ul nm)=l.filter (Ul nm):=by rw[List.filter_cons,if_neg (by rw[h];simp)]
theorem alb {n:Nat}{v:Int}{nm:List UInt8}{a b c:Int}{ws:List (List UInt8)}:∀(l:List Pred)(acc:List Bool),acc.length+l.length<2^30->aaA n v nm a b c ws l ((),acc)=some ((),acc++S9 nm l v)
 | [],acc,_=>by rw[auZ];unfold S9;simp|x::l,acc,h=>by
  simp only[List.length_cons] at h;rw[au0];change (bif Ul nm x then (bif R7 (acc.length+1) 1 then aaA n v nm a b c ws l ((),acc++[VA x v]) else none) else aaA n v nm a b c ws l ((),acc))=_;cases hx:Ul nm x with
  |true=>rw[cond_true,WX (by omega) (by omega),cond_true,alb l (acc++[VA x v]) (by rw[PK,List.length_singleton];omega)];unfold S9;rw[aez hx,Qc];rfl|false=>rw[cond_false,alb l acc (by omega)];unfold S9;rw[aeA hx]
theorem aoU {n:Nat}{v:Int}{d:Def}{p:Pred}(h:RA p<2^30):Zw n (v,((p.Op,(p.Name,(p.N,(p.M,(p.S,p.Rj))))),(d.Name,(d.Kind,(d.Lo,(d.Hi,d.Words))))))=some (S9 d.Name (pre p) v):=by rw[au1];refine bs (acV n _) ?_;show ((VN p.re).bind _).bind _=_;rw[Pred.Sr,ac0 (by omega),Option.bind_some];have:=alb (n:=n) (v:=v) (nm:=d.Name) (a:=d.Kind) (b:=d.Lo) (c:=d.Hi) (ws:=d.Words) (pre p) [] (by rw[WV];simpa using h);exact bs this rfl
theorem av5 {n:Nat}{a b:List Bool}(hl:a.length=b.length)(hb:a.length<2^62):∀(k i m:Nat),i+k=a.length->k<m->ael n a b m (i:Int)=some (if a.drop i=b.drop i then .inl () else .inr false):=by
 intro k;induction k with
 |zero=>
  intro i m hi hm;obtain⟨m,rfl⟩:∃m',m=m'+1:=⟨m-1,by omega⟩;obtain rfl:i=a.length:=by omega
  rw[aon,Uj,cond_false,List.drop_length,hl,List.drop_length];rfl
 |succ k ih=>
  intro i m hi hm;obtain⟨m,rfl⟩:∃m',m=m'+1:=⟨m-1,by omega⟩;have h1:i<a.length:=by omega
  have h2:i<b.length:=by omega
  have x1:a[i]? =some a[i]:=PX h1;have x2:b[i]? =some b[i]:=PX h2;rw[aon,TH x1,cond_true];refine bs (Td x1) (bs (Td x2) ?_);rw[TA (by omega),ih (i+1) m (by omega) (by omega),Qd h1,Qd h2];by_cases e:a[i]=b[i]
  .have:(a[i]==b[i])=true:=by simpa using e
   rw[this];simp only[Bool.not_true,cond_false,e,Qb,true_and]
  .have:(a[i]==b[i])=false:=by simpa using e
   rw[this];simp only[Bool.not_false,cond_true,e,Qb,false_and,if_false]
theorem av6 {n:Nat}{a b:List Bool}(hl:a.length=b.length)(hb:a.length<2^62)(hn:a.length<n):ZH n (a,b)=some (a==b):=by
 rw[au2];have e:((a.length:Int) !=(b.length:Int))=false:=by rw[hl];simp
 rw[e,cond_false];refine bs (av5 hl hb a.length 0 n (by omega) hn) ?_;rw[Qt,Qt];by_cases h:a=b
 .rw[if_pos h,h];simp
 .rw[if_neg h];have:(a==b)=false:=by simpa using h
  rw[this];rfl
theorem av7 (nm:List UInt8)(l:List Pred)(a b:Int):(S9 nm l a).length=(S9 nm l b).length:=by unfold S9;rw[PY,PY]
theorem av8 (nm:List UInt8)(l:List Pred)(a:Int):(S9 nm l a).length<=l.length:=by unfold S9;rw[PY];exact List.length_filter_le _ _
theorem av9 {n:Nat}{v w:Int}{d:Def}{p:Pred}(h:RA p<2^30)(hn:RA p<n):Xb n (v,(w,((),((p.Op,(p.Name,(p.N,(p.M,(p.S,p.Rj))))),(d.Name,(d.Kind,(d.Lo,(d.Hi,d.Words))))))))=some (S9 d.Name (pre p) v==S9 d.Name (pre p) w):=by rw[au3];have hle:=av8 d.Name (pre p) v;rw[WV] at hle;exact bs (aoU h) (bs (aoU h) (bs (av6 (av7 ..) (by omega) (by omega)) rfl))
theorem aoV {n:Nat}{d:Def}{p:Pred}(hlo: -(2^40)<=d.Lo)(hhi:d.Hi<=2^40):∀(l:List Pred)(acc:List Int),acc.length+2*l.length<2^30->Z7 n d p l ((),((),acc))=some ((),((),acc++TM d l))
 | [],acc,_=>by rw[au9];unfold TM;simp|x::l,acc,h=>by
  simp only[List.length_cons] at h;have ih:=fun acc h=>aoV (n:=n) (p:=p) hlo hhi l acc h;rw[ava];have e:(bif x.Op !=(6:Int) then true else !(x.Name==d.Name))= !(Ul d.Name x):=by unfold Ul;cases h1:x.Op==(6:Int)<;>simp[bne,h1]
  rw[e];cases hx:Ul d.Name x with
  |false=>rw[Bool.not_false,cond_true,ih acc (by omega)];unfold TM;rw[aeA hx]|true=>
   rw[Bool.not_true,cond_false];have ec:TM d (x::l)=Z8 d x++TM d l:=by unfold TM;rw[aez hx,P9]
   rw[ec];unfold Z8;cases h1:(bif decide (x.N>d.Lo) then decide (x.N<=d.Hi) else false)<;>cases h2:(bif decide (x.M>=d.Lo) then decide (x.M<d.Hi) else false)
   .simp only[cond_false];rw[ih acc (by omega)];simp
   .simp only[cond_false,cond_true];have hw:wrap .i64 (x.M+(1:Int))=x.M+1:=by
     have:d.Lo<=x.M/\x.M<d.Hi:=by
      by_cases a:x.M>=d.Lo
      .rw[decide_eq_true a,cond_true] at h2;exact⟨a,of_decide_eq_true h2⟩
      .rw[decide_eq_false a] at h2;cases h2
     rw[IntKind.wrap_i64];omega
    rw[hw];refine(show (bif R7 (acc.length+1) 8 then _ else none)=_ from ?_);rw[WX (by omega) (by omega),cond_true,ih _ (by rw[PK,List.length_singleton];omega)];simp
   .simp only[cond_false,cond_true];refine(show (bif R7 (acc.length+1) 8 then _ else none)=_ from ?_);rw[WX (by omega) (by omega),cond_true,ih _ (by rw[PK,List.length_singleton];omega)];simp
   .simp only[cond_true];have hw:wrap .i64 (x.M+(1:Int))=x.M+1:=by
     have:d.Lo<=x.M/\x.M<d.Hi:=by
      by_cases a:x.M>=d.Lo
      .rw[decide_eq_true a,cond_true] at h2;exact⟨a,of_decide_eq_true h2⟩
      .rw[decide_eq_false a] at h2;cases h2
     rw[IntKind.wrap_i64];omega
    rw[hw];refine(show (bif R7 (acc.length+1) 8 then (bif R7 ((acc++[x.N]).length+1) 8 then _ else none) else none)=_ from ?_);rw[WX (by omega) (by omega),cond_true,WX (by rw[PK,List.length_singleton];omega) (by omega),cond_true,ih _ (by simp only[PK,List.length_singleton];omega)];simp
theorem awc {n:Nat}{d:Def}{p:Pred}(h:RA p<2^30)(hn:RA p<n){l:List Int}{b:Int}(h0:0<=b)(hb:b<=l.length)(hl:b<2^57)(hln:b.toNat<n):
 ∃r:(Int×Int)×List Int,ZQ n (d,(p,((0:Int),b))) l=some r/\r.1.1=0/\0<=r.1.2/\r.2.take r.1.2.toNat=comp (fun a c=>S9 d.Name (pre p) a==S9 d.Name (pre p) c) (l.take b.toNat):=by
 rw[au8];refine tB (Q:=fun r=>r.1.1=0/\0<=r.1.2/\r.2.1.take r.1.2.toNat=comp (fun a c=>S9 d.Name (pre p) a==S9 d.Name (pre p) c) (l.take b.toNat)) ?_ fun r hr=>tS hr;refine tQ (au6 ..) ?_;refine tD (fun h2=>tS ⟨rfl,h0,?_⟩) (fun h2=>?_)
 .dsimp only;have:(l.take b.toNat).length<=1:=by rw[Qa];omega
  generalize l.take b.toNat=q at*
  match q,this with
  | [],_=>rfl| [x],_=>rfl|x::y::q,h=>simp at h
 have key:=av4 (n:=n) (0:Int) (z:=(0:Int)) (b:=b) (e:=fun a c=>S9 d.Name (pre p) a==S9 d.Name (pre p) c) (sm:=fun a c=>Xb n (a,(c,((),((p.Op,(p.Name,(p.N,(p.M,(p.S,p.Rj))))),(d.Name,(d.Kind,(d.Lo,(d.Hi,d.Words)))))))))
  (fun a c=>av9 h hn)
  (C9:=acX n 0 b p.Op p.Name p.N p.M p.S p.Rj d.Name d.Kind d.Lo d.Hi d.Words)
  (C4:=aem n 0 b p.Op p.Name p.N p.M p.S p.Rj d.Name d.Kind d.Lo d.Hi d.Words)
  (by intros;refine Eq.trans (au4 ..) ?_;rfl) (by intros;refine Eq.trans (au5 ..) ?_;rfl) (l:=l) (by omega) hb hl hln
 refine tB key fun s hs=>?_;rcases s with q|q
 .obtain⟨e1,e2⟩:=hs;refine tS ⟨rfl,h0,?_⟩;dsimp only;rw[e1,e2]
 .obtain⟨e1,e2,_,e4⟩:=hs;exact tS ⟨e1,e2,e4⟩
theorem awd {n:Nat}(hn:800<n){l:List Int}(hl:l.length<512):∃r:(Int×Int)×List Int,Zg n () l=some r/\r.1.1=0/\0<=r.1.2/\r.1.2<=r.2.length/\r.2.take r.1.2.toNat=comp (fun a b=>a==b) l:=by
 have h:=avw (n:=n) (0:Int) (z:=(0:Int)) (e:=fun a b:Int=>a==b) (Ok:=fun _:Int=>True) (sm:=fun p:Int×Int=>some (p.1==p.2)) (fun a b _ _=>rfl) (C9:=acW n) (C4:=aek n) (cpt:=fun _ l=>Zg n () l)
  (by intros;refine Eq.trans (auW ..) ?_;rfl) (by intros;refine Eq.trans (auX ..) ?_;rfl) (by intros;refine Eq.trans (auY ..) ?_;rfl) (l:=l) (by omega) (fun _ _=>trivial) (by omega)
 exact h
theorem awe {e:Int->Int->Bool}:∀l:List Int,(comp e l).length<=l.length:=by
 have g:∀(l:List Int)(p:Int),(TB e p l).length<=l.length:=by
  intro l;induction l with
  |nil=>intro p;exact mF _|cons y l ih=>
   intro p;show (bif e y p then TB e y l else y::TB e y l).length<=_;have:=ih y;cases e y p
   .rw[cond_false,List.length_cons,List.length_cons];omega
   .rw[cond_true,List.length_cons];omega
 intro l;cases l with
 |nil=>exact mF _|cons y l=>show (y::TB e y l).length<=_;rw[List.length_cons,List.length_cons];have:=g l y;omega
theorem af9 (d:Def):∀l:List Pred,(TM d l).length<=2*l.length
 | []=>by unfold TM;simp|x::l=>by
  have ih:=af9 d l;rw[List.length_cons];cases hx:Ul d.Name x with
  |false=>unfold TM at*;rw[aeA hx];omega|true=>
   unfold TM at*;rw[aez hx,P9,PK];have:(Z8 d x).length<=2:=by unfold Z8;rw[PK];cases (bif decide (x.N>d.Lo) then decide (x.N<=d.Hi) else false)<;>cases (bif decide (x.M>=d.Lo) then decide (x.M<d.Hi) else false)<;>simp
   omega
theorem awf {n:Nat}(hn:800<n){d:Def}{p:Pred}(hlo: -(2^40)<=d.Lo)(hhi:d.Hi<=2^40)(h:RA p<=240):
 ∃S:List Int,(d.Lo::S).Pairwise (· < ·)/\(∀x,x∈S↔x∈TM d (pre p))/\Zv n (d,p)=some (d.Lo::RS (S9 d.Name (pre p)) S):=by
 have hcl:=af9 d (pre p);rw[WV] at hcl;have hR:=aoV (n:=n) (d:=d) (p:=p) hlo hhi (pre p) [d.Lo] (by rw[WV];simp;omega);have hlen:([d.Lo]++TM d (pre p)).length<512:=by rw[PK,List.length_singleton];omega
 obtain⟨r1,s1,s2,s3⟩:=av3 hn hlen;have hl1:r1.2.length<512:=by rw[s2.length_eq];exact hlen
 obtain⟨r2,c1,c2,c3,c4,c5⟩:=awd hn hl1;obtain⟨a1,a2⟩:=avC s3;have hmem:∀x,x∈comp (fun a b=>a==b) r1.2↔x=d.Lo\/x∈TM d (pre p):=fun x=>by rw[a2,s2.mem_iff];simp
 have hhd:∃S,comp (fun a b=>a==b) r1.2=d.Lo::S:=by
  cases hc:comp (fun a b=>a==b) r1.2 with
  |nil=>have:=(hmem d.Lo).2 (.inl rfl);rw[hc] at this;cases this|cons y S=>
   have hy:=(hmem y).1 (by rw[hc];exact PN ..);rcases hy with rfl|hy
   .exact⟨S,rfl⟩
   .have:=(hmem d.Lo).2 (.inl rfl);rw[hc] at this a1;rcases PI.1 this with e|hm
    .exact⟨S,by rw[<-e]⟩
    .have h1:=(List.pairwise_cons.1 a1).1 _ hm;have h2:=(aeu hy).1;omega
 obtain⟨S,hS⟩:=hhd;rw[hS] at a1 hmem;have hSm:∀x,x∈S↔x∈TM d (pre p):=fun x=>by
  constructor
  .intro hx;rcases (hmem x).1 (PV _ hx) with rfl|h
   .have:=(List.pairwise_cons.1 a1).1 _ hx;omega
   .exact h
  .intro hx;rcases PI.1 ((hmem x).2 (.inr hx)) with rfl|h
   .have:=(aeu hx).1;omega
   .exact h
 refine⟨S,a1,hSm,?_⟩;have hb:r2.1.2.toNat<512:=by
  have h1:(r2.2.take r2.1.2.toNat).length=r2.1.2.toNat:=by rw[Qa];omega
  rw[c5] at h1;have:=awe (e:=fun a b=>a==b) r1.2;omega
 obtain⟨r3,m1,m2,m3,m4⟩:=awc (n:=n) (d:=d) (p:=p) (by omega) (by omega) (l:=r2.2) (b:=r2.1.2) c3 c4 (by omega) (by omega);rw[avb];refine bs (acV n _) ?_;show ((VN p.re.re).bind _).bind _=_;rw[Pred.Sr,Pred.Sr,ac0 (by omega),Option.bind_some];refine bs hR ?_;refine bs s1 ?_;refine bs c1 ?_;have e0:(r2.1.1,r2.1.2)=((0:Int),r2.1.2):=by rw[c2]
 refine bs (show ZQ n (d,(p,(r2.1.1,r2.1.2))) r2.2=some r3 from ?_) ?_
 .rw[e0];exact m1
 .have e1:Yy r3.2 r3.1.1 r3.1.2=r3.2.take r3.1.2.toNat:=by unfold Yy;rw[m2];rfl
  rw[e1,m4,c5,hS];rw[avy (hi:=d.Hi) a1 (fun x hx=>(aeu ((hSm x).1 hx)).2) fun v h1 h2 h3=>(hSm v).2 (avx h1 h2 h3)]
end Sh
end
section
open Go Go.Proofs Aq Pq
namespace Sh
def aac (p:Int):List Int->List Int
 | []=>[p]|y::l=>if p<y then p::y::l else if p=y then y::l else y::aac p l
def XY:List Int->List Int
 | []=>[]|x::l=>aac x (XY l)
theorem ald (p x:Int):∀l:List Int,x∈aac p l↔x=p\/x∈l
 | []=>by simp[aac]|y::l=>by
  unfold aac;by_cases h1:p<y
  .rw[if_pos h1,PI]
  .rw[if_neg h1];by_cases h2:p=y
   .rw[if_pos h2,h2];simp
   .rw[if_neg h2,PI,ald p x l,PI];constructor
    .rintro (h|h|h)
     .exact .inr (.inl h)
     .exact .inl h
     .exact .inr (.inr h)
    .rintro (h|h|h)
     .exact .inr (.inl h)
     .exact .inl h
     .exact .inr (.inr h)
theorem aoW (p:Int):∀l:List Int,l.Pairwise (· < ·)->(aac p l).Pairwise (· < ·)
 | [],_=>by simp[aac]|y::l,h=>by
  have h':=List.pairwise_cons.1 h;unfold aac;by_cases h1:p<y
  .rw[if_pos h1];refine List.pairwise_cons.2 ⟨fun x hx=>?_,h⟩;rcases PI.1 hx with rfl|hx
   .exact h1
   .have:=h'.1 x hx;omega
  .rw[if_neg h1];by_cases h2:p=y
   .rw[if_pos h2];exact h
   .rw[if_neg h2];refine List.pairwise_cons.2 ⟨fun x hx=>?_,aoW p l h'.2⟩;rcases (ald p x l).1 hx with rfl|hx
    .omega
    .exact h'.1 x hx
theorem aga (x:Int):∀l:List Int,x∈XY l↔x∈l
 | []=>Iff.rfl|y::l=>by unfold XY;rw[ald,aga x l,PI]
theorem ale:∀l:List Int,(XY l).Pairwise (· < ·)
 | []=>.nil|y::l=>aoW y _ (ale l)
theorem aoX:∀{l m:List Int},l.Pairwise (· < ·)->m.Pairwise (· < ·)->(∀x,x∈l↔x∈m)->l=m
 | [],[],_,_,_=>rfl| [],y::m,_,_,h=>by have:=(h y).2 (PN ..);cases this|x::l,[],_,_,h=>by have:=(h x).1 (PN ..);cases this|x::l,y::m,hl,hm,h=>by
  have hl':=List.pairwise_cons.1 hl;have hm':=List.pairwise_cons.1 hm;have e:x=y:=by
   rcases PI.1 ((h x).1 (PN ..)) with e|h1
   .exact e
   .rcases PI.1 ((h y).2 (PN ..)) with e|h2
    .exact e.symm
    .have:=hl'.1 _ h2;have:=hm'.1 _ h1;omega
  subst e;congr 1;refine aoX hl'.2 hm'.2 fun z=>?_;constructor
  .intro hz;rcases PI.1 ((h z).1 (PV _ hz)) with rfl|h1
   .have:=hl'.1 _ hz;omega
   .exact h1
  .intro hz;rcases PI.1 ((h z).2 (PV _ hz)) with rfl|h1
   .have:=hm'.1 _ hz;omega
   .exact h1
def abl (d:Def)(l:List Pred):List Int:=d.Lo::RS (S9 d.Name l) (XY (TM d l))
theorem awg {d:Def}{l:List Pred}:(d.Lo::XY (TM d l)).Pairwise (· < ·):=List.pairwise_cons.2 ⟨fun x hx=>(aeu ((aga x _).1 hx)).1,ale _⟩
theorem awh {n:Nat}(hn:800<n){d:Def}{p:Pred}(hlo: -(2^40)<=d.Lo)(hhi:d.Hi<=2^40)(h:RA p<=240):Zv n (d,p)=some (abl d (pre p)):=by
 obtain⟨S,h1,h2,h3⟩:=awf hn hlo hhi h;rw[h3];have e:S=XY (TM d (pre p)):=aoX (List.pairwise_cons.1 h1).2 (ale _) fun x=>by rw[h2,aga]
 rw[e];rfl
def aeB (d:Def)(last nx:Int)(x:Pred):Int:=bif Ul d.Name x then (if last<=x.M/\x.M<d.Hi/\x.M+1< (if last<x.N/\x.N<nx then x.N else nx) then x.M+1 else (if last<x.N/\x.N<nx then x.N else nx))else nx
theorem alf {U:Type}{o:Option U}{d:U}:Ur true o d=o:=rfl
theorem alg {U:Type}{o:Option U}{d:U}:Ur false o d=some d:=rfl
theorem awi {n m i:Nat}{d:Def}{l:List Pred}{last nx:Int}{out:List Rv}{x:Pred}(hlo: -(2^40)<=last)(hhi:d.Hi<=2^40)(hb:l.length<2^62)(hx:l[i]? =some x):
 UY n d l last (m+1) (out,(nx,(i:Int)))=UY n d l last m (out,(aeB d last nx x,((i+1:Nat):Int))):=by
 have hlt:=UW hx;have hi:=Td hx;rw[anZ,TH hx,cond_true];refine bs hi ?_;unfold aeB Ul;rw[TA (by omega)];cases h6:x.Op==(6:Int) with
 |false=>rfl|true=>
  rw[cond_true,cond_true];refine bs hi ?_;cases hn:x.Name==d.Name with
  |false=>rfl|true=>
   rw[cond_true,cond_true];refine bs hi ?_;have tail:∀(y:Int),(bif decide (x.M>=last) then ((Fb l (i:Int)).bind fun r=>bif decide (r.M<d.Hi) then ((Fb l (i:Int)).bind fun r=>bif decide (wrap .i64 (r.M+(1:Int))<y) then ((Fb l (i:Int)).bind fun r=>UY n d l last m (out,(wrap .i64 (r.M+(1:Int)),((i+1:Nat):Int)))) else UY n d l last m (out,(y,((i+1:Nat):Int)))) else UY n d l last m (out,(y,((i+1:Nat):Int)))) else UY n d l last m (out,(y,((i+1:Nat):Int))))=
    UY n d l last m (out,((if last<=x.M/\x.M<d.Hi/\x.M+1<y then x.M+1 else y),((i+1:Nat):Int))):=by
    intro y;by_cases h1:last<=x.M
    .rw[decide_eq_true (p:=x.M>=last) h1,cond_true];refine bs hi ?_;by_cases h2:x.M<d.Hi
     .rw[decide_eq_true h2,cond_true];refine bs hi ?_;have hw:wrap .i64 (x.M+(1:Int))=x.M+1:=(by rw[IntKind.wrap_i64];omega);rw[hw];by_cases h3:x.M+1<y
      .rw[decide_eq_true h3,cond_true,if_pos ⟨h1,h2,h3⟩];refine bs hi ?_;rw[hw]
      .rw[decide_eq_false h3,cond_false,if_neg (fun k=>h3 k.2.2)]
     .rw[decide_eq_false h2,cond_false,if_neg (fun k=>h2 k.2.1)]
    .rw[decide_eq_false (p:=x.M>=last) h1,cond_false,if_neg (fun k=>h1 k.1)]
   by_cases h1:last<x.N
   .rw[decide_eq_true (p:=x.N>last) h1,alf];refine bs hi ?_;rw[cond_true];by_cases h2:x.N<nx
    .rw[decide_eq_true h2,cond_true,show (if last<x.N/\x.N<nx then x.N else nx)=x.N from if_pos ⟨h1,h2⟩];refine bs hi (bs hi ?_);exact tail x.N
    .rw[decide_eq_false h2,cond_false,show (if last<x.N/\x.N<nx then x.N else nx)=nx from if_neg (fun k=>h2 k.2)];refine bs hi ?_;exact tail nx
   .rw[decide_eq_false (p:=x.N>last) h1,alg,Option.bind_some,cond_false,cond_false,show (if last<x.N/\x.N<nx then x.N else nx)=nx from if_neg (fun k=>h1 k.1)];refine bs hi ?_;exact tail nx
theorem awj {d:Def}{last nx:Int}{x:Pred}{cs:List Int}(hl:d.Lo<=last)(hx:nx<=d.Hi+1):VB last ((bif Ul d.Name x then Z8 d x else [])++cs) nx=VB last cs (aeB d last nx x)/\aeB d last nx x<=d.Hi+1:=by
 unfold aeB;cases hi:Ul d.Name x with
 |false=>exact⟨rfl,hx⟩|true=>
  rw[cond_true,cond_true];have e1:∀(c:Int)(cs:List Int)(m:Int),VB last (c::cs) m=VB last cs (if last<c/\c<m then c else m):=fun c cs m=>by show VB last cs _=_;congr 1;by_cases h1:c>last<;>by_cases h2:c<m<;>simp[h1,h2]<;>first|done| (intro _;omega)|omega
  unfold Z8;have a1:(bif decide (x.N>d.Lo) then decide (x.N<=d.Hi) else false)=decide (d.Lo<x.N/\x.N<=d.Hi):=by by_cases h1:x.N>d.Lo<;>by_cases h2:x.N<=d.Hi<;>simp[h1,h2]<;>first|done| (intro _;omega)|omega
  have a2:(bif decide (x.M>=d.Lo) then decide (x.M<d.Hi) else false)=decide (d.Lo<=x.M/\x.M<d.Hi):=by by_cases h1:x.M>=d.Lo<;>by_cases h2:x.M<d.Hi<;>simp[h1,h2]<;>first|done| (intro _;omega)|omega
  rw[a1,a2];have f1:∀cs,VB last ((bif decide (d.Lo<x.N/\x.N<=d.Hi) then [x.N] else [])++cs) nx=VB last cs (if last<x.N/\x.N<nx then x.N else nx):=fun cs=>by
   by_cases h:d.Lo<x.N/\x.N<=d.Hi
   .rw[decide_eq_true h,cond_true];exact e1 ..
   .rw[decide_eq_false h,cond_false,if_neg (by omega)];rfl
  have hle:(if last<x.N/\x.N<nx then x.N else nx)<=d.Hi+1:=by split<;>omega
  rw[Qc,f1];generalize (if last<x.N/\x.N<nx then x.N else nx)=y at*;by_cases h:d.Lo<=x.M/\x.M<d.Hi
  .rw[decide_eq_true h,cond_true];refine⟨(e1 ..).trans ?_,by split<;>omega⟩;congr 1;by_cases h2:last<x.M+1/\x.M+1<y
   .rw[if_pos h2,if_pos (by omega)]
   .rw[if_neg h2,if_neg (by omega)]
  .rw[decide_eq_false h,cond_false,if_neg (by omega)];exact⟨rfl,hle⟩
theorem awk (d:Def)(x:Pred)(l:List Pred):TM d (x::l)=(bif Ul d.Name x then Z8 d x else [])++TM d l:=by
 unfold TM;cases hx:Ul d.Name x with
 |true=>rw[aez hx,P9];rfl|false=>rw[aeA hx];rfl
theorem aoY {n:Nat}{d:Def}{l:List Pred}{last:Int}{out:List Rv}(hl:d.Lo<=last)(hlo: -(2^40)<=d.Lo)(hhi:d.Hi<=2^40)(hb:l.length<2^62):∀(k i m:Nat)(nx:Int),i+k=l.length->k<m->nx<=d.Hi+1->UY n d l last m (out,(nx,(i:Int)))=some (out,VB last (TM d (l.drop i)) nx):=by
 intro k;induction k with
 |zero=>
  intro i m nx hi hm _;obtain⟨m,rfl⟩:∃m',m=m'+1:=⟨m-1,by omega⟩;obtain rfl:i=l.length:=by omega
  rw[anZ,Uj,cond_false,List.drop_length];rfl
 |succ k ih=>
  intro i m nx hi hm hnx;obtain⟨m,rfl⟩:∃m',m=m'+1:=⟨m-1,by omega⟩;have hlt:i<l.length:=by omega
  have hx:l[i]? =some l[i]:=PX hlt;obtain⟨s1,s2⟩:=awj (d:=d) (last:=last) (nx:=nx) (x:=l[i]) (cs:=TM d (l.drop (i+1))) hl hnx;rw[awi (by omega) hhi hb hx,ih (i+1) m _ (by omega) (by omega) s2,Qd hlt,awk,s1]
theorem awl {n:Nat}{l:List Pred}{nm:List UInt8}{a b:Int}(hb:l.length<2^62):∀(k i m:Nat),i+k=l.length->k<m->acR n l nm a b m (i:Int)=some (if S9 nm (l.drop i) a=S9 nm (l.drop i) b then .inl () else .inr false):=by
 intro k;induction k with
 |zero=>
  intro i m hi hm;obtain⟨m,rfl⟩:∃m',m=m'+1:=⟨m-1,by omega⟩;obtain rfl:i=l.length:=by omega
  rw[anW,Uj,cond_false,List.drop_length];rfl
 |succ k ih=>
  intro i m hi hm;obtain⟨m,rfl⟩:∃m',m=m'+1:=⟨m-1,by omega⟩;have hlt:i<l.length:=by omega
  have hx:l[i]? =some l[i]:=PX hlt;have he:=Td hx;have ih':=ih (i+1) m (by omega) (by omega);rw[Qd hlt,anW,TH hx,cond_true,TA (by omega)];generalize l[i]=x at*;refine bs he ?_;have hneg:Ul nm x=false->(if S9 nm (l.drop (i+1)) a=S9 nm (l.drop (i+1)) b then (Sum.inl ():PUnit⊕Bool) else .inr false)=if S9 nm (x::l.drop (i+1)) a=S9 nm (x::l.drop (i+1)) b then .inl () else .inr false:=fun h=>by unfold S9;rw[aeA h]
  cases h6:x.Op==(6:Int) with
  |false=>rw[alg,Option.bind_some,cond_false,cond_false,ih',hneg (by unfold Ul;rw[h6];rfl)]|true=>
   rw[alf];refine bs he ?_;rw[cond_true];cases hn:x.Name==nm with
   |false=>rw[cond_false,ih',hneg (by unfold Ul;rw[h6,hn];rfl)]|true=>
    rw[cond_true];have hI:Ul nm x=true:=(by unfold Ul;rw[h6,hn];rfl);refine bs he ?_;have w1:∀v:Int,∃r:Pred,Ur (decide (v>=x.N)) (Fb l (i:Int)) (⟨(0:Int),[],(0:Int),(0:Int),[],[]⟩:Pred)=some r/\(bif decide (v>=x.N) then decide (v<=r.M) else false)=VA x v:=fun v=>by
     cases h:decide (v>=x.N) with
     |true=>exact⟨x,he,by unfold VA;rw[h]⟩|false=>exact⟨_,rfl,by unfold VA;rw[h];rfl⟩
    obtain⟨r1,g1,g2⟩:=w1 a;obtain⟨r2,g3,g4⟩:=w1 b;refine bs g1 (bs he (bs g3 ?_));rw[g2,g4];have et:∀v,S9 nm (x::l.drop (i+1)) v=VA x v::S9 nm (l.drop (i+1)) v:=fun v=>by unfold S9;rw[aez hI];rfl
    rw[et,et];by_cases e:VA x a=VA x b
    .rw[e];simp only[beq_self_eq_true,Bool.not_true,cond_false,Qb,true_and];exact ih'
    .have:(VA x a==VA x b)=false:=(by simpa using e);rw[this];simp only[Bool.not_false,cond_true,e,Qb,false_and,if_false]
theorem awm {n:Nat}{l:List Pred}{nm:List UInt8}{a b:Int}(hb:l.length<2^62)(hn:l.length<n):ZJ n (l,(nm,(a,b)))=some (S9 nm l a==S9 nm l b):=by
 rw[auA];refine bs (awl hb l.length 0 n (by omega) hn) ?_;rw[Qt];by_cases h:S9 nm l a=S9 nm l b
 .rw[if_pos h,h];simp
 .rw[if_neg h];have:(S9 nm l a==S9 nm l b)=false:=by simpa using h
  rw[this];rfl
theorem aoZ {U γ:Type}{L:Nat->(List γ×Int)->Option (List γ)}{l:List U}{f:U->γ}(hs:∀m (i:Nat) x acc,l[i]? =some x->acc.length+1<2^30->L (m+1) (acc,(i:Int))=L m (acc++[f x],((i+1:Nat):Int)))(hf:∀m acc,L (m+1) (acc,(l.length:Int))=some acc):
 ∀(k i m:Nat)(acc:List γ),i+k=l.length->k<m->acc.length+k<2^30->L m (acc,(i:Int))=some (acc++(l.drop i).map f):=by
 intro k;induction k with
 |zero=>
  intro i m acc hi hm _;obtain⟨m,rfl⟩:∃m',m=m'+1:=⟨m-1,by omega⟩;obtain rfl:i=l.length:=by omega
  rw[hf,List.drop_length];simp
 |succ k ih=>
  intro i m acc hi hm ha;obtain⟨m,rfl⟩:∃m',m=m'+1:=⟨m-1,by omega⟩;have hlt:i<l.length:=by omega
  have hx:l[i]? =some l[i]:=PX hlt;rw[hs m i _ acc hx (by omega),ih (i+1) m _ (by omega) (by omega) (by rw[PK,List.length_singleton];omega),Qd hlt,PU,Qc];rfl
def wgo (said:List UInt8->Bool):Bool->List (List UInt8)->List (List UInt8)
 |_,[]=>[]|o,w::ws=>(bif (bif said w then true else !o) then [w] else [])++wgo said (bif o then true else !(said w)) ws
theorem alh (said:List UInt8->Bool):∀(ws:List (List UInt8))(o:Bool),(wgo said o ws).length<=ws.length
 | [],_=>mF _|w::ws,o=>by
  have:=alh said ws (bif o then true else !(said w));unfold wgo;rw[PK,List.length_cons];cases (bif said w then true else !o)
  .simp only[cond_false,List.length_nil];omega
  .simp only[cond_true,List.length_singleton];omega
def isW (nm:List UInt8)(x:Pred):Bool:=bif x.Op==(7:Int) then x.Name==nm else false
def Wx (nm:List UInt8)(l:List Pred)(w:List UInt8):Bool:=l.any fun x=>isW nm x&& x.S==w
def abm (d:Def)(l:List Pred):List (List UInt8):=wgo (Wx d.Name l) false d.Words
theorem aeD (a b:List UInt8):SG R .str a b=(a==b):=rfl
theorem ao0 (x y:List UInt8):∀m:List (List UInt8×Bool),UL (SG R Ty.str) y (V7 (SG R Ty.str) x true m)=if y=x then some true else UL (SG R Ty.str) y m
 | []=>by
   show (bif SG R .str y x then some true else none)=_;rw[aeD];by_cases e:y=x
   .rw[if_pos e,e];simp
   .have h:(y==x)=false:=(by simpa using e);rw[if_neg e,h];rfl
 | (a,v)::m=>by
   have ih:=ao0 x y m;show UL (SG R Ty.str) y (bif SG R .str x a then (x,true)::m else (a,v)::V7 (SG R Ty.str) x true m)=if y=x then some true else (bif SG R .str y a then some v else UL (SG R Ty.str) y m)
   rw[aeD,aeD];by_cases h:x=a
   .subst h;rw[beq_self_eq_true,cond_true];show (bif SG R .str y x then some true else UL (SG R Ty.str) y m)=_;rw[aeD];by_cases e:y=x
    .subst e;simp
    .have h:(y==x)=false:=(by simpa using e);rw[if_neg e,h];rfl
   .have hx:(x==a)=false:=(by simpa using h);rw[hx,cond_false];show (bif SG R .str y a then some v else UL (SG R Ty.str) y (V7 (SG R Ty.str) x true m))=_;rw[ih,aeD];by_cases e:y=a
    .subst e;have:¬y=x:=fun e=>h e.symm;simp[this]
    .have h2:(y==a)=false:=(by simpa using e);rw[h2];rfl
theorem ali {n:Nat}{d:Def}:∀(l:List Pred)(m:List (List UInt8×Bool)),∃m',aaB n d l ((),m)=some ((),m')/\∀w:List UInt8,WE false (UL (SG R Ty.str) w m')=(WE false (UL (SG R Ty.str) w m)||Wx d.Name l w)
 | [],m=>⟨m,avc ..,fun w=>by unfold Wx;simp⟩
 |x::l,m=>by
  rw[avd];change∃m',(bif isW d.Name x then aaB n d l ((),V7 (SG R Ty.str) x.S true m) else aaB n d l ((),m))=some ((),m')/\_;cases hx:isW d.Name x with
  |false=>obtain⟨m',h1,h2⟩:=ali (n:=n) (d:=d) l m;refine⟨m',h1,fun w=>?_⟩;rw[h2];unfold Wx;rw[List.any_cons,hx];simp
  |true=>
   obtain⟨m',h1,h2⟩:=ali (n:=n) (d:=d) l (V7 (SG R Ty.str) x.S true m);refine⟨m',h1,fun w=>?_⟩;have e:WE false (UL (SG R Ty.str) w (V7 (SG R Ty.str) x.S true m))=WE false (if w=x.S then some true else UL (SG R Ty.str) w m):=congrArg (WE false) (ao0 x.S w m);refine(h2 w).trans ((congrArg (fun b=>b||Wx d.Name l w) e).trans ?_);unfold Wx;rw[List.any_cons,hx];by_cases h:w=x.S
   .rw[if_pos h,h];simp[WE]
   .have:(x.S==w)=false:=(by simpa using Ne.symm h);rw[if_neg h,this];simp
theorem awn {n:Nat}{d:Def}{r8:PUnit×List ((List UInt8)×Bool)}{said:List UInt8->Bool}(hs:∀w:List UInt8,WE false (UL (SG R Ty.str) w r8.2)=said w)(hb:d.Words.length<2^29):
 ∀(k i m:Nat)(acc:List (List UInt8))(o:Bool),i+k=d.Words.length->k<m->acc.length<=i->acY n d r8 m (acc,(o,(i:Int)))=some (acc++wgo said o (d.Words.drop i)):=by
 intro k;induction k with
 |zero=>
  intro i m acc o hi hm _;obtain⟨m,rfl⟩:∃m',m=m'+1:=⟨m-1,by omega⟩;obtain rfl:i=d.Words.length:=by omega
  rw[aoo,Uj,cond_false,List.drop_length];simp[wgo]
 |succ k ih=>
  intro i m acc o hi hm ha;obtain⟨m,rfl⟩:∃m',m=m'+1:=⟨m-1,by omega⟩;have hlt:i<d.Words.length:=by omega
  have hx:d.Words[i]? =some d.Words[i]:=PX hlt;rw[aoo,TH hx,cond_true,Qd hlt];refine bs (Td hx) ?_;rw[hs,TA (by omega)];unfold wgo;cases hc:(bif said d.Words[i] then true else !o) with
  |true=>refine(show (bif R7 (acc.length+1) 16 then _ else none)=_ from ?_);rw[WX (by omega) (by omega),cond_true,ih (i+1) m _ _ (by omega) (by omega) (by rw[PK,List.length_singleton];omega)];simp|false=>rw[cond_false,ih (i+1) m _ _ (by omega) (by omega) (by omega)];simp
theorem awo {n:Nat}{d:Def}{p:Pred}(h:RA p<2^30)(hw:d.Words.length<2^29)(hn:d.Words.length<n):Zh n (d,p)=some (abm d (pre p)):=by rw[ave];refine bs (acV n _) ?_;show ((VN p.re.re).bind _).bind _=_;rw[Pred.Sr,Pred.Sr,ac0 (by omega),Option.bind_some];obtain⟨m',h1,h2⟩:=ali (n:=n) (d:=d) (pre p) [];refine bs h1 ?_;refine bs (awn (r8:=((),m')) (said:=Wx d.Name (pre p)) (fun w=>(h2 w).trans (by simp[UL,WE])) hw d.Words.length 0 n [] false (by omega) hn (mF _)) ?_;rfl
theorem awp {n:Nat}{d:Def}{l:List Pred}{o:Bool}{j:Nat}{w:List UInt8}{out:List Rv}(hj:d.Words[j]? =some w)(hb:l.length<2^62):∀(k i m:Nat)(s:Bool),i+k=l.length->k<m->abf n d l o (j:Int) m (out,(s,(i:Int)))=some (out,s||Wx d.Name (l.drop i) w):=by
 intro k;induction k with
 |zero=>
  intro i m s hi hm;obtain⟨m,rfl⟩:∃m',m=m'+1:=⟨m-1,by omega⟩;obtain rfl:i=l.length:=by omega
  rw[anX,Uj,cond_false,List.drop_length];simp[Wx]
 |succ k ih=>
  intro i m s hi hm;obtain⟨m,rfl⟩:∃m',m=m'+1:=⟨m-1,by omega⟩;have hlt:i<l.length:=by omega
  have hx:l[i]? =some l[i]:=PX hlt;have he:=Td hx;have ih':=fun s=>ih (i+1) m s (by omega) (by omega);rw[anX,TH hx,cond_true,Qd hlt,TA (by omega)];generalize l[i]=x at*;have ec:Wx d.Name (x::l.drop (i+1)) w=((isW d.Name x&& x.S==w)||Wx d.Name (l.drop (i+1)) w):=by unfold Wx;rw[List.any_cons]
  rw[ec];cases s with
  |true=>rw[Bool.not_true,cond_false,ih'];simp|false=>
   rw[Bool.not_false,cond_true];refine bs he ?_;unfold isW;cases h7:x.Op==(7:Int) with
   |false=>rw[cond_false,ih'];simp|true=>
    rw[cond_true];refine bs he ?_;cases hn:x.Name==d.Name with
    |false=>rw[cond_false,ih'];simp|true=>rw[cond_true];refine bs he (bs (Td hj) ?_);rw[ih'];simp
def awq (d:Def)(w:List UInt8):Rv:=⟨⟨d.Name,d.Kind,0,w⟩,true⟩
theorem awr {n:Nat}{d:Def}{l:List Pred}(hb:l.length<2^62)(hln:l.length<n)(hw:d.Words.length<2^29):∀(k i m:Nat)(acc:List Rv)(o:Bool),i+k=d.Words.length->k<m->acc.length<=i+1->acS n d l m (acc,(o,(i:Int)))=some (acc++(wgo (Wx d.Name l) o (d.Words.drop i)).map (awq d)):=by
 intro k;induction k with
 |zero=>
  intro i m acc o hi hm _;obtain⟨m,rfl⟩:∃m',m=m'+1:=⟨m-1,by omega⟩;obtain rfl:i=d.Words.length:=by omega
  rw[anY,Uj,cond_false,List.drop_length];simp[wgo]
 |succ k ih=>
  intro i m acc o hi hm ha;obtain⟨m,rfl⟩:∃m',m=m'+1:=⟨m-1,by omega⟩;have hlt:i<d.Words.length:=by omega
  have hx:d.Words[i]? =some d.Words[i]:=PX hlt;rw[anY,TH hx,cond_true,Qd hlt];have hsd:=awp (n:=n) (d:=d) (l:=l) (o:=o) (out:=acc) hx hb l.length 0 n false (by omega) hln;rw[Qt,Bool.false_or] at hsd;refine bs hsd ?_;dsimp only;rw[TA (by omega)];unfold wgo;cases hc:(bif Wx d.Name l d.Words[i] then true else !o) with
  |true=>rw[cond_true,cond_true];refine bs (Td hx) ?_;refine(show (bif R7 (acc.length+1) 56 then _ else none)=_ from ?_);rw[WX (by omega) (by omega),cond_true,ih (i+1) m _ _ (by omega) (by omega) (by rw[PK,List.length_singleton];omega)];simp;rfl|false=>rw[cond_false,cond_false,ih (i+1) m _ _ (by omega) (by omega) (by omega)];simp
def ao1 (d:Def)(v:Int):Rv:=⟨⟨d.Name,d.Kind,v,[]⟩,true⟩
theorem awt {n:Nat}{d:Def}{l:List Pred}(hlo: -(2^40)<=d.Lo)(hle:d.Lo<=d.Hi)(hhi:d.Hi<=2^40)(hb:l.length<2^62)(hln:l.length<n):∀(S:List Int)(last:Int)(m:Nat)(out:List Rv),(last::S).Pairwise (· < ·)->d.Lo<=last->(∀x,last<x->(x∈TM d l↔x∈S))->S.length<m->out.length+S.length<2^29->
 acT n d l m (out,last)=some (out++(RS (S9 d.Name l) S).map (ao1 d)):=by
 intro S;have ew:wrap .i64 (d.Hi+(1:Int))=d.Hi+1:=by rw[IntKind.wrap_i64];omega
 induction S with
 |nil=>intro last m out _ hl hm hlt _;obtain⟨m,rfl⟩:∃m',m=m'+1:=⟨m-1,by omega⟩;rw[an0,ew];refine bs (aoY (out:=out) hl hlo hhi hb l.length 0 n (d.Hi+1) (by omega) hln (PZ _)) ?_;rw[Qt,avA (fun x hx hc=>by cases (hm x hx).1 hc)];show (bif decide (d.Hi+1>d.Hi) then some out else _)=_;rw[decide_eq_true (by omega),cond_true];simp[RS]
 |cons y S ih=>
  intro last m out hs hl hm hlt hol;simp only[List.length_cons] at hlt hol;obtain⟨m,rfl⟩:∃m',m=m'+1:=⟨m-1,by omega⟩;have hs':=List.pairwise_cons.1 hs;have hs2:=List.pairwise_cons.1 hs'.2;have hly:=hs'.1 y (PN ..);have hyc:=(hm y hly).2 (PN ..);have hyr:=aeu hyc;rw[an0,ew];refine bs (aoY (out:=out) hl hlo hhi hb l.length 0 n (d.Hi+1) (by omega) hln (PZ _)) ?_;rw[Qt,avz hs'.2 hm hly (by omega)];show (bif decide (y>d.Hi) then some out else _)=_;rw[decide_eq_false (by omega),cond_false];have ey:wrap .i64 (y-(1:Int))=y-1:=by rw[IntKind.wrap_i64];omega
  rw[ey];refine bs (awm hb hln) ?_;have hm':∀x,y<x->(x∈TM d l↔x∈S):=fun x hx=>by
   rw[hm x (by omega),PI];constructor
   .rintro (h|h)
    .omega
    .exact h
   .exact .inr
  unfold RS;cases ht:S9 d.Name l (y-1)==S9 d.Name l y with
  |true=>rw[Bool.not_true,cond_false,cond_true,ih y m out hs'.2 (by omega) hm' (by omega) (by omega)]|false=>rw[Bool.not_false,cond_true,cond_false];refine(show (bif R7 (out.length+1) 56 then _ else none)=_ from ?_);rw[WX (by omega) (by omega),cond_true];refine Eq.trans (ih y m (out++[ao1 d y]) hs'.2 (by omega) hm' (by omega) (by rw[PK,List.length_singleton];omega)) ?_;simp
def Yq (d:Def)(l:List Pred):List (Option Attr):=none::(if d.Kind=1 then (abl d l).map fun v=>some ⟨d.Name,d.Kind,v,[]⟩ else (abm d l).map fun w=>some ⟨d.Name,d.Kind,0,w⟩)
def noA:Attr:=⟨[],0,0,[]⟩
def Vf:Option Attr->Q7
 |none=>⟨noA,false⟩|some a=>⟨a,true⟩
def toR:Option Attr->Rv
 |none=>⟨noA,false⟩|some a=>⟨a,true⟩
structure aaF (n:Nat)(d:Def):Prop where
 kind:d.Kind=1\/d.Kind=2
 lo: -(2^40)<=d.Lo
 le:d.Lo<=d.Hi
 hi:d.Hi<=2^40
 words:d.Words.length<2^29
 wn:d.Words.length<n
theorem ao3 (t:Int->List Bool):∀S:List Int,(RS t S).length<=S.length
 | []=>mF _|y::S=>by
  have:=ao3 t S;unfold RS;cases t (y-1)==t y
  .rw[cond_false,List.length_cons,List.length_cons];omega
  .rw[cond_true,List.length_cons];omega
theorem ao4 (p:Int):∀l:List Int,(aac p l).length<=l.length+1
 | []=>mF _|y::l=>by
  have:=ao4 p l;unfold aac;split
  .simp
  .split
   .simp
   .simp;omega
theorem alj:∀l:List Int,(XY l).length<=l.length
 | []=>mF _|y::l=>by have:=alj l;have h2:=ao4 y (XY l);unfold XY;rw[List.length_cons];omega
theorem ao5 (d:Def)(l:List Pred):(abl d l).length<=2*l.length+1:=by unfold abl;have h1:=ao3 (S9 d.Name l) (XY (TM d l));have h2:=alj (TM d l);have h3:=af9 d l;rw[List.length_cons];omega
theorem awv {n:Nat}(hn:800<n){d:Def}{p:Pred}(hd:aaF n d)(h:RA p<=240):Zp n (d,p)=some ((Yq d (pre p)).map Vf):=by
 have hnl:=ao5 d (pre p);rw[WV] at hnl;have hwl:(abm d (pre p)).length<=d.Words.length:=alh _ _ _;have hw:=hd.words;have hw2:=hd.wn;rw[avf];unfold Yq;by_cases hk:d.Kind=1
 .have e:(d.Kind==(1:Int))=true:=by rw[hk];rfl
  rw[e,cond_true,if_pos hk];refine bs (show Zv n (d,p.re)=_ by rw[Pred.Sr];exact awh hn hd.lo hd.hi h) ?_;refine bs (aoZ (L:=fun m q=>aen n d (abl d (pre p)) m q) (l:=abl d (pre p)) (f:=fun v=>Vf (some ⟨d.Name,d.Kind,v,[]⟩)) (fun m i x acc hx ha=>?_) (fun m acc=>?_) (abl d (pre p)).length 0 n [Vf none] (by omega) (by omega) (by simp;omega)) ?_
  .rw[aop,TH hx,cond_true];refine bs (Td hx) ?_;have hlt:=UW hx;rw[TA (by omega)];refine(show (bif R7 (acc.length+1) 56 then _ else none)=_ from ?_);rw[WX (by omega) (by omega)];rfl
  .rw[aop,Uj];rfl
  .simp
 .have e:(d.Kind==(1:Int))=false:=by simpa using hk
  rw[e,cond_false,if_neg hk];refine bs (show Zh n (d,p.re)=_ by rw[Pred.Sr];exact awo (by omega) hw hw2) ?_;refine bs (aoZ (L:=fun m q=>aeo n d (abm d (pre p)) m q) (l:=abm d (pre p)) (f:=fun w=>Vf (some ⟨d.Name,d.Kind,0,w⟩)) (fun m i x acc hx ha=>?_) (fun m acc=>?_) (abm d (pre p)).length 0 n [Vf none] (by omega) (by omega) (by simp;omega)) ?_
  .rw[aoq,TH hx,cond_true];refine bs (Td hx) ?_;have hlt:=UW hx;rw[TA (by omega)];refine(show (bif R7 (acc.length+1) 56 then _ else none)=_ from ?_);rw[WX (by omega) (by omega)];rfl
  .rw[aoq,Uj];rfl
  .simp
theorem aww {n:Nat}(hn:800<n){d:Def}{l:List Pred}(hd:aaF n d)(h:l.length<=240):QP n (d,l)=some ((Yq d l).map toR):=by
 have hw:=hd.words;have hw2:=hd.wn;rw[auB];unfold Yq;rcases hd.kind with hk|hk
 .have e:(d.Kind==(2:Int))=false:=by rw[hk];rfl
  rw[e,cond_false,if_pos hk];refine(show (bif R7 2 56 then _ else none)=_ from ?_);rw[WX (by omega) (by omega),cond_true];have h2:=alj (TM d l);have h3:=af9 d l;refine bs (awt (n:=n) (d:=d) (l:=l) hd.lo hd.le hd.hi (by omega) (by omega) (XY (TM d l)) d.Lo n _ awg (PZ _) (fun x _=>(aga x _).symm) (by omega) ?_) ?_
  .simp only[PK,List.length_singleton];omega
  .simp[abl];exact⟨rfl,rfl,fun _ _=>rfl⟩
 .have e:(d.Kind==(2:Int))=true:=by rw[hk];rfl
  rw[e,cond_true,if_neg (by rw[hk];decide)];refine bs (awr (n:=n) (d:=d) (l:=l) (by omega) (by omega) hw d.Words.length 0 n _ false (by omega) hw2 (by simp)) ?_;simp[abm];exact⟨rfl,fun _ _=>rfl⟩
end Sh
end
section
open Go Go.Proofs Aq
namespace Sh
theorem awx {l:List V}{v:V}(h:v∈l):Ut v<=VG l:=by
 induction l with
 |nil=>cases h|cons x l ih=>
  rcases PI.1 h with rfl|h
  .show Ut v<=Ut v+VG l;omega
  .have:=ih h;show Ut v<=Ut x+VG l;omega
theorem ao6 {U:Type}(f:U->V){l:List U}{x:U}(h:x∈l):Ut (f x)<=VG (l.map f):=awx (List.mem_map_of_mem h)
theorem ao7 {U:Type}(f:U->V)(hf:∀x,1<=Ut (f x))(l:List U):l.length<=VG (l.map f):=by
 induction l with
 |nil=>exact Ql _|cons x l ih=>have:=hf x;show l.length+1<=Ut (f x)+VG (l.map f);omega
mutual
theorem ao8:∀p:Pred,RA p<=Ut (Pred.vr p)
 | ⟨op,name,n,m,s,subs⟩=>by have:=ao9 subs;simp only[RA,Pred.vr,Ut,VG];omega
theorem ao9:∀l:List Pred,Ws l<=VG (Pred.vl l)
 | []=>Ql _|p::l=>by have:=ao8 p;have:=ao9 l;simp only[Ws,Pred.vl,VG];omega
end
theorem apa (x:Pred):RA x<=Uu (Pred.v x):=by rw[<-Pred.afl];exact PD (ao8 x) (agG _)
end Sh
end
section
open Go Go.Proofs Aq
namespace Sh
theorem awy {n:Nat}{l:List (List UInt8)}{x:List UInt8}(h:l.length<n)(hb:l.length<2^62):ZF n (l,x)=some (l.any (· ==x)):=by
 have:=aa1 (L:=fun m i=>aed n l x m i) (l:=l) (fun d i r=>bif d==x then some (.inr true) else r) (some (.inl ()))
  (fun m i d hd=>by have hlt:=UW hd;rw[anJ,TH hd,Td hd,TA (by omega)];rfl)
  (fun m=>by rw[anJ,Uj];rfl) h
 rw[aus,this,acK (fun d:List UInt8=>d==x) (fun i=>(Sum.inr true:PUnit⊕Bool)) (.inl ())];cases hf:l.findIdx? (fun d=>d==x) with
 |none=>
  rw[List.findIdx?_eq_none_iff] at hf;have:l.any (· ==x)=false:=by rw[List.any_eq_false];intro y hy;simpa using hf y hy
  rw[this];rfl
 |some j=>
  obtain⟨hj,h2,_⟩:=List.findIdx?_eq_some_iff_getElem.1 hf;have:l.any (· ==x)=true:=by rw[List.any_eq_true];exact⟨l[j],Qy hj,h2⟩
  rw[this];rfl
def ac4 (s:Rm)(n:Nat):Prop:=s.Defs.length<n/\s.Defs.length<2^62/\∀d∈s.Defs,d.Name.length<n/\d.Name.length<2^62/\d.Words.length<n/\d.Words.length<2^62/\∀w∈d.Words,w.length<n/\w.length<2^62
theorem apb {n:Nat}{x:List UInt8}(h:x.length<n)(hb:x.length<2^62)(hn:6<n):∃b:Bool,Zy n x=some b:=by
 obtain⟨r,hr⟩:=abU (L:=fun m (_:Unit) i=>aa8 n x m i) (l:=x)
  (fun m i c _ hc ih=>by
    have hlt:=UW hc;show∃r,aa8 n x (m+1) (i:Int)=some r;rw[anK,TH hc,Td hc,TA (by omega),cond_true,Option.bind_some];cases (bif !(bif decide ((c.toNat:Int)>=(97:Int)) then decide ((c.toNat:Int)<=(122:Int)) else false) then bif (i:Int)==(0:Int) then true else !(bif bif decide ((c.toNat:Int)>=(48:Int)) then decide ((c.toNat:Int)<=(57:Int)) else false then true else (c.toNat:Int)==(95:Int)) else false)
    .exact ih ()
    .exact⟨_,rfl⟩)
  (fun m _ i hi=>by show∃r,aa8 n x (m+1) (i:Int)=some r;rw[anK,abV hi];exact⟨_,rfl⟩) x.length 0 n () (by omega) h
 have hr':aa8 n x n (0:Int)=some r:=hr;rw[aut,hr'];cases r with
 |inl q=>obtain⟨b,hb'⟩:=afA (c:=bif decide ((x.length:Int)>=(1:Int)) then decide ((x.length:Int)<=(40:Int)) else false) (o:=ZF n (([[(97:UInt8),(108:UInt8),(108:UInt8)],[(97:UInt8),(110:UInt8),(100:UInt8)],[(104:UInt8),(97:UInt8),(115:UInt8)],[(105:UInt8),(110:UInt8)],[(110:UInt8),(111:UInt8),(116:UInt8)],[(111:UInt8),(114:UInt8)]],x))) (d:=false) (fun _=>⟨_,awy (show 6<n from hn) (show 6<2^62 by omega)⟩);rw[Option.bind_some];show∃b,Option.bind (Ur _ _ _) _=some b;rw[hb'];exact⟨_,rfl⟩
 |inr q=>exact⟨q,rfl⟩
theorem awz {n:Nat}{l:List (List UInt8)}(h:l.length<n)(hb:l.length<2^62)(hw:∀w∈l,w.length<n/\w.length<2^62)(hn:6<n):∃e:Int,Zf n l=some e:=by
 rw[anN];cases (bif decide ((l.length:Int)< (1:Int)) then true else decide ((l.length:Int)> (50:Int)))
 .obtain⟨r,hr⟩:=abU (L:=fun m (_:Unit) i=>aa9 n l m i) (l:=l)
   (fun m i c _ hc ih=>by
     have hlt:=UW hc;show∃r,aa9 n l (m+1) (i:Int)=some r;obtain⟨b,hb'⟩:=apb (hw c (Qj hc)).1 (hw c (Qj hc)).2 hn;rw[anL,TH hc,Td hc,TA (by omega),cond_true,Option.bind_some,hb'];cases b
     .exact⟨_,rfl⟩
     .exact ih ())
   (fun m _ i hi=>by show∃r,aa9 n l (m+1) (i:Int)=some r;rw[anL,abV hi];exact⟨_,rfl⟩) l.length 0 n () (by omega) h
  have hr':aa9 n l n (0:Int)=some r:=hr;rw[cond_false,hr',Option.bind_some];cases r with
  |inr q=>exact⟨q,rfl⟩|inl q=>
   obtain⟨r,hr2⟩:=abU (L:=fun m (_:Unit) i=>abb n l m (i+1)) (l:=l.tail)
    (fun m i c _ hc ih=>by
      have hc':l[i+1]? =some c:=(by rw[List.getElem?_tail] at hc;exact hc);have hlt:=UW hc';show∃r,abb n l (m+1) ((i:Int)+1)=some r;have ei:(i:Int)+1=((i+1:Nat):Int):=(by omega);have e0:wrap .i64 (((i+1:Nat):Int)-(1:Int))=(i:Int):=(by rw[IntKind.wrap_i64];omega);have hi0:l[i]? =some l[i]:=PX (by omega);rw[ei,anM,TH hc',Td hc',TA (by omega),e0,Td hi0,cond_true,Option.bind_some,Option.bind_some];cases (Go.Op.bytesLess c l[i]||c==l[i])
      .have:=ih ();have e1:(((i+1:Nat):Int))+1=((i+1+1:Nat):Int):=(by omega);simp only[e1] at this;exact this
      .exact⟨_,rfl⟩)
    (fun m _ i hi=>by show∃r,abb n l (m+1) ((i:Int)+1)=some r;have ei:(i:Int)+1=((i+1:Nat):Int):=(by omega);rw[ei,anM,abV (by rw[List.length_tail] at hi;omega)];exact⟨_,rfl⟩) l.length 0 n () (by rw[List.length_tail];omega) h
   have hr2':abb n l n (1:Int)=some r:=hr2;rw[Sum.elim_inl,hr2',Option.bind_some];cases r with
   |inl q=>exact⟨0,rfl⟩|inr q=>exact⟨q,rfl⟩
 .exact⟨_,rfl⟩
theorem awC {n:Nat}{d:Def}{x:List UInt8}(h:d.Name.length<n/\d.Name.length<2^62/\d.Words.length<n/\d.Words.length<2^62/\∀w∈d.Words,w.length<n/\w.length<2^62)(hn:6<n):∃e:Int,Xa n (d,x)=some e:=by obtain⟨b,hb⟩:=apb h.1 h.2.1 hn;obtain⟨e,he⟩:=awz h.2.2.1 h.2.2.2.1 h.2.2.2.2 hn;rw[anO,hb];show∃e:Int,(bif !b then some (5:Int) else _)=some e;refine Wh ⟨_,rfl⟩ (Wh ⟨_,rfl⟩ (Wh (Wh ⟨_,rfl⟩ (Wh ⟨_,rfl⟩ ⟨_,rfl⟩)) (Wh (Wh ⟨_,rfl⟩ ?_) ⟨_,rfl⟩)));rw[he];exact⟨e,rfl⟩
theorem awD {n:Nat}{s:Rm}(h:ac4 s n)(hn:6<n):∃e:Int,Zq n s=some e:=by
 obtain⟨h1,h2,h3⟩:=h;obtain⟨b,hb⟩:=afA (c:= !(bif decide (s.VH< (1:Int)) then true else decide (s.VH> (32:Int)))) (o:=Xu n s.XQ) (d:=false) (fun _=>by rw[aur];exact⟨_,rfl⟩);obtain⟨r,hr⟩:=abU (L:=fun m (x:List UInt8) i=>Z5 n s m (x,i)) (l:=s.Defs)
  (fun m i d x hd ih=>by have hlt:=UW hd;show∃r,Z5 n s (m+1) (x,(i:Int))=some r;obtain⟨e,he⟩:=awC (x:=x) (h3 d (Qj hd)) hn;rw[af5,TH hd,Td hd,TA (by omega),cond_true,Option.bind_some,he];show∃r,(bif e !=(0:Int) then _ else _)=some r;exact Wh ⟨_,rfl⟩ (ih _))
  (fun m x i hi=>by show∃r,Z5 n s (m+1) (x,(i:Int))=some r;rw[af5,abV hi];exact⟨_,rfl⟩) s.Defs.length 0 n [] (by omega) h1
 have hr':Z5 n s n ([],(0:Int))=some r:=hr;rw[anQ];show∃e:Int,Option.bind (Ur _ _ _) _=some e;rw[hb];show∃e:Int,(bif _ then some (1:Int) else _)=some e;refine Wh ⟨_,rfl⟩ (Wh ⟨_,rfl⟩ ?_);rw[hr',Option.bind_some];cases r with
 |inl q=>exact⟨0,rfl⟩|inr q=>exact⟨q,rfl⟩
theorem awE {n:Nat}{s:Rm}{k:Int}(h:ac4 s n):∃b:Bool,Zi n (s,k)=some b:=by
 obtain⟨h1,h2,h3⟩:=h;obtain⟨r,hr⟩:=abU (L:=fun m (_:Unit) i=>aa7 n s k m i) (l:=s.Defs)
  (fun m i d _ hd ih=>by
    have hlt:=UW hd;obtain⟨w1,w2,w3,w4,w5⟩:=h3 d (Qj hd);show∃r,aa7 n s k (m+1) (i:Int)=some r;obtain⟨r,hr⟩:=abU (L:=fun m (_:Unit) j=>aa6 n s k (i:Int) d m j) (l:=d.Words)
     (fun m j w _ hw ih=>by have hlt:=UW hw;show∃r,aa6 n s k (i:Int) d (m+1) (j:Int)=some r;rw[anH,TH hw,Td hw,TA (by omega),cond_true,Option.bind_some];exact Wh ⟨_,rfl⟩ (ih ()))
     (fun m _ j hj=>by show∃r,aa6 n s k (i:Int) d (m+1) (j:Int)=some r;rw[anH,abV hj];exact⟨_,rfl⟩) d.Words.length 0 n () (by omega) w3
    have hr':aa6 n s k (i:Int) d n (0:Int)=some r:=hr;rw[anI,TH hd,Td hd,TA (by omega),Option.bind_some,hr'];refine Wh (Wh ⟨_,rfl⟩ ?_) ⟨_,rfl⟩;cases r with
    |inl q=>exact ih ()|inr q=>exact⟨_,rfl⟩)
  (fun m _ i hi=>by show∃r,aa7 n s k (m+1) (i:Int)=some r;rw[anI,abV hi];exact⟨_,rfl⟩) s.Defs.length 0 n () (by omega) h1
 have hr':aa7 n s k n (0:Int)=some r:=hr;rw[aup,hr',Option.bind_some];cases r with
 |inl q=>exact⟨_,rfl⟩|inr q=>exact⟨q,rfl⟩
def aaG (p:Pred):Bool:=
 if (p.Op<5/\p.Name≠[])\/(p.Op≠6/\(p.N≠0\/p.M≠0))\/(p.Op≠7/\p.S≠[]) then false else if p.N>p.M then false else if p.Op=2\/p.Op=3 then decide (p.Rj≠[]) else if p.Op=4 then decide (p.Rj.length=1) else decide (p.Rj=[])
theorem awF {U:Type}(l:List U):decide ((l.length:Int)> (0:Int))=decide (l≠[]):=by
 cases l with
 |nil=>simp|cons a l=>simp<;>omega
theorem apc {U:Type}(l:List U):((l.length:Int)==(0:Int))=decide (l=[]):=by
 cases l with
 |nil=>simp|cons a l=>simp<;>omega
theorem awG (l:List UInt8):(l==[])=decide (l=[]):=by cases l<;>simp
theorem awH (n:Nat)(p:Pred):Xi n p=some (aaG p):=by
 obtain⟨op,name,a,b,s,subs⟩:=p;rw[auI];simp only[apc,awG];have key:(bif bif bif bif !(decide (op>=(5:Int))) then !(decide (name=[])) else false then true else bif op !=(6:Int) then bif a !=(0:Int) then true else b !=(0:Int) else false then true else bif op !=(7:Int) then !(decide (s=[])) else false then some false else bif bif bif decide (a>b) then true else bif bif op==(2:Int) then true else op==(3:Int) then decide (subs=[]) else false then true else bif op==(4:Int) then (subs.length:Int) !=(1:Int) else false then some false else some (bif bif bif op==(2:Int) then true else op==(3:Int) then true else op==(4:Int) then true else decide (subs=[])))=some (aaG ⟨op,name,a,b,s,subs⟩):=by
  unfold aaG;dsimp only;by_cases c1:(op<5/\name≠[])\/(op≠6/\(a≠0\/b≠0))\/(op≠7/\s≠[])
  .rw[if_pos c1];have:(bif bif bif !(decide (op>=(5:Int))) then !(decide (name=[])) else false then true else bif op !=(6:Int) then bif a !=(0:Int) then true else b !=(0:Int) else false then true else bif op !=(7:Int) then !(decide (s=[])) else false)=true:=by
    simp only[Bool.cond_true_right,Bool.cond_false_right,Bool.cond_true_left,QA,Pz,decide_eq_true_iff,bne_iff_ne,Qw,decide_eq_false_iff_not];rcases c1 with c|c|c
    .exact .inl (.inl ⟨by omega,c.2⟩)
    .exact .inl (.inr c)
    .exact .inr c
   rw[this];rfl
  .rw[if_neg c1];have:(bif bif bif !(decide (op>=(5:Int))) then !(decide (name=[])) else false then true else bif op !=(6:Int) then bif a !=(0:Int) then true else b !=(0:Int) else false then true else bif op !=(7:Int) then !(decide (s=[])) else false)=false:=by
    rw[Bool.eq_false_iff];intro h;simp only[Bool.cond_true_right,Bool.cond_false_right,Bool.cond_true_left,QA,Pz,decide_eq_true_iff,bne_iff_ne,Qw,decide_eq_false_iff_not] at h;rcases h with (h|h)|h
    .exact c1 (.inl ⟨by omega,h.2⟩)
    .exact c1 (.inr (.inl h))
    .exact c1 (.inr (.inr h))
   rw[this,cond_false];by_cases c2:a>b
   .rw[if_pos c2,decide_eq_true c2];rfl
   .rw[if_neg c2,decide_eq_false c2,cond_false];by_cases c3:op=2\/op=3
    .rw[if_pos c3];have h4:(op==(4:Int))=false:=(by rcases c3 with rfl|rfl<;>rfl);have:(bif op==(2:Int) then true else op==(3:Int))=true:=(by rcases c3 with rfl|rfl<;>rfl);rw[this,h4];by_cases hs:subs=[]<;>simp[hs]
    .rw[if_neg c3];have:(bif op==(2:Int) then true else op==(3:Int))=false:=(by rw[Bool.eq_false_iff];intro h;simp at h;exact c3 h);rw[this,cond_false];by_cases c4:op=4
     .rw[if_pos c4,c4];by_cases hl:subs.length=1
      .simp[hl]
      .have:((subs.length:Int) !=(1:Int))=true:=(by rw[bne_iff_ne];omega);rw[this];simp[hl]
     .rw[if_neg c4];have:(op==(4:Int))=false:=(by simpa using c4);rw[this];rfl
 exact key
theorem awI {n:Nat}{s:Rm}{x:List UInt8}(h:s.Defs.length<n)(hb:s.Defs.length<2^62):Xj n (s,x)=some (match s.Defs.find? (fun d=>d.Name==x) with|some d=>(d,true)|none=>(⟨[],0,0,0,[]⟩,false)):=by
 have:=aa1 (L:=fun m i=>aej n s.Defs x m i) (l:=s.Defs) (fun d i r=>bif d.Name==x then some (.inr (i:Int)) else r) (some (.inl ()))
  (fun m i d hd=>by have hlt:=UW hd;rw[an4,TH hd,Td hd,TA (by omega)];simp only[cond_true,Option.bind_some,auJ];rfl)
  (fun m=>by rw[an4,Uj];rfl) h
 rw[auL,auK,this,acK (fun d:Def=>d.Name==x) (fun i=>(Sum.inr (i:Int):PUnit⊕Int)) (.inl ())];have hg:=afC (fun d:Def=>d.Name==x) s.Defs;rw[<-hg];cases hf:s.Defs.findIdx? (fun d=>d.Name==x) with
 |none=>rfl|some j=>
  obtain⟨hj,_,_⟩:=List.findIdx?_eq_some_iff_getElem.1 hf;simp only[Option.bind_some,Sum.elim_inr,Qi];have e:decide (((j:Nat):Int)< (0:Int))=false:=by simp
  show (bif decide (((j:Nat):Int)< (0:Int)) then (some ((⟨[],(0:Int),(0:Int),(0:Int),[]⟩:Def),false):Option (Def×Bool)) else (Fb s.Defs ((j:Nat):Int)).bind fun r4=>some (r4,true))=_;rw[e,cond_false,adL,PX hj];rfl
def abn (s:Rm)(x:Pred):Option Int:=
 if x.Op<1\/x.Op>7 then some 1 else if aaG x=false then some 3 else if x.Op<5 then none else match s.Defs.find? (fun d=>d.Name==x.Name) with
 |none=>some 5|some d=>if (x.Op=6/\d.Kind≠1)\/(x.Op=7/\d.Kind≠2) then some 130 else none
def aaH (s:Rm):List Pred->Option Int
 | []=>none|x::l=>match abn s x with
  |some e=>some e|none=>aaH s l
theorem apd {U:Type}(c:U->Option Int):∀(l:List U)(i:Nat),foldI (Y:=Unit) (fun x _ _ (k:Unit->Option (PUnit⊕Int))=>match c x with|some e=>some (Sum.inr e:PUnit⊕Int)|none=>k ()) (fun _=>some (Sum.inl ():PUnit⊕Int)) i l ()=some (match l.findSome? c with|some e=>(Sum.inr e:PUnit⊕Int)|none=>.inl ())
 | [],i=>rfl|x::l,i=>by
  show (match c x with|some e=>some (Sum.inr e:PUnit⊕Int)|none=>foldI _ _ (i+1) l ())=_;rw[List.findSome?_cons];cases c x with
  |none=>exact apd c l (i+1)|some e=>rfl
theorem ape (s:Rm):∀l:List Pred,aaH s l=l.findSome? (abn s)
 | []=>rfl|x::l=>by rw[aaH,List.findSome?_cons,ape s l];cases abn s x<;>rfl
theorem apf {n:Nat}{s:Rm}(hd:s.Defs.length<n)(hdb:s.Defs.length<2^62):∀l:List Pred,Yn n s l ((),(0:Int))=some (match aaH s l with|some e=>.inr ((),e)|none=>.inl ((),(0:Int)))
 | []=>auM n s 0|x::l=>by
  have ih:=apf (n:=n) (s:=s) hd hdb l;have:=auN n s x l (0:Int);rw[show Yn n s (x::l) ((),(0:Int))=_ from this,Pred.Sr];rw[aaH];unfold abn;by_cases c1:x.Op<1\/x.Op>7
  .rw[if_pos c1];have:(bif decide (x.Op< (1:Int)) then true else decide (x.Op> (7:Int)))=true:=by
    rcases c1 with c|c
    .rw[decide_eq_true c];rfl
    .rw[decide_eq_true c];cases decide (x.Op<1)<;>rfl
   rw[this];rfl
  .rw[if_neg c1];have:(bif decide (x.Op< (1:Int)) then true else decide (x.Op> (7:Int)))=false:=by rw[decide_eq_false (by omega),decide_eq_false (by omega)];rfl
   rw[this,cond_false];refine bs (awH n x) ?_;cases hform:aaG x
   .rw[if_pos rfl];rfl
   .rw[if_neg (by simp)];show (bif decide (x.Op< (5:Int)) then _ else _)=_;by_cases c2:x.Op<5
    .rw[if_pos c2,decide_eq_true c2,cond_true];exact ih
    .rw[if_neg c2,decide_eq_false c2,cond_false];refine bs (awI hd hdb) ?_;cases hf:s.Defs.find? (fun d=>d.Name==x.Name) with
     |none=>rfl|some d=>
      dsimp only;have o:x.Op=5\/x.Op=6\/x.Op=7:=(by omega);have key:(bif bif bif x.Op==(6:Int) then d.Kind !=(1:Int) else false then true else bif x.Op==(7:Int) then d.Kind !=(2:Int) else false then some (.inr (((),(130:Int)))) else Yn n s l (((),(0:Int))))=(if (x.Op=6/\d.Kind≠1)\/(x.Op=7/\d.Kind≠2) then some (.inr (((),(130:Int)))) else Yn n s l (((),(0:Int)))):=by
       by_cases k1:d.Kind=1<;>by_cases k2:d.Kind=2<;>rcases o with o|o|o<;>simp[o,k1,k2]<;>first
        | (have h1:(d.Kind !=(1:Int))=true:=bne_iff_ne.2 (by omega);rw[h1];rfl)
        | (have h2:(d.Kind !=(2:Int))=true:=bne_iff_ne.2 (by omega);rw[h2];rfl)
      rw[show Yn n s l (((),(0:Int)))=_ from ih] at key⊢;refine key.trans ?_;by_cases c3:(x.Op=6/\d.Kind≠1)\/(x.Op=7/\d.Kind≠2)
      .rw[if_pos c3,if_pos c3]
      .rw[if_neg c3,if_neg c3]
theorem alk {n:Nat}{s:Rm}{p:Pred}(hp:RA p<2^62)(hd:s.Defs.length<n)(hdb:s.Defs.length<2^62):
 Zn n (s,p)=some (if ((pre p).take 1000).length>64 then 2 else (aaH s ((pre p).take 1000)).getD 0):=by
 rw[auO,Pred.Sr];refine bs (avE hp) ?_;show (bif decide ((((((pre p).take 1000).length:Nat):Int))> (64:Int)) then _ else _)=_;by_cases c:((pre p).take 1000).length>64
 .rw[if_pos c,decide_eq_true (by omega)];rfl
 .rw[if_neg c,decide_eq_false (by omega),cond_false];refine bs (acV n p) ?_;show ((VN p.re).bind _).bind _=_;rw[Pred.Sr];have hlen:(pre p).length<=64:=by rw[Qa] at c;omega
  rw[ac0 hp,Option.bind_some,apf hd hdb,Qx (by omega)];cases aaH s (pre p)<;>rfl
end Sh
end
section
open Go Go.Proofs Aq Pq
namespace Sh
def notP (p:Pred):Pred:=⟨4,[],0,0,[],[p]⟩
end Sh
end
