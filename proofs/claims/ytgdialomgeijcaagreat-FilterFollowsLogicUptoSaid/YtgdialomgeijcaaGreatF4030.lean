import Derived.Test.YtgdialomgeijcaaGreatF4029
set_option linter.all false
section
open Go Go.Proofs Aq Pq
namespace Sh
inductive NF:Pred->Prop
 |leaf (x:Pred) (h2:x.Op≠2) (h3:x.Op≠3) (h4:x.Op≠4):NF x
 |neg (x:Pred) (h2:x.Op≠2) (h3:x.Op≠3) (h4:x.Op≠4):NF (notP x)
 |join (c:Int) (L:List Pred) (hc:c=2\/c=3) (hL:∀y∈L,NF y) (ho:∀y∈L,y.Op≠c) (ht:∀y∈L,∀b,y≠WZ b) (hs:SS L) (hn:2<=L.length):NF ⟨c,[],0,0,[],L⟩
theorem NF.const (b:Bool):NF (WZ b):=by
 cases b
 .exact .neg _ (by decide) (by decide) (by decide)
 .exact .leaf _ (by decide) (by decide) (by decide)
theorem ah1 {c:Int}{y:Pred}(h:y.Op=c):Z8 c y=y.Ra:=by unfold Z8;rw[if_pos h]
theorem aoy {c:Int}{y:Pred}(h:y.Op≠c)(k:y=VB c):Z8 c y=[]:=by unfold Z8;rw[if_neg h,if_pos k]
theorem ah2 {c:Int}{y:Pred}(h:y.Op≠c)(k:y≠VB c):Z8 c y=[y]:=by unfold Z8;rw[if_neg h,if_neg k]
theorem aoz (op:Int)(o:Bool):Yg op o=2\/Yg op o=3:=by unfold Yg;split<;>simp
theorem aoA {x:Pred}(h2:x.Op≠2)(h3:x.Op≠3)(h4:x.Op≠4)(o:Bool):nf x o=if o then notP x else x:=by
 cases x;rw[nf,if_neg h4,if_neg (by intro h;rcases h with h|h;exact h2 h;exact h3 h)]
theorem aBW (x:Pred)(o:Bool):nf (notP x) o=nf x (!o):=by unfold notP;rw[nf,if_pos rfl,YE]
theorem aBX {c:Int}(hc:c=2\/c=3):Yg c false=c:=by rcases hc with rfl|rfl<;>rfl
theorem aBY {c:Int}(hc:c=2\/c=3):Yg c true=5-c:=by rcases hc with rfl|rfl<;>rfl
noncomputable def du (x:Pred):Pred:=nf x true
theorem aBZ (b:Bool):du (WZ b)=WZ (!b):=by
 unfold du;cases b
 .show nf (notP _) true=_;rw[aBW,aoA (by decide) (by decide) (by decide)];rfl
 .show nf ⟨1,[],0,0,[],[]⟩ true=_;rw[aoA (by decide) (by decide) (by decide)];rfl
structure atL (x:Pred):Prop where
 back:du (du x)=x
 op:∀c,c=2\/c=3->((du x).Op=5-c↔x.Op=c)
theorem atL.const {x:Pred}(h:atL x){b:Bool}(e:du x=WZ b):x=WZ (!b):=by rw[<-h.back,e,aBZ]
mutual
def wf:Pred->Prop
 | ⟨op,_,_,_,_,subs⟩=>(op=4->subs.length<=1)/\wfL subs
def wfL:List Pred->Prop
 | []=>True|p::l=>wf p/\wfL l
end
def V5 (l:List Attr)(c:Int)(ys:List Pred):Bool:=if c=2 then WU l ys else anyS l ys
theorem ah3 (l:List Attr){c:Int}(hc:c=2\/c=3)(name:List UInt8)(a b:Int)(s:List UInt8)(L:List Pred):Rx l ⟨c,name,a,b,s,L⟩=V5 l c L:=by rcases hc with rfl|rfl<;>rw[Rx]<;>rfl
theorem ah4 (l:List Attr)(b:Bool):Rx l (WZ b)=b:=by
 cases b<;>simp[WZ,notP,Rx,anyS]
theorem aB0 (l:List Attr)(x:Pred):Rx l (notP x)= !Rx l x:=by unfold notP;rw[Rx];simp[anyS]
theorem agh {l:List Attr}{c:Int}(hc:c=2\/c=3){ys:List Pred}:V5 l c ys=(!decide (c=2))↔∃y∈ys,Rx l y= !decide (c=2):=by
 rcases hc with rfl|rfl
 .show WU l ys=false↔∃y∈ys,Rx l y=false;rw[acr];simp
 .show anyS l ys=true↔∃y∈ys,Rx l y=true;rw[acs];simp
theorem atM {l:List Attr}{c:Int}(hc:c=2\/c=3){ys zs:List Pred}(h:(∃y∈ys,Rx l y= !decide (c=2))↔∃y∈zs,Rx l y= !decide (c=2)):V5 l c ys=V5 l c zs:=by rw[<-agh hc,<-agh hc] at h;generalize (!decide (c=2))=d at h;generalize V5 l c ys=u at*;generalize V5 l c zs=v at*;cases d<;>cases u<;>cases v<;>simp_all
theorem aB1 {l:List Attr}{c:Int}(hc:c=2\/c=3){ys zs:List Pred}(h:∀x,x∈ys↔x∈zs):V5 l c ys=V5 l c zs:=by
 refine atM hc ?_;constructor
 .rintro⟨y,hy,e⟩;exact⟨y,(h y).1 hy,e⟩
 .rintro⟨y,hy,e⟩;exact⟨y,(h y).2 hy,e⟩
theorem aB2 (l:List Attr){c:Int}(hc:c=2\/c=3):∀L:List Pred,Rx l (atH c L)=V5 l c L
 | []=>by show Rx l (VB c)=_;unfold VB;rw[ah4];rcases hc with rfl|rfl<;>rfl
 | [x]=>by
   show Rx l x=_;rcases hc with rfl|rfl
   .show _=WU l [x];rw[acr];simp
   .show _=anyS l [x];rw[acs];simp
 |x::y::L=>ah3 l hc [] 0 0 [] _
theorem aB3 (l:List Attr){c:Int}(hc:c=2\/c=3)(ys:List Pred):V5 l c (WC c ys)=V5 l c ys:=by
 refine atM hc ?_;constructor
 .rintro⟨z,hz,e⟩;obtain⟨y,hy,hz2⟩:=List.mem_flatMap.1 hz;refine⟨y,hy,?_⟩;by_cases ho:y.Op=c
  .rw[ah1 ho] at hz2;cases y with
   |mk op name a b s subs=>have ho:op=c:=ho;subst ho;rw[ah3 l hc];exact(agh hc).2 ⟨z,hz2,e⟩
  .by_cases k:y=VB c
   .rw[aoy ho k] at hz2;cases hz2
   .rw[ah2 ho k] at hz2;have:=P9.1 hz2;rw[<-this];exact e
 .rintro⟨y,hy,e⟩;by_cases ho:y.Op=c
  .have e':Rx l y=V5 l c y.Ra:=by
    cases y with
    |mk op name a b s subs=>have ho:op=c:=ho;subst ho;exact ah3 l hc _ _ _ _ _
   rw[e'] at e;obtain⟨z,hz,e⟩:=(agh hc).1 e;exact⟨z,List.mem_flatMap.2 ⟨y,hy,by rw[ah1 ho];exact hz⟩,e⟩
  .by_cases k:y=VB c
   .rw[k] at e;unfold VB at e;rw[ah4] at e;cases h:decide (c=2)<;>rw[h] at e<;>cases e
   .exact⟨y,List.mem_flatMap.2 ⟨y,hy,by rw[ah2 ho k];exact PG ..⟩,e⟩
theorem aB4 (l:List Attr){c:Int}(hc:c=2\/c=3)(ys:List Pred):Rx l (aaK c ys)=V5 l c ys:=by
 rw[<-aB3 l hc ys,<-aB1 hc (fun x=>agf x (WC c ys))];unfold aaK;split
 .rename_i h;have e:Rx l (absP c)= !decide (c=2):=ah4 l _;rw[e];exact((agh hc).2 ⟨_,h,e⟩).symm
 .exact aB2 l hc _
theorem aB5 (l:List Attr){c:Int}(hc:c=2\/c=3){ys zs:List Pred}(f:Pred->Pred)(e:zs=ys.map f)(h:∀y∈ys,Rx l (f y)= !Rx l y):V5 l (5-c) zs= !V5 l c ys:=by
 subst e;rcases hc with rfl|rfl
 .show anyS l (ys.map f)= !WU l ys;rw[acs,acr];induction ys with
  |nil=>rfl|cons y ys ih=>rw[PS,List.any_cons,List.all_cons,ih fun z hz=>h z (PK _ hz),h y (PG ..)];cases Rx l y<;>rfl
 .show WU l (ys.map f)= !anyS l ys;rw[acs,acr];induction ys with
  |nil=>rfl|cons y ys ih=>rw[PS,List.any_cons,List.all_cons,ih fun z hz=>h z (PK _ hz),h y (PG ..)];cases Rx l y<;>rfl
theorem aB6 (l:List Attr)(c:Int){ys:List Pred}(f:Pred->Pred)(h:∀y∈ys,Rx l (f y)=Rx l y):V5 l c (ys.map f)=V5 l c ys:=by
 unfold V5;rw[acr,acs,acr,acs,List.all_map,List.any_map];have e0:∀{ys:List Pred},(∀y∈ys,Rx l (f y)=Rx l y)->ys.all (Rx l∘f)=ys.all (Rx l):=fun {ys} h=>by
  induction ys with
  |nil=>rfl|cons y ys ih=>rw[List.all_cons,List.all_cons,ih fun z hz=>h z (PK _ hz)];rw[show (Rx l∘f) y=Rx l y from h y (PG ..)]
 have e1:ys.all (Rx l∘f)=ys.all (Rx l):=by
  induction ys with
  |nil=>rfl|cons y ys ih=>rw[List.all_cons,List.all_cons,ih fun z hz=>h z (PK _ hz)];rw[show (Rx l∘f) y=Rx l y from h y (PG ..)]
 clear e1;have e2:ys.any (Rx l∘f)=ys.any (Rx l):=by
  induction ys with
  |nil=>rfl|cons y ys ih=>rw[List.any_cons,List.any_cons,ih (fun z hz=>h z (PK _ hz))];rw[show (Rx l∘f) y=Rx l y from h y (PG ..)]
 rw[e0 h,e2]
mutual
theorem aoB (l:List Attr):∀(p:Pred)(o:Bool),wf p->Rx l (nf p o)=(Rx l p !=o)
 | ⟨op,name,a,b,s,subs⟩,o,hw=>by
   rw[wf] at hw;by_cases h4:op=4
   .rw[nf,if_pos h4,Rx];subst h4;rw[aB7 l subs (!o) (hw.1 rfl) hw.2];cases anyS l subs<;>cases o<;>rfl
   .by_cases h23:op=2\/op=3
    .rw[nf,if_neg h4,if_pos h23,aB4 l (aoz op o),ah3 l h23,atI];have hh:=atN l subs o hw.2;cases o
     .rw[aBX h23,aB6 l op _ (fun y hy=>(hh y hy).trans (by simp))];simp
     .rw[aBY h23,aB5 l h23 _ rfl (fun y hy=>(hh y hy).trans (by simp))];simp
    .have h2:op≠2:=fun e=>h23 (.inl e);have h3:op≠3:=fun e=>h23 (.inr e);rw[aoA h2 h3 h4];cases o
     .rw[if_neg (by decide)];simp
     .rw[if_pos rfl,aB0];simp
theorem atN (l:List Attr):∀(ys:List Pred)(o:Bool),wfL ys->∀y∈ys,Rx l (nf y o)=(Rx l y !=o)
 | [],o,_=>by intro y hy;cases hy|p::ys,o,hw=>by
  rw[wfL] at hw;intro y hy;rcases PI.1 hy with e|hy
  .rw[e];exact aoB l p o hw.1
  .exact atN l ys o hw.2 y hy
theorem aB7 (l:List Attr):∀(ys:List Pred)(o:Bool),ys.length<=1->wfL ys->Rx l (YE ys o)=(anyS l ys !=o)
 | [],o,_,_=>by rw[YE,ah4,anyS];cases o<;>rfl| [p],o,_,hw=>by rw[wfL] at hw;rw[YE,aoB l p o hw.1];simp[anyS]|_::_::_,_,h,_=>by simp at h
end
end Sh
end
section
open Go Go.Proofs Aq Pq
namespace Sh
def OkP (n:Nat)(x:Pred):Prop:=2*Rq x<n/\Rq x<2^62
theorem atO {n:Nat}{x y:Pred}(hn:8<n)(hx:2*Rq x<n)(hx2:Rq x<2^62)(hy:Rq y<2^62):Zj n (x,y)=some (SL x y):=by
 have e1:Zj n (x,y)=adk n n (x,y):=by unfold Zj;rfl
 rw[e1];exact asY hn (Rq x) n x y (mF _) (by omega) (by omega) hx2 hy
theorem aB8 {n:Nat}(hn:8<n):aas (OkP n) (fun x y=>SL x y<0) (KP n):=
 fun a b ha hb=>⟨decide (SL a b<0),by simp,fun f=>bs (show Zj n (a.re,b.re)=some (SL a b) by rw[Pred.Sb,Pred.Sb];exact atO hn ha.1 ha.2 hb.2) rfl⟩
theorem aB9:Ord fun x y=>SL x y<0 where
 asym:=fun x y h k=>by have:=WY x y;omega
 neg:=fun x y z h k=>by have h1:=WY x y;have h2:=WY y z;have h3:=WY x z;have:=as5.trans z y x (by omega) (by omega);omega
theorem aoC {n:Nat}(hn:8<n){x y:Pred}(hx:OkP n x)(hy:OkP n y):Xp n (x,y)=some (TB x y):=by rw[aAH];simp only[Pred.Sb];exact bs (atO hn hx.1 hx.2 hy.2) rfl
theorem ah5 {x y:Pred}:TB x y=true↔x=y:=by
 unfold TB;constructor
 .intro h;exact adw x y (by simpa using h)
 .intro h;rw[h,aoc];rfl
theorem atP {n:Nat}(b:Bool):XC n b=some (WZ b):=by
 rw[aAC];cases b
 .rw[cond_false];refine bs (anX ..) ?_;simp only[Pred.Sb];rfl
 .rfl
theorem aCa {n:Nat}(hn:800<n){l:List Pred}(hl:l.length<256)(hal:Al (OkP n) l):∃r:(Int×Int)×List Pred,Zo n ((),(),()) l=some r/\r.1.1=0/\0<=r.1.2/\r.1.2<=r.2.length/\r.2.take r.1.2.toNat=comp TB l:=
 asI (n:=n) (VB 2) (e:=TB) (Ok:=OkP n) (sm:=Xp n) (fun a b ha hb=>aoC (by omega) ha hb) (C9:=aeC n) (C4:=af5 n) (cpt:=Zo n)
  (by intros;refine Eq.trans (aAL ..) ?_;(try simp only[Pred.Sb]);(first|done|rfl)) (by intros;refine Eq.trans (aAM ..) ?_;(try simp only[Pred.Sb]);(first|done|rfl)) (by intros;refine Eq.trans (aAN ..) ?_;(try simp only[Pred.Sb]);(first|done|rfl)) (by omega) hal (by omega)
theorem aCb {n:Nat}(hn:800<n){l:List Pred}{y:Pred}(hl:l.length<256)(hal:Al (OkP n) l)(hy:OkP n y):XA n (l,(),y.Op,y.Name,y.N,y.M,y.S,y.Ra)=some (l.any fun x=>TB x y):=by
 have hb:∀x∈l,XI n (x,y.Op,y.Name,y.N,y.M,y.S,y.Ra)=some (TB x y):=fun x hx=>by
  rw[aAO];simp only[Pred.Sb];have e:(⟨y.Op,y.Name,y.N,y.M,y.S,y.Ra⟩:Pred)=y:=by cases y;rfl
  rw[e];exact bs (aoC (by omega) (hal x hx) hy) rfl
 have:=adf (L:=fun m i=>af7 n l y.Op y.Name y.N y.M y.S y.Ra m i) (l:=l) (fun x i r=>bif TB x y then some (.inr (i:Int)) else r) (some (.inl ()))
  (fun m i x hx=>by have hlt:=Vx hx;rw[asG,Ui hx,Tv hx,Ud (by omega)];simp only[cond_true,Option.bind_some,Pred.Sb];rw[hb x (Qh hx)];rfl)
  (fun m=>by rw[asG,U3];rfl) (show l.length<n by omega)
 rw[aAQ,aAP,this,aeg (fun x=>TB x y) (fun i=>(Sum.inr (i:Int):PUnit⊕Int)) (.inl ())];cases hf:l.findIdx? (fun x=>TB x y) with
 |none=>
  rw[List.findIdx?_eq_none_iff] at hf;have:l.any (fun x=>TB x y)=false:=by rw[List.any_eq_false];intro z hz;simpa using hf z hz
  rw[this];rfl
 |some j=>
  obtain⟨hj,h2,_⟩:=List.findIdx?_eq_some_iff_getElem.1 hf;have:l.any (fun x=>TB x y)=true:=by rw[List.any_eq_true];exact⟨l[j],Qx hj,h2⟩
  rw[this];show some (decide (((0+j:Nat):Int)>=(0:Int)))=some true;rw[decide_eq_true (by omega)]
theorem aCc (l:List Pred)(y:Pred):(l.any fun x=>TB x y)=decide (y∈l):=by
 by_cases h:y∈l
 .rw[decide_eq_true h,List.any_eq_true];exact⟨y,h,ah5.2 rfl⟩
 .rw[decide_eq_false h,List.any_eq_false];intro x hx e;exact h (ah5.1 e▸hx)
theorem atQ {n:Nat}(hn:800<n)(b:Bool):OkP n (WZ b):=by have:=ahZ b;exact⟨by omega,by omega⟩
theorem aCd (c:Int)(y:Pred)(ys:List Pred):WC c (y::ys)=Z8 c y++WC c ys:=rfl
theorem ah6 {n g:Nat}{p:Pred}{o:Bool}{c:Int}{r5:Pred}(hn:900<n)(hN:∀x∈p.Ra,aaD n g (x,o)=some (nf x o))(hz:Sm p.Ra<=127):∀(k i m:Nat)(s:List Pred),i+k=p.Ra.length->k<m->s.length+Sm (Vi (p.Ra.drop i) o)<=254->
 abT n g p o c (VB c) r5 m (((),(i:Int)),s)=some ((),s++WC c (Vi (p.Ra.drop i) o))
 |0,i,m,s,hi,hm,_=>by
  obtain⟨m,rfl⟩:∃m',m=m'+1:=⟨m-1,by omega⟩;have e:i=p.Ra.length:=by omega
  rw[asH,acP (by omega),cond_false,e,List.drop_length,Vi];show some ((),s)=some ((),s++[]);rw[Qy]
 |k+1,i,m,s,hi,hm,hs=>by
  obtain⟨m,rfl⟩:∃m',m=m'+1:=⟨m-1,by omega⟩;have hlt:i<p.Ra.length:=by omega
  have hx:p.Ra[i]? =some p.Ra[i]:=PZ hlt;have hlen:=aaq p.Ra;have hmem:p.Ra[i]∈p.Ra:=Qx hlt;have hsz:=ah0 p.Ra[i] o;have hsm:=aar hmem;have hok:OkP n (nf p.Ra[i] o):=⟨by omega,by omega⟩;rw[Qf hlt,Vi] at hs⊢;simp only[Sm] at hs;rw[asH,Ui hx,cond_true];refine bs (Tv hx) ?_;simp only[Pred.Sb];refine bs (hN _ hmem) ?_;rw[aCd,Ud (by omega)];have hf:=atK c (nf p.Ra[i] o);have hfl:=aaq (Z8 c (nf p.Ra[i] o));by_cases ho:(nf p.Ra[i] o).Op=c
  .rw[ah1 ho] at hf hfl⊢;have e:((nf p.Ra[i] o).Op==c)=true:=by rw[ho];exact beq_self_eq_true _
   rw[e,cond_true,an7 (by omega),cond_true,ah6 hn hN hz k (i+1) m _ (by omega) (by omega) (by rw[PU];omega),Qe]
  .have e:((nf p.Ra[i] o).Op==c)=false:=by simpa using ho
   rw[e,cond_false];refine bs (aoC (by omega) hok (atQ (by omega) _)) ?_;by_cases hk:nf p.Ra[i] o=VB c
   .rw[aoy ho hk];have e2:TB (nf p.Ra[i] o) (VB c)=true:=ah5.2 hk;rw[e2];show abT n g p o c (VB c) r5 m (((),((i+1:Nat):Int)),s)=_;rw[ah6 hn hN hz k (i+1) m _ (by omega) (by omega) (by omega)];rfl
   .rw[ah2 ho hk];have e2:TB (nf p.Ra[i] o) (VB c)=false:=by
     cases h:TB (nf p.Ra[i] o) (VB c)
     .rfl
     .exact absurd (ah5.1 h) hk
    rw[e2];show (bif SB (s.length+1) 80 then abT n g p o c (VB c) r5 m (((),((i+1:Nat):Int)),s++[nf p.Ra[i] o]) else none)=_;have:=Yu (nf p.Ra[i] o);rw[an7 (by omega),cond_true,ah6 hn hN hz k (i+1) m _ (by omega) (by omega) (by rw[PU,List.length_singleton];omega),Qe]
theorem atS {n g:Nat}{p:Pred}{o:Bool}(hn:900<n)(hp:p.Op=2\/p.Op=3)(hN:∀x∈p.Ra,aaD n g (x,o)=some (nf x o))(hz:Sm p.Ra<=127):aen n (g+1) (p,o)=some (aaK (Yg p.Op o) (Vi p.Ra o)):=by
 have hlen:=aaq p.Ra;have hsz:=aox p.Ra o;rw[aAS];simp only[Pred.Sb];unfold aaK;have e1:(!((p.Op==(2:Int))==o))=decide (Yg p.Op o=2):=by unfold Yg;have:(p.Op==(2:Int))=decide (p.Op=2):=rfl;rw[this];cases decide (p.Op=2)<;>cases o<;>rfl
 have e0:(bif decide (Yg p.Op o=2) then some (2:Int) else some 3)=some (Yg p.Op o):=by rcases aoz p.Op o with h|h<;>rw[h]<;>rfl
 rw[e1];refine bs e0 ?_;generalize Yg p.Op o=c;refine bs (atP _) (bs (atP _) ?_);have hL:=ah6 (n:=n) (g:=g) (p:=p) (o:=o) (c:=c) (r5:=absP c) hn hN hz p.Ra.length 0 n [] (by omega) (by omega) (by rw[Qt];simp only[List.length_nil];omega);rw[Qt,List.nil_append] at hL;refine bs hL ?_;have hfs:=aow c (Vi p.Ra o);have hfl:=aaq (WC c (Vi p.Ra o));have hsr:∀x,x∈WC c (Vi p.Ra o)->OkP n x:=fun x hx=>by have:=aar hx;exact⟨by omega,by omega⟩
 generalize WC c (Vi p.Ra o)=F at*;obtain⟨⟨u1,S⟩,q1,q2,q3⟩:=aBd (n:=n) (aB8 (by omega)) aB9 (VB 2) (by omega) (l:=F) (by omega) hsr;refine bs q1 ?_;have q2:S.Perm F:=q2;have hsl:S.length=F.length:=q2.length_eq;obtain⟨⟨⟨a,b⟩,C⟩,w1,w2,w3,w4,w5⟩:=aCa (n:=n) (by omega) (l:=S) (by omega) (fun x hx=>hsr x (q2.mem_iff.1 hx));refine bs w1 ?_;dsimp only at w2 w3 w4 w5;subst w2;have es:V9 C 0 b=Vh F:=by unfold V9;rw[w5];show (comp TB S).drop 0=_;rw[Qt];exact aBT q2 q3
 have hm:=fun x=>agf x F;have hul:(Vh F).length=b.toNat:=by rw[<-es];unfold V9;rw[QL,Qc];omega
 have hus:=aos F;have aDt:=aaq (Vh F);have hix:∀x,Vh F=[x]->Q5 C ((0:Int)+0)=some x:=fun x hx=>by
  have h1:(C.take b.toNat)[0]? =some x:=by have:V9 C 0 b=C.take b.toNat:=rfl;rw[<-this,es,hx];rfl
  have hb:b.toNat=1:=by rw[<-hul,hx];rfl
  have h2:C[0]? =some x:=by rw[List.getElem?_take] at h1;rw[hb] at h1;simpa using h1
  exact Tv h2
 have aCe:XA n (Vh F,(),(absP c).Op,(absP c).Name,(absP c).N,(absP c).M,(absP c).S,(absP c).Ra)=some (decide (absP c∈Vh F)):=by rw[aCb (y:=absP c) (by omega) (by omega) (fun x hx=>hsr x ((hm x).1 hx)) (atQ (by omega) _),aCc]
 have hcon:=Eq.trans (congrArg (fun l:List Pred=>XA n (l,(),(absP c).Op,(absP c).Name,(absP c).N,(absP c).M,(absP c).S,(absP c).Ra)) es) aCe;refine bs hcon ?_;show (bif decide (absP c∈Vh F) then some (absP c) else bif (((b-0).toNat:Nat):Int)==0 then some (VB c) else bif (((b-0).toNat:Nat):Int)==1 then bif Uu 0 (b-0) then (Q5 C (0+0)).bind fun Sr=>some Sr else none else some ⟨c,[],0,0,[],V9 C 0 b⟩)=_;rw[es];by_cases ha:absP c∈Vh F
 .rw[decide_eq_true ha,if_pos ha,cond_true]
 .rw[decide_eq_false ha,if_neg ha,cond_false,Int.sub_zero];rw[<-hul];generalize Vh F=L at*
  match L,hix,hul with
  | [],_,_=>rfl| [x],hix,hul=>show (bif Uu (0:Int) b then (Q5 C ((0:Int)+0)).bind fun Sr=>some Sr else none)=some x;have hb:b.toNat=1:=(by rw[<-hul];rfl);have:Uu (0:Int) b=true:=decide_eq_true (by omega);rw[this,cond_true,hix x rfl];rfl
  |x::y::L,_,_=>
   have h0:((((x::y::L).length:Nat):Int)==0)=false:=by simp;omega
   have h1:((((x::y::L).length:Nat):Int)==1)=false:=by simp;omega
   rw[h0,cond_false,h1,cond_false];rfl
mutual
def acc:Pred->Prop
 | ⟨op,_,_,_,_,subs⟩=>(op=4->subs.length=1)/\adB subs
def adB:List Pred->Prop
 | []=>True|p::l=>acc p/\adB l
end
theorem atT:∀{l:List Pred},adB l↔∀x∈l,acc x
 | []=>by rw[adB];simp|p::l=>by rw[adB,atT (l:=l)];simp
theorem atU (p:Pred):acc p↔(p.Op=4->p.Ra.length=1)/\∀x∈p.Ra,acc x:=by
 cases p;rw[acc,atT]
mutual
theorem atV:∀p:Pred,acc p->wf p
 | ⟨op,name,a,b,s,subs⟩,h=>by rw[acc] at h;rw[wf];exact⟨fun e=>QG (h.1 e),atW subs h.2⟩
theorem atW:∀l:List Pred,adB l->wfL l
 | [],_=>by rw[wfL];trivial|p::l,h=>by rw[adB] at h;rw[wfL];exact⟨atV p h.1,atW l h.2⟩
end
theorem aoD {n:Nat}(hn:900<n):∀(k g:Nat)(p:Pred)(o:Bool),Rq p<=k->2*Rq p<=g->acc p->Rq p<=128->aaD n g (p,o)=some (nf p o)
 |0,g,p,o,hk,_,_,_=>by have:=Yu p;omega|k+1,g,p,o,hk,hg,ha,hp=>by
  have hs:=abM p;have ha':=(atU p).1 ha;obtain⟨g,rfl⟩:∃g',g=g'+2:=⟨g-2,by omega⟩;have ih:∀x∈p.Ra,∀o,aaD n g (x,o)=some (nf x o):=fun x hx o=>by have:=aar hx;exact aoD hn k g x o (by omega) (by omega) (ha'.2 x hx) (by omega)
  have ih1:∀x∈p.Ra,∀o,aaD n (g+1) (x,o)=some (nf x o):=fun x hx o=>by have:=aar hx;exact aoD hn k (g+1) x o (by omega) (by omega) (ha'.2 x hx) (by omega)
  rw[aAR];simp only[Pred.Sb];have en:nf p o=if p.Op=4 then YE p.Ra (!o) else if p.Op=2\/p.Op=3 then aaK (Yg p.Op o) (Vi p.Ra o) else if o then notP p else p:=by
   cases p;rw[nf]
  rw[en];by_cases h4:p.Op=4
  .have e:(p.Op==(4:Int))=true:=by rw[h4];rfl
   rw[e,cond_true,if_pos h4];have hl:=ha'.1 h4;generalize p.Ra=l at*
   match l,hl with
   | [x],_=>refine bs (Tv (i:=0) (x:=x) rfl) ?_;refine bs (ih1 x (PG ..) (!o)) ?_;rw[YE]
  .have e:(p.Op==(4:Int))=false:=by simpa using h4
   rw[e,cond_false,if_neg h4];by_cases h2:p.Op=2
   .have e:(p.Op==(2:Int))=true:=(by rw[h2];rfl);rw[e,cond_true,if_pos (.inl h2),atS hn (.inl h2) (fun x hx=>ih x hx o) (by omega)];rfl
   .have e:(p.Op==(2:Int))=false:=(by simpa using h2);rw[e,cond_false];by_cases h3:p.Op=3
    .have e:(p.Op==(3:Int))=true:=(by rw[h3];rfl);rw[e,cond_true,if_pos (.inr h3),atS hn (.inr h3) (fun x hx=>ih x hx o) (by omega)];rfl
    .have e:(p.Op==(3:Int))=false:=(by simpa using h3);rw[e,cond_false,if_neg (by intro h;rcases h with h|h;exact h2 h;exact h3 h)];cases o
     .rfl
     .rw[cond_true,anX,if_pos rfl];simp only[Pred.Sb];rfl
theorem aCf {n:Nat}(hn:900<n){p:Pred}(ha:acc p)(hp:Rq p<=128):XJ n p=some (nf p false):=by
 rw[aAT];simp only[Pred.Sb];have e:Zm n (p,false)=aaD n n (p,false):=by unfold Zm;rfl
 rw[e,aoD hn (Rq p) n p false (mF _) (by omega) ha hp];rfl
end Sh
end
section
open Go Go.Proofs Aq Pq
namespace Sh
theorem aCg:∀p:Pred,p∈pre p
 | ⟨op,name,n,m,s,subs⟩=>by rw[pre];exact PG ..
theorem agj:∀{l:List Pred}{x y:Pred},x∈l->y∈pre x->y∈Uw l
 | [],_,_,h,_=>by cases h|p::l,x,y,h,k=>by
  rw[Uw];rcases PI.1 h with e|h
  .rw[<-e];exact QF _ k
  .exact QI _ (agj h k)
theorem ah7 (p:Pred):pre p=p::Uw p.Ra:=by cases p;rw[pre]
theorem atX:∀(k:Nat)(p:Pred),Rq p<=k->(∀x∈pre p,x.Op=4->x.Ra.length=1)->acc p
 |0,p,hk,_=>by have:=Yu p;omega|k+1,p,hk,h=>by have hs:=abM p;refine(atU p).2 ⟨h p (aCg p),fun x hx=>?_⟩;have:=aar hx;refine atX k x (by omega) fun y hy=>h y ?_;rw[ah7];exact PK _ (agj hx hy)
theorem aCh {x:Pred}(h:aaI x=true)(h4:x.Op=4):x.Ra.length=1:=by
 unfold aaI at h;split at h
 .cases h
 .split at h
  .cases h
  .rw[if_neg (show¬(x.Op=2\/x.Op=3) by omega)] at h;exact of_decide_eq_true h
theorem aCi {n:Nat}{s:Ro}(h:adA s n)(hn:6<n):∃b:Bool,XE n s=some b:=by obtain⟨b,hb⟩:=aBN (k:=16) h;obtain⟨e,he⟩:=ahj (c:=b) (o:=Zx n s) (d:=(0:Int)) (fun _=>aBM h hn);rw[arA,hb];refine⟨_,bs rfl (bs he rfl)⟩
theorem atY (d:Def):d.Name.length+d.Words.length+1<=UO (Def.v d)/\∀w∈d.Words,w.length+1<=UO (Def.v d):=by have e:UO (Def.v d)=(d.Name.length+1)+(1+(1+(1+(Ws (d.Words.map V.str)+1+0)))):=rfl;have h1:=aty V.str (fun x=>by simp[UO]) d.Words;refine⟨by omega,fun w hw=>?_⟩;have h2:=atx V.str hw;have h3:UO (V.str w)=w.length+1:=rfl;omega
theorem aCj {s:Ro}{n k:Nat}(h:UO (Ro.v s)<=k)(hk:k<n)(hk2:k<2^62):adA s n:=by have e:UO (Ro.v s)=1+(1+(Ws (s.Defs.map Def.v)+1+0)):=rfl;have h1:=aty Def.v (fun x=>by have:=(atY x).1;omega) s.Defs;refine⟨by omega,by omega,fun d hd=>?_⟩;have h2:=atx Def.v hd;have h3:=atY d;have h4:=h3.1;refine⟨by omega,by omega,by omega,by omega,fun w hw=>?_⟩;have:=h3.2 w hw;exact⟨by omega,by omega⟩
end Sh
end
section
open Go Go.Proofs Aq Pq
namespace Sh
theorem iB {U β:Type}{o:Option U}{f:U->Option β}{r:β}(h:o.bind f=some r):∃a,o=some a/\f a=some r:=iP.1 h
theorem iC {U:Type}{c:Bool}{a b:Option U}{r:U}(h:(bif c then a else b)=some r):(c=true/\a=some r)\/(c=false/\b=some r):=by
 cases c
 .exact .inr ⟨rfl,h⟩
 .exact .inl ⟨rfl,h⟩
theorem iS {U:Type}{a b:U}(h:some a=some b):a=b:=Qb h
def aoE (n:Nat)(x:List UInt8)(d:Def):Prop:=
 ((Go.Op.bytesLess d.Name x)||(d.Name==x))=false/\((d.Kind=1/\ -(2^40)<=d.Lo/\d.Hi<=2^40/\d.Lo<=d.Hi/\d.Words=[])\/(d.Kind=2/\d.Lo=0/\d.Hi=0/\Zl n d.Words=some (0:Int)))
theorem aCk {n:Nat}{d:Def}{x:List UInt8}(h:Xw n (d,x)=some (0:Int)):aoE n x d:=by
 have h:=(arw n d x).symm.trans h;obtain⟨b,hb,h⟩:=iB h;rcases iC h with ⟨_,h⟩| ⟨_,h⟩
 .exact absurd (iS h) (by decide)
 rcases iC h with ⟨_,h⟩| ⟨hname,h⟩
 .exact absurd (iS h) (by decide)
 refine⟨hname,?_⟩;rcases iC h with ⟨hk,h⟩| ⟨hk,h⟩
 .have hk:d.Kind=1:=by simpa using hk
  rcases iC h with ⟨_,h⟩| ⟨hr,h⟩
  .exact absurd (iS h) (by decide)
  rcases iC h with ⟨_,h⟩| ⟨hw,h⟩
  .exact absurd (iS h) (by decide)
  refine .inl ⟨hk,?_⟩;have a1:¬d.Lo< (-1099511627776:Int):=fun k=>by rw[decide_eq_true k] at hr;cases hr
  rw[decide_eq_false a1,cond_false] at hr;have a2:¬d.Hi> (1099511627776:Int):=fun k=>by rw[decide_eq_true k] at hr;cases hr
  rw[decide_eq_false a2,cond_false] at hr;have a3:=of_decide_eq_false hr;have a4:=of_decide_eq_false hw;refine⟨by omega,by omega,by omega,?_⟩;exact Qq (by omega)
 .rcases iC h with ⟨hk2,h⟩| ⟨hk2,h⟩
  .have hk2:d.Kind=2:=by simpa using hk2
   rcases iC h with ⟨_,h⟩| ⟨hr,h⟩
   .exact absurd (iS h) (by decide)
   refine .inr ⟨hk2,?_⟩;obtain⟨e,he,h⟩:=iB (U:=Int) h;have he0:e=0:=iS h;subst he0;have a1:d.Lo=0:=by
    cases hl:d.Lo !=(0:Int) with
    |true=>rw[hl] at hr;cases hr|false=>simpa using hl
   have a2:d.Hi=0:=by
    rw[a1] at hr;cases hl:d.Hi !=(0:Int) with
    |true=>rw[hl] at hr;cases hr|false=>simpa using hl
   exact⟨a1,a2,he⟩
  .exact absurd (iS h) (by decide)
def ChD (n:Nat):List UInt8->List Def->Prop
 |_,[]=>True|x,d::ds=>aoE n x d/\ChD n d.Name ds
theorem aCl {n:Nat}{s:Ro}(hb:s.Defs.length<2^62):∀(k i m:Nat)(x:List UInt8)(r:PUnit⊕Int),i+k=s.Defs.length->abk n s m (x,(i:Int))=some r->(r= .inl ()/\ChD n x (s.Defs.drop i))\/∃e,r= .inr e/\e≠0:=by
 intro k;induction k with
 |zero=>
  intro i m x r hi h;cases m with
  |zero=>have h:=(arx ..).symm.trans h;cases h|succ m=>
   obtain rfl:i=s.Defs.length:=by omega
   have h:=(ahR ..).symm.trans h;rw[U3,cond_false] at h;refine .inl ⟨(iS h).symm,?_⟩;rw[List.drop_length];trivial
 |succ k ih=>
  intro i m x r hi h;cases m with
  |zero=>have h:=(arx ..).symm.trans h;cases h|succ m=>
   have hlt:i<s.Defs.length:=by omega
   have hx:s.Defs[i]? =some s.Defs[i]:=PZ hlt;have h:=(ahR ..).symm.trans h;rw[Ui hx,cond_true] at h;obtain⟨d,hd,h⟩:=iB h;have e1:=(Tv hx).symm.trans hd;have e1:=iS e1;subst e1;obtain⟨e,he,h⟩:=iB (U:=Int) h;rcases iC h with ⟨h0,h⟩| ⟨h0,h⟩
   .exact .inr ⟨e,(iS h).symm,by simpa using h0⟩
   .have h0:e=0:=(by simpa using h0);subst h0;obtain⟨d2,hd2,h⟩:=iB h;have e2:=iS ((Tv hx).symm.trans hd2);subst e2;rw[Ud (by omega)] at h;rcases ih (i+1) m _ r (by omega) h with ⟨h1,h2⟩|h1
    .refine .inl ⟨h1,?_⟩;rw[Qf hlt];exact⟨aCk he,h2⟩
    .exact .inr h1
structure Yh (n:Nat)(s:Ro):Prop where
 few:s.Defs.length<=16
 chain:ChD n [] s.Defs
theorem aCm {n:Nat}{s:Ro}(hb:s.Defs.length<2^62)(h:Zx n s=some (0:Int)):Yh n s:=by
 have h:=(arz n s).symm.trans h;obtain⟨b,_,h⟩:=iB h;rcases iC h with ⟨_,h⟩| ⟨_,h⟩
 .exact absurd (iS h) (by decide)
 rcases iC h with ⟨_,h⟩| ⟨hl,h⟩
 .exact absurd (iS h) (by decide)
 obtain⟨r,hr,h⟩:=iB h;have hl:=of_decide_eq_false hl;rcases aCl hb s.Defs.length 0 n [] r (by omega) hr with ⟨_,h2⟩| ⟨e,rfl,he⟩
 .exact⟨by omega,h2⟩
 .exact absurd (iS h) he
theorem aCn {n:Nat}{s:Ro}(hb:s.Defs.length<2^62)(h:XE n s=some true):Yh n s:=by
 have h:=(arA n s).symm.trans h;obtain⟨b,_,h⟩:=iB h;obtain⟨e,he,h⟩:=iB (U:=Int) h;have h:=iS h;cases b with
 |false=>cases h|true=>
  have h:(e==(0:Int))=true:=h;have h0:e=0:=by simpa using h
  subst h0;exact aCm hb he
theorem ChD.mem {n:Nat}:∀{l:List Def}{x:List UInt8}{d:Def},ChD n x l->d∈l->∃y,aoE n y d
 |d'::l,x,d,h,hd=>by
  rcases PI.1 hd with rfl|hd
  .exact⟨x,h.1⟩
  .exact h.2.mem hd
theorem aCo {n:Nat}{l:List (List UInt8)}(h:Zl n l=some (0:Int)):1<=l.length/\l.length<=50:=by
 have h:=(arv n l).symm.trans h;rcases iC h with ⟨_,h⟩| ⟨hl,h⟩
 .exact absurd (iS h) (by decide)
 .have a1:¬(l.length:Int)< (1:Int):=fun k=>by rw[decide_eq_true k] at hl;cases hl
  rw[decide_eq_false a1,cond_false] at hl;have:=of_decide_eq_false hl;omega
theorem Yh.defs {n:Nat}{s:Ro}(h:Yh n s)(hn:800<n){d:Def}(hd:d∈s.Defs):abZ n d:=by
 obtain⟨y,_,h1|h1⟩:=h.chain.mem hd
 .obtain⟨k,a,b,c,w⟩:=h1;exact⟨.inl k,a,c,b,by rw[w];decide,by rw[w];show 0<n;omega⟩
 .obtain⟨k,a,b,w⟩:=h1;have:=aCo w;exact⟨.inr k,by omega,by omega,by omega,by omega,by omega⟩
def U7 (nm:List UInt8)(x:Pred):Bool:=bif decide (x.Op>=(5:Int)) then x.Name==nm else false
def Tg (s:Ro)(l:List Pred):List (List (Option Attr)):=(s.Defs.filter fun d=>l.any (U7 d.Name)).map fun d=>UH d l
theorem atZ {n:Nat}{s:Ro}{p:Pred}{i:Int}{d:Def}{cs:List Rb}(hc:Zw n (d,p)=some cs):∀(l:List Pred)(t:List (List Rb)),t.length<2^20->aez n s p i d l ((),t)=some (if l.any (U7 d.Name)=true then .inr ((),t++[cs]) else .inl ((),t))
 | [],t,_=>aAw ..|x::l,t,ht=>by
  rw[aAx];change (bif U7 d.Name x then _ else _)=_;rw[List.any_cons];cases hx:U7 d.Name x with
  |true=>rw[cond_true];refine bs (show Zw n (d,p.re)=some cs by rw[Pred.Sb];exact hc) ?_;refine(show (bif SB (t.length+1) 24 then _ else none)=_ from ?_);rw[YB (by omega) (by omega)];rfl|false=>rw[cond_false,atZ hc l t ht];rfl
theorem aCp {n:Nat}(hn:800<n){s:Ro}{p:Pred}(hd:∀d∈s.Defs,abZ n d)(h:Rq p<=240)(hb:s.Defs.length<=16):∀(k i m:Nat)(t:List (List Rb)),i+k=s.Defs.length->k<m->t.length<=i->
 acM n s p m ((i:Int),t)=some ((),t++((s.Defs.drop i).filter fun d=>(pre p).any (U7 d.Name)).map fun d=>(UH d (pre p)).map TT):=by
 intro k;induction k with
 |zero=>
  intro i m t hi hm _;obtain⟨m,rfl⟩:∃m',m=m'+1:=⟨m-1,by omega⟩;obtain rfl:i=s.Defs.length:=by omega
  rw[ase,U3,cond_false,List.drop_length];simp
 |succ k ih=>
  intro i m t hi hm ht;obtain⟨m,rfl⟩:∃m',m=m'+1:=⟨m-1,by omega⟩;have hlt:i<s.Defs.length:=by omega
  have hx:s.Defs[i]? =some s.Defs[i]:=PZ hlt;have hc:=aBG hn (hd _ (Qh hx)) h;rw[ase,Ui hx,cond_true,Qf hlt,Ud (by omega)];refine bs (Tv hx) (bs (aev n _) ?_);generalize s.Defs[i]=d at*;show Option.bind ((Wv p.re.re).bind _) _=_;rw[Pred.Sb,Pred.Sb,aeD (by omega),Option.bind_some];refine bs (atZ hc (pre p) t (by omega)) ?_;cases ha:(pre p).any (U7 d.Name) with
  |true=>rw[if_pos rfl];show acM n s p m (((i+1:Nat):Int),t++[(UH d (pre p)).map TT])=_;rw[ih (i+1) m _ (by omega) (by omega) (by rw[PU,List.length_singleton];omega),List.filter_cons,if_pos ha,PS,Qe];rfl|false=>rw[if_neg (by simp)];show acM n s p m (((i+1:Nat):Int),t)=_;rw[ih (i+1) m _ (by omega) (by omega) (by omega),List.filter_cons,if_neg (by rw[ha];simp)]
theorem at0 {n:Nat}(hn:800<n){s:Ro}{p:Pred}(hd:∀d∈s.Defs,abZ n d)(h:Rq p<=240)(hb:s.Defs.length<=16):Zt n (s,p)=some ((Tg s (pre p)).map (List.map TT)):=by rw[aAy];refine bs (aCp hn hd h hb s.Defs.length 0 n [] (by omega) (by omega) (mF _)) ?_;unfold Tg;rw[QO];rfl
theorem aCq {n:Nat}{l:List Pred}{nm:List UInt8}(hb:l.length<2^62):∀(k i m:Nat),i+k=l.length->k<m->afT n l nm m (i:Int)=some (if (l.drop i).any (U7 nm)=true then .inr true else .inl ()):=by
 intro k;induction k with
 |zero=>
  intro i m hi hm;obtain⟨m,rfl⟩:∃m',m=m'+1:=⟨m-1,by omega⟩;obtain rfl:i=l.length:=by omega
  rw[arE,U3,cond_false,List.drop_length];rfl
 |succ k ih=>
  intro i m hi hm;obtain⟨m,rfl⟩:∃m',m=m'+1:=⟨m-1,by omega⟩;have hlt:i<l.length:=by omega
  have hx:l[i]? =some l[i]:=PZ hlt;have he:=Tv hx;have ih':=ih (i+1) m (by omega) (by omega);rw[arE,Ui hx,cond_true,Qf hlt,Ud (by omega),List.any_cons];generalize l[i]=x at*;refine bs he ?_;unfold U7 at*;cases h5:decide (x.Op>=(5:Int)) with
  |false=>rw[aom,Option.bind_some,cond_false];exact ih'|true=>
   rw[aol];refine bs he ?_;rw[cond_true];cases hn:x.Name==nm with
   |false=>rw[cond_false];exact ih'|true=>rfl
theorem aCr {n:Nat}{l:List Pred}{nm:List UInt8}(hb:l.length<2^62)(hn:l.length<n):ZY n (l,nm)=some (l.any (U7 nm)):=by rw[azQ];refine bs (aCq hb l.length 0 n (by omega) hn) ?_;rw[Qt];cases l.any (U7 nm)<;>rfl
theorem aCs {n:Nat}(hn:800<n){s:Ro}{l:List Pred}(hd:∀d∈s.Defs,abZ n d)(h:l.length<=240)(hb:s.Defs.length<=16):∀(k i m:Nat)(t:List (List RI)),i+k=s.Defs.length->k<m->t.length<=i->
 aeu n s l m (t,(i:Int))=some (t++((s.Defs.drop i).filter fun d=>l.any (U7 d.Name)).map fun d=>(UH d l).map toR):=by
 intro k;induction k with
 |zero=>
  intro i m t hi hm _;obtain⟨m,rfl⟩:∃m',m=m'+1:=⟨m-1,by omega⟩;obtain rfl:i=s.Defs.length:=by omega
  rw[arL,U3,cond_false,List.drop_length];simp
 |succ k ih=>
  intro i m t hi hm ht;obtain⟨m,rfl⟩:∃m',m=m'+1:=⟨m-1,by omega⟩;have hlt:i<s.Defs.length:=by omega
  have hx:s.Defs[i]? =some s.Defs[i]:=PZ hlt;have hc:=aBH hn (hd _ (Qh hx)) h;have he:=Tv hx;rw[arL,Ui hx,cond_true,Qf hlt,Ud (by omega)];generalize s.Defs[i]=d at*;refine bs he (bs (aCr (by omega) (by omega)) ?_);cases ha:l.any (U7 d.Name) with
  |true=>rw[cond_true];refine bs he (bs hc ?_);refine(show (bif SB (t.length+1) 24 then _ else none)=_ from ?_);rw[YB (by omega) (by omega),cond_true,ih (i+1) m _ (by omega) (by omega) (by rw[PU,List.length_singleton];omega),List.filter_cons,if_pos ha,PS,Qe];rfl|false=>rw[cond_false,ih (i+1) m _ (by omega) (by omega) (by omega),List.filter_cons,if_neg (by rw[ha];simp)]
theorem aCt {n:Nat}(hn:800<n){s:Ro}{p:Pred}(hd:∀d∈s.Defs,abZ n d)(h:Rq p<=240)(hb:s.Defs.length<=16):ZQ n (s,p)=some ((Tg s (pre p)).map (List.map toR)):=by rw[azT];refine bs (show Zb n p.re=some (pre p) by rw[Pred.Sb,asO (by omega) (by omega),Qs (by rw[VN];omega)]) ?_;refine bs (aCs hn hd (by rw[VN];exact h) hb s.Defs.length 0 n [] (by omega) (by omega) (mF _)) ?_;unfold Tg;rw[QO];rfl
theorem aCu {n:Nat}{t:List (List RI)}(hb:t.length<2^62)(ht:∀l∈t,l.length<2^30):∀(k i m:Nat)(c:Int),i+k=t.length->k<m->0<=c->c<=4096->∃r,afX n t m (c,(i:Int))=some r/\Sum.elim id id r=UA c ((t.drop i).map List.length):=by
 intro k;induction k with
 |zero=>
  intro i m c hi hm _ _;obtain⟨m,rfl⟩:∃m',m=m'+1:=⟨m-1,by omega⟩;obtain rfl:i=t.length:=by omega
  rw[arM,U3,cond_false,List.drop_length];exact⟨_,rfl,rfl⟩
 |succ k ih=>
  intro i m c hi hm h0 h1;obtain⟨m,rfl⟩:∃m',m=m'+1:=⟨m-1,by omega⟩;have hlt:i<t.length:=by omega
  have hx:t[i]? =some t[i]:=PZ hlt;obtain⟨m1,m2⟩:=aqt h0 h1 (ht _ (Qh hx));rw[arM,Ui hx,cond_true,Qf hlt,Ud (by omega),PS];refine tE (Tv hx) ?_;have hw:IntKind.wrap .i64 (c*((t[i].length:Nat):Int))=c*((t[i].length:Nat):Int):=by rw[IntKind.wrap_i64];omega
  rw[hw];unfold UA;by_cases hc:c*((t[i].length:Nat):Int)>4096
  .rw[decide_eq_true hc,cond_true,if_pos hc];exact⟨_,rfl,rfl⟩
  .rw[decide_eq_false hc,cond_false,if_neg hc];exact ih (i+1) m _ (by omega) (by omega) m1 (by omega)
theorem aCv {n:Nat}{d:Def}{l:List Pred}(hd:abZ n d)(h:l.length<=240):(UH d l).length<2^30:=by
 have h1:=atw d l;have h2:(abY d l).length<=d.Words.length:=aon _ _ _;have h3:=hd.words;unfold UH;rw[List.length_cons];split
 .rw[PX];omega
 .rw[PX];omega
theorem aoF (s:Ro)(l:List Pred):(Tg s l).length<=s.Defs.length:=by unfold Tg;rw[PX];exact List.length_filter_le _ _
theorem aoG {n:Nat}{s:Ro}{l:List Pred}(hd:∀d∈s.Defs,abZ n d)(h:l.length<=240){c:List (Option Attr)}(hc:c∈Tg s l):c.length<2^30:=by unfold Tg at hc;obtain⟨d,hd',rfl⟩:=Qm.1 hc;exact aCv (hd d (QN.1 hd').1) h
theorem at1 {n:Nat}(hn:800<n){s:Ro}{p:Pred}(hs:Yh n s)(h:Rq p<=240):ZU n (s,p)=some (UA 1 ((Tg s (pre p)).map List.length)):=by
 have hd:=fun d hd=>hs.defs hn (d:=d) hd;have hl:=aoF s (pre p);have hf:=hs.few;rw[azU];refine bs (show ZQ n (s,p.re)=_ by rw[Pred.Sb];exact aCt hn hd h hs.few) ?_;obtain⟨r,h1,h2⟩:=aCu (n:=n) (t:=(Tg s (pre p)).map (List.map toR)) (by rw[PX];omega) (fun c hc=>by obtain⟨c',hc',rfl⟩:=Qm.1 hc;rw[PX];exact aoG hd (by rw[VN];exact h) hc') _ 0 n 1 (Qk _) (by rw[PX];omega) (by omega) (by omega);refine bs h1 ?_;rw[Qt,QO] at h2;have:(List.length∘List.map toR)=List.length:=by funext x;simp
 rw[this] at h2;rw[<-h2];cases r<;>rfl
end Sh
end
section
open Go Go.Proofs Aq Pq
namespace Sh
end Sh
end
section
open Go Go.Proofs Aq Pq
namespace Sh
theorem ah8 (s:Ro)(l:List Pred):∀c∈(Tg s l).map (List.map TT),0<c.length:=by intro c hc;obtain⟨c',hc',rfl⟩:=Qm.1 hc;unfold Tg at hc';obtain⟨d,_,rfl⟩:=Qm.1 hc';rw[PX];unfold UH;rw[List.length_cons];omega
theorem aoH:∀(t:List (List Rb))(c:Nat),(∀x∈t,0<x.length)->0<c->c<=4096->UA (c:Int) (t.map List.length)<=4096->c*RB t<=4096
 | [],c,_,_,h,_=>by show c*1<=4096;omega|x::t,c,h,h0,h1,h2=>by
  have hx:=h x (PG ..);have hp:RB (x::t)=x.length*RB t:=rfl;rw[PS] at h2;unfold UA at h2;split at h2
  .omega
  .rename_i hc;rw[<-Int.natCast_mul] at h2 hc;rw[hp,<-Nat.mul_assoc];exact aoH t (c*x.length) (fun y hy=>h y (PK _ hy)) (Nat.mul_pos h0 hx) (by omega) h2
def TG (s:Ro)(p:Pred):Int:=if ((pre p).take 1000).length>64 then 2 else (abq s ((pre p).take 1000)).getD 0
theorem ah9 {s:Ro}{p:Pred}(h:TG s p=0):Rq p<=64:=by
 unfold TG at h;split at h
 .cases h
 .rename_i h1;rw[Qc,VN] at h1;omega
theorem aCw (hs:List Attr->Bool)(t:List (List Rb)):(VK hs t).1.length<=t.length:=by
 unfold VK;split
 .exact ajh ..
 .exact Ql _
def andNot (a b:Pred):Pred:=⟨2,[],0,0,[],[a,⟨4,[],0,0,[],[b]⟩]⟩
theorem at5 (a b:Pred):Rq (andNot a b)=Rq a+Rq b+2:=by unfold andNot;simp only[Rq,Sm];omega
theorem aCx {n:Nat}{s:Ro}{a b:Pred}(hCa:Zh n (s,a)=some (TG s a))(hCb:Zh n (s,b)=some (TG s b))(hn:3<=n):acN n s a b n (0:Int)=some (if TG s a=0 then (if TG s b=0 then .inl () else .inr ([],(false,TG s b))) else .inr ([],(false,TG s a))):=by
 have i0:Q5 [a,b] (0:Int)=some a:=Tv (l:=[a,b]) (i:=0) rfl;have i1:Q5 [a,b] (1:Int)=some b:=Tv (l:=[a,b]) (i:=1) rfl;have w1:IntKind.wrap .i64 ((0:Int)+(1:Int))=1:=by rw[IntKind.wrap_i64];rfl
 have w2:IntKind.wrap .i64 ((1:Int)+(1:Int))=2:=by rw[IntKind.wrap_i64];rfl
 obtain⟨m,hm⟩:∃m,n=m+3:=⟨n-3,by omega⟩;have go:∀k,acN n s a b (k+3) (0:Int)=some (if TG s a=0 then (if TG s b=0 then .inl () else .inr ([],(false,TG s b))) else .inr ([],(false,TG s a))):=by
  intro k;rw[an1,show decide ((0:Int)< ((([a.re,b.re].length:Nat)):Int))=true by simp,cond_true,Pred.Sb,Pred.Sb];refine bs i0 ?_;rw[Pred.Sb];refine bs hCa ?_;by_cases ha:TG s a=0
  .rw[if_pos ha,ha];show acN n s a b (k+2) (IntKind.wrap .i64 ((0:Int)+(1:Int)))=_;rw[w1,an1,show decide ((1:Int)< ((([a.re,b.re].length:Nat)):Int))=true by simp,cond_true,Pred.Sb,Pred.Sb];refine bs i1 ?_;rw[Pred.Sb];refine bs hCb ?_;by_cases hb:TG s b=0
   .rw[if_pos hb,hb];show acN n s a b (k+1) (IntKind.wrap .i64 ((1:Int)+(1:Int)))=_;rw[w2,an1,show decide ((2:Int)< ((([a.re,b.re].length:Nat)):Int))=false by simp,cond_false]
   .have e0:(TG s b !=(0:Int))=true:=(by simpa using hb);rw[if_neg hb,e0];rfl
  .have e0:(TG s a !=(0:Int))=true:=by simpa using ha
   rw[if_neg ha,e0];rfl
 have:=go m;rw[<-hm] at this;exact this
theorem at6 {n:Nat}{p:Pred}(hn:Rq p<n)(hp:Rq p<2^62)(h:QQ n (p,(100:Int))=some true):Rq p<=100:=by
 obtain⟨g,rfl⟩:∃g,n=g+1:=⟨n-1,by omega⟩;have e:QQ (g+1) (p,(100:Int))=adg (g+1) (g+1) (p,(100:Int)):=by unfold QQ;rfl
 rw[e,arD] at h;obtain⟨z,hz,h⟩:=iB (U:=Int) h;have hz:Xh (g+1) p.re=some z:=hz;rw[Pred.Sb,an9 hn hp] at hz;have hz:=iS hz;by_cases hc:z>100
 .have h:(bif (bif decide ((100:Int)<1) then true else decide (z> (100:Int))) then some false else _)=some true:=h;rw[decide_eq_true hc] at h;cases h
 .rw[Qc,VN] at hz;omega
end Sh
end
section
open Go Go.Proofs Aq Pq
namespace Sh
def Pick:List (List Rb)->List Rb->Prop
 | [],[]=>True|c::cs,x::xs=>x∈c/\Pick cs xs|_,_=>False
theorem at7 {c:List Rb}{cs:List (List Rb)}(hc:0<c.length)(hp:0<RB cs){i r:Nat}(hr:r<RB cs):Sn (i*RB cs+r) (RB (c::cs)) (c::cs)=(match c[i]? with|some x=>Vm x|none=>[])++Sn r (RB cs) cs:=by
 have hd:c.length*RB cs/c.length=RB cs:=Nat.mul_div_cancel_left _ hc;have hq:(i*RB cs+r)/RB cs=i:=by rw[Nat.add_comm,Nat.add_mul_div_right _ _ hp,Nat.div_eq_of_lt hr,Qk]
 have hm:(i*RB cs+r)% RB cs=r:=by rw[Nat.add_comm,Nat.add_mul_mod_self_right,QV hr]
 show (match c[(i*RB cs+r)/(c.length*RB cs/c.length)]? with|some x=>Vm x|none=>[])++Sn ((i*RB cs+r)% (c.length*RB cs/c.length)) (c.length*RB cs/c.length) cs=_;rw[hd,hq,hm]
theorem aua:∀(t:List (List Rb))(xs:List Rb),Pick t xs->(∀c∈t,0<c.length)->∃k,k<RB t/\Sn k (RB t) t=xs.flatMap Vm
 | [],[],_,_=>⟨0,Nat.one_pos,rfl⟩| [],_::_,h,_=>h.elim|_::_,[],h,_=>h.elim|c::cs,x::xs,⟨h1,h2⟩,h=>by
  have hcs:∀x∈cs,0<x.length:=fun x hx=>h x (PK _ hx);have hc:=h c (PG ..);have hp:=an4 hcs;obtain⟨r,hr,e⟩:=aua cs xs h2 hcs;obtain⟨i,hi,rfl⟩:=List.getElem_of_mem h1;refine⟨i*RB cs+r,?_,?_⟩
  .show i*RB cs+r<c.length*RB cs;have:(i+1)*RB cs<=c.length*RB cs:=Qp _ hi;rw[Qn,Nat.one_mul] at this;omega
  .rw[at7 hc hp hr,PZ hi,e,P7]
theorem aub:∀(t:List (List Rb))(k:Nat),(∀c∈t,0<c.length)->k<RB t->∃xs,Pick t xs/\Sn k (RB t) t=xs.flatMap Vm
 | [],_,_,_=>⟨[],trivial,rfl⟩|c::cs,k,h,hk=>by
  have hcs:∀x∈cs,0<x.length:=fun x hx=>h x (PK _ hx);have hc:=h c (PG ..);have hp:=an4 hcs;have hk:k<c.length*RB cs:=hk;have hi:k/RB cs<c.length:=(Nat.div_lt_iff_lt_mul hp).2 hk;have hr:k% RB cs<RB cs:=Nat.mod_lt _ hp;obtain⟨xs,h1,h2⟩:=aub cs (k% RB cs) hcs hr;refine⟨c[k/RB cs]::xs,⟨Qx hi,h1⟩,?_⟩;have e:k=k/RB cs*RB cs+k% RB cs:=by rw[QB];exact(Nat.div_add_mod _ _).symm
  have s:=at7 (c:=c) hc hp (i:=k/RB cs) hr;rw[<-e] at s;rw[s,PZ hi,h2,P7]
def YF (q:Pred)(o:Option Attr):Bool:=
 if q.Op=5 then o.isSome else if q.Op=6 then (match o with|some a=>a.Kind==(1:Int)&& decide (a.N>=q.N)&& decide (a.N<=q.M)|none=>false) else if q.Op=7 then (match o with|some a=>a.Kind==(2:Int)&& a.S==q.S|none=>false) else false
mutual
theorem auc {l l':List Attr}:∀p:Pred,(∀q∈pre p,5<=q.Op->YF q (Uq l q.Name)=YF q (Uq l' q.Name))->Rx l p=Rx l' p
 | ⟨op,name,n,m,s,subs⟩,h=>by
   have h1:=h ⟨op,name,n,m,s,subs⟩ (by rw[pre_eq];exact PG ..);have h2:=aud (l:=l) (l':=l') subs (fun q hq=>h q (by rw[pre_eq];exact PK _ hq));unfold Rx;rw[h2.1,h2.2];by_cases h5:5<=op
   .have h1:=h1 h5;unfold YF at h1;dsimp only at h1;have h5:5<=op:=h5;simp only[show¬op=1 by omega,show¬op=2 by omega,show¬op=3 by omega,show¬op=4 by omega,if_false];exact h1
   .simp only[show¬op=5 by omega,show¬op=6 by omega,show¬op=7 by omega,if_false]
theorem aud {l l':List Attr}:∀ps:List Pred,(∀q∈Uw ps,5<=q.Op->YF q (Uq l q.Name)=YF q (Uq l' q.Name))->WU l ps=WU l' ps/\anyS l ps=anyS l' ps
 | [],_=>⟨rfl,rfl⟩|p::ps,h=>by
  have h1:=auc p (fun q hq=>h q (by rw[Uw];exact QF _ hq));have h2:=aud ps (fun q hq=>h q (by rw[Uw];exact QI _ hq));constructor
  .unfold WU;rw[h1,h2.1]
  .unfold anyS;rw[h1,h2.2]
end
end Sh
end
section
open Go Go.Proofs Aq Pq
namespace Sh
theorem aoI {t:Int->List Bool}:∀{S:List Int}{y:Int},y∈S->t (y-1)≠t y->y∈RS t S
 |z::S,y,h,hn=>by
  unfold RS;rcases PI.1 h with rfl|h
  .rw[show (t (y-1)==t y)=false from by simpa using hn];exact PG ..
  .cases (t (z-1)==t z) with
   |true=>exact aoI h hn|false=>exact PK _ (aoI h hn)
theorem aoJ {t:Int->List Bool}:∀{S:List Int}{y:Int},y∈RS t S->y∈S
 |z::S,y,h=>by
  unfold RS at h;cases hz:(t (z-1)==t z) with
  |true=>rw[hz] at h;exact PK _ (aoJ h)|false=>
   rw[hz] at h;rcases PI.1 h with rfl|h
   .exact PG ..
   .exact PK _ (aoJ h)
theorem aCy {d:Def}{l:List Pred}(hle:d.Lo<=d.Hi){u:Int}(h:u∈YC d l):d.Lo<=u/\u<=d.Hi:=by
 unfold YC at h;rcases PI.1 h with rfl|h
 .exact⟨P6 _,hle⟩
 .have:=adq ((acR u _).1 (aoJ h));omega
theorem aue {d:Def}{l:List Pred}:∀(k:Nat)(v:Int),v=d.Lo+k->v<=d.Hi->∃u∈YC d l,Sy d.Name l u=Sy d.Name l v
 |0,v,h,_=>⟨d.Lo,PG ..,by rw[h];congr 1;omega⟩|k+1,v,h,hv=>by
  by_cases ht:Sy d.Name l v=Sy d.Name l (v-1)
  .obtain⟨u,h1,h2⟩:=aue (d:=d) (l:=l) k (v-1) (by omega) (by omega);exact⟨u,h1,h2.trans ht.symm⟩
  .refine⟨v,PK _ (aoI ((acR v _).2 (an5 (by omega) hv ht)) fun e=>ht e.symm),rfl⟩
theorem auf {said:List UInt8->Bool}:∀{ws:List (List UInt8)}{o:Bool}{w:List UInt8},w∈ws->said w=true->w∈Vz said o ws
 |z::ws,o,w,h,hs=>by
  unfold Vz;rcases PI.1 h with rfl|h
  .rw[hs];exact QF _ (PG ..)
  .exact QI _ (auf h hs)
theorem aug {said:List UInt8->Bool}:∀{ws:List (List UInt8)}{w:List UInt8},w∈ws->said w=false->∃u∈Vz said false ws,said u=false
 |z::ws,w,h,hs=>by
  unfold Vz;cases hz:said z with
  |false=>exact⟨z,QF _ (by simp),hz⟩|true=>
   rcases PI.1 h with rfl|h
   .rw[hz] at hs;cases hs
   .obtain⟨u,h1,h2⟩:=aug h hs;exact⟨u,QI _ h1,h2⟩
theorem auh {said:List UInt8->Bool}:∀{ws:List (List UInt8)}{o:Bool}{w:List UInt8},w∈Vz said o ws->w∈ws
 |z::ws,o,w,h=>by
  unfold Vz at h;rcases QT.1 h with h|h
  .cases hb:(bif said z then true else !o) with
   |true=>rw[hb] at h;rw[P9.1 h];exact PG ..|false=>rw[hb] at h;cases h
  .exact PK _ (auh h)
def OkA (d:Def)(a:Attr):Prop:=a.Name=d.Name/\a.Kind=d.Kind/\(d.Kind=1->a.S=[]/\d.Lo<=a.N/\a.N<=d.Hi)/\(d.Kind≠1->a.N=0/\a.S∈d.Words)
theorem aia {d:Def}{l:List Pred}(hle:d.Lo<=d.Hi){o:Option Attr}(h:o∈UH d l):∀a,o=some a->OkA d a:=by
 rintro a rfl;unfold UH at h;rcases PI.1 h with h|h
 .cases h
 .by_cases hk:d.Kind=1
  .rw[if_pos hk] at h;obtain⟨v,hv,e⟩:=Qm.1 h;cases e;exact⟨rfl,rfl,fun _=>⟨rfl,aCy hle hv⟩,fun hn=>absurd hk hn⟩
  .rw[if_neg hk] at h;obtain⟨w,hw,e⟩:=Qm.1 h;cases e;exact⟨rfl,rfl,fun hn=>absurd hn hk,fun _=>⟨rfl,auh hw⟩⟩
theorem aCz {nm:List UInt8}{l:List Pred}{u v:Int}(h:Sy nm l u=Sy nm l v){q:Pred}(hq:q∈l)(hi:Ua nm q=true):Vy q u=Vy q v:=by
 unfold Sy at h;have hm:q∈l.filter (Ua nm):=QN.2 ⟨hq,hi⟩;generalize l.filter (Ua nm)=L at h hm;induction L with
 |nil=>cases hm|cons x L ih=>
  simp only[PS,Qd] at h;rcases PI.1 hm with rfl|hm
  .exact h.1
  .exact ih h.2 hm
theorem aui {nm:List UInt8}{l:List Pred}{w:List UInt8}(h:VA nm l w=false){q:Pred}(hq:q∈l)(hi:YD nm q=true):(w==q.S)=false:=by
 unfold VA at h;have:=List.any_eq_false.1 h q hq;rw[hi] at this;have h2:(q.S==w)=false:=by simpa using this
 have:q.S≠w:=by simpa using h2
 simpa using fun e:w=q.S=>this e.symm
theorem aCA {d:Def}{l:List Pred}(hk:d.Kind=1\/d.Kind=2){o:Option Attr}(ho:∀a,o=some a->OkA d a):∃o'∈UH d l,∀q∈l,q.Name=d.Name->YF q o=YF q o':=by
 cases o with
 |none=>exact⟨none,PG ..,fun _ _ _=>rfl⟩
 |some a=>
  obtain⟨h1,h2,h3,h4⟩:=ho a rfl;rcases hk with hk|hk
  .obtain⟨_,h5,h6⟩:=h3 hk;obtain⟨u,hu,he⟩:=aue (d:=d) (l:=l) (a.N-d.Lo).toNat a.N (by omega) h6;refine⟨some ⟨d.Name,d.Kind,u,[]⟩,?_,fun q hq hn=>?_⟩
   .unfold UH;rw[if_pos hk];exact PK _ (Qm.2 ⟨u,hu,rfl⟩)
   .unfold YF;dsimp only;rw[h2,hk];by_cases q6:q.Op=6
    .have hi:Ua d.Name q=true:=(by unfold Ua;rw[q6,hn];simp);have e:=aCz he hq hi;unfold Vy at e;have e':(decide (a.N>=q.N)&& decide (a.N<=q.M))=(decide (u>=q.N)&& decide (u<=q.M)):=(by revert e;cases decide (u>=q.N)<;>cases decide (u<=q.M)<;>cases decide (a.N>=q.N)<;>cases decide (a.N<=q.M)<;>simp);rw[Bool.and_assoc,Bool.and_assoc,e'];simp[q6]
    .by_cases q5:q.Op=5
     .rw[if_pos q5,if_pos q5];rfl
     .rw[if_neg q5,if_neg q5,if_neg q6,if_neg q6];rfl
  .obtain⟨_,h5⟩:=h4 (by omega);have h1k:d.Kind≠1:=by omega
   have rep:∃w∈abY d l,∀q∈l,YD d.Name q=true->(a.S==q.S)=(w==q.S):=by
    cases hs:VA d.Name l a.S with
    |true=>exact⟨a.S,auf h5 hs,fun _ _ _=>rfl⟩
    |false=>obtain⟨w,hw,hsw⟩:=aug h5 hs;exact⟨w,hw,fun q hq hi=>(aui hs hq hi).trans (aui hsw hq hi).symm⟩
   obtain⟨w,hw,hr⟩:=rep;refine⟨some ⟨d.Name,d.Kind,0,w⟩,?_,fun q hq hn=>?_⟩
   .unfold UH;rw[if_neg h1k];exact PK _ (Qm.2 ⟨w,hw,rfl⟩)
   .unfold YF;dsimp only;rw[h2,hk];by_cases q7:q.Op=7
    .have hi:YD d.Name q=true:=(by unfold YD;rw[q7,hn];simp);rw[hr q hq hi];simp[q7]
    .by_cases q5:q.Op=5
     .rw[if_pos q5,if_pos q5];rfl
     .rw[if_neg q5,if_neg q5,if_neg q7,if_neg q7];simp
def adD (d:Def)(a:Attr):Int:=
 if a.Kind≠d.Kind then 130 else if a.Kind=1 then (if a.S≠[] then 3 else if a.N<d.Lo\/a.N>d.Hi then 131 else 0) else if a.N≠0 then 3 else if d.Words.any (· ==a.S) then 0 else 131
theorem val_ok {d:Def}{a:Attr}(h:adD d a=0)(hn:a.Name=d.Name):OkA d a:=by
 unfold adD at h;by_cases h1:a.Kind=d.Kind
 .rw[if_neg (by simp[h1])] at h;refine⟨hn,h1,fun hk=>?_,fun hk=>?_⟩
  .rw[if_pos (by rw[h1];exact hk)] at h;by_cases h3:a.S=[]
   .rw[if_neg (by simp[h3])] at h;by_cases h4:a.N<d.Lo\/a.N>d.Hi
    .rw[if_pos h4] at h;cases h
    .exact⟨h3,by omega,by omega⟩
   .rw[if_pos h3] at h;cases h
  .rw[if_neg (by rw[h1];exact hk)] at h;by_cases h3:a.N=0
   .rw[if_neg (by simp[h3])] at h;refine⟨h3,?_⟩;cases hw:d.Words.any (· ==a.S) with
    |false=>rw[hw] at h;cases h|true=>obtain⟨w,h1,h2⟩:=List.any_eq_true.1 hw;have:w=a.S:=(by simpa using h2);exact this▸h1
   .rw[if_pos h3] at h;cases h
 .rw[if_pos h1] at h;cases h
theorem aCB {d:Def}{a:Attr}(h:OkA d a):adD d a=0:=by
 obtain⟨_,h1,h2,h3⟩:=h;unfold adD;rw[if_neg (by simp[h1])];by_cases hk:d.Kind=1
 .obtain⟨h4,h5,h6⟩:=h2 hk;rw[if_pos (by rw[h1];exact hk),if_neg (by simp[h4]),if_neg (by omega)]
 .obtain⟨h4,h5⟩:=h3 hk;rw[if_neg (by rw[h1];exact hk),if_neg (by simp[h4]),if_pos];exact List.any_eq_true.2 ⟨a.S,h5,by simp⟩
def aib (o:Option (List UInt8))(x:List UInt8):Bool:=match o with
 |some y=>Go.Op.bytesLess x y||(x==y)|none=>false
def aaL (s:Ro):Option (List UInt8)->List Attr->Int
 |_,[]=>0|o,a::l=>match s.Defs.find? (fun d=>d.Name==a.Name) with
  |none=>5|some d=>bif aib o a.Name then 6 else if adD d a=0 then aaL s (some a.Name) l else adD d a
def WE (x y:List UInt8):Prop:=(Go.Op.bytesLess y x||(y==x))=false
theorem aCC (x y:UInt8)(a b:List UInt8):Go.Op.bytesLess (x::a) (y::b)=(decide (x<y)||(x==y&& Go.Op.bytesLess a b)):=rfl
theorem aCD {x y:UInt8}{a b:List UInt8}:WE (x::a) (y::b)↔x.toNat<y.toNat\/(x=y/\WE a b):=by
 unfold WE;rw[aCC];have h1:(y<x)↔y.toNat<x.toNat:=UInt8.lt_iff_toNat_lt;have h2:(x=y)↔x.toNat=y.toNat:=⟨fun h=>h▸rfl,UInt8.toNat.inj⟩;have h3:(y=x)↔y.toNat=x.toNat:=⟨fun h=>h▸rfl,UInt8.toNat.inj⟩;have h4:((y::b)==(x::a))=((y==x)&& (b==a)):=rfl;rw[h4];by_cases e:y=x
 .subst e;simp
 .have e':¬y.toNat=x.toNat:=fun h=>e (h3.2 h);have e2:¬x=y:=fun h=>e h.symm;rw[show (y==x)=false by simpa using e];simp only[Bool.false_and,Bool.or_false,e2,false_and,or_false];rw[decide_eq_false_iff_not,h1];omega
theorem aCE {y:List UInt8}:WE [] y↔y≠[]:=by
 cases y with
 |nil=>exact⟨fun h=>(by cases h),fun h=>absurd rfl h⟩
 |cons c y=>exact⟨fun _ h=>(by cases h),fun _=>rfl⟩
theorem auj {x:List UInt8}:¬WE x []:=by
 cases x with
 |nil=>intro h;cases h|cons c x=>intro h;cases h
theorem aoK:∀{x y z:List UInt8},WE x y->WE y z->WE x z
 |x,[],z,h,_=>absurd h auj|_,_::_,[],_,h=>absurd h auj| [],y::ys,z::zs,_,_=>aCE.2 (by simp)|x::xs,y::ys,z::zs,h1,h2=>by
  rw[aCD] at*;rcases h1 with h1| ⟨rfl,h1⟩
  .rcases h2 with h2| ⟨rfl,h2⟩
   .exact .inl (by omega)
   .exact .inl h1
  .rcases h2 with h2| ⟨rfl,h2⟩
   .exact .inl h2
   .exact .inr ⟨rfl,aoK h1 h2⟩
theorem aic {x y:List UInt8}(h:WE x y):x≠y:=by rintro rfl;unfold WE at h;simp at h
def Asc:List UInt8->List Def->Prop
 |_,[]=>True|x,d::ds=>WE x d.Name/\Asc d.Name ds
theorem Asc.weak:∀{ds:List Def}{x y:List UInt8},WE x y->Asc y ds->Asc x ds
 | [],_,_,_,_=>trivial|d::ds,x,y,h,h2=>⟨aoK h h2.1,h2.2⟩
theorem Asc.filter {p:Def->Bool}:∀{ds:List Def}{x:List UInt8},Asc x ds->Asc x (ds.filter p)
 | [],_,_=>trivial|d::ds,x,h=>by
  rw[List.filter_cons];cases p d with
  |true=>exact⟨h.1,h.2.filter⟩|false=>exact(h.2.filter).weak h.1
theorem Asc.all:∀{ds:List Def}{x:List UInt8},Asc x ds->∀d∈ds,WE x d.Name
 |e::ds,x,h,d,hd=>by
  rcases PI.1 hd with rfl|hd2
  .exact h.1
  .exact aoK h.1 (h.2.all d hd2)
theorem Asc.uniq:∀{ds:List Def}{x:List UInt8},Asc x ds->∀d∈ds,∀e∈ds,d.Name=e.Name->d=e
 |f::ds,x,h,d,hd,e,he,hn=>by
  rcases PI.1 hd with h1|h1
  .rcases PI.1 he with h2|h2
   .exact h1.trans h2.symm
   .exact absurd (h1▸hn) (aic (h.2.all e h2))
  .rcases PI.1 he with h2|h2
   .exact absurd (h2▸hn.symm) (aic (h.2.all d h1))
   .exact h.2.uniq d h1 e h2 hn
theorem ChD.asc {n:Nat}:∀{ds:List Def}{x:List UInt8},ChD n x ds->Asc x ds
 | [],_,_=>trivial|d::ds,x,h=>⟨h.1.1,h.2.asc⟩
theorem auk {s:Ro}:∀{l:List Attr}{o:Option (List UInt8)},aaL s o l=0->∀a∈l,∃d∈s.Defs,d.Name=a.Name/\OkA d a
 |b::l,o,h,a,ha=>by
  unfold aaL at h;cases hf:s.Defs.find? (fun d=>d.Name==b.Name) with
  |none=>rw[hf] at h;cases h|some d=>
   rw[hf] at h;dsimp only at h;have hd:=List.mem_of_find?_eq_some hf;have hn:d.Name=b.Name:=by simpa using List.find?_some hf
   cases hu:aib o b.Name with
   |true=>rw[hu] at h;cases h|false=>
    rw[hu,cond_false] at h;by_cases hv:adD d b=0
    .rw[if_pos hv] at h;rcases PI.1 ha with e|ha2
     .rw[e];exact⟨d,hd,hn,val_ok hv hn.symm⟩
     .exact auk h a ha2
    .rw[if_neg hv] at h;exact absurd h hv
def Cho (L:List Pred):List Def->List (Option Attr)->Prop
 | [],[]=>True|d::ds,o::os=>o∈UH d L/\Cho L ds os|_,_=>False
theorem aul {L:List Pred}:∀{ds:List Def}{os:List (Option Attr)},Cho L ds os->Pick ((ds.map fun d=>UH d L).map (List.map TT)) (os.map TT)
 | [],[],_=>trivial| [],_::_,h=>h.elim|_::_,[],h=>h.elim|d::ds,o::os,h=>⟨Qm.2 ⟨o,h.1,rfl⟩,aul h.2⟩
theorem aum {L:List Pred}:∀{ds:List Def}{xs:List Rb},Pick ((ds.map fun d=>UH d L).map (List.map TT)) xs->∃os,Cho L ds os/\xs=os.map TT
 | [],[],_=>⟨[],trivial,rfl⟩| [],_::_,h=>h.elim|_::_,[],h=>h.elim|d::ds,x::xs,h=>by obtain⟨o,h1,h2⟩:=Qm.1 h.1;obtain⟨os,h3,h4⟩:=aum h.2;exact⟨o::os,⟨h1,h3⟩,by rw[PS,h2,h4]⟩
theorem aie:∀os:List (Option Attr),(os.map TT).flatMap Vm=os.filterMap id
 | []=>rfl|none::os=>by rw[PS,P7,aie os];rfl|some a::os=>by rw[PS,P7,aie os];rfl
theorem aoL {L:List Pred}:∀{ds:List Def}{os:List (Option Attr)}{x:List UInt8},Asc x ds->(∀d∈ds,d.Lo<=d.Hi)->Cho L ds os->∀a∈os.filterMap id,WE x a.Name
 | [],[],_,_,_,_,a,ha=>by cases ha| [],_::_,_,_,_,h,_,_=>h.elim|_::_,[],_,_,_,h,_,_=>h.elim|d::ds,none::os,x,hA,hle,h,a,ha=>by exact aoL (hA.2.weak hA.1) (fun e he=>hle e (PK _ he)) h.2 a ha
 |d::ds,some b::os,x,hA,hle,h,a,ha=>by
  have ha:a∈b::os.filterMap id:=ha;have hb:=(aia (hle d (PG ..)) h.1 b rfl).1;rcases PI.1 ha with e|ha2
  .rw[e,hb];exact hA.1
  .exact aoL (hA.2.weak hA.1) (fun e he=>hle e (PK _ he)) h.2 a ha2
theorem aCF {l:List Attr}{x:List UInt8}(h:∀a∈l,a.Name≠x):Uq l x=none:=by unfold Uq;exact List.find?_eq_none.2 fun a ha=>by simpa using h a ha
theorem aCG {l:List Attr}{b:Attr}{x:List UInt8}(h:b.Name≠x):Uq (b::l) x=Uq l x:=by unfold Uq;rw[List.find?_cons,show (b.Name==x)=false by simpa using h]
theorem aCH {l:List Attr}{b:Attr}{x:List UInt8}(h:b.Name=x):Uq (b::l) x=some b:=by unfold Uq;rw[List.find?_cons,show (b.Name==x)=true by simpa using h]
def Rep (L:List Pred)(l:List Attr):List Def->List (Option Attr)->Prop
 | [],[]=>True|d::ds,o::os=>(∀q∈L,q.Name=d.Name->YF q (Uq l d.Name)=YF q o)/\Rep L l ds os|_,_=>False
theorem aun {L:List Pred}{l:List Attr}:∀ds:List Def,(∀d∈ds,d.Kind=1\/d.Kind=2)->(∀d∈ds,∀a,Uq l d.Name=some a->OkA d a)->∃os,Cho L ds os/\Rep L l ds os
 | [],_,_=>⟨[],trivial,trivial⟩|d::ds,h1,h2=>by obtain⟨o,g1,g2⟩:=aCA (l:=L) (h1 d (PG ..)) (o:=Uq l d.Name) (h2 d (PG ..));obtain⟨os,g3,g4⟩:=aun ds (fun e he=>h1 e (PK _ he)) (fun e he=>h2 e (PK _ he));exact⟨o::os,⟨g1,g3⟩,⟨g2,g4⟩⟩
theorem auo {L:List Pred}{l:List Attr}:∀{ds:List Def}{os:List (Option Attr)}{x:List UInt8},Asc x ds->(∀d∈ds,d.Lo<=d.Hi)->Cho L ds os->Rep L l ds os->∀d∈ds,∀q∈L,q.Name=d.Name->YF q (Uq l d.Name)=YF q (Uq (os.filterMap id) d.Name)
 | [],[],_,_,_,_,_,d,hd,_,_,_=>by cases hd| [],_::_,_,_,_,h,_,_,_,_,_,_=>h.elim|_::_,[],_,_,_,h,_,_,_,_,_,_=>h.elim|e::ds,o::os,x,hA,hle,hc,hr,d,hd,q,hq,hn=>by
  have hle2:∀f∈ds,f.Lo<=f.Hi:=fun f hf=>hle f (PK _ hf);rcases PI.1 hd with h1|h1
  .subst h1;have key:Uq ((o::os).filterMap id) d.Name=o:=by
    cases o with
    |none=>exact aCF fun a ha=>(aic (aoL hA.2 hle2 hc.2 a ha)).symm
    |some b=>exact aCH (aia (hle d (PG ..)) hc.1 b rfl).1
   rw[key];exact hr.1 q hq hn
  .have key:Uq ((o::os).filterMap id) d.Name=Uq (os.filterMap id) d.Name:=by
    cases o with
    |none=>rfl|some b=>exact aCG (by rw[(aia (hle e (PG ..)) hc.1 b rfl).1];exact aic (hA.2.all d h1))
   rw[key];exact auo hA.2 hle2 hc.2 hr.2 d h1 q hq hn
theorem aoN {s:Ro}{L:List Pred}(hs:Asc [] s.Defs):∀{ds:List Def}{os:List (Option Attr)}{x:List UInt8}{o:Option (List UInt8)},Asc x ds->(∀d∈ds,d.Lo<=d.Hi)->(∀d∈ds,d∈s.Defs)->(∀y,o=some y->∀z,WE x z->WE y z)->Cho L ds os->aaL s o (os.filterMap id)=0
 | [],[],_,_,_,_,_,_,_=>rfl| [],_::_,_,_,_,_,_,_,h=>h.elim|_::_,[],_,_,_,_,_,_,h=>h.elim|d::ds,none::os,x,o,hA,hle,hm,ho,h=>by show aaL s o (os.filterMap id)=0;exact aoN hs (hA.2.weak hA.1) (fun e he=>hle e (PK _ he)) (fun e he=>hm e (PK _ he)) ho h.2
 |d::ds,some b::os,x,o,hA,hle,hm,ho,h=>by
  show aaL s o (b::os.filterMap id)=0;have hok:=aia (hle d (PG ..)) h.1 b rfl;have hmd:=hm d (PG ..);have hf:s.Defs.find? (fun e=>e.Name==b.Name)=some d:=by
   cases hf:s.Defs.find? (fun e=>e.Name==b.Name) with
   |none=>exact absurd (List.find?_eq_none.1 hf d hmd) (by rw[hok.1];simp)|some e=>have he:=List.mem_of_find?_eq_some hf;have hn:e.Name=b.Name:=(by simpa using List.find?_some hf);rw[hs.uniq e he d hmd (hn.trans hok.1)]
  have hu:aib o b.Name=false:=by
   unfold aib;cases o with
   |none=>rfl|some y=>rw[hok.1];exact ho y rfl d.Name hA.1
  unfold aaL;rw[hf];dsimp only;rw[hu,cond_false,if_pos (aCB hok)];refine aoN hs (x:=d.Name) hA.2 (fun e he=>hle e (PK _ he)) (fun e he=>hm e (PK _ he)) (fun y hy z hz=>?_) h.2;cases hy;rw[hok.1];exact hz
theorem Yh.asc {n:Nat}{s:Ro}(h:Yh n s):Asc [] s.Defs:=h.chain.asc
theorem aoO {s:Ro}:∀{l:List Pred},(abq s l).getD 0=0->(∀x∈l,Yf s x≠some 0)->∀x∈l,Yf s x=none
 |y::l,h,hz,x,hx=>by
  rw[abq] at h;cases hc:Yf s y with
  |some e=>rw[hc] at h;have h:e=0:=h;subst h;exact absurd hc (hz y (PG ..))|none=>
   rw[hc] at h;rcases PI.1 hx with e|h2
   .rw[e];exact hc
   .exact aoO h (fun z hz2=>hz z (PK _ hz2)) x h2
theorem aup {s:Ro}{x:Pred}:Yf s x≠some 0:=by
 unfold Yf;split
 .intro h;cases h
 .split
  .intro h;cases h
  .split
   .intro h;cases h
   .split
    .intro h;cases h
    .split
     .intro h;cases h
     .intro h;cases h
theorem aCI {s:Ro}{p:Pred}(h:TG s p=0):∀q∈pre p,5<=q.Op->∃d∈s.Defs,d.Name=q.Name:=by
 have hsz:=ah9 h;unfold TG at h;split at h
 .cases h
 .rw[Qs (by rw[VN];omega)] at h;intro q hq h5;have hc:=aoO h (fun x _=>aup) q hq;unfold Yf at hc;split at hc
  .cases hc
  .split at hc
   .cases hc
   .rw[if_neg (by omega)] at hc;split at hc
    .cases hc
    .rename_i d hf;exact⟨d,List.mem_of_find?_eq_some hf,by simpa using List.find?_some hf⟩
def aeL (s:Ro)(l:List Pred):List Def:=s.Defs.filter fun d=>l.any (U7 d.Name)
theorem aCJ {n:Nat}{s:Ro}{p:Pred}{l:List Attr}(hS:Yh n s)(hn:800<n)(hc:TG s p=0)(hf:aaL s none l=0):∃k,k<RB ((Tg s (pre p)).map (List.map TT))/\Rx (Sn k (RB ((Tg s (pre p)).map (List.map TT))) ((Tg s (pre p)).map (List.map TT))) p=Rx l p:=by
 have hdd:=fun d hd=>hS.defs hn (d:=d) hd;have hA:=hS.asc;have hsub:∀d∈aeL s (pre p),d∈s.Defs:=fun d hd=>(QN.1 hd).1;have hle:∀d∈aeL s (pre p),d.Lo<=d.Hi:=fun d hd=>(hdd d (hsub d hd)).le;obtain⟨os,h1,h2⟩:=aun (L:=pre p) (l:=l) (aeL s (pre p)) (fun d hd=>(hdd d (hsub d hd)).kind) (fun d hd a ha=>by
  have ham:a∈l:=List.mem_of_find?_eq_some ha;have han:a.Name=d.Name:=by simpa using List.find?_some ha
  obtain⟨e,he,hen,hok⟩:=auk hf a ham;rw[hA.uniq d (hsub d hd) e he (han.symm.trans hen.symm)];exact hok)
 obtain⟨k,hk,e⟩:=aua _ _ (aul h1) (ah8 s (pre p));refine⟨k,hk,?_⟩;have e2:Sn k (RB ((Tg s (pre p)).map (List.map TT))) ((Tg s (pre p)).map (List.map TT))=os.filterMap id:=by rw[<-aie];exact e
 rw[e2];refine(auc p fun q hq h5=>?_).symm;obtain⟨d,hd,hdn⟩:=aCI hc q hq h5;have hdm:d∈aeL s (pre p):=by refine QN.2 ⟨hd,List.any_eq_true.2 ⟨q,hq,?_⟩⟩;unfold U7;rw[decide_eq_true h5,cond_true,hdn];simp
 have:=auo (hA.filter (p:=fun d=>(pre p).any (U7 d.Name))) hle h1 h2 d hdm q hq hdn.symm;rw[hdn] at this;exact this
theorem aCM {n:Nat}{s:Ro}{p:Pred}(hS:Yh n s)(hn:800<n){k:Nat}(hk:k<RB ((Tg s (pre p)).map (List.map TT))):aaL s none (Sn k (RB ((Tg s (pre p)).map (List.map TT))) ((Tg s (pre p)).map (List.map TT)))=0:=by have hdd:=fun d hd=>hS.defs hn (d:=d) hd;have hA:=hS.asc;have hsub:∀d∈aeL s (pre p),d∈s.Defs:=fun d hd=>(QN.1 hd).1;obtain⟨xs,h1,h2⟩:=aub _ k (ah8 s (pre p)) hk;obtain⟨os,h3,h4⟩:=aum (ds:=aeL s (pre p)) h1;rw[h2,h4,aie];exact aoN hA (hA.filter (p:=fun d=>(pre p).any (U7 d.Name))) (fun d hd=>(hdd d (hsub d hd)).le) hsub (fun y h=>by cases h) h3
theorem aCN {n:Nat}{s:Ro}{p:Pred}(hS:Yh n s)(hd:s.Defs.length<n)(hn:6000<n)(hp:Rq p<n)(hp2:Rq p<2^62):∃(L:List Attr) (b:Bool) (e:Int),Xo n (s,p)=some (L,(b,e))/\L.length<=16/\(e≠0->L=[]/\b=false)/\ (e=0->b=true->L=[]/\∀l,aaL s none l=0->Rx l p=false)/\(e=0->b=false->Rx L p=true/\aaL s none L=0):=by
 have hf:=hS.few;have hC:Zh n (s,p)=some (TG s p):=aeJ (n:=n) (s:=s) (p:=p) hp2 hd (by omega);rw[asf];simp only[Pred.Sb];by_cases he:TG s p=0
 .have hsz:=ah9 he;have hch:=he;rw[he] at hC;have hdd:=fun d hd=>hS.defs (by omega) (d:=d) hd;have hT:=at0 (n:=n) (by omega) (p:=p) hdd (by omega) hf;have hlen:((Tg s (pre p)).map (List.map TT)).length<=16:=by rw[PX];exact PE (aoF ..) hf
  have hpos:=ah8 s (pre p);have hrow:∀c∈(Tg s (pre p)).map (List.map TT),c.length<2^30:=fun c hc=>by obtain⟨c',hc',rfl⟩:=Qm.1 hc;rw[PX];exact aoG hdd (by rw[VN];omega) hc'
  have hcnt:=ajQ (n:=n) (t:=(Tg s (pre p)).map (List.map TT)) (by omega) (by omega) hrow;have hcs:=aoH ((Tg s (pre p)).map (List.map TT)) 1 hpos (by omega) (by omega);have hrep:=fun l hl=>aCJ (p:=p) (l:=l) hS (by omega) hch hl;have hfit:=fun k hk=>aCM (p:=p) (k:=k) hS (by omega) hk;generalize (Tg s (pre p)).map (List.map TT)=t at hT hlen hpos hrow hcnt hcs hrep hfit;by_cases hbig:UA 1 (t.map List.length)>4096
  .refine⟨[],false,2,bs hC ?_,Ql _,fun _=>⟨rfl,rfl⟩,fun h=>absurd h (by decide),fun h=>absurd h (by decide)⟩;show (bif false then _ else _)=_;rw[cond_false];refine bs hT (bs hcnt ?_);rw[decide_eq_true hbig];rfl
  .have hprod:RB t<=4096:=by have:=hcs (by show UA 1 (t.map List.length)<=4096;omega);omega
   have hO:abK t p=some (VK (fun l=>Rx l p) t):=by unfold abK;rw[if_pos ⟨by omega,hpos,hprod,hp2⟩]
   have hL:=aCw (fun l=>Rx l p) t;refine⟨(VK (fun l=>Rx l p) t).1,(VK (fun l=>Rx l p) t).2,0,bs hC ?_,by omega,fun h=>absurd rfl h,fun _=>?_,fun _=>?_⟩
   .show (bif false then _ else _)=_;rw[cond_false];refine bs hT (bs hcnt ?_);rw[decide_eq_false hbig,cond_false];exact bs ((aqV n (t,p)).trans hO) rfl
   .unfold VK;cases hfi:(List.range (RB t)).find? (fun k=>Rx (Sn k (RB t) t) p) with
    |some k=>intro h;cases h|none=>intro _;refine⟨rfl,fun l hl=>?_⟩;obtain⟨k,hk,e⟩:=hrep l hl;have:=List.find?_eq_none.1 hfi k (List.mem_range.2 hk);rw[<-e];simpa using this
   .unfold VK;cases hfi:(List.range (RB t)).find? (fun k=>Rx (Sn k (RB t) t) p) with
    |some k=>intro _;have h1:=List.find?_some hfi;have h1:Rx (Sn k (RB t) t) p=true:=h1;exact⟨h1,hfit k (List.mem_range.1 (List.mem_of_find?_eq_some hfi))⟩|none=>intro h;cases h
 .have e0:(TG s p !=(0:Int))=true:=by simpa using he
  refine⟨[],false,TG s p,bs hC ?_,Ql _,fun _=>⟨rfl,rfl⟩,fun h=>absurd h he,fun h=>absurd h he⟩;rw[e0];rfl
theorem aCO {n:Nat}{s:Ro}{a b:Pred}(hs:adA s n)(hx:Rq a+Rq b+2<n)(hx2:Rq a+Rq b+2<2^62)(hn:6000<n):∃o,XS n (s,(a,b))=some o/\(o=true->Yh n s):=by
 obtain⟨b1,h1⟩:=aCi hs (by omega);obtain⟨b2,h2⟩:=asQ (n:=n) (p:=a) (k:=100) (by omega) (by omega);obtain⟨b3,h3⟩:=asQ (n:=n) (p:=b) (k:=100) (by omega) (by omega);rw[azV];simp only[Pred.Sb];cases hc:(bif bif !b1 then true else !b2 then true else !b3);case true=>exact⟨false,bs h1 (bs h2 (bs h3 (by rw[hc];rfl))),fun h=>by cases h⟩
 case false=>
  cases b1<;>cases b2<;>cases b3<;>try cases hc
  have hS:=aCn hs.2.1 h1;have s2:=at6 (by omega) (by omega) h2;have s3:=at6 (by omega) (by omega) h3;have hC:=at1 (n:=n) (by omega) (p:=⟨2,[],0,0,[],[a,b]⟩) hS (by simp only[Rq,Sm];omega);generalize UA 1 ((Tg s (pre ⟨2,[],0,0,[],[a,b]⟩)).map List.length)=cv at hC;refine⟨(bif decide (cv<=(600:Int)) then true else decide (cv> (4096:Int))),bs h1 (bs h2 (bs h3 ?_)),fun _=>hS⟩;show (bif false then _ else _)=_;rw[cond_false];refine bs (ahS n a b) ?_;simp only[Pred.Sb];exact bs hC rfl
theorem auq (l:List Attr)(a b:Pred):Rx l (andNot a b)=(Rx l a&& !Rx l b):=by unfold andNot;simp[Rx,WU,anyS]
end Sh
end
