import Derived.Test.YtgdialomgeijcaaGreatF3928
set_option linter.all false
section
open Go Go.Proofs Aq Pq
namespace Sh
theorem aow {U γ:Type}{L:Nat->(List γ×Int)->Option (List γ)}{l:List U}{f:U->γ}(hs:∀m (i:Nat) x acc,l[i]? =some x->acc.length+1<2^30->L (m+1) (acc,(i:Int))=L m (acc++[f x],((i+1:Nat):Int)))(hf:∀m acc,L (m+1) (acc,(l.length:Int))=some acc):
 ∀(k i m:Nat)(acc:List γ),i+k=l.length->k<m->acc.length+k<2^30->L m (acc,(i:Int))=some (acc++(l.drop i).map f):=by
 intro k;induction k with
 |zero=>
  intro i m acc hi hm _;obtain⟨m,rfl⟩:∃m',m=m'+1:=⟨m-1,by omega⟩;obtain rfl:i=l.length:=by omega
  rw[hf,List.drop_length];simp
 |succ k ih=>
  intro i m acc hi hm ha;obtain⟨m,rfl⟩:∃m',m=m'+1:=⟨m-1,by omega⟩;have hlt:i<l.length:=by omega
  have hx:l[i]? =some l[i]:=PX hlt;rw[hs m i _ acc hx (by omega),ih (i+1) m _ (by omega) (by omega) (by rw[PU,List.length_singleton];omega),Qd hlt,PO,Qe];rfl
def VX (said:List UInt8->Bool):Bool->List (List UInt8)->List (List UInt8)
 |_,[]=>[]|o,w::ws=>(bif (bif said w then true else !o) then [w] else [])++VX said (bif o then true else !(said w)) ws
theorem akS (said:List UInt8->Bool):∀(ws:List (List UInt8))(o:Bool),(VX said o ws).length<=ws.length
 | [],_=>mF _|w::ws,o=>by
  have:=akS said ws (bif o then true else !(said w));unfold VX;rw[PU,List.length_cons];cases (bif said w then true else !o)
  .simp only[cond_false,List.length_nil];omega
  .simp only[cond_true,List.length_singleton];omega
def isW (nm:List UInt8)(x:Pred):Bool:=bif x.Op==(7:Int) then x.Name==nm else false
def VF (nm:List UInt8)(l:List Pred)(w:List UInt8):Bool:=l.any fun x=>isW nm x&& x.S==w
def aaC (d:Def)(l:List Pred):List (List UInt8):=VX (VF d.Name l) false d.Words
theorem aep (a b:List UInt8):SC R .str a b=(a==b):=rfl
theorem aox (x y:List UInt8):∀m:List (List UInt8×Bool),UK (SC R Ty.str) y (Wi (SC R Ty.str) x true m)=if y=x then some true else UK (SC R Ty.str) y m
 | []=>by
   show (bif SC R .str y x then some true else none)=_;rw[aep];by_cases e:y=x
   .rw[if_pos e,e];simp
   .have h:(y==x)=false:=(by simpa using e);rw[if_neg e,h];rfl
 | (a,v)::m=>by
   have ih:=aox x y m;show UK (SC R Ty.str) y (bif SC R .str x a then (x,true)::m else (a,v)::Wi (SC R Ty.str) x true m)=if y=x then some true else (bif SC R .str y a then some v else UK (SC R Ty.str) y m)
   rw[aep,aep];by_cases h:x=a
   .subst h;rw[beq_self_eq_true,cond_true];show (bif SC R .str y x then some true else UK (SC R Ty.str) y m)=_;rw[aep];by_cases e:y=x
    .subst e;simp
    .have h:(y==x)=false:=(by simpa using e);rw[if_neg e,h];rfl
   .have hx:(x==a)=false:=(by simpa using h);rw[hx,cond_false];show (bif SC R .str y a then some v else UK (SC R Ty.str) y (Wi (SC R Ty.str) x true m))=_;rw[ih,aep];by_cases e:y=a
    .subst e;have:¬y=x:=fun e=>h e.symm;simp[this]
    .have h2:(y==a)=false:=(by simpa using e);rw[h2];rfl
theorem akT {n:Nat}{d:Def}:∀(l:List Pred)(m:List (List UInt8×Bool)),∃m',aay n d l ((),m)=some ((),m')/\∀w:List UInt8,WK false (UK (SC R Ty.str) w m')=(WK false (UK (SC R Ty.str) w m)||VF d.Name l w)
 | [],m=>⟨m,auH ..,fun w=>by unfold VF;simp⟩
 |x::l,m=>by
  rw[auI];change∃m',(bif isW d.Name x then aay n d l ((),Wi (SC R Ty.str) x.S true m) else aay n d l ((),m))=some ((),m')/\_;cases hx:isW d.Name x with
  |false=>obtain⟨m',h1,h2⟩:=akT (n:=n) (d:=d) l m;refine⟨m',h1,fun w=>?_⟩;rw[h2];unfold VF;rw[List.any_cons,hx];simp
  |true=>
   obtain⟨m',h1,h2⟩:=akT (n:=n) (d:=d) l (Wi (SC R Ty.str) x.S true m);refine⟨m',h1,fun w=>?_⟩;have e:WK false (UK (SC R Ty.str) w (Wi (SC R Ty.str) x.S true m))=WK false (if w=x.S then some true else UK (SC R Ty.str) w m):=congrArg (WK false) (aox x.S w m);refine(h2 w).trans ((congrArg (fun b=>b||VF d.Name l w) e).trans ?_);unfold VF;rw[List.any_cons,hx];by_cases h:w=x.S
   .rw[if_pos h,h];simp[WK]
   .have:(x.S==w)=false:=(by simpa using Ne.symm h);rw[if_neg h,this];simp
theorem avF {n:Nat}{d:Def}{r8:PUnit×List ((List UInt8)×Bool)}{said:List UInt8->Bool}(hs:∀w:List UInt8,WK false (UK (SC R Ty.str) w r8.2)=said w)(hb:d.Words.length<2^29):
 ∀(k i m:Nat)(acc:List (List UInt8))(o:Bool),i+k=d.Words.length->k<m->acc.length<=i->acQ n d r8 m (acc,(o,(i:Int)))=some (acc++VX said o (d.Words.drop i)):=by
 intro k;induction k with
 |zero=>
  intro i m acc o hi hm _;obtain⟨m,rfl⟩:∃m',m=m'+1:=⟨m-1,by omega⟩;obtain rfl:i=d.Words.length:=by omega
  rw[an5,UL,cond_false,List.drop_length];simp[VX]
 |succ k ih=>
  intro i m acc o hi hm ha;obtain⟨m,rfl⟩:∃m',m=m'+1:=⟨m-1,by omega⟩;have hlt:i<d.Words.length:=by omega
  have hx:d.Words[i]? =some d.Words[i]:=PX hlt;rw[an5,Uc hx,cond_true,Qd hlt];refine bs (Te hx) ?_;rw[hs,T9 (by omega)];unfold VX;cases hc:(bif said d.Words[i] then true else !o) with
  |true=>refine(show (bif Sl (acc.length+1) 16 then _ else none)=_ from ?_);rw[WX (by omega) (by omega),cond_true,ih (i+1) m _ _ (by omega) (by omega) (by rw[PU,List.length_singleton];omega)];simp|false=>rw[cond_false,ih (i+1) m _ _ (by omega) (by omega) (by omega)];simp
theorem avG {n:Nat}{d:Def}{p:Pred}(h:RF p<2^30)(hw:d.Words.length<2^29)(hn:d.Words.length<n):Zh n (d,p)=some (aaC d (pre p)):=by rw[auJ];refine bs (acN n _) ?_;show ((VO p.re.re).bind _).bind _=_;rw[Pred.Td,Pred.Td,acT (by omega),Option.bind_some];obtain⟨m',h1,h2⟩:=akT (n:=n) (d:=d) (pre p) [];refine bs h1 ?_;refine bs (avF (r8:=((),m')) (said:=VF d.Name (pre p)) (fun w=>(h2 w).trans (by simp[UK,WK])) hw d.Words.length 0 n [] false (by omega) hn (mF _)) ?_;rfl
theorem avH {n:Nat}{d:Def}{l:List Pred}{o:Bool}{j:Nat}{w:List UInt8}{out:List Ry}(hj:d.Words[j]? =some w)(hb:l.length<2^62):∀(k i m:Nat)(s:Bool),i+k=l.length->k<m->aa8 n d l o (j:Int) m (out,(s,(i:Int)))=some (out,s||VF d.Name (l.drop i) w):=by
 intro k;induction k with
 |zero=>
  intro i m s hi hm;obtain⟨m,rfl⟩:∃m',m=m'+1:=⟨m-1,by omega⟩;obtain rfl:i=l.length:=by omega
  rw[anC,UL,cond_false,List.drop_length];simp[VF]
 |succ k ih=>
  intro i m s hi hm;obtain⟨m,rfl⟩:∃m',m=m'+1:=⟨m-1,by omega⟩;have hlt:i<l.length:=by omega
  have hx:l[i]? =some l[i]:=PX hlt;have he:=Te hx;have ih':=fun s=>ih (i+1) m s (by omega) (by omega);rw[anC,Uc hx,cond_true,Qd hlt,T9 (by omega)];generalize l[i]=x at*;have ec:VF d.Name (x::l.drop (i+1)) w=((isW d.Name x&& x.S==w)||VF d.Name (l.drop (i+1)) w):=by unfold VF;rw[List.any_cons]
  rw[ec];cases s with
  |true=>rw[Bool.not_true,cond_false,ih'];simp|false=>
   rw[Bool.not_false,cond_true];refine bs he ?_;unfold isW;cases h7:x.Op==(7:Int) with
   |false=>rw[cond_false,ih'];simp|true=>
    rw[cond_true];refine bs he ?_;cases hn:x.Name==d.Name with
    |false=>rw[cond_false,ih'];simp|true=>rw[cond_true];refine bs he (bs (Te hj) ?_);rw[ih'];simp
def avI (d:Def)(w:List UInt8):Ry:=⟨⟨d.Name,d.Kind,0,w⟩,true⟩
theorem avJ {n:Nat}{d:Def}{l:List Pred}(hb:l.length<2^62)(hln:l.length<n)(hw:d.Words.length<2^29):∀(k i m:Nat)(acc:List Ry)(o:Bool),i+k=d.Words.length->k<m->acc.length<=i+1->acK n d l m (acc,(o,(i:Int)))=some (acc++(VX (VF d.Name l) o (d.Words.drop i)).map (avI d)):=by
 intro k;induction k with
 |zero=>
  intro i m acc o hi hm _;obtain⟨m,rfl⟩:∃m',m=m'+1:=⟨m-1,by omega⟩;obtain rfl:i=d.Words.length:=by omega
  rw[anD,UL,cond_false,List.drop_length];simp[VX]
 |succ k ih=>
  intro i m acc o hi hm ha;obtain⟨m,rfl⟩:∃m',m=m'+1:=⟨m-1,by omega⟩;have hlt:i<d.Words.length:=by omega
  have hx:d.Words[i]? =some d.Words[i]:=PX hlt;rw[anD,Uc hx,cond_true,Qd hlt];have hsd:=avH (n:=n) (d:=d) (l:=l) (o:=o) (out:=acc) hx hb l.length 0 n false (by omega) hln;rw[Qz,Bool.false_or] at hsd;refine bs hsd ?_;dsimp only;rw[T9 (by omega)];unfold VX;cases hc:(bif VF d.Name l d.Words[i] then true else !o) with
  |true=>rw[cond_true,cond_true];refine bs (Te hx) ?_;refine(show (bif Sl (acc.length+1) 56 then _ else none)=_ from ?_);rw[WX (by omega) (by omega),cond_true,ih (i+1) m _ _ (by omega) (by omega) (by rw[PU,List.length_singleton];omega)];simp;rfl|false=>rw[cond_false,cond_false,ih (i+1) m _ _ (by omega) (by omega) (by omega)];simp
def aoy (d:Def)(v:Int):Ry:=⟨⟨d.Name,d.Kind,v,[]⟩,true⟩
theorem avK {n:Nat}{d:Def}{l:List Pred}(hlo: -(2^40)<=d.Lo)(hle:d.Lo<=d.Hi)(hhi:d.Hi<=2^40)(hb:l.length<2^62)(hln:l.length<n):∀(S:List Int)(last:Int)(m:Nat)(out:List Ry),(last::S).Pairwise (· < ·)->d.Lo<=last->(∀x,last<x->(x∈TI d l↔x∈S))->S.length<m->out.length+S.length<2^29->
 acL n d l m (out,last)=some (out++(RS (Sw d.Name l) S).map (aoy d)):=by
 intro S;have ew:IntKind.wrap .i64 (d.Hi+(1:Int))=d.Hi+1:=by rw[IntKind.wrap_i64];omega
 induction S with
 |nil=>intro last m out _ hl hm hlt _;obtain⟨m,rfl⟩:∃m',m=m'+1:=⟨m-1,by omega⟩;rw[anF,ew];refine bs (aov (out:=out) hl hlo hhi hb l.length 0 n (d.Hi+1) (by omega) hln (PZ _)) ?_;rw[Qz,auU (fun x hx hc=>by cases (hm x hx).1 hc)];show (bif decide (d.Hi+1>d.Hi) then some out else _)=_;rw[decide_eq_true (by omega),cond_true];simp[RS]
 |cons y S ih=>
  intro last m out hs hl hm hlt hol;simp only[List.length_cons] at hlt hol;obtain⟨m,rfl⟩:∃m',m=m'+1:=⟨m-1,by omega⟩;have hs':=List.pairwise_cons.1 hs;have hs2:=List.pairwise_cons.1 hs'.2;have hly:=hs'.1 y (PI ..);have hyc:=(hm y hly).2 (PI ..);have hyr:=acS hyc;rw[anF,ew];refine bs (aov (out:=out) hl hlo hhi hb l.length 0 n (d.Hi+1) (by omega) hln (PZ _)) ?_;rw[Qz,auT hs'.2 hm hly (by omega)];show (bif decide (y>d.Hi) then some out else _)=_;rw[decide_eq_false (by omega),cond_false];have ey:IntKind.wrap .i64 (y-(1:Int))=y-1:=by rw[IntKind.wrap_i64];omega
  rw[ey];refine bs (avE hb hln) ?_;have hm':∀x,y<x->(x∈TI d l↔x∈S):=fun x hx=>by
   rw[hm x (by omega),PG];constructor
   .rintro (h|h)
    .omega
    .exact h
   .exact .inr
  unfold RS;cases ht:Sw d.Name l (y-1)==Sw d.Name l y with
  |true=>rw[Bool.not_true,cond_false,cond_true,ih y m out hs'.2 (by omega) hm' (by omega) (by omega)]|false=>rw[Bool.not_false,cond_true,cond_false];refine(show (bif Sl (out.length+1) 56 then _ else none)=_ from ?_);rw[WX (by omega) (by omega),cond_true];refine Eq.trans (ih y m (out++[aoy d y]) hs'.2 (by omega) hm' (by omega) (by rw[PU,List.length_singleton];omega)) ?_;simp
def Vi (d:Def)(l:List Pred):List (Option Attr):=none::(if d.Kind=1 then (Yp d l).map fun v=>some ⟨d.Name,d.Kind,v,[]⟩ else (aaC d l).map fun w=>some ⟨d.Name,d.Kind,0,w⟩)
def noA:Attr:=⟨[],0,0,[]⟩
def Uk:Option Attr->Q6
 |none=>⟨noA,false⟩|some a=>⟨a,true⟩
def toR:Option Attr->Ry
 |none=>⟨noA,false⟩|some a=>⟨a,true⟩
structure aaD (n:Nat)(d:Def):Prop where
 kind:d.Kind=1\/d.Kind=2
 lo: -(2^40)<=d.Lo
 le:d.Lo<=d.Hi
 hi:d.Hi<=2^40
 words:d.Words.length<2^29
 wn:d.Words.length<n
theorem aoA (t:Int->List Bool):∀S:List Int,(RS t S).length<=S.length
 | []=>mF _|y::S=>by
  have:=aoA t S;unfold RS;cases t (y-1)==t y
  .rw[cond_false,List.length_cons,List.length_cons];omega
  .rw[cond_true,List.length_cons];omega
theorem aoB (p:Int):∀l:List Int,(Z7 p l).length<=l.length+1
 | []=>mF _|y::l=>by
  have:=aoB p l;unfold Z7;split
  .simp
  .split
   .simp
   .simp;omega
theorem akU:∀l:List Int,(XY l).length<=l.length
 | []=>mF _|y::l=>by have:=akU l;have h2:=aoB y (XY l);unfold XY;rw[List.length_cons];omega
theorem aoC (d:Def)(l:List Pred):(Yp d l).length<=2*l.length+1:=by unfold Yp;have h1:=aoA (Sw d.Name l) (XY (TI d l));have h2:=akU (TI d l);have h3:=afY d l;rw[List.length_cons];omega
theorem avM {n:Nat}(hn:800<n){d:Def}{p:Pred}(hd:aaD n d)(h:RF p<=240):Zo n (d,p)=some ((Vi d (pre p)).map Uk):=by
 have hnl:=aoC d (pre p);rw[WB] at hnl;have hwl:(aaC d (pre p)).length<=d.Words.length:=akS _ _ _;have hw:=hd.words;have hw2:=hd.wn;rw[auK];unfold Vi;by_cases hk:d.Kind=1
 .have e:(d.Kind==(1:Int))=true:=by rw[hk];rfl
  rw[e,cond_true,if_pos hk];refine bs (show Zu n (d,p.re)=_ by rw[Pred.Td];exact avz hn hd.lo hd.hi h) ?_;refine bs (aow (L:=fun m q=>aeg n d (Yp d (pre p)) m q) (l:=Yp d (pre p)) (f:=fun v=>Uk (some ⟨d.Name,d.Kind,v,[]⟩)) (fun m i x acc hx ha=>?_) (fun m acc=>?_) (Yp d (pre p)).length 0 n [Uk none] (by omega) (by omega) (by simp;omega)) ?_
  .rw[an6,Uc hx,cond_true];refine bs (Te hx) ?_;have hlt:=Vu hx;rw[T9 (by omega)];refine(show (bif Sl (acc.length+1) 56 then _ else none)=_ from ?_);rw[WX (by omega) (by omega)];rfl
  .rw[an6,UL];rfl
  .simp
 .have e:(d.Kind==(1:Int))=false:=by simpa using hk
  rw[e,cond_false,if_neg hk];refine bs (show Zh n (d,p.re)=_ by rw[Pred.Td];exact avG (by omega) hw hw2) ?_;refine bs (aow (L:=fun m q=>aeh n d (aaC d (pre p)) m q) (l:=aaC d (pre p)) (f:=fun w=>Uk (some ⟨d.Name,d.Kind,0,w⟩)) (fun m i x acc hx ha=>?_) (fun m acc=>?_) (aaC d (pre p)).length 0 n [Uk none] (by omega) (by omega) (by simp;omega)) ?_
  .rw[an7,Uc hx,cond_true];refine bs (Te hx) ?_;have hlt:=Vu hx;rw[T9 (by omega)];refine(show (bif Sl (acc.length+1) 56 then _ else none)=_ from ?_);rw[WX (by omega) (by omega)];rfl
  .rw[an7,UL];rfl
  .simp
theorem avN {n:Nat}(hn:800<n){d:Def}{l:List Pred}(hd:aaD n d)(h:l.length<=240):QP n (d,l)=some ((Vi d l).map toR):=by
 have hw:=hd.words;have hw2:=hd.wn;rw[atW];unfold Vi;rcases hd.kind with hk|hk
 .have e:(d.Kind==(2:Int))=false:=by rw[hk];rfl
  rw[e,cond_false,if_pos hk];refine(show (bif Sl 2 56 then _ else none)=_ from ?_);rw[WX (by omega) (by omega),cond_true];have h2:=akU (TI d l);have h3:=afY d l;refine bs (avK (n:=n) (d:=d) (l:=l) hd.lo hd.le hd.hi (by omega) (by omega) (XY (TI d l)) d.Lo n _ avy (PZ _) (fun x _=>(acX x _).symm) (by omega) ?_) ?_
  .simp only[PU,List.length_singleton];omega
  .simp[Yp];exact⟨rfl,rfl,fun _ _=>rfl⟩
 .have e:(d.Kind==(2:Int))=true:=by rw[hk];rfl
  rw[e,cond_true,if_neg (by rw[hk];decide)];refine bs (avJ (n:=n) (d:=d) (l:=l) (by omega) (by omega) hw d.Words.length 0 n _ false (by omega) hw2 (by simp)) ?_;simp[aaC];exact⟨rfl,fun _ _=>rfl⟩
end Sh
end
section
open Go Go.Proofs Aq
namespace Sh
theorem avO {l:List V}{v:V}(h:v∈l):Ug v<=Vf l:=by
 induction l with
 |nil=>cases h|cons x l ih=>
  rcases PG.1 h with rfl|h
  .show Ug v<=Ug v+Vf l;omega
  .have:=ih h;show Ug v<=Ug x+Vf l;omega
theorem aoD {U:Type}(f:U->V){l:List U}{x:U}(h:x∈l):Ug (f x)<=Vf (l.map f):=avO (List.mem_map_of_mem h)
theorem akV {U:Type}(f:U->V)(hf:∀x,1<=Ug (f x))(l:List U):l.length<=Vf (l.map f):=by
 induction l with
 |nil=>exact Qk _|cons x l ih=>have:=hf x;show l.length+1<=Ug (f x)+Vf (l.map f);omega
mutual
theorem aoE:∀p:Pred,RF p<=Ug (Pred.vr p)
 | ⟨op,name,n,m,s,subs⟩=>by have:=aoF subs;simp only[RF,Pred.vr,Ug,Vf];omega
theorem aoF:∀l:List Pred,Wx l<=Vf (Pred.vl l)
 | []=>Qk _|p::l=>by have:=aoE p;have:=aoF l;simp only[Wx,Pred.vl,Vf];omega
end
theorem aoG (x:Pred):RF x<=Uh (Pred.v x):=by rw[<-Pred.afc];exact PD (aoE x) (afb _)
theorem avP (l:List Attr):l.length<=Uh (lv Attr.v l):=by have h:=akV Attr.v (fun x=>by show 1<=Vf x.c;unfold Attr.c;simp only[Vf,Ug];omega) l;have h2:Ug (lv Attr.v l)<=Uh (lv Attr.v l):=afb _;have h3:Ug (lv Attr.v l)=Vf (l.map Attr.v)+1:=rfl;omega
end Sh
end
section
open Go Go.Proofs Aq
namespace Sh
theorem aoH {n:Nat}{l:List (List UInt8)}{x:List UInt8}(h:l.length<n)(hb:l.length<2^62):ZC n (l,x)=some (l.any (· ==x)):=by
 have:=acC (L:=fun m i=>ad5 n l x m i) (l:=l) (fun d i r=>bif d==x then some (.inr true) else r) (some (.inl ()))
  (fun m i d hd=>by have hlt:=Vu hd;rw[anl,Uc hd,Te hd,T9 (by omega)];rfl)
  (fun m=>by rw[anl,UL];rfl) h
 rw[atN,this,acD (fun d:List UInt8=>d==x) (fun i=>(Sum.inr true:PUnit⊕Bool)) (.inl ())];cases hf:l.findIdx? (fun d=>d==x) with
 |none=>
  rw[List.findIdx?_eq_none_iff] at hf;have:l.any (· ==x)=false:=by rw[List.any_eq_false];intro y hy;simpa using hf y hy
  rw[this];rfl
 |some j=>
  obtain⟨hj,h2,_⟩:=List.findIdx?_eq_some_iff_getElem.1 hf;have:l.any (· ==x)=true:=by rw[List.any_eq_true];exact⟨l[j],Qw hj,h2⟩
  rw[this];rfl
def aaE (s:Ri)(n:Nat):Prop:=s.Defs.length<n/\s.Defs.length<2^62/\∀d∈s.Defs,d.Name.length<n/\d.Name.length<2^62/\d.Words.length<n/\d.Words.length<2^62/\∀w∈d.Words,w.length<n/\w.length<2^62
theorem aoI {n:Nat}{x:List UInt8}(h:x.length<n)(hb:x.length<2^62)(hn:6<n):∃b:Bool,Zx n x=some b:=by
 obtain⟨r,hr⟩:=abN (L:=fun m (_:Unit) i=>aa3 n x m i) (l:=x)
  (fun m i c _ hc ih=>by
    have hlt:=Vu hc;show∃r,aa3 n x (m+1) (i:Int)=some r;rw[anm,Uc hc,Te hc,T9 (by omega),cond_true,Option.bind_some];cases (bif !(bif decide ((c.toNat:Int)>=(97:Int)) then decide ((c.toNat:Int)<=(122:Int)) else false) then bif (i:Int)==(0:Int) then true else !(bif bif decide ((c.toNat:Int)>=(48:Int)) then decide ((c.toNat:Int)<=(57:Int)) else false then true else (c.toNat:Int)==(95:Int)) else false)
    .exact ih ()
    .exact⟨_,rfl⟩)
  (fun m _ i hi=>by show∃r,aa3 n x (m+1) (i:Int)=some r;rw[anm,abO hi];exact⟨_,rfl⟩) x.length 0 n () (by omega) h
 have hr':aa3 n x n (0:Int)=some r:=hr;rw[atO,hr'];cases r with
 |inl q=>obtain⟨b,hb'⟩:=afq (c:=bif decide ((x.length:Int)>=(1:Int)) then decide ((x.length:Int)<=(40:Int)) else false) (o:=ZC n (([[(97:UInt8),(108:UInt8),(108:UInt8)],[(97:UInt8),(110:UInt8),(100:UInt8)],[(104:UInt8),(97:UInt8),(115:UInt8)],[(105:UInt8),(110:UInt8)],[(110:UInt8),(111:UInt8),(116:UInt8)],[(111:UInt8),(114:UInt8)]],x))) (d:=false) (fun _=>⟨_,aoH (show 6<n from hn) (show 6<2^62 by omega)⟩);rw[Option.bind_some];show∃b,Option.bind (TM _ _ _) _=some b;rw[hb'];exact⟨_,rfl⟩
 |inr q=>exact⟨q,rfl⟩
theorem avQ {n:Nat}{l:List (List UInt8)}(h:l.length<n)(hb:l.length<2^62)(hw:∀w∈l,w.length<n/\w.length<2^62)(hn:6<n):∃e:Int,Zf n l=some e:=by
 rw[anq];cases (bif decide ((l.length:Int)< (1:Int)) then true else decide ((l.length:Int)> (50:Int)))
 .obtain⟨r,hr⟩:=abN (L:=fun m (_:Unit) i=>aa4 n l m i) (l:=l)
   (fun m i c _ hc ih=>by
     have hlt:=Vu hc;show∃r,aa4 n l (m+1) (i:Int)=some r;obtain⟨b,hb'⟩:=aoI (hw c (Ql hc)).1 (hw c (Ql hc)).2 hn;rw[ano,Uc hc,Te hc,T9 (by omega),cond_true,Option.bind_some,hb'];cases b
     .exact⟨_,rfl⟩
     .exact ih ())
   (fun m _ i hi=>by show∃r,aa4 n l (m+1) (i:Int)=some r;rw[ano,abO hi];exact⟨_,rfl⟩) l.length 0 n () (by omega) h
  have hr':aa4 n l n (0:Int)=some r:=hr;rw[cond_false,hr',Option.bind_some];cases r with
  |inr q=>exact⟨q,rfl⟩|inl q=>
   obtain⟨r,hr2⟩:=abN (L:=fun m (_:Unit) i=>aa5 n l m (i+1)) (l:=l.tail)
    (fun m i c _ hc ih=>by
      have hc':l[i+1]? =some c:=(by rw[List.getElem?_tail] at hc;exact hc);have hlt:=Vu hc';show∃r,aa5 n l (m+1) ((i:Int)+1)=some r;have ei:(i:Int)+1=((i+1:Nat):Int):=(by omega);have e0:IntKind.wrap .i64 (((i+1:Nat):Int)-(1:Int))=(i:Int):=(by rw[IntKind.wrap_i64];omega);have hi0:l[i]? =some l[i]:=PX (by omega);rw[ei,anp,Uc hc',Te hc',T9 (by omega),e0,Te hi0,cond_true,Option.bind_some,Option.bind_some];cases (Go.Op.bytesLess c l[i]||c==l[i])
      .have:=ih ();have e1:(((i+1:Nat):Int))+1=((i+1+1:Nat):Int):=(by omega);simp only[e1] at this;exact this
      .exact⟨_,rfl⟩)
    (fun m _ i hi=>by show∃r,aa5 n l (m+1) ((i:Int)+1)=some r;have ei:(i:Int)+1=((i+1:Nat):Int):=(by omega);rw[ei,anp,abO (by rw[List.length_tail] at hi;omega)];exact⟨_,rfl⟩) l.length 0 n () (by rw[List.length_tail];omega) h
   have hr2':aa5 n l n (1:Int)=some r:=hr2;rw[Sum.elim_inl,hr2',Option.bind_some];cases r with
   |inl q=>exact⟨0,rfl⟩|inr q=>exact⟨q,rfl⟩
 .exact⟨_,rfl⟩
theorem avR {n:Nat}{d:Def}{x:List UInt8}(h:d.Name.length<n/\d.Name.length<2^62/\d.Words.length<n/\d.Words.length<2^62/\∀w∈d.Words,w.length<n/\w.length<2^62)(hn:6<n):∃e:Int,Xa n (d,x)=some e:=by obtain⟨b,hb⟩:=aoI h.1 h.2.1 hn;obtain⟨e,he⟩:=avQ h.2.2.1 h.2.2.2.1 h.2.2.2.2 hn;rw[anr,hb];show∃e:Int,(bif !b then some (5:Int) else _)=some e;refine Wo ⟨_,rfl⟩ (Wo ⟨_,rfl⟩ (Wo (Wo ⟨_,rfl⟩ (Wo ⟨_,rfl⟩ ⟨_,rfl⟩)) (Wo (Wo ⟨_,rfl⟩ ?_) ⟨_,rfl⟩)));rw[he];exact⟨e,rfl⟩
theorem avS {n:Nat}{s:Ri}(h:aaE s n)(hn:6<n):∃e:Int,Zp n s=some e:=by
 obtain⟨h1,h2,h3⟩:=h;obtain⟨b,hb⟩:=afq (c:= !(bif decide (s.VJ< (1:Int)) then true else decide (s.VJ> (32:Int)))) (o:=Xq n s.XP) (d:=false) (fun _=>by rw[atM];exact⟨_,rfl⟩);obtain⟨r,hr⟩:=abN (L:=fun m (x:List UInt8) i=>Y7 n s m (x,i)) (l:=s.Defs)
  (fun m i d x hd ih=>by have hlt:=Vu hd;show∃r,Y7 n s (m+1) (x,(i:Int))=some r;obtain⟨e,he⟩:=avR (x:=x) (h3 d (Ql hd)) hn;rw[afV,Uc hd,Te hd,T9 (by omega),cond_true,Option.bind_some,he];show∃r,(bif e !=(0:Int) then _ else _)=some r;exact Wo ⟨_,rfl⟩ (ih _))
  (fun m x i hi=>by show∃r,Y7 n s (m+1) (x,(i:Int))=some r;rw[afV,abO hi];exact⟨_,rfl⟩) s.Defs.length 0 n [] (by omega) h1
 have hr':Y7 n s n ([],(0:Int))=some r:=hr;rw[anu];show∃e:Int,Option.bind (TM _ _ _) _=some e;rw[hb];show∃e:Int,(bif _ then some (1:Int) else _)=some e;refine Wo ⟨_,rfl⟩ (Wo ⟨_,rfl⟩ ?_);rw[hr',Option.bind_some];cases r with
 |inl q=>exact⟨0,rfl⟩|inr q=>exact⟨q,rfl⟩
theorem avT {n:Nat}{s:Ri}{k:Int}(h:aaE s n):∃b:Bool,Zi n (s,k)=some b:=by
 obtain⟨h1,h2,h3⟩:=h;obtain⟨r,hr⟩:=abN (L:=fun m (_:Unit) i=>aa2 n s k m i) (l:=s.Defs)
  (fun m i d _ hd ih=>by
    have hlt:=Vu hd;obtain⟨w1,w2,w3,w4,w5⟩:=h3 d (Ql hd);show∃r,aa2 n s k (m+1) (i:Int)=some r;obtain⟨r,hr⟩:=abN (L:=fun m (_:Unit) j=>aa1 n s k (i:Int) d m j) (l:=d.Words)
     (fun m j w _ hw ih=>by have hlt:=Vu hw;show∃r,aa1 n s k (i:Int) d (m+1) (j:Int)=some r;rw[anj,Uc hw,Te hw,T9 (by omega),cond_true,Option.bind_some];exact Wo ⟨_,rfl⟩ (ih ()))
     (fun m _ j hj=>by show∃r,aa1 n s k (i:Int) d (m+1) (j:Int)=some r;rw[anj,abO hj];exact⟨_,rfl⟩) d.Words.length 0 n () (by omega) w3
    have hr':aa1 n s k (i:Int) d n (0:Int)=some r:=hr;rw[ank,Uc hd,Te hd,T9 (by omega),Option.bind_some,hr'];refine Wo (Wo ⟨_,rfl⟩ ?_) ⟨_,rfl⟩;cases r with
    |inl q=>exact ih ()|inr q=>exact⟨_,rfl⟩)
  (fun m _ i hi=>by show∃r,aa2 n s k (m+1) (i:Int)=some r;rw[ank,abO hi];exact⟨_,rfl⟩) s.Defs.length 0 n () (by omega) h1
 have hr':aa2 n s k n (0:Int)=some r:=hr;rw[atL,hr',Option.bind_some];cases r with
 |inl q=>exact⟨_,rfl⟩|inr q=>exact⟨q,rfl⟩
def aer (p:Pred):Bool:=
 if (p.Op<5/\p.Name≠[])\/(p.Op≠6/\(p.N≠0\/p.M≠0))\/(p.Op≠7/\p.S≠[]) then false else if p.N>p.M then false else if p.Op=2\/p.Op=3 then decide (p.Rq≠[]) else if p.Op=4 then decide (p.Rq.length=1) else decide (p.Rq=[])
theorem avU {U:Type}(l:List U):((l.length:Int)==(0:Int))=decide (l=[]):=by
 cases l with
 |nil=>simp|cons a l=>simp<;>omega
theorem avV (l:List UInt8):(l==[])=decide (l=[]):=by cases l<;>simp
theorem avW (n:Nat)(p:Pred):Xf n p=some (aer p):=by
 obtain⟨op,name,a,b,s,subs⟩:=p;rw[aub];simp only[avU,avV];have key:(bif bif bif bif !(decide (op>=(5:Int))) then !(decide (name=[])) else false then true else bif op !=(6:Int) then bif a !=(0:Int) then true else b !=(0:Int) else false then true else bif op !=(7:Int) then !(decide (s=[])) else false then some false else bif bif bif decide (a>b) then true else bif bif op==(2:Int) then true else op==(3:Int) then decide (subs=[]) else false then true else bif op==(4:Int) then (subs.length:Int) !=(1:Int) else false then some false else some (bif bif bif op==(2:Int) then true else op==(3:Int) then true else op==(4:Int) then true else decide (subs=[])))=some (aer ⟨op,name,a,b,s,subs⟩):=by
  unfold aer;dsimp only;by_cases c1:(op<5/\name≠[])\/(op≠6/\(a≠0\/b≠0))\/(op≠7/\s≠[])
  .rw[if_pos c1];have:(bif bif bif !(decide (op>=(5:Int))) then !(decide (name=[])) else false then true else bif op !=(6:Int) then bif a !=(0:Int) then true else b !=(0:Int) else false then true else bif op !=(7:Int) then !(decide (s=[])) else false)=true:=by
    simp only[Bool.cond_true_right,Bool.cond_false_right,Bool.cond_true_left,QE,Pz,decide_eq_true_iff,bne_iff_ne,Qy,decide_eq_false_iff_not];rcases c1 with c|c|c
    .exact .inl (.inl ⟨by omega,c.2⟩)
    .exact .inl (.inr c)
    .exact .inr c
   rw[this];rfl
  .rw[if_neg c1];have:(bif bif bif !(decide (op>=(5:Int))) then !(decide (name=[])) else false then true else bif op !=(6:Int) then bif a !=(0:Int) then true else b !=(0:Int) else false then true else bif op !=(7:Int) then !(decide (s=[])) else false)=false:=by
    rw[Bool.eq_false_iff];intro h;simp only[Bool.cond_true_right,Bool.cond_false_right,Bool.cond_true_left,QE,Pz,decide_eq_true_iff,bne_iff_ne,Qy,decide_eq_false_iff_not] at h;rcases h with (h|h)|h
    .exact c1 (.inl ⟨by omega,h.2⟩)
    .exact c1 (.inr (.inl h))
    .exact c1 (.inr (.inr h))
   rw[this,cond_false];by_cases c2:a>b
   .rw[if_pos c2,decide_eq_true c2];rfl
   .rw[if_neg c2,decide_eq_false c2,cond_false];by_cases c3:op=2\/op=3
    .rw[if_pos c3];have h4:(op==(4:Int))=false:=(by rcases c3 with rfl|rfl<;>rfl);have:(bif op==(2:Int) then true else op==(3:Int))=true:=(by rcases c3 with rfl|rfl<;>rfl);rw[this,h4];by_cases hs:subs=[]<;>simp[hs]
    .rw[if_neg c3];have:(bif op==(2:Int) then true else op==(3:Int))=false:=(by rw[Bool.eq_false_iff];intro h;simp at h;exact c3 h);rw[this,cond_false];by_cases c4:op=4
     .rw[if_pos c4,c4];by_cases hl:subs.length=1
      .simp[hl]
      .have:((subs.length:Int) !=(1:Int))=true:=(by rw[bne_iff_ne];omega);rw[this];simp[hl]
     .rw[if_neg c4];have:(op==(4:Int))=false:=(by simpa using c4);rw[this];rfl
 exact key
theorem avX {n:Nat}{s:Ri}{x:List UInt8}(h:s.Defs.length<n)(hb:s.Defs.length<2^62):Xg n (s,x)=some (match s.Defs.find? (fun d=>d.Name==x) with|some d=>(d,true)|none=>(⟨[],0,0,0,[]⟩,false)):=by
 have:=acC (L:=fun m i=>aec n s.Defs x m i) (l:=s.Defs) (fun d i r=>bif d.Name==x then some (.inr (i:Int)) else r) (some (.inl ()))
  (fun m i d hd=>by have hlt:=Vu hd;rw[anL,Uc hd,Te hd,T9 (by omega)];simp only[cond_true,Option.bind_some,auc];rfl)
  (fun m=>by rw[anL,UL];rfl) h
 rw[aue,aud,this,acD (fun d:Def=>d.Name==x) (fun i=>(Sum.inr (i:Int):PUnit⊕Int)) (.inl ())];have hg:=afu (fun d:Def=>d.Name==x) s.Defs;rw[<-hg];cases hf:s.Defs.findIdx? (fun d=>d.Name==x) with
 |none=>rfl|some j=>
  obtain⟨hj,_,_⟩:=List.findIdx?_eq_some_iff_getElem.1 hf;simp only[Option.bind_some,Sum.elim_inr,Qi];have e:decide (((j:Nat):Int)< (0:Int))=false:=by simp
  show (bif decide (((j:Nat):Int)< (0:Int)) then (some ((⟨[],(0:Int),(0:Int),(0:Int),[]⟩:Def),false):Option (Def×Bool)) else (Fb s.Defs ((j:Nat):Int)).bind fun r4=>some (r4,true))=_;rw[e,cond_false,ahz,PX hj];rfl
def abf (s:Ri)(x:Pred):Option Int:=
 if x.Op<1\/x.Op>7 then some 1 else if aer x=false then some 3 else if x.Op<5 then none else match s.Defs.find? (fun d=>d.Name==x.Name) with
 |none=>some 5|some d=>if (x.Op=6/\d.Kind≠1)\/(x.Op=7/\d.Kind≠2) then some 130 else none
def abg (s:Ri):List Pred->Option Int
 | []=>none|x::l=>match abf s x with
  |some e=>some e|none=>abg s l
theorem aoJ {n:Nat}{s:Ri}(hd:s.Defs.length<n)(hdb:s.Defs.length<2^62):∀l:List Pred,Ym n s l ((),(0:Int))=some (match abg s l with|some e=>.inr ((),e)|none=>.inl ((),(0:Int)))
 | []=>auf n s 0|x::l=>by
  have ih:=aoJ (n:=n) (s:=s) hd hdb l;have:=aug n s x l (0:Int);rw[show Ym n s (x::l) ((),(0:Int))=_ from this,Pred.Td];rw[abg];unfold abf;by_cases c1:x.Op<1\/x.Op>7
  .rw[if_pos c1];have:(bif decide (x.Op< (1:Int)) then true else decide (x.Op> (7:Int)))=true:=by
    rcases c1 with c|c
    .rw[decide_eq_true c];rfl
    .rw[decide_eq_true c];cases decide (x.Op<1)<;>rfl
   rw[this];rfl
  .rw[if_neg c1];have:(bif decide (x.Op< (1:Int)) then true else decide (x.Op> (7:Int)))=false:=by rw[decide_eq_false (by omega),decide_eq_false (by omega)];rfl
   rw[this,cond_false];refine bs (avW n x) ?_;cases hform:aer x
   .rw[if_pos rfl];rfl
   .rw[if_neg (by simp)];show (bif decide (x.Op< (5:Int)) then _ else _)=_;by_cases c2:x.Op<5
    .rw[if_pos c2,decide_eq_true c2,cond_true];exact ih
    .rw[if_neg c2,decide_eq_false c2,cond_false];refine bs (avX hd hdb) ?_;cases hf:s.Defs.find? (fun d=>d.Name==x.Name) with
     |none=>rfl|some d=>
      dsimp only;have o:x.Op=5\/x.Op=6\/x.Op=7:=(by omega);have key:(bif bif bif x.Op==(6:Int) then d.Kind !=(1:Int) else false then true else bif x.Op==(7:Int) then d.Kind !=(2:Int) else false then some (.inr (((),(130:Int)))) else Ym n s l (((),(0:Int))))=(if (x.Op=6/\d.Kind≠1)\/(x.Op=7/\d.Kind≠2) then some (.inr (((),(130:Int)))) else Ym n s l (((),(0:Int)))):=by
       by_cases k1:d.Kind=1<;>by_cases k2:d.Kind=2<;>rcases o with o|o|o<;>simp[o,k1,k2]<;>first
        | (have h1:(d.Kind !=(1:Int))=true:=bne_iff_ne.2 (by omega);rw[h1];rfl)
        | (have h2:(d.Kind !=(2:Int))=true:=bne_iff_ne.2 (by omega);rw[h2];rfl)
      rw[show Ym n s l (((),(0:Int)))=_ from ih] at key⊢;refine key.trans ?_;by_cases c3:(x.Op=6/\d.Kind≠1)\/(x.Op=7/\d.Kind≠2)
      .rw[if_pos c3,if_pos c3]
      .rw[if_neg c3,if_neg c3]
theorem akW {n:Nat}{s:Ri}{p:Pred}(hp:RF p<2^62)(hd:s.Defs.length<n)(hdb:s.Defs.length<2^62):
 Zm n (s,p)=some (if ((pre p).take 1000).length>64 then 2 else (abg s ((pre p).take 1000)).getD 0):=by
 rw[auh,Pred.Td];refine bs (auZ hp) ?_;show (bif decide ((((((pre p).take 1000).length:Nat):Int))> (64:Int)) then _ else _)=_;by_cases c:((pre p).take 1000).length>64
 .rw[if_pos c,decide_eq_true (by omega)];rfl
 .rw[if_neg c,decide_eq_false (by omega),cond_false];refine bs (acN n p) ?_;show ((VO p.re).bind _).bind _=_;rw[Pred.Td];have hlen:(pre p).length<=64:=by rw[Qb] at c;omega
  rw[acT hp,Option.bind_some,aoJ hd hdb,Qu (by omega)];cases abg s (pre p)<;>rfl
end Sh
end
section
open Go Go.Proofs Aq Pq
namespace Sh
def notP (p:Pred):Pred:=⟨4,[],0,0,[],[p]⟩
end Sh
end
section
open Go Go.Proofs Aq Pq
namespace Sh
end Sh
end
section
open Go Go.Proofs Aq Pq
namespace Sh
end Sh
end
section
open Go Go.Proofs Aq Pq
namespace Sh
theorem av5 {n:Nat}{s:Ri}(h:aaE s n)(hn:6<n):∃b:Bool,Xd n s=some b:=by obtain⟨b,hb⟩:=avT (k:=16) h;obtain⟨e,he⟩:=afq (c:=b) (o:=Zp n s) (d:=(0:Int)) (fun _=>avS h hn);rw[anv,hb];refine⟨_,bs rfl (bs he rfl)⟩
theorem aoU (d:Def):d.Name.length+d.Words.length+1<=Ug (Def.v d)/\∀w∈d.Words,w.length+1<=Ug (Def.v d):=by have e:Ug (Def.v d)=(d.Name.length+1)+(1+(1+(1+(Vf (d.Words.map V.str)+1+0)))):=rfl;have h1:=akV V.str (fun x=>by simp[Ug]) d.Words;refine⟨by omega,fun w hw=>?_⟩;have h2:=aoD V.str hw;have h3:Ug (V.str w)=w.length+1:=rfl;omega
theorem av6 {s:Ri}{n k:Nat}(h:Ug (Ri.v s)<=k)(hk:k<n)(hk2:k<2^62):aaE s n:=by have e:Ug (Ri.v s)=1+(1+(Vf (s.Defs.map Def.v)+1+0)):=rfl;have h1:=akV Def.v (fun x=>by have:=(aoU x).1;omega) s.Defs;refine⟨by omega,by omega,fun d hd=>?_⟩;have h2:=aoD Def.v hd;have h3:=aoU d;have h4:=h3.1;refine⟨by omega,by omega,by omega,by omega,fun w hw=>?_⟩;have:=h3.2 w hw;exact⟨by omega,by omega⟩
end Sh
end
section
open Go Go.Proofs Aq Pq
namespace Sh
theorem iB {U β:Type}{o:Option U}{f:U->Option β}{r:β}(h:o.bind f=some r):∃a,o=some a/\f a=some r:=iP.1 h
theorem iC {U:Type}{c:Bool}{a b:Option U}{r:U}(h:(bif c then a else b)=some r):(c=true/\a=some r)\/(c=false/\b=some r):=by
 cases c
 .exact .inr ⟨rfl,h⟩
 .exact .inl ⟨rfl,h⟩
theorem iS {U:Type}{a b:U}(h:some a=some b):a=b:=P9 h
def akY (n:Nat)(x:List UInt8)(d:Def):Prop:=
 ((Go.Op.bytesLess d.Name x)||(d.Name==x))=false/\((d.Kind=1/\ -(2^40)<=d.Lo/\d.Hi<=2^40/\d.Lo<=d.Hi/\d.Words=[])\/(d.Kind=2/\d.Lo=0/\d.Hi=0/\Zf n d.Words=some (0:Int)))
theorem av7 {n:Nat}{d:Def}{x:List UInt8}(h:Xa n (d,x)=some (0:Int)):akY n x d:=by
 have h:=(anr n d x).symm.trans h;obtain⟨b,hb,h⟩:=iB h;rcases iC h with ⟨_,h⟩| ⟨_,h⟩
 .exact absurd (iS h) (by decide)
 rcases iC h with ⟨_,h⟩| ⟨hname,h⟩
 .exact absurd (iS h) (by decide)
 refine⟨hname,?_⟩;rcases iC h with ⟨hk,h⟩| ⟨hk,h⟩
 .have hk:d.Kind=1:=by simpa using hk
  rcases iC h with ⟨_,h⟩| ⟨hr,h⟩
  .exact absurd (iS h) (by decide)
  rcases iC h with ⟨_,h⟩| ⟨hw,h⟩
  .exact absurd (iS h) (by decide)
  refine .inl ⟨hk,?_⟩;have a1:¬d.Lo< (-1099511627776:Int):=fun k=>by rw[decide_eq_true k] at hr;cases hr
  rw[decide_eq_false a1,cond_false] at hr;have a2:¬d.Hi> (1099511627776:Int):=fun k=>by rw[decide_eq_true k] at hr;cases hr
  rw[decide_eq_false a2,cond_false] at hr;have a3:=of_decide_eq_false hr;have a4:=of_decide_eq_false hw;refine⟨by omega,by omega,by omega,?_⟩;exact Qn (by omega)
 .rcases iC h with ⟨hk2,h⟩| ⟨hk2,h⟩
  .have hk2:d.Kind=2:=by simpa using hk2
   rcases iC h with ⟨_,h⟩| ⟨hr,h⟩
   .exact absurd (iS h) (by decide)
   refine .inr ⟨hk2,?_⟩;obtain⟨e,he,h⟩:=iB (U:=Int) h;have he0:e=0:=iS h;subst he0;have a1:d.Lo=0:=by
    cases hl:d.Lo !=(0:Int) with
    |true=>rw[hl] at hr;cases hr|false=>simpa using hl
   have a2:d.Hi=0:=by
    rw[a1] at hr;cases hl:d.Hi !=(0:Int) with
    |true=>rw[hl] at hr;cases hr|false=>simpa using hl
   exact⟨a1,a2,he⟩
  .exact absurd (iS h) (by decide)
def ChD (n:Nat):List UInt8->List Def->Prop
 |_,[]=>True|x,d::ds=>akY n x d/\ChD n d.Name ds
theorem av8 {n:Nat}{s:Ri}(hb:s.Defs.length<2^62):∀(k i m:Nat)(x:List UInt8)(r:PUnit⊕Int),i+k=s.Defs.length->Y7 n s m (x,(i:Int))=some r->(r= .inl ()/\ChD n x (s.Defs.drop i))\/∃e,r= .inr e/\e≠0:=by
 intro k;induction k with
 |zero=>
  intro i m x r hi h;cases m with
  |zero=>have h:=(ant ..).symm.trans h;cases h|succ m=>
   obtain rfl:i=s.Defs.length:=by omega
   have h:=(afV ..).symm.trans h;rw[UL,cond_false] at h;refine .inl ⟨(iS h).symm,?_⟩;rw[List.drop_length];trivial
 |succ k ih=>
  intro i m x r hi h;cases m with
  |zero=>have h:=(ant ..).symm.trans h;cases h|succ m=>
   have hlt:i<s.Defs.length:=by omega
   have hx:s.Defs[i]? =some s.Defs[i]:=PX hlt;have h:=(afV ..).symm.trans h;rw[Uc hx,cond_true] at h;obtain⟨d,hd,h⟩:=iB h;have e1:=(Te hx).symm.trans hd;have e1:=iS e1;subst e1;obtain⟨e,he,h⟩:=iB (U:=Int) h;rcases iC h with ⟨h0,h⟩| ⟨h0,h⟩
   .exact .inr ⟨e,(iS h).symm,by simpa using h0⟩
   .have h0:e=0:=(by simpa using h0);subst h0;obtain⟨d2,hd2,h⟩:=iB h;have e2:=iS ((Te hx).symm.trans hd2);subst e2;rw[T9 (by omega)] at h;rcases ih (i+1) m _ r (by omega) h with ⟨h1,h2⟩|h1
    .refine .inl ⟨h1,?_⟩;rw[Qd hlt];exact⟨av7 he,h2⟩
    .exact .inr h1
structure XZ (n:Nat)(s:Ri):Prop where
 few:s.Defs.length<=16
 chain:ChD n [] s.Defs
theorem av9 {n:Nat}{s:Ri}(hb:s.Defs.length<2^62)(h:Zp n s=some (0:Int)):XZ n s:=by
 have h:=(anu n s).symm.trans h;obtain⟨b,_,h⟩:=iB h;rcases iC h with ⟨_,h⟩| ⟨_,h⟩
 .exact absurd (iS h) (by decide)
 rcases iC h with ⟨_,h⟩| ⟨hl,h⟩
 .exact absurd (iS h) (by decide)
 obtain⟨r,hr,h⟩:=iB h;have hl:=of_decide_eq_false hl;rcases av8 hb s.Defs.length 0 n [] r (by omega) hr with ⟨_,h2⟩| ⟨e,rfl,he⟩
 .exact⟨by omega,h2⟩
 .exact absurd (iS h) he
theorem awc {n:Nat}{s:Ri}(hb:s.Defs.length<2^62)(h:Xd n s=some true):XZ n s:=by
 have h:=(anv n s).symm.trans h;obtain⟨b,_,h⟩:=iB h;obtain⟨e,he,h⟩:=iB (U:=Int) h;have h:=iS h;cases b with
 |false=>cases h|true=>
  have h:(e==(0:Int))=true:=h;have h0:e=0:=by simpa using h
  subst h0;exact av9 hb he
theorem ChD.mem {n:Nat}:∀{l:List Def}{x:List UInt8}{d:Def},ChD n x l->d∈l->∃y,akY n y d
 |d'::l,x,d,h,hd=>by
  rcases PG.1 hd with rfl|hd
  .exact⟨x,h.1⟩
  .exact h.2.mem hd
theorem awd {n:Nat}{l:List (List UInt8)}(h:Zf n l=some (0:Int)):1<=l.length/\l.length<=50:=by
 have h:=(anq n l).symm.trans h;rcases iC h with ⟨_,h⟩| ⟨hl,h⟩
 .exact absurd (iS h) (by decide)
 .have a1:¬(l.length:Int)< (1:Int):=fun k=>by rw[decide_eq_true k] at hl;cases hl
  rw[decide_eq_false a1,cond_false] at hl;have:=of_decide_eq_false hl;omega
theorem XZ.defs {n:Nat}{s:Ri}(h:XZ n s)(hn:800<n){d:Def}(hd:d∈s.Defs):aaD n d:=by
 obtain⟨y,_,h1|h1⟩:=h.chain.mem hd
 .obtain⟨k,a,b,c,w⟩:=h1;exact⟨.inl k,a,c,b,by rw[w];decide,by rw[w];show 0<n;omega⟩
 .obtain⟨k,a,b,w⟩:=h1;have:=awd w;exact⟨.inr k,by omega,by omega,by omega,by omega,by omega⟩
def VY (nm:List UInt8)(x:Pred):Bool:=bif decide (x.Op>=(5:Int)) then x.Name==nm else false
def Un (s:Ri)(l:List Pred):List (List (Option Attr)):=(s.Defs.filter fun d=>l.any (VY d.Name)).map fun d=>Vi d l
theorem aoV {n:Nat}{s:Ri}{p:Pred}{i:Int}{d:Def}{cs:List Q6}(hc:Zo n (d,p)=some cs):∀(l:List Pred)(t:List (List Q6)),t.length<2^20->acR n s p i d l ((),t)=some (if l.any (VY d.Name)=true then .inr ((),t++[cs]) else .inl ((),t))
 | [],t,_=>auL ..|x::l,t,ht=>by
  rw[auM];change (bif VY d.Name x then _ else _)=_;rw[List.any_cons];cases hx:VY d.Name x with
  |true=>rw[cond_true];refine bs (show Zo n (d,p.re)=some cs by rw[Pred.Td];exact hc) ?_;refine(show (bif Sl (t.length+1) 24 then _ else none)=_ from ?_);rw[WX (by omega) (by omega)];rfl|false=>rw[cond_false,aoV hc l t ht];rfl
theorem awe {n:Nat}(hn:800<n){s:Ri}{p:Pred}(hd:∀d∈s.Defs,aaD n d)(h:RF p<=240)(hb:s.Defs.length<=16):∀(k i m:Nat)(t:List (List Q6)),i+k=s.Defs.length->k<m->t.length<=i->
 abb n s p m ((i:Int),t)=some ((),t++((s.Defs.drop i).filter fun d=>(pre p).any (VY d.Name)).map fun d=>(Vi d (pre p)).map Uk):=by
 intro k;induction k with
 |zero=>
  intro i m t hi hm _;obtain⟨m,rfl⟩:∃m',m=m'+1:=⟨m-1,by omega⟩;obtain rfl:i=s.Defs.length:=by omega
  rw[an8,UL,cond_false,List.drop_length];simp
 |succ k ih=>
  intro i m t hi hm ht;obtain⟨m,rfl⟩:∃m',m=m'+1:=⟨m-1,by omega⟩;have hlt:i<s.Defs.length:=by omega
  have hx:s.Defs[i]? =some s.Defs[i]:=PX hlt;have hc:=avM hn (hd _ (Ql hx)) h;rw[an8,Uc hx,cond_true,Qd hlt,T9 (by omega)];refine bs (Te hx) (bs (acN n _) ?_);generalize s.Defs[i]=d at*;show Option.bind ((VO p.re.re).bind _) _=_;rw[Pred.Td,Pred.Td,acT (by omega),Option.bind_some];refine bs (aoV hc (pre p) t (by omega)) ?_;cases ha:(pre p).any (VY d.Name) with
  |true=>rw[if_pos rfl];show abb n s p m (((i+1:Nat):Int),t++[(Vi d (pre p)).map Uk])=_;rw[ih (i+1) m _ (by omega) (by omega) (by rw[PU,List.length_singleton];omega),List.filter_cons,if_pos ha,PO,Qe];rfl|false=>rw[if_neg (by simp)];show abb n s p m (((i+1:Nat):Int),t)=_;rw[ih (i+1) m _ (by omega) (by omega) (by omega),List.filter_cons,if_neg (by rw[ha];simp)]
theorem awf {n:Nat}(hn:800<n){s:Ri}{p:Pred}(hd:∀d∈s.Defs,aaD n d)(h:RF p<=240)(hb:s.Defs.length<=16):Zl n (s,p)=some ((Un s (pre p)).map (List.map Uk)):=by rw[auN];refine bs (awe hn hd h hb s.Defs.length 0 n [] (by omega) (by omega) (mF _)) ?_;unfold Un;rw[QN];rfl
theorem awg {n:Nat}{l:List Pred}{nm:List UInt8}(hb:l.length<2^62):∀(k i m:Nat),i+k=l.length->k<m->ad6 n l nm m (i:Int)=some (if (l.drop i).any (VY nm)=true then .inr true else .inl ()):=by
 intro k;induction k with
 |zero=>
  intro i m hi hm;obtain⟨m,rfl⟩:∃m',m=m'+1:=⟨m-1,by omega⟩;obtain rfl:i=l.length:=by omega
  rw[anA,UL,cond_false,List.drop_length];rfl
 |succ k ih=>
  intro i m hi hm;obtain⟨m,rfl⟩:∃m',m=m'+1:=⟨m-1,by omega⟩;have hlt:i<l.length:=by omega
  have hx:l[i]? =some l[i]:=PX hlt;have he:=Te hx;have ih':=ih (i+1) m (by omega) (by omega);rw[anA,Uc hx,cond_true,Qd hlt,T9 (by omega),List.any_cons];generalize l[i]=x at*;refine bs he ?_;unfold VY at*;cases h5:decide (x.Op>=(5:Int)) with
  |false=>rw[akR,Option.bind_some,cond_false];exact ih'|true=>
   rw[akQ];refine bs he ?_;rw[cond_true];cases hn:x.Name==nm with
   |false=>rw[cond_false];exact ih'|true=>rfl
theorem awh {n:Nat}{l:List Pred}{nm:List UInt8}(hb:l.length<2^62)(hn:l.length<n):ZL n (l,nm)=some (l.any (VY nm)):=by rw[atU];refine bs (awg hb l.length 0 n (by omega) hn) ?_;rw[Qz];cases l.any (VY nm)<;>rfl
theorem awi {n:Nat}(hn:800<n){s:Ri}{l:List Pred}(hd:∀d∈s.Defs,aaD n d)(h:l.length<=240)(hb:s.Defs.length<=16):∀(k i m:Nat)(t:List (List Ry)),i+k=s.Defs.length->k<m->t.length<=i->
 acM n s l m (t,(i:Int))=some (t++((s.Defs.drop i).filter fun d=>l.any (VY d.Name)).map fun d=>(Vi d l).map toR):=by
 intro k;induction k with
 |zero=>
  intro i m t hi hm _;obtain⟨m,rfl⟩:∃m',m=m'+1:=⟨m-1,by omega⟩;obtain rfl:i=s.Defs.length:=by omega
  rw[anH,UL,cond_false,List.drop_length];simp
 |succ k ih=>
  intro i m t hi hm ht;obtain⟨m,rfl⟩:∃m',m=m'+1:=⟨m-1,by omega⟩;have hlt:i<s.Defs.length:=by omega
  have hx:s.Defs[i]? =some s.Defs[i]:=PX hlt;have hc:=avN hn (hd _ (Ql hx)) h;have he:=Te hx;rw[anH,Uc hx,cond_true,Qd hlt,T9 (by omega)];generalize s.Defs[i]=d at*;refine bs he (bs (awh (by omega) (by omega)) ?_);cases ha:l.any (VY d.Name) with
  |true=>rw[cond_true];refine bs he (bs hc ?_);refine(show (bif Sl (t.length+1) 24 then _ else none)=_ from ?_);rw[WX (by omega) (by omega),cond_true,ih (i+1) m _ (by omega) (by omega) (by rw[PU,List.length_singleton];omega),List.filter_cons,if_pos ha,PO,Qe];rfl|false=>rw[cond_false,ih (i+1) m _ (by omega) (by omega) (by omega),List.filter_cons,if_neg (by rw[ha];simp)]
theorem awj {n:Nat}(hn:800<n){s:Ri}{p:Pred}(hd:∀d∈s.Defs,aaD n d)(h:RF p<=240)(hb:s.Defs.length<=16):ZF n (s,p)=some ((Un s (pre p)).map (List.map toR)):=by rw[atX];refine bs (show Za n p.re=some (pre p) by rw[Pred.Td,aog (by omega) (by omega),Qu (by rw[WB];omega)]) ?_;refine bs (awi hn hd (by rw[WB];exact h) hb s.Defs.length 0 n [] (by omega) (by omega) (mF _)) ?_;unfold Un;rw[QN];rfl
theorem awk {n:Nat}{t:List (List Ry)}(hb:t.length<2^62)(ht:∀l∈t,l.length<2^30):∀(k i m:Nat)(c:Int),i+k=t.length->k<m->0<=c->c<=4096->∃r,aea n t m (c,(i:Int))=some r/\Sum.elim id id r=VR c ((t.drop i).map List.length):=by
 intro k;induction k with
 |zero=>
  intro i m c hi hm _ _;obtain⟨m,rfl⟩:∃m',m=m'+1:=⟨m-1,by omega⟩;obtain rfl:i=t.length:=by omega
  rw[anI,UL,cond_false,List.drop_length];exact⟨_,rfl,rfl⟩
 |succ k ih=>
  intro i m c hi hm h0 h1;obtain⟨m,rfl⟩:∃m',m=m'+1:=⟨m-1,by omega⟩;have hlt:i<t.length:=by omega
  have hx:t[i]? =some t[i]:=PX hlt;obtain⟨m1,m2⟩:=amL h0 h1 (ht _ (Ql hx));rw[anI,Uc hx,cond_true,Qd hlt,T9 (by omega),PO];refine tE (Te hx) ?_;have hw:IntKind.wrap .i64 (c*((t[i].length:Nat):Int))=c*((t[i].length:Nat):Int):=by rw[IntKind.wrap_i64];omega
  rw[hw];unfold VR;by_cases hc:c*((t[i].length:Nat):Int)>4096
  .rw[decide_eq_true hc,cond_true,if_pos hc];exact⟨_,rfl,rfl⟩
  .rw[decide_eq_false hc,cond_false,if_neg hc];exact ih (i+1) m _ (by omega) (by omega) m1 (by omega)
theorem awl {n:Nat}{d:Def}{l:List Pred}(hd:aaD n d)(h:l.length<=240):(Vi d l).length<2^30:=by
 have h1:=aoC d l;have h2:(aaC d l).length<=d.Words.length:=akS _ _ _;have h3:=hd.words;unfold Vi;rw[List.length_cons];split
 .rw[PY];omega
 .rw[PY];omega
theorem aoW (s:Ri)(l:List Pred):(Un s l).length<=s.Defs.length:=by unfold Un;rw[PY];exact List.length_filter_le _ _
theorem aoX {n:Nat}{s:Ri}{l:List Pred}(hd:∀d∈s.Defs,aaD n d)(h:l.length<=240){c:List (Option Attr)}(hc:c∈Un s l):c.length<2^30:=by unfold Un at hc;obtain⟨d,hd',rfl⟩:=Qo.1 hc;exact awl (hd d (QO.1 hd').1) h
theorem awm {n:Nat}(hn:800<n){s:Ri}{p:Pred}(hs:XZ n s)(h:RF p<=240):ZM n (s,p)=some (VR 1 ((Un s (pre p)).map List.length)):=by
 have hd:=fun d hd=>hs.defs hn (d:=d) hd;have hl:=aoW s (pre p);have hf:=hs.few;rw[atY];refine bs (show ZF n (s,p.re)=_ by rw[Pred.Td];exact awj hn hd h hs.few) ?_;obtain⟨r,h1,h2⟩:=awk (n:=n) (t:=(Un s (pre p)).map (List.map toR)) (by rw[PY];omega) (fun c hc=>by obtain⟨c',hc',rfl⟩:=Qo.1 hc;rw[PY];exact aoX hd (by rw[WB];exact h) hc') _ 0 n 1 (Qi _) (by rw[PY];omega) (by omega) (by omega);refine bs h1 ?_;rw[Qz,QN] at h2;have:(List.length∘List.map toR)=List.length:=by funext x;simp
 rw[this] at h2;rw[<-h2];cases r<;>rfl
end Sh
end
section
open Go Go.Proofs Aq Pq
namespace Sh
def findD (s:Ri)(x:List UInt8):Int:=match s.Defs.findIdx? (fun d=>d.Name==x) with
 |some i=>(i:Int)|none=>-1
theorem awn {n:Nat}{s:Ri}{x:List UInt8}(h:s.Defs.length<n)(hb:s.Defs.length<2^62):ZG n (s,x)=some (findD s x):=by
 have:=acC (L:=fun m i=>aeb n s x m i) (l:=s.Defs) (fun d i r=>bif d.Name==x then some (.inr (i:Int)) else r) (some (.inl ()))
  (fun m i d hd=>by have hlt:=Vu hd;rw[anJ,Uc hd,Te hd,T9 (by omega)];rfl)
  (fun m=>by rw[anJ,UL];rfl) h
 rw[at0,this,acD (fun d:Def=>d.Name==x) (fun i=>(Sum.inr (i:Int):PUnit⊕Int)) (.inl ())];unfold findD;cases s.Defs.findIdx? (fun d=>d.Name==x) with
 |none=>rfl|some j=>simp;rfl
theorem akZ (s:Ri)(l:List Pred):∀c∈(Un s l).map (List.map Uk),0<c.length:=by intro c hc;obtain⟨c',hc',rfl⟩:=Qo.1 hc;unfold Un at hc';obtain⟨d,_,rfl⟩:=Qo.1 hc';rw[PY];unfold Vi;rw[List.length_cons];omega
theorem aoY:∀(t:List (List Q6))(c:Nat),(∀x∈t,0<x.length)->0<c->c<=4096->VR (c:Int) (t.map List.length)<=4096->c*Rv t<=4096
 | [],c,_,_,h,_=>by show c*1<=4096;omega|x::t,c,h,h0,h1,h2=>by
  have hx:=h x (PI ..);have hp:Rv (x::t)=x.length*Rv t:=rfl;rw[PO] at h2;unfold VR at h2;split at h2
  .omega
  .rename_i hc;rw[<-Int.natCast_mul] at h2 hc;rw[hp,<-Nat.mul_assoc];exact aoY t (c*x.length) (fun y hy=>h y (PK _ hy)) (Nat.mul_pos h0 hx) (by omega) h2
def Ud (s:Ri)(p:Pred):Int:=if ((pre p).take 1000).length>64 then 2 else (abg s ((pre p).take 1000)).getD 0
theorem aoZ {s:Ri}{p:Pred}(h:Ud s p=0):RF p<=64:=by
 unfold Ud at h;split at h
 .cases h
 .rename_i h1;rw[Qb,WB] at h1;omega
theorem awo (hs:List Attr->Bool)(t:List (List Q6)):(VN hs t).1.length<=t.length:=by
 unfold VN;split
 .exact ag2 ..
 .exact Qk _
def andNot (a b:Pred):Pred:=⟨2,[],0,0,[],[a,⟨4,[],0,0,[],[b]⟩]⟩
theorem ao0 (a b:Pred):RF (andNot a b)=RF a+RF b+2:=by unfold andNot;simp only[RF,Wx];omega
theorem awp {n:Nat}{s:Ri}{a b:Pred}(hCa:Zm n (s,a)=some (Ud s a))(hCb:Zm n (s,b)=some (Ud s b))(hn:3<=n):abd n s a b n (0:Int)=some (if Ud s a=0 then (if Ud s b=0 then .inl () else .inr ([],(false,Ud s b))) else .inr ([],(false,Ud s a))):=by
 have i0:Fb [a,b] (0:Int)=some a:=Te (l:=[a,b]) (i:=0) rfl;have i1:Fb [a,b] (1:Int)=some b:=Te (l:=[a,b]) (i:=1) rfl;have w1:IntKind.wrap .i64 ((0:Int)+(1:Int))=1:=by rw[IntKind.wrap_i64];rfl
 have w2:IntKind.wrap .i64 ((1:Int)+(1:Int))=2:=by rw[IntKind.wrap_i64];rfl
 obtain⟨m,hm⟩:∃m,n=m+3:=⟨n-3,by omega⟩;have go:∀k,abd n s a b (k+3) (0:Int)=some (if Ud s a=0 then (if Ud s b=0 then .inl () else .inr ([],(false,Ud s b))) else .inr ([],(false,Ud s a))):=by
  intro k;rw[akx,show decide ((0:Int)< ((([a.re,b.re].length:Nat)):Int))=true by simp,cond_true,Pred.Td,Pred.Td];refine bs i0 ?_;rw[Pred.Td];refine bs hCa ?_;by_cases ha:Ud s a=0
  .rw[if_pos ha,ha];show abd n s a b (k+2) (IntKind.wrap .i64 ((0:Int)+(1:Int)))=_;rw[w1,akx,show decide ((1:Int)< ((([a.re,b.re].length:Nat)):Int))=true by simp,cond_true,Pred.Td,Pred.Td];refine bs i1 ?_;rw[Pred.Td];refine bs hCb ?_;by_cases hb:Ud s b=0
   .rw[if_pos hb,hb];show abd n s a b (k+1) (IntKind.wrap .i64 ((1:Int)+(1:Int)))=_;rw[w2,akx,show decide ((2:Int)< ((([a.re,b.re].length:Nat)):Int))=false by simp,cond_false]
   .have e0:(Ud s b !=(0:Int))=true:=(by simpa using hb);rw[if_neg hb,e0];rfl
  .have e0:(Ud s a !=(0:Int))=true:=by simpa using ha
   rw[if_neg ha,e0];rfl
 have:=go m;rw[<-hm] at this;exact this
theorem ao1 {n:Nat}{p:Pred}(hn:RF p<n)(hp:RF p<2^62)(h:QQ n (p,(100:Int))=some true):RF p<=100:=by
 obtain⟨g,rfl⟩:∃g,n=g+1:=⟨n-1,by omega⟩;have e:QQ (g+1) (p,(100:Int))=abH (g+1) (g+1) (p,(100:Int)):=by unfold QQ;rfl
 rw[e,anz] at h;obtain⟨z,hz,h⟩:=iB (U:=Int) h;have hz:ZX (g+1) p.re=some z:=hz;rw[Pred.Td,aoh hn hp] at hz;have hz:=iS hz;by_cases hc:z>100
 .have h:(bif (bif decide ((100:Int)<1) then true else decide (z> (100:Int))) then some false else _)=some true:=h;rw[decide_eq_true hc] at h;cases h
 .rw[Qb,WB] at hz;omega
def Pick:List (List Q6)->List Q6->Prop
 | [],[]=>True|c::cs,x::xs=>x∈c/\Pick cs xs|_,_=>False
theorem ao2 {c:List Q6}{cs:List (List Q6)}(hc:0<c.length)(hp:0<Rv cs){i r:Nat}(hr:r<Rv cs):R5 (i*Rv cs+r) (Rv (c::cs)) (c::cs)=(match c[i]? with|some x=>UY x|none=>[])++R5 r (Rv cs) cs:=by
 have hd:c.length*Rv cs/c.length=Rv cs:=Nat.mul_div_cancel_left _ hc;have hq:(i*Rv cs+r)/Rv cs=i:=by rw[Nat.add_comm,Nat.add_mul_div_right _ _ hp,Nat.div_eq_of_lt hr,Qi]
 have hm:(i*Rv cs+r)% Rv cs=r:=by rw[Nat.add_comm,Nat.add_mul_mod_self_right,QS hr]
 show (match c[(i*Rv cs+r)/(c.length*Rv cs/c.length)]? with|some x=>UY x|none=>[])++R5 ((i*Rv cs+r)% (c.length*Rv cs/c.length)) (c.length*Rv cs/c.length) cs=_;rw[hd,hq,hm]
theorem ao3:∀(t:List (List Q6))(xs:List Q6),Pick t xs->(∀c∈t,0<c.length)->∃k,k<Rv t/\R5 k (Rv t) t=xs.flatMap UY
 | [],[],_,_=>⟨0,Nat.one_pos,rfl⟩| [],_::_,h,_=>h.elim|_::_,[],h,_=>h.elim|c::cs,x::xs,⟨h1,h2⟩,h=>by
  have hcs:∀x∈cs,0<x.length:=fun x hx=>h x (PK _ hx);have hc:=h c (PI ..);have hp:=aky hcs;obtain⟨r,hr,e⟩:=ao3 cs xs h2 hcs;obtain⟨i,hi,rfl⟩:=List.getElem_of_mem h1;refine⟨i*Rv cs+r,?_,?_⟩
  .show i*Rv cs+r<c.length*Rv cs;have:(i+1)*Rv cs<=c.length*Rv cs:=Qm _ hi;rw[Qj,Nat.one_mul] at this;omega
  .rw[ao2 hc hp hr,PX hi,e,P6]
theorem ao4:∀(t:List (List Q6))(k:Nat),(∀c∈t,0<c.length)->k<Rv t->∃xs,Pick t xs/\R5 k (Rv t) t=xs.flatMap UY
 | [],_,_,_=>⟨[],trivial,rfl⟩|c::cs,k,h,hk=>by
  have hcs:∀x∈cs,0<x.length:=fun x hx=>h x (PK _ hx);have hc:=h c (PI ..);have hp:=aky hcs;have hk:k<c.length*Rv cs:=hk;have hi:k/Rv cs<c.length:=(Nat.div_lt_iff_lt_mul hp).2 hk;have hr:k% Rv cs<Rv cs:=Nat.mod_lt _ hp;obtain⟨xs,h1,h2⟩:=ao4 cs (k% Rv cs) hcs hr;refine⟨c[k/Rv cs]::xs,⟨Qw hi,h1⟩,?_⟩;have e:k=k/Rv cs*Rv cs+k% Rv cs:=by rw[QA];exact(Nat.div_add_mod _ _).symm
  have s:=ao2 (c:=c) hc hp (i:=k/Rv cs) hr;rw[<-e] at s;rw[s,PX hi,h2,P6]
def WY (q:Pred)(o:Option Attr):Bool:=
 if q.Op=5 then o.isSome else if q.Op=6 then (match o with|some a=>a.Kind==(1:Int)&& decide (a.N>=q.N)&& decide (a.N<=q.M)|none=>false) else if q.Op=7 then (match o with|some a=>a.Kind==(2:Int)&& a.S==q.S|none=>false) else false
mutual
theorem ao5 {l l':List Attr}:∀p:Pred,(∀q∈pre p,5<=q.Op->WY q (TY l q.Name)=WY q (TY l' q.Name))->Sb l p=Sb l' p
 | ⟨op,name,n,m,s,subs⟩,h=>by
   have h1:=h ⟨op,name,n,m,s,subs⟩ (by rw[pre_eq];exact PI ..);have h2:=ao6 (l:=l) (l':=l') subs (fun q hq=>h q (by rw[pre_eq];exact PK _ hq));unfold Sb;rw[h2.1,h2.2];by_cases h5:5<=op
   .have h1:=h1 h5;unfold WY at h1;dsimp only at h1;have h5:5<=op:=h5;simp only[show¬op=1 by omega,show¬op=2 by omega,show¬op=3 by omega,show¬op=4 by omega,if_false];exact h1
   .simp only[show¬op=5 by omega,show¬op=6 by omega,show¬op=7 by omega,if_false]
theorem ao6 {l l':List Attr}:∀ps:List Pred,(∀q∈UA ps,5<=q.Op->WY q (TY l q.Name)=WY q (TY l' q.Name))->aaq l ps=aaq l' ps/\anyS l ps=anyS l' ps
 | [],_=>⟨rfl,rfl⟩|p::ps,h=>by
  have h1:=ao5 p (fun q hq=>h q (by rw[UA];exact QF _ hq));have h2:=ao6 ps (fun q hq=>h q (by rw[UA];exact QI _ hq));constructor
  .unfold aaq;rw[h1,h2.1]
  .unfold anyS;rw[h1,h2.2]
end
end Sh
end
