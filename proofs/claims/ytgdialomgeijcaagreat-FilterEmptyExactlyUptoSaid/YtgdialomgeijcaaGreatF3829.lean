import Derived.Test.YtgdialomgeijcaaGreatF3828
set_option linter.all false
section
open Go Go.Proofs Aq Pq
namespace Sh
theorem aoi {U γ:Type}{L:Nat->(List γ×Int)->Option (List γ)}{l:List U}{f:U->γ}(hs:∀m (i:Nat) x acc,l[i]? =some x->acc.length+1<2^30->L (m+1) (acc,(i:Int))=L m (acc++[f x],((i+1:Nat):Int)))(hf:∀m acc,L (m+1) (acc,(l.length:Int))=some acc):
 ∀(k i m:Nat)(acc:List γ),i+k=l.length->k<m->acc.length+k<2^30->L m (acc,(i:Int))=some (acc++(l.drop i).map f):=by
 intro k;induction k with
 |zero=>
  intro i m acc hi hm _;obtain⟨m,rfl⟩:∃m',m=m'+1:=⟨m-1,by omega⟩;obtain rfl:i=l.length:=by omega
  rw[hf,List.drop_length];simp
 |succ k ih=>
  intro i m acc hi hm ha;obtain⟨m,rfl⟩:∃m',m=m'+1:=⟨m-1,by omega⟩;have hlt:i<l.length:=by omega
  have hx:l[i]? =some l[i]:=PX hlt;rw[hs m i _ acc hx (by omega),ih (i+1) m _ (by omega) (by omega) (by rw[PU,List.length_singleton];omega),Qd hlt,PO,Qe];rfl
def VT (said:List UInt8->Bool):Bool->List (List UInt8)->List (List UInt8)
 |_,[]=>[]|o,w::ws=>(bif (bif said w then true else !o) then [w] else [])++VT said (bif o then true else !(said w)) ws
theorem akI (said:List UInt8->Bool):∀(ws:List (List UInt8))(o:Bool),(VT said o ws).length<=ws.length
 | [],_=>mF _|w::ws,o=>by
  have:=akI said ws (bif o then true else !(said w));unfold VT;rw[PU,List.length_cons];cases (bif said w then true else !o)
  .simp only[cond_false,List.length_nil];omega
  .simp only[cond_true,List.length_singleton];omega
def isW (nm:List UInt8)(x:Pred):Bool:=bif x.Op==(7:Int) then x.Name==nm else false
def VE (nm:List UInt8)(l:List Pred)(w:List UInt8):Bool:=l.any fun x=>isW nm x&& x.S==w
def aay (d:Def)(l:List Pred):List (List UInt8):=VT (VE d.Name l) false d.Words
theorem ael (a b:List UInt8):SB R .str a b=(a==b):=rfl
theorem aoj (x y:List UInt8):∀m:List (List UInt8×Bool),UJ (SB R Ty.str) y (V9 (SB R Ty.str) x true m)=if y=x then some true else UJ (SB R Ty.str) y m
 | []=>by
   show (bif SB R .str y x then some true else none)=_;rw[ael];by_cases e:y=x
   .rw[if_pos e,e];simp
   .have h:(y==x)=false:=(by simpa using e);rw[if_neg e,h];rfl
 | (a,v)::m=>by
   have ih:=aoj x y m;show UJ (SB R Ty.str) y (bif SB R .str x a then (x,true)::m else (a,v)::V9 (SB R Ty.str) x true m)=if y=x then some true else (bif SB R .str y a then some v else UJ (SB R Ty.str) y m)
   rw[ael,ael];by_cases h:x=a
   .subst h;rw[beq_self_eq_true,cond_true];show (bif SB R .str y x then some true else UJ (SB R Ty.str) y m)=_;rw[ael];by_cases e:y=x
    .subst e;simp
    .have h:(y==x)=false:=(by simpa using e);rw[if_neg e,h];rfl
   .have hx:(x==a)=false:=(by simpa using h);rw[hx,cond_false];show (bif SB R .str y a then some v else UJ (SB R Ty.str) y (V9 (SB R Ty.str) x true m))=_;rw[ih,ael];by_cases e:y=a
    .subst e;have:¬y=x:=fun e=>h e.symm;simp[this]
    .have h2:(y==a)=false:=(by simpa using e);rw[h2];rfl
theorem akJ {n:Nat}{d:Def}:∀(l:List Pred)(m:List (List UInt8×Bool)),∃m',aau n d l ((),m)=some ((),m')/\∀w:List UInt8,WI false (UJ (SB R Ty.str) w m')=(WI false (UJ (SB R Ty.str) w m)||VE d.Name l w)
 | [],m=>⟨m,aum ..,fun w=>by unfold VE;simp⟩
 |x::l,m=>by
  rw[aun];change∃m',(bif isW d.Name x then aau n d l ((),V9 (SB R Ty.str) x.S true m) else aau n d l ((),m))=some ((),m')/\_;cases hx:isW d.Name x with
  |false=>obtain⟨m',h1,h2⟩:=akJ (n:=n) (d:=d) l m;refine⟨m',h1,fun w=>?_⟩;rw[h2];unfold VE;rw[List.any_cons,hx];simp
  |true=>
   obtain⟨m',h1,h2⟩:=akJ (n:=n) (d:=d) l (V9 (SB R Ty.str) x.S true m);refine⟨m',h1,fun w=>?_⟩;have e:WI false (UJ (SB R Ty.str) w (V9 (SB R Ty.str) x.S true m))=WI false (if w=x.S then some true else UJ (SB R Ty.str) w m):=congrArg (WI false) (aoj x.S w m);refine(h2 w).trans ((congrArg (fun b=>b||VE d.Name l w) e).trans ?_);unfold VE;rw[List.any_cons,hx];by_cases h:w=x.S
   .rw[if_pos h,h];simp[WI]
   .have:(x.S==w)=false:=(by simpa using Ne.symm h);rw[if_neg h,this];simp
theorem avk {n:Nat}{d:Def}{r8:PUnit×List ((List UInt8)×Bool)}{said:List UInt8->Bool}(hs:∀w:List UInt8,WI false (UJ (SB R Ty.str) w r8.2)=said w)(hb:d.Words.length<2^29):
 ∀(k i m:Nat)(acc:List (List UInt8))(o:Bool),i+k=d.Words.length->k<m->acc.length<=i->acN n d r8 m (acc,(o,(i:Int)))=some (acc++VT said o (d.Words.drop i)):=by
 intro k;induction k with
 |zero=>
  intro i m acc o hi hm _;obtain⟨m,rfl⟩:∃m',m=m'+1:=⟨m-1,by omega⟩;obtain rfl:i=d.Words.length:=by omega
  rw[anR,UK,cond_false,List.drop_length];simp[VT]
 |succ k ih=>
  intro i m acc o hi hm ha;obtain⟨m,rfl⟩:∃m',m=m'+1:=⟨m-1,by omega⟩;have hlt:i<d.Words.length:=by omega
  have hx:d.Words[i]? =some d.Words[i]:=PX hlt;rw[anR,Ub hx,cond_true,Qd hlt];refine bs (Tg hx) ?_;rw[hs,TY (by omega)];unfold VT;cases hc:(bif said d.Words[i] then true else !o) with
  |true=>refine(show (bif Si (acc.length+1) 16 then _ else none)=_ from ?_);rw[WW (by omega) (by omega),cond_true,ih (i+1) m _ _ (by omega) (by omega) (by rw[PU,List.length_singleton];omega)];simp|false=>rw[cond_false,ih (i+1) m _ _ (by omega) (by omega) (by omega)];simp
theorem avl {n:Nat}{d:Def}{p:Pred}(h:RP p<2^30)(hw:d.Words.length<2^29)(hn:d.Words.length<n):Zh n (d,p)=some (aay d (pre p)):=by rw[auo];refine bs (acK n _) ?_;show ((VL p.re.re).bind _).bind _=_;rw[Pred.TG,Pred.TG,acQ (by omega),Option.bind_some];obtain⟨m',h1,h2⟩:=akJ (n:=n) (d:=d) (pre p) [];refine bs h1 ?_;refine bs (avk (r8:=((),m')) (said:=VE d.Name (pre p)) (fun w=>(h2 w).trans (by simp[UJ,WI])) hw d.Words.length 0 n [] false (by omega) hn (mF _)) ?_;rfl
theorem avm {n:Nat}{d:Def}{l:List Pred}{o:Bool}{j:Nat}{w:List UInt8}{out:List Ry}(hj:d.Words[j]? =some w)(hb:l.length<2^62):∀(k i m:Nat)(s:Bool),i+k=l.length->k<m->aa6 n d l o (j:Int) m (out,(s,(i:Int)))=some (out,s||VE d.Name (l.drop i) w):=by
 intro k;induction k with
 |zero=>
  intro i m s hi hm;obtain⟨m,rfl⟩:∃m',m=m'+1:=⟨m-1,by omega⟩;obtain rfl:i=l.length:=by omega
  rw[anl,UK,cond_false,List.drop_length];simp[VE]
 |succ k ih=>
  intro i m s hi hm;obtain⟨m,rfl⟩:∃m',m=m'+1:=⟨m-1,by omega⟩;have hlt:i<l.length:=by omega
  have hx:l[i]? =some l[i]:=PX hlt;have he:=Tg hx;have ih':=fun s=>ih (i+1) m s (by omega) (by omega);rw[anl,Ub hx,cond_true,Qd hlt,TY (by omega)];generalize l[i]=x at*;have ec:VE d.Name (x::l.drop (i+1)) w=((isW d.Name x&& x.S==w)||VE d.Name (l.drop (i+1)) w):=by unfold VE;rw[List.any_cons]
  rw[ec];cases s with
  |true=>rw[Bool.not_true,cond_false,ih'];simp|false=>
   rw[Bool.not_false,cond_true];refine bs he ?_;unfold isW;cases h7:x.Op==(7:Int) with
   |false=>rw[cond_false,ih'];simp|true=>
    rw[cond_true];refine bs he ?_;cases hn:x.Name==d.Name with
    |false=>rw[cond_false,ih'];simp|true=>rw[cond_true];refine bs he (bs (Tg hj) ?_);rw[ih'];simp
def avn (d:Def)(w:List UInt8):Ry:=⟨⟨d.Name,d.Kind,0,w⟩,true⟩
theorem avo {n:Nat}{d:Def}{l:List Pred}(hb:l.length<2^62)(hln:l.length<n)(hw:d.Words.length<2^29):∀(k i m:Nat)(acc:List Ry)(o:Bool),i+k=d.Words.length->k<m->acc.length<=i+1->acH n d l m (acc,(o,(i:Int)))=some (acc++(VT (VE d.Name l) o (d.Words.drop i)).map (avn d)):=by
 intro k;induction k with
 |zero=>
  intro i m acc o hi hm _;obtain⟨m,rfl⟩:∃m',m=m'+1:=⟨m-1,by omega⟩;obtain rfl:i=d.Words.length:=by omega
  rw[anm,UK,cond_false,List.drop_length];simp[VT]
 |succ k ih=>
  intro i m acc o hi hm ha;obtain⟨m,rfl⟩:∃m',m=m'+1:=⟨m-1,by omega⟩;have hlt:i<d.Words.length:=by omega
  have hx:d.Words[i]? =some d.Words[i]:=PX hlt;rw[anm,Ub hx,cond_true,Qd hlt];have hsd:=avm (n:=n) (d:=d) (l:=l) (o:=o) (out:=acc) hx hb l.length 0 n false (by omega) hln;rw[Qz,Bool.false_or] at hsd;refine bs hsd ?_;dsimp only;rw[TY (by omega)];unfold VT;cases hc:(bif VE d.Name l d.Words[i] then true else !o) with
  |true=>rw[cond_true,cond_true];refine bs (Tg hx) ?_;refine(show (bif Si (acc.length+1) 56 then _ else none)=_ from ?_);rw[WW (by omega) (by omega),cond_true,ih (i+1) m _ _ (by omega) (by omega) (by rw[PU,List.length_singleton];omega)];simp;rfl|false=>rw[cond_false,cond_false,ih (i+1) m _ _ (by omega) (by omega) (by omega)];simp
def aok (d:Def)(v:Int):Ry:=⟨⟨d.Name,d.Kind,v,[]⟩,true⟩
theorem avp {n:Nat}{d:Def}{l:List Pred}(hlo: -(2^40)<=d.Lo)(hle:d.Lo<=d.Hi)(hhi:d.Hi<=2^40)(hb:l.length<2^62)(hln:l.length<n):∀(S:List Int)(last:Int)(m:Nat)(out:List Ry),(last::S).Pairwise (· < ·)->d.Lo<=last->(∀x,last<x->(x∈TI d l↔x∈S))->S.length<m->out.length+S.length<2^29->
 acI n d l m (out,last)=some (out++(RS (Sv d.Name l) S).map (aok d)):=by
 intro S;have ew:IntKind.wrap .i64 (d.Hi+(1:Int))=d.Hi+1:=by rw[IntKind.wrap_i64];omega
 induction S with
 |nil=>intro last m out _ hl hm hlt _;obtain⟨m,rfl⟩:∃m',m=m'+1:=⟨m-1,by omega⟩;rw[anp,ew];refine bs (aoh (out:=out) hl hlo hhi hb l.length 0 n (d.Hi+1) (by omega) hln (PZ _)) ?_;rw[Qz,auz (fun x hx hc=>by cases (hm x hx).1 hc)];show (bif decide (d.Hi+1>d.Hi) then some out else _)=_;rw[decide_eq_true (by omega),cond_true];simp[RS]
 |cons y S ih=>
  intro last m out hs hl hm hlt hol;simp only[List.length_cons] at hlt hol;obtain⟨m,rfl⟩:∃m',m=m'+1:=⟨m-1,by omega⟩;have hs':=List.pairwise_cons.1 hs;have hs2:=List.pairwise_cons.1 hs'.2;have hly:=hs'.1 y (PI ..);have hyc:=(hm y hly).2 (PI ..);have hyr:=acP hyc;rw[anp,ew];refine bs (aoh (out:=out) hl hlo hhi hb l.length 0 n (d.Hi+1) (by omega) hln (PZ _)) ?_;rw[Qz,auy hs'.2 hm hly (by omega)];show (bif decide (y>d.Hi) then some out else _)=_;rw[decide_eq_false (by omega),cond_false];have ey:IntKind.wrap .i64 (y-(1:Int))=y-1:=by rw[IntKind.wrap_i64];omega
  rw[ey];refine bs (avj hb hln) ?_;have hm':∀x,y<x->(x∈TI d l↔x∈S):=fun x hx=>by
   rw[hm x (by omega),PG];constructor
   .rintro (h|h)
    .omega
    .exact h
   .exact .inr
  unfold RS;cases ht:Sv d.Name l (y-1)==Sv d.Name l y with
  |true=>rw[Bool.not_true,cond_false,cond_true,ih y m out hs'.2 (by omega) hm' (by omega) (by omega)]|false=>rw[Bool.not_false,cond_true,cond_false];refine(show (bif Si (out.length+1) 56 then _ else none)=_ from ?_);rw[WW (by omega) (by omega),cond_true];refine Eq.trans (ih y m (out++[aok d y]) hs'.2 (by omega) hm' (by omega) (by rw[PU,List.length_singleton];omega)) ?_;simp
def Vh (d:Def)(l:List Pred):List (Option Attr):=none::(if d.Kind=1 then (Yl d l).map fun v=>some ⟨d.Name,d.Kind,v,[]⟩ else (aay d l).map fun w=>some ⟨d.Name,d.Kind,0,w⟩)
def noA:Attr:=⟨[],0,0,[]⟩
def Uj:Option Attr->Q6
 |none=>⟨noA,false⟩|some a=>⟨a,true⟩
def toR:Option Attr->Ry
 |none=>⟨noA,false⟩|some a=>⟨a,true⟩
structure aaz (n:Nat)(d:Def):Prop where
 kind:d.Kind=1\/d.Kind=2
 lo: -(2^40)<=d.Lo
 le:d.Lo<=d.Hi
 hi:d.Hi<=2^40
 words:d.Words.length<2^29
 wn:d.Words.length<n
theorem aom (t:Int->List Bool):∀S:List Int,(RS t S).length<=S.length
 | []=>mF _|y::S=>by
  have:=aom t S;unfold RS;cases t (y-1)==t y
  .rw[cond_false,List.length_cons,List.length_cons];omega
  .rw[cond_true,List.length_cons];omega
theorem aon (p:Int):∀l:List Int,(Y9 p l).length<=l.length+1
 | []=>mF _|y::l=>by
  have:=aon p l;unfold Y9;split
  .simp
  .split
   .simp
   .simp;omega
theorem akK:∀l:List Int,(XR l).length<=l.length
 | []=>mF _|y::l=>by have:=akK l;have h2:=aon y (XR l);unfold XR;rw[List.length_cons];omega
theorem aoo (d:Def)(l:List Pred):(Yl d l).length<=2*l.length+1:=by unfold Yl;have h1:=aom (Sv d.Name l) (XR (TI d l));have h2:=akK (TI d l);have h3:=afT d l;rw[List.length_cons];omega
theorem avr {n:Nat}(hn:800<n){d:Def}{p:Pred}(hd:aaz n d)(h:RP p<=240):Zn n (d,p)=some ((Vh d (pre p)).map Uj):=by
 have hnl:=aoo d (pre p);rw[Wz] at hnl;have hwl:(aay d (pre p)).length<=d.Words.length:=akI _ _ _;have hw:=hd.words;have hw2:=hd.wn;rw[aup];unfold Vh;by_cases hk:d.Kind=1
 .have e:(d.Kind==(1:Int))=true:=by rw[hk];rfl
  rw[e,cond_true,if_pos hk];refine bs (show Zu n (d,p.re)=_ by rw[Pred.TG];exact ave hn hd.lo hd.hi h) ?_;refine bs (aoi (L:=fun m q=>aec n d (Yl d (pre p)) m q) (l:=Yl d (pre p)) (f:=fun v=>Uj (some ⟨d.Name,d.Kind,v,[]⟩)) (fun m i x acc hx ha=>?_) (fun m acc=>?_) (Yl d (pre p)).length 0 n [Uj none] (by omega) (by omega) (by simp;omega)) ?_
  .rw[anS,Ub hx,cond_true];refine bs (Tg hx) ?_;have hlt:=Vt hx;rw[TY (by omega)];refine(show (bif Si (acc.length+1) 56 then _ else none)=_ from ?_);rw[WW (by omega) (by omega)];rfl
  .rw[anS,UK];rfl
  .simp
 .have e:(d.Kind==(1:Int))=false:=by simpa using hk
  rw[e,cond_false,if_neg hk];refine bs (show Zh n (d,p.re)=_ by rw[Pred.TG];exact avl (by omega) hw hw2) ?_;refine bs (aoi (L:=fun m q=>aed n d (aay d (pre p)) m q) (l:=aay d (pre p)) (f:=fun w=>Uj (some ⟨d.Name,d.Kind,0,w⟩)) (fun m i x acc hx ha=>?_) (fun m acc=>?_) (aay d (pre p)).length 0 n [Uj none] (by omega) (by omega) (by simp;omega)) ?_
  .rw[anT,Ub hx,cond_true];refine bs (Tg hx) ?_;have hlt:=Vt hx;rw[TY (by omega)];refine(show (bif Si (acc.length+1) 56 then _ else none)=_ from ?_);rw[WW (by omega) (by omega)];rfl
  .rw[anT,UK];rfl
  .simp
theorem avs {n:Nat}(hn:800<n){d:Def}{l:List Pred}(hd:aaz n d)(h:l.length<=240):QP n (d,l)=some ((Vh d l).map toR):=by
 have hw:=hd.words;have hw2:=hd.wn;rw[atC];unfold Vh;rcases hd.kind with hk|hk
 .have e:(d.Kind==(2:Int))=false:=by rw[hk];rfl
  rw[e,cond_false,if_pos hk];refine(show (bif Si 2 56 then _ else none)=_ from ?_);rw[WW (by omega) (by omega),cond_true];have h2:=akK (TI d l);have h3:=afT d l;refine bs (avp (n:=n) (d:=d) (l:=l) hd.lo hd.le hd.hi (by omega) (by omega) (XR (TI d l)) d.Lo n _ avd (PZ _) (fun x _=>(acU x _).symm) (by omega) ?_) ?_
  .simp only[PU,List.length_singleton];omega
  .simp[Yl];exact⟨rfl,rfl,fun _ _=>rfl⟩
 .have e:(d.Kind==(2:Int))=true:=by rw[hk];rfl
  rw[e,cond_true,if_neg (by rw[hk];decide)];refine bs (avo (n:=n) (d:=d) (l:=l) (by omega) (by omega) hw d.Words.length 0 n _ false (by omega) hw2 (by simp)) ?_;simp[aay];exact⟨rfl,fun _ _=>rfl⟩
end Sh
end
section
open Go Go.Proofs Aq
namespace Sh
theorem avt {l:List V}{v:V}(h:v∈l):Ue v<=Ve l:=by
 induction l with
 |nil=>cases h|cons x l ih=>
  rcases PG.1 h with rfl|h
  .show Ue v<=Ue v+Ve l;omega
  .have:=ih h;show Ue v<=Ue x+Ve l;omega
theorem aop {U:Type}(f:U->V){l:List U}{x:U}(h:x∈l):Ue (f x)<=Ve (l.map f):=avt (List.mem_map_of_mem h)
theorem akL {U:Type}(f:U->V)(hf:∀x,1<=Ue (f x))(l:List U):l.length<=Ve (l.map f):=by
 induction l with
 |nil=>exact Qn _|cons x l ih=>have:=hf x;show l.length+1<=Ue (f x)+Ve (l.map f);omega
mutual
theorem aoq:∀p:Pred,RP p<=Ue (Pred.vr p)
 | ⟨op,name,n,m,s,subs⟩=>by have:=aor subs;simp only[RP,Pred.vr,Ue,Ve];omega
theorem aor:∀l:List Pred,WM l<=Ve (Pred.vl l)
 | []=>Qn _|p::l=>by have:=aoq p;have:=aor l;simp only[WM,Pred.vl,Ve];omega
end
theorem avu (x:Pred):RP x<=Ui (Pred.v x):=by rw[<-Pred.ae8];exact PD (aoq x) (ae7 _)
theorem avv (l:List Attr):l.length<=Ui (lv Attr.v l):=by have h:=akL Attr.v (fun x=>by show 1<=Ve x.c;unfold Attr.c;simp only[Ve,Ue];omega) l;have h2:Ue (lv Attr.v l)<=Ui (lv Attr.v l):=ae7 _;have h3:Ue (lv Attr.v l)=Ve (l.map Attr.v)+1:=rfl;omega
end Sh
end
section
open Go Go.Proofs Aq
namespace Sh
theorem aos {n:Nat}{l:List (List UInt8)}{x:List UInt8}(h:l.length<n)(hb:l.length<2^62):ZB n (l,x)=some (l.any (· ==x)):=by
 have:=acy (L:=fun m i=>ad1 n l x m i) (l:=l) (fun d i r=>bif d==x then some (.inr true) else r) (some (.inl ()))
  (fun m i d hd=>by have hlt:=Vt hd;rw[am6,Ub hd,Tg hd,TY (by omega)];rfl)
  (fun m=>by rw[am6,UK];rfl) h
 rw[atu,this,acz (fun d:List UInt8=>d==x) (fun i=>(Sum.inr true:PUnit⊕Bool)) (.inl ())];cases hf:l.findIdx? (fun d=>d==x) with
 |none=>
  rw[List.findIdx?_eq_none_iff] at hf;have:l.any (· ==x)=false:=by rw[List.any_eq_false];intro y hy;simpa using hf y hy
  rw[this];rfl
 |some j=>
  obtain⟨hj,h2,_⟩:=List.findIdx?_eq_some_iff_getElem.1 hf;have:l.any (· ==x)=true:=by rw[List.any_eq_true];exact⟨l[j],Qw hj,h2⟩
  rw[this];rfl
def aaA (s:Rk)(n:Nat):Prop:=s.Defs.length<n/\s.Defs.length<2^62/\∀d∈s.Defs,d.Name.length<n/\d.Name.length<2^62/\d.Words.length<n/\d.Words.length<2^62/\∀w∈d.Words,w.length<n/\w.length<2^62
theorem aot {n:Nat}{x:List UInt8}(h:x.length<n)(hb:x.length<2^62)(hn:6<n):∃b:Bool,Zx n x=some b:=by
 obtain⟨r,hr⟩:=abJ (L:=fun m (_:Unit) i=>aa1 n x m i) (l:=x)
  (fun m i c _ hc ih=>by
    have hlt:=Vt hc;show∃r,aa1 n x (m+1) (i:Int)=some r;rw[am7,Ub hc,Tg hc,TY (by omega),cond_true,Option.bind_some];cases (bif !(bif decide ((c.toNat:Int)>=(97:Int)) then decide ((c.toNat:Int)<=(122:Int)) else false) then bif (i:Int)==(0:Int) then true else !(bif bif decide ((c.toNat:Int)>=(48:Int)) then decide ((c.toNat:Int)<=(57:Int)) else false then true else (c.toNat:Int)==(95:Int)) else false)
    .exact ih ()
    .exact⟨_,rfl⟩)
  (fun m _ i hi=>by show∃r,aa1 n x (m+1) (i:Int)=some r;rw[am7,abK hi];exact⟨_,rfl⟩) x.length 0 n () (by omega) h
 have hr':aa1 n x n (0:Int)=some r:=hr;rw[atv,hr'];cases r with
 |inl q=>obtain⟨b,hb'⟩:=afm (c:=bif decide ((x.length:Int)>=(1:Int)) then decide ((x.length:Int)<=(40:Int)) else false) (o:=ZB n (([[(97:UInt8),(108:UInt8),(108:UInt8)],[(97:UInt8),(110:UInt8),(100:UInt8)],[(104:UInt8),(97:UInt8),(115:UInt8)],[(105:UInt8),(110:UInt8)],[(110:UInt8),(111:UInt8),(116:UInt8)],[(111:UInt8),(114:UInt8)]],x))) (d:=false) (fun _=>⟨_,aos (show 6<n from hn) (show 6<2^62 by omega)⟩);rw[Option.bind_some];show∃b,Option.bind (Uh _ _ _) _=some b;rw[hb'];exact⟨_,rfl⟩
 |inr q=>exact⟨q,rfl⟩
theorem avw {n:Nat}{l:List (List UInt8)}(h:l.length<n)(hb:l.length<2^62)(hw:∀w∈l,w.length<n/\w.length<2^62)(hn:6<n):∃e:Int,Zf n l=some e:=by
 rw[ana];cases (bif decide ((l.length:Int)< (1:Int)) then true else decide ((l.length:Int)> (50:Int)))
 .obtain⟨r,hr⟩:=abJ (L:=fun m (_:Unit) i=>aa2 n l m i) (l:=l)
   (fun m i c _ hc ih=>by
     have hlt:=Vt hc;show∃r,aa2 n l (m+1) (i:Int)=some r;obtain⟨b,hb'⟩:=aot (hw c (Qk hc)).1 (hw c (Qk hc)).2 hn;rw[am8,Ub hc,Tg hc,TY (by omega),cond_true,Option.bind_some,hb'];cases b
     .exact⟨_,rfl⟩
     .exact ih ())
   (fun m _ i hi=>by show∃r,aa2 n l (m+1) (i:Int)=some r;rw[am8,abK hi];exact⟨_,rfl⟩) l.length 0 n () (by omega) h
  have hr':aa2 n l n (0:Int)=some r:=hr;rw[cond_false,hr',Option.bind_some];cases r with
  |inr q=>exact⟨q,rfl⟩|inl q=>
   obtain⟨r,hr2⟩:=abJ (L:=fun m (_:Unit) i=>aa3 n l m (i+1)) (l:=l.tail)
    (fun m i c _ hc ih=>by
      have hc':l[i+1]? =some c:=(by rw[List.getElem?_tail] at hc;exact hc);have hlt:=Vt hc';show∃r,aa3 n l (m+1) ((i:Int)+1)=some r;have ei:(i:Int)+1=((i+1:Nat):Int):=(by omega);have e0:IntKind.wrap .i64 (((i+1:Nat):Int)-(1:Int))=(i:Int):=(by rw[IntKind.wrap_i64];omega);have hi0:l[i]? =some l[i]:=PX (by omega);rw[ei,am9,Ub hc',Tg hc',TY (by omega),e0,Tg hi0,cond_true,Option.bind_some,Option.bind_some];cases (Go.Op.bytesLess c l[i]||c==l[i])
      .have:=ih ();have e1:(((i+1:Nat):Int))+1=((i+1+1:Nat):Int):=(by omega);simp only[e1] at this;exact this
      .exact⟨_,rfl⟩)
    (fun m _ i hi=>by show∃r,aa3 n l (m+1) ((i:Int)+1)=some r;have ei:(i:Int)+1=((i+1:Nat):Int):=(by omega);rw[ei,am9,abK (by rw[List.length_tail] at hi;omega)];exact⟨_,rfl⟩) l.length 0 n () (by rw[List.length_tail];omega) h
   have hr2':aa3 n l n (1:Int)=some r:=hr2;rw[Sum.elim_inl,hr2',Option.bind_some];cases r with
   |inl q=>exact⟨0,rfl⟩|inr q=>exact⟨q,rfl⟩
 .exact⟨_,rfl⟩
theorem avx {n:Nat}{d:Def}{x:List UInt8}(h:d.Name.length<n/\d.Name.length<2^62/\d.Words.length<n/\d.Words.length<2^62/\∀w∈d.Words,w.length<n/\w.length<2^62)(hn:6<n):∃e:Int,ZZ n (d,x)=some e:=by obtain⟨b,hb⟩:=aot h.1 h.2.1 hn;obtain⟨e,he⟩:=avw h.2.2.1 h.2.2.2.1 h.2.2.2.2 hn;rw[anb,hb];show∃e:Int,(bif !b then some (5:Int) else _)=some e;refine Wm ⟨_,rfl⟩ (Wm ⟨_,rfl⟩ (Wm (Wm ⟨_,rfl⟩ (Wm ⟨_,rfl⟩ ⟨_,rfl⟩)) (Wm (Wm ⟨_,rfl⟩ ?_) ⟨_,rfl⟩)));rw[he];exact⟨e,rfl⟩
theorem avy {n:Nat}{s:Rk}(h:aaA s n)(hn:6<n):∃e:Int,Zo n s=some e:=by
 obtain⟨h1,h2,h3⟩:=h;obtain⟨b,hb⟩:=afm (c:= !(bif decide (s.Wi< (1:Int)) then true else decide (s.Wi> (32:Int)))) (o:=Xp n s.X4) (d:=false) (fun _=>by rw[att];exact⟨_,rfl⟩);obtain⟨r,hr⟩:=abJ (L:=fun m (x:List UInt8) i=>YX n s m (x,i)) (l:=s.Defs)
  (fun m i d x hd ih=>by have hlt:=Vt hd;show∃r,YX n s (m+1) (x,(i:Int))=some r;obtain⟨e,he⟩:=avx (x:=x) (h3 d (Qk hd)) hn;rw[afQ,Ub hd,Tg hd,TY (by omega),cond_true,Option.bind_some,he];show∃r,(bif e !=(0:Int) then _ else _)=some r;exact Wm ⟨_,rfl⟩ (ih _))
  (fun m x i hi=>by show∃r,YX n s (m+1) (x,(i:Int))=some r;rw[afQ,abK hi];exact⟨_,rfl⟩) s.Defs.length 0 n [] (by omega) h1
 have hr':YX n s n ([],(0:Int))=some r:=hr;rw[ane];show∃e:Int,Option.bind (Uh _ _ _) _=some e;rw[hb];show∃e:Int,(bif _ then some (1:Int) else _)=some e;refine Wm ⟨_,rfl⟩ (Wm ⟨_,rfl⟩ ?_);rw[hr',Option.bind_some];cases r with
 |inl q=>exact⟨0,rfl⟩|inr q=>exact⟨q,rfl⟩
theorem avz {n:Nat}{s:Rk}{k:Int}(h:aaA s n):∃b:Bool,Zi n (s,k)=some b:=by
 obtain⟨h1,h2,h3⟩:=h;obtain⟨r,hr⟩:=abJ (L:=fun m (_:Unit) i=>aa0 n s k m i) (l:=s.Defs)
  (fun m i d _ hd ih=>by
    have hlt:=Vt hd;obtain⟨w1,w2,w3,w4,w5⟩:=h3 d (Qk hd);show∃r,aa0 n s k (m+1) (i:Int)=some r;obtain⟨r,hr⟩:=abJ (L:=fun m (_:Unit) j=>aaZ n s k (i:Int) d m j) (l:=d.Words)
     (fun m j w _ hw ih=>by have hlt:=Vt hw;show∃r,aaZ n s k (i:Int) d (m+1) (j:Int)=some r;rw[am4,Ub hw,Tg hw,TY (by omega),cond_true,Option.bind_some];exact Wm ⟨_,rfl⟩ (ih ()))
     (fun m _ j hj=>by show∃r,aaZ n s k (i:Int) d (m+1) (j:Int)=some r;rw[am4,abK hj];exact⟨_,rfl⟩) d.Words.length 0 n () (by omega) w3
    have hr':aaZ n s k (i:Int) d n (0:Int)=some r:=hr;rw[am5,Ub hd,Tg hd,TY (by omega),Option.bind_some,hr'];refine Wm (Wm ⟨_,rfl⟩ ?_) ⟨_,rfl⟩;cases r with
    |inl q=>exact ih ()|inr q=>exact⟨_,rfl⟩)
  (fun m _ i hi=>by show∃r,aa0 n s k (m+1) (i:Int)=some r;rw[am5,abK hi];exact⟨_,rfl⟩) s.Defs.length 0 n () (by omega) h1
 have hr':aa0 n s k n (0:Int)=some r:=hr;rw[atr,hr',Option.bind_some];cases r with
 |inl q=>exact⟨_,rfl⟩|inr q=>exact⟨q,rfl⟩
def aem (p:Pred):Bool:=
 if (p.Op<5/\p.Name≠[])\/(p.Op≠6/\(p.N≠0\/p.M≠0))\/(p.Op≠7/\p.S≠[]) then false else if p.N>p.M then false else if p.Op=2\/p.Op=3 then decide (p.Rs≠[]) else if p.Op=4 then decide (p.Rs.length=1) else decide (p.Rs=[])
theorem avA {U:Type}(l:List U):((l.length:Int)==(0:Int))=decide (l=[]):=by
 cases l with
 |nil=>simp|cons a l=>simp<;>omega
theorem avB (l:List UInt8):(l==[])=decide (l=[]):=by cases l<;>simp
theorem avC (n:Nat)(p:Pred):Xe n p=some (aem p):=by
 obtain⟨op,name,a,b,s,subs⟩:=p;rw[atM];simp only[avA,avB];have key:(bif bif bif bif !(decide (op>=(5:Int))) then !(decide (name=[])) else false then true else bif op !=(6:Int) then bif a !=(0:Int) then true else b !=(0:Int) else false then true else bif op !=(7:Int) then !(decide (s=[])) else false then some false else bif bif bif decide (a>b) then true else bif bif op==(2:Int) then true else op==(3:Int) then decide (subs=[]) else false then true else bif op==(4:Int) then (subs.length:Int) !=(1:Int) else false then some false else some (bif bif bif op==(2:Int) then true else op==(3:Int) then true else op==(4:Int) then true else decide (subs=[])))=some (aem ⟨op,name,a,b,s,subs⟩):=by
  unfold aem;dsimp only;by_cases c1:(op<5/\name≠[])\/(op≠6/\(a≠0\/b≠0))\/(op≠7/\s≠[])
  .rw[if_pos c1];have:(bif bif bif !(decide (op>=(5:Int))) then !(decide (name=[])) else false then true else bif op !=(6:Int) then bif a !=(0:Int) then true else b !=(0:Int) else false then true else bif op !=(7:Int) then !(decide (s=[])) else false)=true:=by
    simp only[Bool.cond_true_right,Bool.cond_false_right,Bool.cond_true_left,QE,Pz,decide_eq_true_iff,bne_iff_ne,Qy,decide_eq_false_iff_not];rcases c1 with c|c|c
    .exact .inl (.inl ⟨by omega,c.2⟩)
    .exact .inl (.inr c)
    .exact .inr c
   rw[this];rfl
  .rw[if_neg c1];have:(bif bif bif !(decide (op>=(5:Int))) then !(decide (name=[])) else false then true else bif op !=(6:Int) then bif a !=(0:Int) then true else b !=(0:Int) else false then true else bif op !=(7:Int) then !(decide (s=[])) else false)=false:=by
    rw[Bool.eq_false_iff];intro h;simp only[Bool.cond_true_right,Bool.cond_false_right,Bool.cond_true_left,QE,Pz,decide_eq_true_iff,bne_iff_ne,Qy,decide_eq_false_iff_not] at h;rcases h with (h|h)|h
    .exact c1 (.inl ⟨by omega,h.2⟩)
    .exact c1 (.inr (.inl h))
    .exact c1 (.inr (.inr h))
   rw[this,cond_false];by_cases c2:a>b
   .rw[if_pos c2,decide_eq_true c2];rfl
   .rw[if_neg c2,decide_eq_false c2,cond_false];by_cases c3:op=2\/op=3
    .rw[if_pos c3];have h4:(op==(4:Int))=false:=(by rcases c3 with rfl|rfl<;>rfl);have:(bif op==(2:Int) then true else op==(3:Int))=true:=(by rcases c3 with rfl|rfl<;>rfl);rw[this,h4];by_cases hs:subs=[]<;>simp[hs]
    .rw[if_neg c3];have:(bif op==(2:Int) then true else op==(3:Int))=false:=(by rw[Bool.eq_false_iff];intro h;simp at h;exact c3 h);rw[this,cond_false];by_cases c4:op=4
     .rw[if_pos c4,c4];by_cases hl:subs.length=1
      .simp[hl]
      .have:((subs.length:Int) !=(1:Int))=true:=(by rw[bne_iff_ne];omega);rw[this];simp[hl]
     .rw[if_neg c4];have:(op==(4:Int))=false:=(by simpa using c4);rw[this];rfl
 exact key
theorem avD {n:Nat}{s:Rk}{x:List UInt8}(h:s.Defs.length<n)(hb:s.Defs.length<2^62):Xf n (s,x)=some (match s.Defs.find? (fun d=>d.Name==x) with|some d=>(d,true)|none=>(⟨[],0,0,0,[]⟩,false)):=by
 have:=acy (L:=fun m i=>ad8 n s.Defs x m i) (l:=s.Defs) (fun d i r=>bif d.Name==x then some (.inr (i:Int)) else r) (some (.inl ()))
  (fun m i d hd=>by have hlt:=Vt hd;rw[anw,Ub hd,Tg hd,TY (by omega)];simp only[cond_true,Option.bind_some,atN];rfl)
  (fun m=>by rw[anw,UK];rfl) h
 rw[atP,atO,this,acz (fun d:Def=>d.Name==x) (fun i=>(Sum.inr (i:Int):PUnit⊕Int)) (.inl ())];have hg:=afp (fun d:Def=>d.Name==x) s.Defs;rw[<-hg];cases hf:s.Defs.findIdx? (fun d=>d.Name==x) with
 |none=>rfl|some j=>
  obtain⟨hj,_,_⟩:=List.findIdx?_eq_some_iff_getElem.1 hf;simp only[Option.bind_some,Sum.elim_inr,Qi];have e:decide (((j:Nat):Int)< (0:Int))=false:=by simp
  show (bif decide (((j:Nat):Int)< (0:Int)) then (some ((⟨[],(0:Int),(0:Int),(0:Int),[]⟩:Def),false):Option (Def×Bool)) else (Fb s.Defs ((j:Nat):Int)).bind fun r4=>some (r4,true))=_;rw[e,cond_false,ahu,PX hj];rfl
def abb (s:Rk)(x:Pred):Option Int:=
 if x.Op<1\/x.Op>7 then some 1 else if aem x=false then some 3 else if x.Op<5 then none else match s.Defs.find? (fun d=>d.Name==x.Name) with
 |none=>some 5|some d=>if (x.Op=6/\d.Kind≠1)\/(x.Op=7/\d.Kind≠2) then some 130 else none
def abd (s:Rk):List Pred->Option Int
 | []=>none|x::l=>match abb s x with
  |some e=>some e|none=>abd s l
theorem aou {n:Nat}{s:Rk}(hd:s.Defs.length<n)(hdb:s.Defs.length<2^62):∀l:List Pred,Yi n s l ((),(0:Int))=some (match abd s l with|some e=>.inr ((),e)|none=>.inl ((),(0:Int)))
 | []=>atQ n s 0|x::l=>by
  have ih:=aou (n:=n) (s:=s) hd hdb l;have:=atS n s x l (0:Int);rw[show Yi n s (x::l) ((),(0:Int))=_ from this,Pred.TG];rw[abd];unfold abb;by_cases c1:x.Op<1\/x.Op>7
  .rw[if_pos c1];have:(bif decide (x.Op< (1:Int)) then true else decide (x.Op> (7:Int)))=true:=by
    rcases c1 with c|c
    .rw[decide_eq_true c];rfl
    .rw[decide_eq_true c];cases decide (x.Op<1)<;>rfl
   rw[this];rfl
  .rw[if_neg c1];have:(bif decide (x.Op< (1:Int)) then true else decide (x.Op> (7:Int)))=false:=by rw[decide_eq_false (by omega),decide_eq_false (by omega)];rfl
   rw[this,cond_false];refine bs (avC n x) ?_;cases hform:aem x
   .rw[if_pos rfl];rfl
   .rw[if_neg (by simp)];show (bif decide (x.Op< (5:Int)) then _ else _)=_;by_cases c2:x.Op<5
    .rw[if_pos c2,decide_eq_true c2,cond_true];exact ih
    .rw[if_neg c2,decide_eq_false c2,cond_false];refine bs (avD hd hdb) ?_;cases hf:s.Defs.find? (fun d=>d.Name==x.Name) with
     |none=>rfl|some d=>
      dsimp only;have o:x.Op=5\/x.Op=6\/x.Op=7:=(by omega);have key:(bif bif bif x.Op==(6:Int) then d.Kind !=(1:Int) else false then true else bif x.Op==(7:Int) then d.Kind !=(2:Int) else false then some (.inr (((),(130:Int)))) else Yi n s l (((),(0:Int))))=(if (x.Op=6/\d.Kind≠1)\/(x.Op=7/\d.Kind≠2) then some (.inr (((),(130:Int)))) else Yi n s l (((),(0:Int)))):=by
       by_cases k1:d.Kind=1<;>by_cases k2:d.Kind=2<;>rcases o with o|o|o<;>simp[o,k1,k2]<;>first
        | (have h1:(d.Kind !=(1:Int))=true:=bne_iff_ne.2 (by omega);rw[h1];rfl)
        | (have h2:(d.Kind !=(2:Int))=true:=bne_iff_ne.2 (by omega);rw[h2];rfl)
      rw[show Yi n s l (((),(0:Int)))=_ from ih] at key⊢;refine key.trans ?_;by_cases c3:(x.Op=6/\d.Kind≠1)\/(x.Op=7/\d.Kind≠2)
      .rw[if_pos c3,if_pos c3]
      .rw[if_neg c3,if_neg c3]
theorem avE {n:Nat}{s:Rk}{p:Pred}(hp:RP p<2^62)(hd:s.Defs.length<n)(hdb:s.Defs.length<2^62):
 Zs n (s,p)=some (if ((pre p).take 1000).length>64 then 2 else (abd s ((pre p).take 1000)).getD 0):=by
 rw[atT,Pred.TG];refine bs (auE hp) ?_;show (bif decide ((((((pre p).take 1000).length:Nat):Int))> (64:Int)) then _ else _)=_;by_cases c:((pre p).take 1000).length>64
 .rw[if_pos c,decide_eq_true (by omega)];rfl
 .rw[if_neg c,decide_eq_false (by omega),cond_false];refine bs (acK n p) ?_;show ((VL p.re).bind _).bind _=_;rw[Pred.TG];have hlen:(pre p).length<=64:=by rw[Qb] at c;omega
  rw[acQ hp,Option.bind_some,aou hd hdb,Qu (by omega)];cases abd s (pre p)<;>rfl
end Sh
end
section
open Go Go.Proofs Aq Pq
namespace Sh
def notP (p:Pred):Pred:=⟨4,[],0,0,[],[p]⟩
end Sh
end
section
open Go Go.Proofs Aq Pq
namespace Sh
end Sh
end
section
open Go Go.Proofs Aq Pq
namespace Sh
end Sh
end
section
open Go Go.Proofs Aq Pq
namespace Sh
theorem avM {n:Nat}{s:Rk}(h:aaA s n)(hn:6<n):∃b:Bool,Xc n s=some b:=by obtain⟨b,hb⟩:=avz (k:=16) h;obtain⟨e,he⟩:=afm (c:=b) (o:=Zo n s) (d:=(0:Int)) (fun _=>avy h hn);rw[anf,hb];refine⟨_,bs rfl (bs he rfl)⟩
theorem aoF (d:Def):d.Name.length+d.Words.length+1<=Ue (Def.v d)/\∀w∈d.Words,w.length+1<=Ue (Def.v d):=by have e:Ue (Def.v d)=(d.Name.length+1)+(1+(1+(1+(Ve (d.Words.map V.str)+1+0)))):=rfl;have h1:=akL V.str (fun x=>by simp[Ue]) d.Words;refine⟨by omega,fun w hw=>?_⟩;have h2:=aop V.str hw;have h3:Ue (V.str w)=w.length+1:=rfl;omega
theorem avN {s:Rk}{n k:Nat}(h:Ue (Rk.v s)<=k)(hk:k<n)(hk2:k<2^62):aaA s n:=by have e:Ue (Rk.v s)=1+(1+(Ve (s.Defs.map Def.v)+1+0)):=rfl;have h1:=akL Def.v (fun x=>by have:=(aoF x).1;omega) s.Defs;refine⟨by omega,by omega,fun d hd=>?_⟩;have h2:=aop Def.v hd;have h3:=aoF d;have h4:=h3.1;refine⟨by omega,by omega,by omega,by omega,fun w hw=>?_⟩;have:=h3.2 w hw;exact⟨by omega,by omega⟩
end Sh
end
section
open Go Go.Proofs Aq Pq
namespace Sh
theorem iB {U β:Type}{o:Option U}{f:U->Option β}{r:β}(h:o.bind f=some r):∃a,o=some a/\f a=some r:=iP.1 h
theorem iC {U:Type}{c:Bool}{a b:Option U}{r:U}(h:(bif c then a else b)=some r):(c=true/\a=some r)\/(c=false/\b=some r):=by
 cases c
 .exact .inr ⟨rfl,h⟩
 .exact .inl ⟨rfl,h⟩
theorem iS {U:Type}{a b:U}(h:some a=some b):a=b:=P9 h
def akN (n:Nat)(x:List UInt8)(d:Def):Prop:=
 ((Go.Op.bytesLess d.Name x)||(d.Name==x))=false/\((d.Kind=1/\ -(2^40)<=d.Lo/\d.Hi<=2^40/\d.Lo<=d.Hi/\d.Words=[])\/(d.Kind=2/\d.Lo=0/\d.Hi=0/\Zf n d.Words=some (0:Int)))
theorem avO {n:Nat}{d:Def}{x:List UInt8}(h:ZZ n (d,x)=some (0:Int)):akN n x d:=by
 have h:=(anb n d x).symm.trans h;obtain⟨b,hb,h⟩:=iB h;rcases iC h with ⟨_,h⟩| ⟨_,h⟩
 .exact absurd (iS h) (by decide)
 rcases iC h with ⟨_,h⟩| ⟨hname,h⟩
 .exact absurd (iS h) (by decide)
 refine⟨hname,?_⟩;rcases iC h with ⟨hk,h⟩| ⟨hk,h⟩
 .have hk:d.Kind=1:=by simpa using hk
  rcases iC h with ⟨_,h⟩| ⟨hr,h⟩
  .exact absurd (iS h) (by decide)
  rcases iC h with ⟨_,h⟩| ⟨hw,h⟩
  .exact absurd (iS h) (by decide)
  refine .inl ⟨hk,?_⟩;have a1:¬d.Lo< (-1099511627776:Int):=fun k=>by rw[decide_eq_true k] at hr;cases hr
  rw[decide_eq_false a1,cond_false] at hr;have a2:¬d.Hi> (1099511627776:Int):=fun k=>by rw[decide_eq_true k] at hr;cases hr
  rw[decide_eq_false a2,cond_false] at hr;have a3:=of_decide_eq_false hr;have a4:=of_decide_eq_false hw;refine⟨by omega,by omega,by omega,?_⟩;exact Qm (by omega)
 .rcases iC h with ⟨hk2,h⟩| ⟨hk2,h⟩
  .have hk2:d.Kind=2:=by simpa using hk2
   rcases iC h with ⟨_,h⟩| ⟨hr,h⟩
   .exact absurd (iS h) (by decide)
   refine .inr ⟨hk2,?_⟩;obtain⟨e,he,h⟩:=iB (U:=Int) h;have he0:e=0:=iS h;subst he0;have a1:d.Lo=0:=by
    cases hl:d.Lo !=(0:Int) with
    |true=>rw[hl] at hr;cases hr|false=>simpa using hl
   have a2:d.Hi=0:=by
    rw[a1] at hr;cases hl:d.Hi !=(0:Int) with
    |true=>rw[hl] at hr;cases hr|false=>simpa using hl
   exact⟨a1,a2,he⟩
  .exact absurd (iS h) (by decide)
def ChD (n:Nat):List UInt8->List Def->Prop
 |_,[]=>True|x,d::ds=>akN n x d/\ChD n d.Name ds
theorem avP {n:Nat}{s:Rk}(hb:s.Defs.length<2^62):∀(k i m:Nat)(x:List UInt8)(r:PUnit⊕Int),i+k=s.Defs.length->YX n s m (x,(i:Int))=some r->(r= .inl ()/\ChD n x (s.Defs.drop i))\/∃e,r= .inr e/\e≠0:=by
 intro k;induction k with
 |zero=>
  intro i m x r hi h;cases m with
  |zero=>have h:=(anc ..).symm.trans h;cases h|succ m=>
   obtain rfl:i=s.Defs.length:=by omega
   have h:=(afQ ..).symm.trans h;rw[UK,cond_false] at h;refine .inl ⟨(iS h).symm,?_⟩;rw[List.drop_length];trivial
 |succ k ih=>
  intro i m x r hi h;cases m with
  |zero=>have h:=(anc ..).symm.trans h;cases h|succ m=>
   have hlt:i<s.Defs.length:=by omega
   have hx:s.Defs[i]? =some s.Defs[i]:=PX hlt;have h:=(afQ ..).symm.trans h;rw[Ub hx,cond_true] at h;obtain⟨d,hd,h⟩:=iB h;have e1:=(Tg hx).symm.trans hd;have e1:=iS e1;subst e1;obtain⟨e,he,h⟩:=iB (U:=Int) h;rcases iC h with ⟨h0,h⟩| ⟨h0,h⟩
   .exact .inr ⟨e,(iS h).symm,by simpa using h0⟩
   .have h0:e=0:=(by simpa using h0);subst h0;obtain⟨d2,hd2,h⟩:=iB h;have e2:=iS ((Tg hx).symm.trans hd2);subst e2;rw[TY (by omega)] at h;rcases ih (i+1) m _ r (by omega) h with ⟨h1,h2⟩|h1
    .refine .inl ⟨h1,?_⟩;rw[Qd hlt];exact⟨avO he,h2⟩
    .exact .inr h1
structure Ym (n:Nat)(s:Rk):Prop where
 few:s.Defs.length<=16
 chain:ChD n [] s.Defs
theorem avQ {n:Nat}{s:Rk}(hb:s.Defs.length<2^62)(h:Zo n s=some (0:Int)):Ym n s:=by
 have h:=(ane n s).symm.trans h;obtain⟨b,_,h⟩:=iB h;rcases iC h with ⟨_,h⟩| ⟨_,h⟩
 .exact absurd (iS h) (by decide)
 rcases iC h with ⟨_,h⟩| ⟨hl,h⟩
 .exact absurd (iS h) (by decide)
 obtain⟨r,hr,h⟩:=iB h;have hl:=of_decide_eq_false hl;rcases avP hb s.Defs.length 0 n [] r (by omega) hr with ⟨_,h2⟩| ⟨e,rfl,he⟩
 .exact⟨by omega,h2⟩
 .exact absurd (iS h) he
theorem avR {n:Nat}{s:Rk}(hb:s.Defs.length<2^62)(h:Xc n s=some true):Ym n s:=by
 have h:=(anf n s).symm.trans h;obtain⟨b,_,h⟩:=iB h;obtain⟨e,he,h⟩:=iB (U:=Int) h;have h:=iS h;cases b with
 |false=>cases h|true=>
  have h:(e==(0:Int))=true:=h;have h0:e=0:=by simpa using h
  subst h0;exact avQ hb he
theorem ChD.mem {n:Nat}:∀{l:List Def}{x:List UInt8}{d:Def},ChD n x l->d∈l->∃y,akN n y d
 |d'::l,x,d,h,hd=>by
  rcases PG.1 hd with rfl|hd
  .exact⟨x,h.1⟩
  .exact h.2.mem hd
theorem avS {n:Nat}{l:List (List UInt8)}(h:Zf n l=some (0:Int)):1<=l.length/\l.length<=50:=by
 have h:=(ana n l).symm.trans h;rcases iC h with ⟨_,h⟩| ⟨hl,h⟩
 .exact absurd (iS h) (by decide)
 .have a1:¬(l.length:Int)< (1:Int):=fun k=>by rw[decide_eq_true k] at hl;cases hl
  rw[decide_eq_false a1,cond_false] at hl;have:=of_decide_eq_false hl;omega
theorem Ym.defs {n:Nat}{s:Rk}(h:Ym n s)(hn:800<n){d:Def}(hd:d∈s.Defs):aaz n d:=by
 obtain⟨y,_,h1|h1⟩:=h.chain.mem hd
 .obtain⟨k,a,b,c,w⟩:=h1;exact⟨.inl k,a,c,b,by rw[w];decide,by rw[w];show 0<n;omega⟩
 .obtain⟨k,a,b,w⟩:=h1;have:=avS w;exact⟨.inr k,by omega,by omega,by omega,by omega,by omega⟩
def VU (nm:List UInt8)(x:Pred):Bool:=bif decide (x.Op>=(5:Int)) then x.Name==nm else false
def Um (s:Rk)(l:List Pred):List (List (Option Attr)):=(s.Defs.filter fun d=>l.any (VU d.Name)).map fun d=>Vh d l
theorem aoG {n:Nat}{s:Rk}{p:Pred}{i:Int}{d:Def}{cs:List Q6}(hc:Zn n (d,p)=some cs):∀(l:List Pred)(t:List (List Q6)),t.length<2^20->acO n s p i d l ((),t)=some (if l.any (VU d.Name)=true then .inr ((),t++[cs]) else .inl ((),t))
 | [],t,_=>auq ..|x::l,t,ht=>by
  rw[aur];change (bif VU d.Name x then _ else _)=_;rw[List.any_cons];cases hx:VU d.Name x with
  |true=>rw[cond_true];refine bs (show Zn n (d,p.re)=some cs by rw[Pred.TG];exact hc) ?_;refine(show (bif Si (t.length+1) 24 then _ else none)=_ from ?_);rw[WW (by omega) (by omega)];rfl|false=>rw[cond_false,aoG hc l t ht];rfl
theorem avT {n:Nat}(hn:800<n){s:Rk}{p:Pred}(hd:∀d∈s.Defs,aaz n d)(h:RP p<=240)(hb:s.Defs.length<=16):∀(k i m:Nat)(t:List (List Q6)),i+k=s.Defs.length->k<m->t.length<=i->
 aa8 n s p m ((i:Int),t)=some ((),t++((s.Defs.drop i).filter fun d=>(pre p).any (VU d.Name)).map fun d=>(Vh d (pre p)).map Uj):=by
 intro k;induction k with
 |zero=>
  intro i m t hi hm _;obtain⟨m,rfl⟩:∃m',m=m'+1:=⟨m-1,by omega⟩;obtain rfl:i=s.Defs.length:=by omega
  rw[anU,UK,cond_false,List.drop_length];simp
 |succ k ih=>
  intro i m t hi hm ht;obtain⟨m,rfl⟩:∃m',m=m'+1:=⟨m-1,by omega⟩;have hlt:i<s.Defs.length:=by omega
  have hx:s.Defs[i]? =some s.Defs[i]:=PX hlt;have hc:=avr hn (hd _ (Qk hx)) h;rw[anU,Ub hx,cond_true,Qd hlt,TY (by omega)];refine bs (Tg hx) (bs (acK n _) ?_);generalize s.Defs[i]=d at*;show Option.bind ((VL p.re.re).bind _) _=_;rw[Pred.TG,Pred.TG,acQ (by omega),Option.bind_some];refine bs (aoG hc (pre p) t (by omega)) ?_;cases ha:(pre p).any (VU d.Name) with
  |true=>rw[if_pos rfl];show aa8 n s p m (((i+1:Nat):Int),t++[(Vh d (pre p)).map Uj])=_;rw[ih (i+1) m _ (by omega) (by omega) (by rw[PU,List.length_singleton];omega),List.filter_cons,if_pos ha,PO,Qe];rfl|false=>rw[if_neg (by simp)];show aa8 n s p m (((i+1:Nat):Int),t)=_;rw[ih (i+1) m _ (by omega) (by omega) (by omega),List.filter_cons,if_neg (by rw[ha];simp)]
theorem avU {n:Nat}(hn:800<n){s:Rk}{p:Pred}(hd:∀d∈s.Defs,aaz n d)(h:RP p<=240)(hb:s.Defs.length<=16):Zl n (s,p)=some ((Um s (pre p)).map (List.map Uj)):=by rw[aus];refine bs (avT hn hd h hb s.Defs.length 0 n [] (by omega) (by omega) (mF _)) ?_;unfold Um;rw[QN];rfl
theorem avV {n:Nat}{l:List Pred}{nm:List UInt8}(hb:l.length<2^62):∀(k i m:Nat),i+k=l.length->k<m->ad2 n l nm m (i:Int)=some (if (l.drop i).any (VU nm)=true then .inr true else .inl ()):=by
 intro k;induction k with
 |zero=>
  intro i m hi hm;obtain⟨m,rfl⟩:∃m',m=m'+1:=⟨m-1,by omega⟩;obtain rfl:i=l.length:=by omega
  rw[anj,UK,cond_false,List.drop_length];rfl
 |succ k ih=>
  intro i m hi hm;obtain⟨m,rfl⟩:∃m',m=m'+1:=⟨m-1,by omega⟩;have hlt:i<l.length:=by omega
  have hx:l[i]? =some l[i]:=PX hlt;have he:=Tg hx;have ih':=ih (i+1) m (by omega) (by omega);rw[anj,Ub hx,cond_true,Qd hlt,TY (by omega),List.any_cons];generalize l[i]=x at*;refine bs he ?_;unfold VU at*;cases h5:decide (x.Op>=(5:Int)) with
  |false=>rw[akH,Option.bind_some,cond_false];exact ih'|true=>
   rw[akG];refine bs he ?_;rw[cond_true];cases hn:x.Name==nm with
   |false=>rw[cond_false];exact ih'|true=>rfl
theorem avW {n:Nat}{l:List Pred}{nm:List UInt8}(hb:l.length<2^62)(hn:l.length<n):ZJ n (l,nm)=some (l.any (VU nm)):=by rw[atA];refine bs (avV hb l.length 0 n (by omega) hn) ?_;rw[Qz];cases l.any (VU nm)<;>rfl
theorem avX {n:Nat}(hn:800<n){s:Rk}{l:List Pred}(hd:∀d∈s.Defs,aaz n d)(h:l.length<=240)(hb:s.Defs.length<=16):∀(k i m:Nat)(t:List (List Ry)),i+k=s.Defs.length->k<m->t.length<=i->
 acJ n s l m (t,(i:Int))=some (t++((s.Defs.drop i).filter fun d=>l.any (VU d.Name)).map fun d=>(Vh d l).map toR):=by
 intro k;induction k with
 |zero=>
  intro i m t hi hm _;obtain⟨m,rfl⟩:∃m',m=m'+1:=⟨m-1,by omega⟩;obtain rfl:i=s.Defs.length:=by omega
  rw[anr,UK,cond_false,List.drop_length];simp
 |succ k ih=>
  intro i m t hi hm ht;obtain⟨m,rfl⟩:∃m',m=m'+1:=⟨m-1,by omega⟩;have hlt:i<s.Defs.length:=by omega
  have hx:s.Defs[i]? =some s.Defs[i]:=PX hlt;have hc:=avs hn (hd _ (Qk hx)) h;have he:=Tg hx;rw[anr,Ub hx,cond_true,Qd hlt,TY (by omega)];generalize s.Defs[i]=d at*;refine bs he (bs (avW (by omega) (by omega)) ?_);cases ha:l.any (VU d.Name) with
  |true=>rw[cond_true];refine bs he (bs hc ?_);refine(show (bif Si (t.length+1) 24 then _ else none)=_ from ?_);rw[WW (by omega) (by omega),cond_true,ih (i+1) m _ (by omega) (by omega) (by rw[PU,List.length_singleton];omega),List.filter_cons,if_pos ha,PO,Qe];rfl|false=>rw[cond_false,ih (i+1) m _ (by omega) (by omega) (by omega),List.filter_cons,if_neg (by rw[ha];simp)]
theorem avY {n:Nat}(hn:800<n){s:Rk}{p:Pred}(hd:∀d∈s.Defs,aaz n d)(h:RP p<=240)(hb:s.Defs.length<=16):ZD n (s,p)=some ((Um s (pre p)).map (List.map toR)):=by rw[atD];refine bs (show Za n p.re=some (pre p) by rw[Pred.TG,an2 (by omega) (by omega),Qu (by rw[Wz];omega)]) ?_;refine bs (avX hn hd (by rw[Wz];exact h) hb s.Defs.length 0 n [] (by omega) (by omega) (mF _)) ?_;unfold Um;rw[QN];rfl
theorem avZ {n:Nat}{t:List (List Ry)}(hb:t.length<2^62)(ht:∀l∈t,l.length<2^30):∀(k i m:Nat)(c:Int),i+k=t.length->k<m->0<=c->c<=4096->∃r,ad6 n t m (c,(i:Int))=some r/\Sum.elim id id r=VP c ((t.drop i).map List.length):=by
 intro k;induction k with
 |zero=>
  intro i m c hi hm _ _;obtain⟨m,rfl⟩:∃m',m=m'+1:=⟨m-1,by omega⟩;obtain rfl:i=t.length:=by omega
  rw[ant,UK,cond_false,List.drop_length];exact⟨_,rfl,rfl⟩
 |succ k ih=>
  intro i m c hi hm h0 h1;obtain⟨m,rfl⟩:∃m',m=m'+1:=⟨m-1,by omega⟩;have hlt:i<t.length:=by omega
  have hx:t[i]? =some t[i]:=PX hlt;obtain⟨m1,m2⟩:=amx h0 h1 (ht _ (Qk hx));rw[ant,Ub hx,cond_true,Qd hlt,TY (by omega),PO];refine tE (Tg hx) ?_;have hw:IntKind.wrap .i64 (c*((t[i].length:Nat):Int))=c*((t[i].length:Nat):Int):=by rw[IntKind.wrap_i64];omega
  rw[hw];unfold VP;by_cases hc:c*((t[i].length:Nat):Int)>4096
  .rw[decide_eq_true hc,cond_true,if_pos hc];exact⟨_,rfl,rfl⟩
  .rw[decide_eq_false hc,cond_false,if_neg hc];exact ih (i+1) m _ (by omega) (by omega) m1 (by omega)
theorem av0 {n:Nat}{d:Def}{l:List Pred}(hd:aaz n d)(h:l.length<=240):(Vh d l).length<2^30:=by
 have h1:=aoo d l;have h2:(aay d l).length<=d.Words.length:=akI _ _ _;have h3:=hd.words;unfold Vh;rw[List.length_cons];split
 .rw[PY];omega
 .rw[PY];omega
theorem aoH (s:Rk)(l:List Pred):(Um s l).length<=s.Defs.length:=by unfold Um;rw[PY];exact List.length_filter_le _ _
theorem aoI {n:Nat}{s:Rk}{l:List Pred}(hd:∀d∈s.Defs,aaz n d)(h:l.length<=240){c:List (Option Attr)}(hc:c∈Um s l):c.length<2^30:=by unfold Um at hc;obtain⟨d,hd',rfl⟩:=Qo.1 hc;exact av0 (hd d (QO.1 hd').1) h
theorem av1 {n:Nat}(hn:800<n){s:Rk}{p:Pred}(hs:Ym n s)(h:RP p<=240):ZK n (s,p)=some (VP 1 ((Um s (pre p)).map List.length)):=by
 have hd:=fun d hd=>hs.defs hn (d:=d) hd;have hl:=aoH s (pre p);have hf:=hs.few;rw[atE];refine bs (show ZD n (s,p.re)=_ by rw[Pred.TG];exact avY hn hd h hs.few) ?_;obtain⟨r,h1,h2⟩:=avZ (n:=n) (t:=(Um s (pre p)).map (List.map toR)) (by rw[PY];omega) (fun c hc=>by obtain⟨c',hc',rfl⟩:=Qo.1 hc;rw[PY];exact aoI hd (by rw[Wz];exact h) hc') _ 0 n 1 (Qi _) (by rw[PY];omega) (by omega) (by omega);refine bs h1 ?_;rw[Qz,QN] at h2;have:(List.length∘List.map toR)=List.length:=by funext x;simp
 rw[this] at h2;rw[<-h2];cases r<;>rfl
end Sh
end
section
open Go Go.Proofs Aq Pq
namespace Sh
def findD (s:Rk)(x:List UInt8):Int:=match s.Defs.findIdx? (fun d=>d.Name==x) with
 |some i=>(i:Int)|none=>-1
theorem av2 {n:Nat}{s:Rk}{x:List UInt8}(h:s.Defs.length<n)(hb:s.Defs.length<2^62):ZE n (s,x)=some (findD s x):=by
 have:=acy (L:=fun m i=>ad7 n s x m i) (l:=s.Defs) (fun d i r=>bif d.Name==x then some (.inr (i:Int)) else r) (some (.inl ()))
  (fun m i d hd=>by have hlt:=Vt hd;rw[anu,Ub hd,Tg hd,TY (by omega)];rfl)
  (fun m=>by rw[anu,UK];rfl) h
 rw[atG,this,acz (fun d:Def=>d.Name==x) (fun i=>(Sum.inr (i:Int):PUnit⊕Int)) (.inl ())];unfold findD;cases s.Defs.findIdx? (fun d=>d.Name==x) with
 |none=>rfl|some j=>simp;rfl
theorem akO (s:Rk)(l:List Pred):∀c∈(Um s l).map (List.map Uj),0<c.length:=by intro c hc;obtain⟨c',hc',rfl⟩:=Qo.1 hc;unfold Um at hc';obtain⟨d,_,rfl⟩:=Qo.1 hc';rw[PY];unfold Vh;rw[List.length_cons];omega
theorem aoJ:∀(t:List (List Q6))(c:Nat),(∀x∈t,0<x.length)->0<c->c<=4096->VP (c:Int) (t.map List.length)<=4096->c*Rv t<=4096
 | [],c,_,_,h,_=>by show c*1<=4096;omega|x::t,c,h,h0,h1,h2=>by
  have hx:=h x (PI ..);have hp:Rv (x::t)=x.length*Rv t:=rfl;rw[PO] at h2;unfold VP at h2;split at h2
  .omega
  .rename_i hc;rw[<-Int.natCast_mul] at h2 hc;rw[hp,<-Nat.mul_assoc];exact aoJ t (c*x.length) (fun y hy=>h y (PK _ hy)) (Nat.mul_pos h0 hx) (by omega) h2
def aaC (s:Rk)(p:Pred):Int:=if ((pre p).take 1000).length>64 then 2 else (abd s ((pre p).take 1000)).getD 0
theorem aoK {s:Rk}{p:Pred}(h:aaC s p=0):RP p<=64:=by
 unfold aaC at h;split at h
 .cases h
 .rename_i h1;rw[Qb,Wz] at h1;omega
theorem av3 (hs:List Attr->Bool)(t:List (List Q6)):(VK hs t).1.length<=t.length:=by
 unfold VK;split
 .exact agX ..
 .exact Qn _
def andNot (a b:Pred):Pred:=⟨2,[],0,0,[],[a,⟨4,[],0,0,[],[b]⟩]⟩
theorem aoL {n:Nat}{p:Pred}(hn:RP p<n)(hp:RP p<2^62)(h:QQ n (p,(100:Int))=some true):RP p<=100:=by
 obtain⟨g,rfl⟩:∃g,n=g+1:=⟨n-1,by omega⟩;have e:QQ (g+1) (p,(100:Int))=abE (g+1) (g+1) (p,(100:Int)):=by unfold QQ;rfl
 rw[e,ani] at h;obtain⟨z,hz,h⟩:=iB (U:=Int) h;have hz:ZW (g+1) p.re=some z:=hz;rw[Pred.TG,an3 hn hp] at hz;have hz:=iS hz;by_cases hc:z>100
 .have h:(bif (bif decide ((100:Int)<1) then true else decide (z> (100:Int))) then some false else _)=some true:=h;rw[decide_eq_true hc] at h;cases h
 .rw[Qb,Wz] at hz;omega
def Pick:List (List Q6)->List Q6->Prop
 | [],[]=>True|c::cs,x::xs=>x∈c/\Pick cs xs|_,_=>False
theorem aoM {c:List Q6}{cs:List (List Q6)}(hc:0<c.length)(hp:0<Rv cs){i r:Nat}(hr:r<Rv cs):R4 (i*Rv cs+r) (Rv (c::cs)) (c::cs)=(match c[i]? with|some x=>UR x|none=>[])++R4 r (Rv cs) cs:=by
 have hd:c.length*Rv cs/c.length=Rv cs:=Nat.mul_div_cancel_left _ hc;have hq:(i*Rv cs+r)/Rv cs=i:=by rw[Nat.add_comm,Nat.add_mul_div_right _ _ hp,Nat.div_eq_of_lt hr,Qi]
 have hm:(i*Rv cs+r)% Rv cs=r:=by rw[Nat.add_comm,Nat.add_mul_mod_self_right,QS hr]
 show (match c[(i*Rv cs+r)/(c.length*Rv cs/c.length)]? with|some x=>UR x|none=>[])++R4 ((i*Rv cs+r)% (c.length*Rv cs/c.length)) (c.length*Rv cs/c.length) cs=_;rw[hd,hq,hm]
theorem aoN:∀(t:List (List Q6))(xs:List Q6),Pick t xs->(∀c∈t,0<c.length)->∃k,k<Rv t/\R4 k (Rv t) t=xs.flatMap UR
 | [],[],_,_=>⟨0,Nat.one_pos,rfl⟩| [],_::_,h,_=>h.elim|_::_,[],h,_=>h.elim|c::cs,x::xs,⟨h1,h2⟩,h=>by
  have hcs:∀x∈cs,0<x.length:=fun x hx=>h x (PK _ hx);have hc:=h c (PI ..);have hp:=ako hcs;obtain⟨r,hr,e⟩:=aoN cs xs h2 hcs;obtain⟨i,hi,rfl⟩:=List.getElem_of_mem h1;refine⟨i*Rv cs+r,?_,?_⟩
  .show i*Rv cs+r<c.length*Rv cs;have:(i+1)*Rv cs<=c.length*Rv cs:=Ql _ hi;rw[Qj,Nat.one_mul] at this;omega
  .rw[aoM hc hp hr,PX hi,e,P6]
theorem aoO:∀(t:List (List Q6))(k:Nat),(∀c∈t,0<c.length)->k<Rv t->∃xs,Pick t xs/\R4 k (Rv t) t=xs.flatMap UR
 | [],_,_,_=>⟨[],trivial,rfl⟩|c::cs,k,h,hk=>by
  have hcs:∀x∈cs,0<x.length:=fun x hx=>h x (PK _ hx);have hc:=h c (PI ..);have hp:=ako hcs;have hk:k<c.length*Rv cs:=hk;have hi:k/Rv cs<c.length:=(Nat.div_lt_iff_lt_mul hp).2 hk;have hr:k% Rv cs<Rv cs:=Nat.mod_lt _ hp;obtain⟨xs,h1,h2⟩:=aoO cs (k% Rv cs) hcs hr;refine⟨c[k/Rv cs]::xs,⟨Qw hi,h1⟩,?_⟩;have e:k=k/Rv cs*Rv cs+k% Rv cs:=by rw[QA];exact(Nat.div_add_mod _ _).symm
  have s:=aoM (c:=c) hc hp (i:=k/Rv cs) hr;rw[<-e] at s;rw[s,PX hi,h2,P6]
def WX (q:Pred)(o:Option Attr):Bool:=
 if q.Op=5 then o.isSome else if q.Op=6 then (match o with|some a=>a.Kind==(1:Int)&& decide (a.N>=q.N)&& decide (a.N<=q.M)|none=>false) else if q.Op=7 then (match o with|some a=>a.Kind==(2:Int)&& a.S==q.S|none=>false) else false
mutual
theorem aoP {l l':List Attr}:∀p:Pred,(∀q∈pre p,5<=q.Op->WX q (TW l q.Name)=WX q (TW l' q.Name))->SY l p=SY l' p
 | ⟨op,name,n,m,s,subs⟩,h=>by
   have h1:=h ⟨op,name,n,m,s,subs⟩ (by rw[pre_eq];exact PI ..);have h2:=aoQ (l:=l) (l':=l') subs (fun q hq=>h q (by rw[pre_eq];exact PK _ hq));unfold SY;rw[h2.1,h2.2];by_cases h5:5<=op
   .have h1:=h1 h5;unfold WX at h1;dsimp only at h1;have h5:5<=op:=h5;simp only[show¬op=1 by omega,show¬op=2 by omega,show¬op=3 by omega,show¬op=4 by omega,if_false];exact h1
   .simp only[show¬op=5 by omega,show¬op=6 by omega,show¬op=7 by omega,if_false]
theorem aoQ {l l':List Attr}:∀ps:List Pred,(∀q∈Uz ps,5<=q.Op->WX q (TW l q.Name)=WX q (TW l' q.Name))->aaV l ps=aaV l' ps/\anyS l ps=anyS l' ps
 | [],_=>⟨rfl,rfl⟩|p::ps,h=>by
  have h1:=aoP p (fun q hq=>h q (by rw[Uz];exact QF _ hq));have h2:=aoQ ps (fun q hq=>h q (by rw[Uz];exact QI _ hq));constructor
  .unfold aaV;rw[h1,h2.1]
  .unfold anyS;rw[h1,h2.2]
end
end Sh
end
