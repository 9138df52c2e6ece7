import Derived.Test.YtgdialomgeijcaaGreatF3626
set_option linter.all false
open Go.IntKind (wrap)
section
open Go Go.Proofs Aq
namespace Sh
def toQ (x:Q7):Rv:=⟨x.a,x.is⟩
def Ww (hs:List Attr->Bool):List (List Q7)->List Attr->Option (List Attr)
 | [],l=>if hs l then some l else none|c::cs,l=>c.findSome? fun x=>Ww hs cs (l++Tz x)
theorem aox {β:Type}(G:Nat->Option β)(b:Nat):∀a:Nat,(List.range (a*b)).findSome? G=(List.range a).findSome? fun i=>(List.range b).findSome? fun r=>G (i*b+r)
 |0=>by simp|a+1=>by rw[Qk,Nat.one_mul,List.range_add,List.findSome?_append,aox G b a,List.range_succ,List.findSome?_append,List.findSome?_map];simp only[List.findSome?_cons,List.findSome?_nil];congr 1;rw[show (G∘fun x=>a*b+x)=fun r=>G (a*b+r) from rfl];cases (List.range b).findSome? (fun r=>G (a*b+r))<;>rfl
theorem aoy {U β:Type}(F:U->Option β):∀c:List U,c.findSome? F=(List.range c.length).findSome? fun i=>(c[i]?).bind F
 | []=>rfl|x::c=>by
  rw[List.length_cons,List.range_succ_eq_map,List.findSome?_cons,List.findSome?_cons,List.findSome?_map];simp only[List.getElem?_cons_zero,Option.bind_some];cases F x with
  |some y=>rfl|none=>dsimp only;rw[aoy F c];congr 1
theorem aoz:∀{t:List (List Q7)},(∀c∈t,0<c.length)->0<RJ t
 | [],_=>Nat.one_pos|c::cs,h=>Nat.mul_pos (h c (PN ..)) (aoz fun x hx=>h x (PV _ hx))
theorem akY {U β:Type}{F G:U->Option β}:∀{l:List U},(∀x∈l,F x=G x)->l.findSome? F=l.findSome? G
 | [],_=>rfl|x::l,h=>by rw[List.findSome?_cons,List.findSome?_cons,h x (PN ..),akY fun y hy=>h y (PV _ hy)]
theorem aoA (hs:List Attr->Bool):∀(t:List (List Q7))(l:List Attr),(∀c∈t,0<c.length)->Ww hs t l=(List.range (RJ t)).findSome? fun k=>if hs (l++R9 k (RJ t) t) then some (l++R9 k (RJ t) t) else none
 | [],l,_=>by
   show (if hs l then some l else none)=(List.range 1).findSome? fun k=>if hs (l++[]) then some (l++[]) else none
   simp only[Qu];rw[show List.range 1=[0] from rfl,List.findSome?_cons,List.findSome?_nil];cases hs l<;>rfl
 |c::cs,l,h=>by
  have hc:=h c (PN ..);have hcs:∀x∈cs,0<x.length:=fun x hx=>h x (PV _ hx);have hp:=aoz hcs;show (c.findSome? fun x=>Ww hs cs (l++Tz x))=(List.range (c.length*RJ cs)).findSome? _;rw[aox,aoy];refine akY fun i hi=>?_;have hi:=List.mem_range.1 hi;rw[PX hi,Option.bind_some,aoA hs cs _ hcs];refine akY fun r hr=>?_;have hr:=List.mem_range.1 hr;have hd:c.length*RJ cs/c.length=RJ cs:=Nat.mul_div_cancel_left _ hc;have hq:(i*RJ cs+r)/RJ cs=i:=by rw[Nat.add_comm,Nat.add_mul_div_right _ _ hp,Nat.div_eq_of_lt hr,Qi]
  have hm:(i*RJ cs+r)% RJ cs=r:=by rw[Nat.add_comm,Nat.add_mul_mod_self_right,QO hr]
  have e:R9 (i*RJ cs+r) (RJ (c::cs)) (c::cs)=Tz c[i]++R9 r (RJ cs) cs:=by show (match c[(i*RJ cs+r)/(c.length*RJ cs/c.length)]? with|some x=>Tz x|none=>[])++R9 ((i*RJ cs+r)% (c.length*RJ cs/c.length)) (c.length*RJ cs/c.length) cs=_;rw[hd,hq,hm,PX hi]
  show _=if hs (l++R9 (i*RJ cs+r) (RJ (c::cs)) (c::cs)) then some (l++R9 (i*RJ cs+r) (RJ (c::cs)) (c::cs)) else none
  rw[e,Qc]
theorem aoB {β:Type}(p:Nat->Bool)(f:Nat->β):∀l:List Nat,l.findSome? (fun k=>if p k then some (f k) else none)=(l.find? p).map f
 | []=>rfl|x::l=>by
  rw[List.findSome?_cons,List.find?_cons];cases p x with
  |true=>rfl|false=>exact aoB p f l
theorem avs {hs:List Attr->Bool}{t:List (List Q7)}(h:∀c∈t,0<c.length):VL hs t=match Ww hs t [] with|some l=>(l,false)|none=>([],true):=by rw[aoA hs t [] h];simp only[List.nil_append];rw[aoB (fun k=>hs (R9 k (RJ t) t)) (fun k=>R9 k (RJ t) t)];unfold VL;cases (List.range (RJ t)).find? (fun k=>hs (R9 k (RJ t) t))<;>rfl
theorem avt {n:Nat}(h:1<=n):Vo (1:Int) n=true:=by unfold Vo;exact decide_eq_true ⟨by omega,by omega⟩
theorem aoC {a k:Nat}(h:a<2^30)(hk:k<=4096):R7 a k=true:=by
 unfold R7;have h1:a*k<=2^30*4096:=Nat.mul_le_mul (Nat.le_of_lt h) hk;have:a<=2^47:=by omega
 simp only[Pz,decide_eq_true_eq];omega
def aes (x:List Attr):Option (List Attr)->RY
 |some l=>⟨l,false,0⟩|none=>⟨x,true,0⟩
def adr (x:RY):Option (List Attr)->(PUnit×RY)⊕(PUnit×RY)
 |some l=>.inr ((),⟨l,false,0⟩)|none=>.inl ((),x)
theorem avu {U β:Type}(F:U->Option β)(x:U)(l:List U):(x::l).findSome? F=(F x).or (l.findSome? F):=by rw[List.findSome?_cons];cases F x<;>rfl
theorem avv {n g:Nat}{p:Pred}{c:List Q7}{cs:List (List Q7)}{l:List Attr}{r rs:List (List Rv)}{rc:List Rv}(hl:l.length<2^20)(hcn:c.length<2^30)(hrc:rc=c.map toQ)(hr:r=rc::rs)(hrec:∀x∈c,∃z,aa5 n g (rs,(l++Tz x,p))=some (aes z (Ww (fun l=>Sn l p) cs (l++Tz x)))):∀(k i m:Nat)(x6:RY),i+k=c.length->k<m->
 abT n g r l p m ((i:Int),x6)=some (adr x6 ((c.drop i).findSome? (fun x=>Ww (fun l=>Sn l p) cs (l++Tz x)))):=by
 have h0:Fb r (0:Int)=some rc:=by rw[show (0:Int)=((0:Nat):Int) from rfl,adL,hr];rfl
 have hd:List.drop (Int.toNat (1:Int)) r=rs:=by rw[hr];rfl
 have hb:Vo (1:Int) r.length=true:=avt (by rw[hr];simp);have hr1:R7 (0+l.length) 48=true:=aoC (by omega) (by omega);have hlen:rc.length=c.length:=by rw[hrc,PY]
 intro k;induction k with
 |zero=>
  intro i m x6 hi hm;obtain⟨m,rfl⟩:∃m',m=m'+1:=⟨m-1,by omega⟩;obtain rfl:i=c.length:=by omega
  rw[aou];refine bs h0 ?_;rw[<-hlen,Uj,cond_false,hlen,List.drop_length];rfl
 |succ k ih=>
  intro i m x6 hi hm;obtain⟨m,rfl⟩:∃m',m=m'+1:=⟨m-1,by omega⟩;have hlt:i<c.length:=by omega
  have hx:c[i]? =some c[i]:=PX hlt;have hxq:rc[i]? =some (toQ c[i]):=by rw[hrc,List.getElem?_map,hx];rfl
  obtain⟨z,hz⟩:=hrec c[i] (Qy hlt);have hdec:decide ((i:Int)< (rc.length:Int))=true:=TH hxq;have hi2:=ih (i+1) m x6 (by omega) (by omega);rw[Qd hlt,avu];generalize c[i]=x at hx hxq hz⊢;rw[aou];refine bs h0 ?_;rw[hdec,cond_true,hr1,cond_true];refine bs h0 (bs (Td hxq) ?_);rw[TA (by omega)];have hr2:R7 (([]++l).length+[(toQ x).A].length) 48=true:=aoC (by simp;omega) (by omega);have fin:∀(r2:List (List Rv))(l2:List Attr)(p2:Pred),r2=rs->l2=l++Tz x->p2=p->(aa5 n g (r2,(l2,p2))).bind (fun Te:RY=>bif !Te.None then some (Sum.inr ((),Te)) else abT n g r l p m (((i+1:Nat):Int),x6))=some (adr x6 ((Ww (fun l=>Sn l p) cs (l++Tz x)).or ((c.drop (i+1)).findSome? fun x=>Ww (fun l=>Sn l p) cs (l++Tz x)))):=by
   intro r2 l2 p2 q1 q2 q3;rw[q1,q2,q3];refine bs hz ?_;cases Ww (fun l=>Sn l p) cs (l++Tz x) with
   |some l'=>rfl|none=>exact hi2
  cases his:x.is with
  |true=>have e1:(toQ x).Is=true:=his;rw[e1,cond_true];refine bs h0 (bs (Td hxq) ?_);rw[hr2,cond_true,hb,cond_true];exact fin (List.drop (Int.toNat (1:Int)) r) ([]++l++[(toQ x).A]) p.re hd (by unfold Tz;rw[his];rfl) (Pred.Sr p)|false=>have e1:(toQ x).Is=false:=his;rw[e1,cond_false,hb,cond_true];exact fin (List.drop (Int.toNat (1:Int)) r) ([]++l) p.re hd (by unfold Tz;rw[his];simp) (Pred.Sr p)
theorem find_spec {n:Nat}{p:Pred}(hp:RA p<n)(hq:RA p<2^62):∀(t:List (List Q7))(r:List (List Rv))(g:Nat)(l:List Attr),r=t.map (List.map toQ)->(∀c∈t,c.length<2^30/\c.length<n)->l.length+t.length<2^20->l.length+t.length<n->t.length<g->
 ∃z,aa5 n g (r,(l,p))=some (aes z (Ww (fun l=>Sn l p) t l))
 | [],r,g,l,hr,_,h1,h2,hg=>by obtain⟨g,rfl⟩:∃g',g=g'+1:=⟨g-1,by omega⟩;simp only[List.length_nil,Nat.add_zero] at h1 h2;refine⟨l,?_⟩;have hr:r=[]:=hr;subst hr;rw[aov];show (QZ n (p.re,l)).bind (fun r4:Bool=>some (⟨l, !r4,0⟩:RY))=some (aes l (if Sn l p then some l else none));rw[Pred.Sr];refine bs (ash h2 (by omega) hp hq) ?_;cases Sn l p<;>rfl
 |c::cs,r,g,l,hr,hc,h1,h2,hg=>by
  obtain⟨g,rfl⟩:∃g',g=g'+1:=⟨g-1,by omega⟩;rw[List.length_cons] at h1 h2 hg;obtain⟨hc1,hc2⟩:=hc c (PN ..);refine⟨[],?_⟩;have hit:∀x:Q7,(Tz x).length<=1:=fun x=>by unfold Tz;cases x.is<;>simp
  have hr:r=c.map toQ::cs.map (List.map toQ):=hr;have hL:=avv (n:=n) (g:=g) (p:=p) (c:=c) (cs:=cs) (l:=l) (r:=r) (by omega) hc1 rfl hr (fun x _=>find_spec hp hq cs _ g (l++Tz x) rfl (fun y hy=>hc y (PV _ hy)) (by have:=hit x;rw[PK];omega) (by have:=hit x;rw[PK];omega) (by omega)) c.length 0 n ⟨[],false,0⟩ (by omega) hc2;rw[aov];rw[show ((r.length:Int)==(0:Int))=false from by rw[hr,List.length_cons];simp;omega,cond_false];refine bs hL ?_;rw[Qt];show _=some (aes [] (c.findSome? fun x=>Ww (fun l=>Sn l p) cs (l++Tz x)));cases c.findSome? (fun x=>Ww (fun l=>Sn l p) cs (l++Tz x))<;>rfl
end Sh
end
section
open Go Aq
namespace Pq
variable {U:Type}
def TB (e:U->U->Bool):U->List U->List U
 |_,[]=>[]|p,y::l=>bif e y p then TB e y l else y::TB e y l
def comp (e:U->U->Bool):List U->List U
 | []=>[]|x::l=>x::TB e x l
theorem E8 (e:U->U->Bool)(y:U):∀(m:List U)(p:U),TB e p (m++[y])=bif e y ((p::m).getLast (by simp)) then TB e p m else TB e p m++[y]
 | [],p=>by show (bif e y p then [] else [y])=bif e y p then [] else [y];rfl|x::m,p=>by
  have ih:=E8 e y m x;have el:(p::x::m).getLast (by simp)=(x::m).getLast (by simp):=by simp
  rw[el];show (bif e x p then TB e x (m++[y]) else x::TB e x (m++[y]))=bif e y ((x::m).getLast (by simp)) then (bif e x p then TB e x m else x::TB e x m) else (bif e x p then TB e x m else x::TB e x m)++[y];rw[ih];cases e x p<;>cases e y ((x::m).getLast (by simp))<;>rfl
theorem tH (e:U->U->Bool)(d:U){l:List U}{k:Nat}(h0:0<k)(h1:k<l.length):comp e (l.take (k+1))=bif e (gI d l (k:Int)) (gI d l ((k:Int)-1)) then comp e (l.take k) else comp e (l.take k)++[gI d l (k:Int)]:=by
 have e1:gI d l (k:Int)=l[k]:=by unfold gI;rw[Int.toNat_natCast,PX h1];rfl
 have e2:gI d l ((k:Int)-1)=l[k-1]'(by omega):=by unfold gI;rw[show ((k:Int)-1).toNat=k-1 by omega,PX (by omega)];rfl
 rw[e1,e2];cases l with
 |nil=>simp at h1|cons x l=>
  obtain⟨k,rfl⟩:∃k',k=k'+1:=⟨k-1,by omega⟩;have hk:k<l.length:=by simpa using h1
  have et:(x::l).take (k+1+1)=x::(l.take k++[l[k]]):=by rw[List.take_succ_cons,<-List.take_append_getElem hk]
  rw[et,List.take_succ_cons];show x::TB e x (l.take k++[l[k]])=bif e ((x::l)[k+1]) ((x::l)[k+1-1]) then x::TB e x (l.take k) else (x::TB e x (l.take k))++[(x::l)[k+1]];rw[E8];have el:(x::l.take k).getLast (by simp)=(x::l)[k+1-1]:=by
   rw[List.getLast_eq_getElem];simp only[List.length_cons,Qa,Nat.add_sub_cancel];cases k with
   |zero=>simp|succ k=>simp only[Nat.min_eq_left (Nat.le_of_lt hk),List.getElem_cons_succ,List.getElem_take]
  rw[el];show x::(bif e l[k] _ then _ else _)=bif e l[k] _ then _ else _;cases e l[k] ((x::l)[k+1-1])<;>rfl
theorem E9 {D:List U}{w:Int}{x:U}(h0:0<=w)(h1:w<D.length):(Rc D w x).take (w+1).toNat=D.take w.toNat++[x]:=by
 obtain⟨k,rfl⟩:∃k:Nat,w=(k:Int):=⟨w.toNat,by omega⟩;have hk:k<D.length:=by omega
 rw[show (((k:Nat):Int)+1).toNat=k+1 by omega,Int.toNat_natCast];unfold Rc;rw[Int.toNat_natCast];rw[<-List.take_append_getElem (by rw[List.length_set];exact hk),List.getElem_set_self,List.take_set_of_le (mF _)]
section
variable {n:Nat}(d:U){z:U}{e:U->U->Bool}{Ok:U->Prop}{sm:U×U->Option Bool}(hs:∀a b,Ok a->Ok b->sm (a,b)=some (e a b)){C9:Int->(List U)->Nat->((Int×Int)×List U)->Option (Int×List U)}{C4:Nat->(Int×List U)->Option ((PUnit×List U)⊕((Int×Int)×List U))}{cpt:Unit×Unit×Unit->List U->Option ((Int×Int)×List U)}(h9:∀(x2:Int) (x3:List U) (m:Nat) (x7 x8:Int) (x9:List U),C9 x2 x3 (m+1) ((x7,x8),x9)=bif decide (x8< (((Int.toNat (((0:Int)+((x3.length:Int)-(0:Int)))-((0:Int)+x2)):Nat):Int))) then bif UK x8 (((0:Int)+((x3.length:Int)-(0:Int)))-((0:Int)+x2)) then (Fb x9 (((0:Int)+x2)+x8)).bind fun (RZ:U)=>bif UK (wrap .i64 (x8-(1:Int))) (((0:Int)+((x3.length:Int)-(0:Int)))-((0:Int)+x2)) then (Fb x9 (((0:Int)+x2)+(wrap .i64 (x8-(1:Int))))).bind fun (Rw:U)=>(sm ((RZ,Rw))).bind fun (Te:Bool)=>bif !Te then bif UK x8 (((0:Int)+((x3.length:Int)-(0:Int)))-((0:Int)+x2)) then (Fb x9 (((0:Int)+x2)+x8)).bind fun (RQ:U)=>bif decide (0<=x7/\x7< (x9.length:Int)) then (Fb x9 x7).bind fun (Tq:U)=>
         C9 x2 x3 m (((wrap .i64 (x7+(1:Int)),wrap .i64 (x8+(1:Int))),Rc x9 x7 RQ))else none else none else C9 x2 x3 m (((x7,wrap .i64 (x8+(1:Int))),x9))else none else none else some ((x7,x9)))(h4:∀(m:Nat) (x2:Int) (x3:List U),C4 (m+1) (x2,x3)=bif decide (x2< (x3.length:Int)) then bif decide (0<=x2/\x2< (x3.length:Int)) then (Fb x3 x2).bind fun (r4:U)=>bif decide (0<=(wrap .i64 (x2-(1:Int)))/\(wrap .i64 (x2-(1:Int)))< (x3.length:Int)) then (Fb x3 (wrap .i64 (x2-(1:Int)))).bind fun (r5:U)=>(sm ((r4,r5))).bind fun (r6:Bool)=>bif r6 then bif VE x2 ((x3.length:Int)-(0:Int)) ((x3.length:Int)-(0:Int)) then (C9 x2 x3 n (((x2,(1:Int)),x3))).bind fun (Ti:Int×List U)=>bif VE Ti.1 ((Ti.2.length:Int)-(0:Int)) ((Ti.2.length:Int)-(0:Int)) then bif VE (0:Int) Ti.1 (((((U3 Ti.2 ((0:Int)+Ti.1) ((0:Int)+((Ti.2.length:Int)-(0:Int))) z).length:Nat):Int))-(0:Int)) then some (.inr ((((0:Int)+(0:Int),(0:Int)+Ti.1),U3 Ti.2 ((0:Int)+Ti.1) ((0:Int)+((Ti.2.length:Int)-(0:Int))) z)))else none else none else none else C4 m ((wrap .i64 (x2+(1:Int)),x3))else none else none else some (.inl (((),x3))))(hP:∀(x1:List U),cpt (((),((),()))) (x1)=bif decide ((x1.length:Int)< (2:Int)) then some ((((0:Int),(x1.length:Int)),x1))else (C4 n (((1:Int),x1))).bind fun (r16:(PUnit×List U)⊕((Int×Int)×List U))=>
    Sum.elim (fun (q17:PUnit×List U)=>some ((((0:Int),(q17.2.length:Int)),q17.2)))
     (fun (q18:(Int×Int)×List U)=>some (((q18.1.1,q18.1.2),q18.2))) r16)
include d hs h9
theorem OX {l:List U}{k:Int}{m:Nat}(hk:1<=k)(hkl:k<l.length)(hb:l.length<2^57)(hal:Al Ok l)(h0:l.take k.toNat=comp e (l.take (k.toNat+1)))(hm:l.length<m):
 ∃r,C9 k l m ((k,1),l)=some r/\k<=r.1/\r.1<=l.length/\r.2.length=l.length/\r.2.take r.1.toNat=comp e l:=by
 refine mu (τ:=(Int×Int)×List U) (L:=C9 k l) (fun p=>1<=p.1.2/\p.1.2<=l.length-k/\k<=p.1.1/\p.1.1<=k+p.1.2-1/\p.2.length=l.length/\(∀j,k+p.1.2-1<=j->j<l.length->gI d p.2 j=gI d l j)/\p.2.take p.1.1.toNat=comp e (l.take (k+p.1.2).toNat)) (fun p=>(l.length-p.1.2).toNat) _ ?_ m ((k,1),l)
  ⟨PZ _,by dsimp only;omega,PZ _,by dsimp only;omega,rfl,fun j _ _=>rfl,by rw[show (k+1).toNat=k.toNat+1 by omega];exact h0⟩ (by dsimp only;omega)
 rintro m ⟨⟨w,q⟩,D⟩ ⟨i1,i2,i3,i4,i5,i6,i7⟩ aJ;dsimp only at i1 i2 i3 i4 i5 i6 i7 aJ⊢;rw[h9];simp only[Int.zero_add,Int.sub_zero,UK];simp (disch:=omega) only[wr];refine tD (fun hq=>?_) (fun hq=>tS ⟨i3,by omega,i5,?_⟩)
 .refine tG (decide_eq_true (by omega)) (tE (aB d (by omega) (by omega)) (tG (decide_eq_true (by omega)) (tE (aB d (by omega) (by omega)) ?_)));have g1:gI d D (k+q)=gI d l (k+q):=i6 _ (by omega) (by omega);have g2:gI d D (k+(q-1))=gI d l (k+q-1):=by rw[show k+(q-1)=k+q-1 by omega];exact i6 _ (by omega) (by omega)
  rw[g1,g2];refine tE (hs _ _ (hal.at d (by omega) (by omega)) (hal.at d (by omega) (by omega))) ?_;have hct:=tH e d (l:=l) (k:=(k+q).toNat) (by omega) (by omega);rw[show (((k+q).toNat:Nat):Int)=k+q by omega,<-i7] at hct;cases he:e (gI d l (k+q)) (gI d l (k+q-1)) with
  |false=>
   rw[he,cond_false] at hct;rw[Bool.not_false,cond_true];refine tG (decide_eq_true (by omega)) (tE (aB d (by omega) (by omega)) (tI (by omega) (by omega) (tE (aB d (by omega) (by omega)) ?_)));rw[g1];refine aJ ((w+1,q+1),Rc D w (gI d l (k+q))) ⟨by dsimp only;omega,by dsimp only;omega,by dsimp only;omega,by dsimp only;omega,by dsimp only;rw[ay,i5],fun j j1 j2=>?_,?_⟩ (by dsimp only;omega)
   .dsimp only at j1⊢;rw[tF (by omega) (by omega) (by omega),if_neg (by omega)];exact i6 j (by omega) j2
   .dsimp only;rw[E9 (by omega) (by omega),show (k+(q+1)).toNat=(k+q).toNat+1 by omega,hct]
  |true=>rw[he,cond_true] at hct;rw[Bool.not_true,cond_false];refine aJ ((w,q+1),D) ⟨by dsimp only;omega,by dsimp only;omega,i3,by dsimp only;omega,i5,fun j j1 j2=>i6 j (by dsimp only at j1;omega) j2,?_⟩ (by dsimp only;omega);dsimp only;rw[show (k+(q+1)).toNat=(k+q).toNat+1 by omega,hct]
 .dsimp only;rw[i7,Qx (by omega)]
include h4 hP
theorem avw {l:List U}(hb:l.length<2^57)(hal:Al Ok l)(hn:l.length<n):
 ∃r,cpt ((),(),()) l=some r/\r.1.1=0/\0<=r.1.2/\r.1.2<=r.2.length/\r.2.take r.1.2.toNat=comp e l:=by
 rw[hP];refine tD (fun h2=>tS ⟨rfl,by dsimp only;omega,by dsimp only;omega,?_⟩) (fun h2=>?_)
 .dsimp only;rw[Qx (by omega)]
  match l,h2 with
  | [],_=>rfl| [x],_=>rfl|x::y::l,h2=>simp at h2;omega
 refine tB (Q:=fun s=>Sum.elim (fun q:PUnit×List U=>q.2=l/\comp e l=l) (fun q:(Int×Int)×List U=>q.1.1=0/\0<=q.1.2/\q.1.2<=q.2.length/\q.2.take q.1.2.toNat=comp e l) s) ?_ fun s hs'=>?_
 .refine mu (τ:=Int×List U) (L:=C4) (fun p=>1<=p.1/\p.1<=l.length/\p.2=l/\comp e (l.take p.1.toNat)=l.take p.1.toNat) (fun p=>(l.length-p.1).toNat) _ ?_ n (1,l) ⟨PZ _,by dsimp only;omega,rfl,?_⟩ (by dsimp only;omega)
  .rintro m ⟨k,D⟩ ⟨i1,i2,i3,i4⟩ aJ;dsimp only at i1 i2 i3 i4 aJ⊢;subst i3;rw[h4];simp only[Int.zero_add,Int.sub_zero,VE];simp (disch:=omega) only[wr];refine tD (fun hk=>?_) (fun hk=>tS ⟨rfl,?_⟩)
   .refine tI (by omega) (by omega) (tE (aB d (by omega) (by omega)) (tI (by omega) (by omega) (tE (aB d (by omega) (by omega)) (tE (hs _ _ (hal.at d (by omega) (by omega)) (hal.at d (by omega) (by omega))) ?_))));have hct:=tH e d (l:=D) (k:=k.toNat) (by omega) (by omega);rw[show (k.toNat:Int)=k by omega] at hct;cases he:e (gI d D k) (gI d D (k-1)) with
    |true=>rw[he,cond_true] at hct;rw[cond_true];refine tG (decide_eq_true (by omega)) ?_;refine tB (OX (d:=d) hs h9 (l:=D) (k:=k) i1 hk hb hal (by rw[hct,i4]) hn) fun r=>?_;rintro⟨r1,r2,r3,r4⟩;refine tG (decide_eq_true (by omega)) ?_;have hcl:(U3 r.2 r.1 (r.2.length:Int) z).length=r.2.length:=(by unfold U3;rw[PK,PK,Qa,List.length_replicate,QJ];omega);rw[hcl];refine tG (decide_eq_true (by omega)) (tS ⟨rfl,by dsimp only;omega,by dsimp only;rw[hcl];omega,?_⟩);dsimp only;unfold U3;rw[QV (by rw[Qa];omega),List.take_take,Nat.min_self];exact r4
    |false=>rw[he,cond_false] at hct;rw[cond_false];refine aJ (k+1,D) ⟨by dsimp only;omega,by dsimp only;omega,rfl,?_⟩ (by dsimp only;omega);dsimp only;rw[show (k+1).toNat=k.toNat+1 by omega,hct,i4];have hlt:k.toNat<D.length:=(by omega);have eg:gI d D k=D[k.toNat]:=(by unfold gI;rw[PX hlt];rfl);rw[eg,List.take_append_getElem hlt]
   .rw[Qx (by omega)] at i4;exact i4
  .dsimp only
   match l,h2 with
   | [],h2=>simp at h2|x::l,_=>rfl
 .rcases s with q|q
  .obtain⟨e1,e2⟩:=hs';refine tS ⟨rfl,by dsimp only;omega,by dsimp only;omega,?_⟩;dsimp only;rw[Qx (by omega),e1,e2]
  .exact tS hs'
end
end Pq
end
section
open Go Go.Proofs Aq Pq
namespace Sh
def Ul (nm:List UInt8)(x:Pred):Bool:=bif x.Op==(6:Int) then x.Name==nm else false
def VA (x:Pred)(v:Int):Bool:=bif decide (v>=x.N) then decide (v<=x.M) else false
def S9 (nm:List UInt8)(l:List Pred)(v:Int):List Bool:=(l.filter (Ul nm)).map fun x=>VA x v
def Z8 (d:Def)(x:Pred):List Int:=(bif (bif decide (x.N>d.Lo) then decide (x.N<=d.Hi) else false) then [x.N] else [])++(bif (bif decide (x.M>=d.Lo) then decide (x.M<d.Hi) else false) then [x.M+1] else [])
def TM (d:Def)(l:List Pred):List Int:=(l.filter (Ul d.Name)).flatMap (Z8 d)
theorem aoE {d:Def}{x:Pred}{v:Int}:v∈Z8 d x↔(v=x.N/\d.Lo<x.N/\x.N<=d.Hi)\/(v=x.M+1/\d.Lo<=x.M/\x.M<d.Hi):=by
 unfold Z8;rw[List.mem_append];refine or_congr ?_ ?_
 .by_cases h1:x.N>d.Lo<;>by_cases h2:x.N<=d.Hi<;>simp[h1,h2]<;>first|done| (intro _;omega)|omega
 .by_cases h1:x.M>=d.Lo<;>by_cases h2:x.M<d.Hi<;>simp[h1,h2]<;>first|done| (intro _;omega)|omega
theorem aeu {d:Def}{l:List Pred}{v:Int}(h:v∈TM d l):d.Lo<v/\v<=d.Hi:=by unfold TM at h;obtain⟨x,_,hx⟩:=List.mem_flatMap.1 h;rcases aoE.1 hx with ⟨rfl,h1,h2⟩| ⟨rfl,h1,h2⟩<;>omega
theorem af8 {x:Pred}{v:Int}:VA x v=true↔x.N<=v/\v<=x.M:=by
 unfold VA;by_cases h:v>=x.N
 .rw[decide_eq_true h,cond_true,decide_eq_true_iff];omega
 .rw[decide_eq_false h,cond_false];simp;omega
theorem avx {d:Def}{l:List Pred}{v:Int}(h1:d.Lo<v)(h2:v<=d.Hi)(h:S9 d.Name l v≠S9 d.Name l (v-1)):v∈TM d l:=by
 unfold S9 at h;have:∃x∈l.filter (Ul d.Name),VA x v≠VA x (v-1):=by refine Classical.byContradiction fun hn=>h ?_;refine QL fun x hx=>?_;exact Classical.byContradiction fun hne=>hn ⟨x,hx,hne⟩
 obtain⟨x,hx,hne⟩:=this;unfold TM;refine List.mem_flatMap.2 ⟨x,hx,aoE.2 ?_⟩;cases ha:VA x v with
 |true=>have ha':=af8.1 ha;have hb:¬(x.N<=v-1/\v-1<=x.M):=fun k=>hne (by rw[ha,af8.2 k]);exact .inl (by omega)
 |false=>
  have ha':¬(x.N<=v/\v<=x.M):=fun k=>by rw[af8.2 k] at ha;cases ha
  have hb:x.N<=v-1/\v-1<=x.M:=by
   refine af8.1 ?_;cases hc:VA x (v-1) with
   |true=>rfl|false=>exact absurd (ha.trans hc.symm) hne
  exact .inr (by omega)
def RS (t:Int->List Bool):List Int->List Int
 | []=>[]|y::l=>bif t (y-1)==t y then RS t l else y::RS t l
theorem aoF (t:Int->List Bool)(p:Int):∀k:Nat,(∀v,p<v->v<=p+k->t v=t (v-1))->t (p+k)=t p
 |0,_=>by rw[show p+((0:Nat):Int)=p by omega]|k+1,h=>by rw[h (p+((k+1:Nat):Int)) (by omega) (by omega),show p+((k+1:Nat):Int)-1=p+(k:Int) by omega];exact aoF t p k fun v h1 h2=>h v h1 (by omega)
theorem aoG {t:Int->List Bool}{hi:Int}:∀(S:List Int)(p:Int),(p::S).Pairwise (· < ·)->(∀x∈S,x<=hi)->(∀v,p<v->v<=hi->t v≠t (v-1)->v∈S)->TB (fun a b=>t a==t b) p S=RS t S
 | [],_,_,_,_=>rfl|y::S,p,hs,hh,hb=>by
  have hs1:=List.pairwise_cons.1 hs;have hs2:=List.pairwise_cons.1 hs1.2;have hpy:p<y:=hs1.1 y (PN ..);have hc:t (y-1)=t p:=by
   have:=aoF t p (y-1-p).toNat fun v h1 h2=>by
    refine Classical.byContradiction fun hne=>?_;have hy:=hh y (PN ..);have hm:=hb v h1 (by omega) hne;rcases PI.1 hm with rfl|hm
    .omega
    .have:=hs2.1 v hm;omega
   rw[show p+(((y-1-p).toNat:Nat):Int)=y-1 by omega] at this;exact this
  have ih:=aoG S y hs1.2 (fun x hx=>hh x (PV _ hx)) fun v h1 h2 h3=>by
   rcases PI.1 (hb v (by omega) h2 h3) with rfl|h
   .omega
   .exact h
  show (bif t y==t p then TB _ y S else y::TB _ y S)=bif t (y-1)==t y then RS t S else y::RS t S;rw[ih,hc];have:(t y==t p)=(t p==t y):=by
   by_cases h:t y=t p
   .rw[h]
   .rw[beq_eq_false_iff_ne.2 h,beq_eq_false_iff_ne.2 (Ne.symm h)]
  rw[this]
theorem avy {t:Int->List Bool}{hi p:Int}{S:List Int}(h1:(p::S).Pairwise (· < ·))(h2:∀x∈S,x<=hi)(h3:∀v,p<v->v<=hi->t v≠t (v-1)->v∈S):comp (fun a b=>t a==t b) (p::S)=p::RS t S:=by show p::TB _ p S=_;rw[aoG S p h1 h2 h3]
def VB (last:Int):List Int->Int->Int
 | [],m=>m|c::cs,m=>VB last cs (bif (bif decide (c>last) then decide (c<m) else false) then c else m)
theorem ak1 (last:Int):∀(cs:List Int)(m:Int),VB last cs m<=m/\(∀c∈cs,last<c->VB last cs m<=c)/\(VB last cs m=m\/(VB last cs m∈cs/\last<VB last cs m))
 | [],m=>⟨PZ _,(fun c hc=>by cases hc),.inl rfl⟩
 |c::cs,m=>by
  have hif:(bif (bif decide (c>last) then decide (c<m) else false) then c else m)=if last<c/\c<m then c else m:=by by_cases h1:c>last<;>by_cases h2:c<m<;>simp[h1,h2]<;>intro _<;>omega
  obtain⟨h1,h2,h3⟩:=ak1 last cs (if last<c/\c<m then c else m);unfold VB;rw[hif];by_cases hc:last<c/\c<m
  .rw[if_pos hc] at*;refine⟨by omega,fun x hx hl=>?_,?_⟩
   .rcases PI.1 hx with rfl|hx
    .exact h1
    .exact h2 x hx hl
   .rcases h3 with h3|h3
    .rw[h3];exact .inr ⟨PN ..,hc.1⟩
    .exact .inr ⟨PV _ h3.1,h3.2⟩
  .rw[if_neg hc] at*;refine⟨h1,fun x hx hl=>?_,?_⟩
   .rcases PI.1 hx with rfl|hx
    .omega
    .exact h2 x hx hl
   .rcases h3 with h3|h3
    .exact .inl h3
    .exact .inr ⟨PV _ h3.1,h3.2⟩
theorem avz {last m y:Int}{cs S:List Int}(hs:(y::S).Pairwise (· < ·))(hm:∀x,last<x->(x∈cs↔x∈y::S))(hy:last<y)(hlt:y<m):VB last cs m=y:=by
 obtain⟨h1,h2,h3⟩:=ak1 last cs m;have ha:=h2 y ((hm y hy).2 (PN ..)) hy;rcases h3 with h3| ⟨h3,h4⟩
 .omega
 .rcases PI.1 ((hm _ h4).1 h3) with h|h
  .exact h
  .have:=(List.pairwise_cons.1 hs).1 _ h;omega
theorem avA {last m:Int}{cs:List Int}(hm:∀x,last<x->x∉cs):VB last cs m=m:=by
 obtain⟨h1,h2,h3⟩:=ak1 last cs m;rcases h3 with h3| ⟨h3,h4⟩
 .exact h3
 .exact absurd h3 (hm _ h4)
theorem avB {l:List Int}(h:l.Pairwise fun x y=>¬y<x):∀p,(∀y∈l,p<=y)->(∀y∈TB (fun a b=>a==b) p l,p<y)/\(TB (fun a b=>a==b) p l).Pairwise (· < ·)/\∀x,x∈p::TB (fun a b=>a==b) p l↔x∈p::l:=by
 induction l with
 |nil=>intro p _;exact⟨(fun y hy=>by cases hy),.nil,fun x=>Iff.rfl⟩
 |cons z l ih=>
  intro p hp;have h':=List.pairwise_cons.1 h;have hpz:=hp z (PN ..);obtain⟨i1,i2,i3⟩:=ih h'.2 z fun y hy=>by have:=h'.1 y hy;omega
  show (∀y∈(bif z==p then TB _ z l else z::TB _ z l),p<y)/\(bif z==p then TB _ z l else z::TB _ z l).Pairwise (· < ·)/\_;by_cases e:z=p
  .subst e;have:(z==z)=true:=by simp
   refine⟨by rw[this];exact i1,by rw[this];exact i2,fun x=>?_⟩;show x∈z::(bif z==z then TB _ z l else z::TB _ z l)↔_;rw[this,cond_true,i3];simp
  .have:(z==p)=false:=by simpa using e
   refine⟨?_,?_,fun x=>?_⟩
   .rw[this];intro y hy;rcases PI.1 hy with rfl|hy
    .omega
    .have:=i1 y hy;omega
   .rw[this];exact List.pairwise_cons.2 ⟨i1,i2⟩
   .show x∈p::(bif z==p then TB _ z l else z::TB _ z l)↔_;rw[this,cond_false,PI,i3,PI (a:=x) (b:=p)]
theorem avC {l:List Int}(h:l.Pairwise fun x y=>¬y<x):(comp (fun a b=>a==b) l).Pairwise (· < ·)/\∀x,x∈comp (fun a b=>a==b) l↔x∈l:=by
 cases l with
 |nil=>exact⟨.nil,fun x=>Iff.rfl⟩
 |cons z l=>
  have h':=List.pairwise_cons.1 h;obtain⟨i1,i2,i3⟩:=avB h'.2 z fun y hy=>by have:=h'.1 y hy;omega
  exact⟨List.pairwise_cons.2 ⟨i1,i2⟩,i3⟩
end Sh
end
section
open Go Go.Proofs Aq
namespace Sh
def Yp:List Pred->List Pred->List Pred
 |acc,[]=>acc|acc,x::l=>if acc.length<1000 then Yp (acc++(pre x).take 1000) l else acc
theorem aoH:∀(l acc:List Pred),(Yp acc l).take 1000=(acc++U6 l).take 1000
 | [],acc=>by simp[Yp,U6]|x::l,acc=>by
  rw[Yp,U6];split
  .rename_i h;rw[aoH l,<-Qc];by_cases h2:(pre x).length<=1000
   .rw[Qx h2]
   .have l1:1000<=(acc++(pre x).take 1000).length:=(by rw[PK,Qa];omega);have l2:1000<=(acc++pre x).length:=(by rw[PK];omega);rw[QV l1,QV l2,List.take_append,List.take_append,List.take_take];congr 2;omega
  .rename_i h;rw[QV (by omega)]
theorem avD {a:Nat}(h:a<2000):R7 a 80=true:=by unfold R7;rw[Pz,decide_eq_true_iff,decide_eq_true_iff];exact⟨by omega,by omega⟩
theorem aoI {n:Nat}:∀(g:Nat)(p:Pred),RA p<=g->RA p<n->RA p<2^62->acM n g p=some ((pre p).take 1000)
 |0,p,hg,_,_=>by have:=acL p;omega|g+1,p,hg,hn,hp=>by
  have hs:=afB p;have hlen:=adM p.Rj;have:=ahH (L:=fun m (s:List Pred) i=>abd n g p m (s,i)) (l:=p.Rj) (fun x _ s k=>if s.length<1000 then k (s++(pre x).take 1000) else some s) (fun s=>some s)
   (fun m i x s hx=>by
     have hlt:=UW hx;have hm:x∈p.Rj:=Qj hx;have hsz:=adN hm;show abd n g p (m+1) (s,(i:Int))=_;rw[anS,TH hx,Td hx,TA (by omega)];simp only[cond_true,Option.bind_some,Pred.Sr];rw[aoI g x (by omega) (by omega) (by omega)];by_cases h:s.length<1000
     .have e:decide ((s.length:Int)< (1000:Int))=true:=(by simp;omega);have hl:((pre x).take 1000).length<=1000:=(by simp;omega);rw[e,if_pos h,cond_true];show (bif R7 (s.length+((pre x).take 1000).length) 80 then _ else none)=_;rw[avD (by omega)];rfl
     .have e:decide ((s.length:Int)< (1000:Int))=false:=(by simp;omega);rw[e,if_neg h];rfl)
   (fun m s=>by show abd n g p (m+1) (s,((p.Rj.length:Nat):Int))=_;rw[anS,Uj];rfl) (fun x i s k k' hk=>by rw[hk]) p.Rj.length 0 n [p] (by omega) (by omega)
  have key:∀(l:List Pred)(i:Nat)(s:List Pred),foldI (fun (x:Pred) (_:Nat) (s:List Pred) (k:List Pred->Option (List Pred))=>if s.length<1000 then k (s++(pre x).take 1000) else some s) (fun s=>some s) i l s=some (Yp s l):=by
   intro l;induction l with
   |nil=>intro i s;rfl|cons x l ih=>
    intro i s;show (if s.length<1000 then foldI _ _ (i+1) l (s++(pre x).take 1000) else some s)=_;rw[Yp];split
    .exact ih (i+1) _
    .rfl
  rw[Qt,key] at this;have abO:abd n g p n ([p],(0:Int))=some (Yp [p] p.Rj):=this;rw[auv,Pred.Sr,abO,Option.bind_some,pre_eq];have ht:=aoH p.Rj [p];have e2:Int.toNat (1000:Int)=1000:=rfl;by_cases h:(Yp [p] p.Rj).length>1000
  .have e:decide ((((Yp [p] p.Rj).length:Nat):Int)> (1000:Int))=true:=by simp;omega
   have e3:Vo (1000:Int) (Yp [p] p.Rj).length=true:=by unfold Vo;simp;omega
   rw[e,cond_true,e3,cond_true,e2,ht];rfl
  .have e:decide ((((Yp [p] p.Rj).length:Nat):Int)> (1000:Int))=false:=by simp;omega
   rw[e,cond_false];rw[Qx (by omega)] at ht;rw[ht];rfl
theorem ak2 {n:Nat}{p:Pred}(hn:RA p<n)(hp:RA p<2^62):QY n p=some ((pre p).take 1000):=by
 have e:QY n p=acM n n p:=by unfold QY;rfl
 rw[e,aoI n p (by omega) hn hp]
theorem abU {U β Y:Type}{L:Nat->Y->Int->Option β}{l:List U}(hs:∀m (i:Nat) x s,l[i]? =some x->(∀s,∃r,L m s ((i+1:Nat):Int)=some r)->∃r,L (m+1) s (i:Int)=some r)(hf:∀m s (i:Nat),l.length<=i->∃r,L (m+1) s (i:Int)=some r):
 ∀(k i m:Nat)(s:Y),l.length<=i+k->k<m->∃r,L m s (i:Int)=some r:=by
 intro k;induction k with
 |zero=>intro i m s hi hm;obtain⟨m,rfl⟩:∃m',m=m'+1:=⟨m-1,by omega⟩;exact hf m s i (by omega)
 |succ k ih=>
  intro i m s hi hm;obtain⟨m,rfl⟩:∃m',m=m'+1:=⟨m-1,by omega⟩;by_cases h:l.length<=i
  .exact hf m s i h
  .exact hs m i _ s (PX (by omega)) fun s=>ih (i+1) m s (by omega) (by omega)
theorem abV {U:Type}{l:List U}{i:Nat}(h:l.length<=i):decide ((i:Int)< (l.length:Int))=false:=by simp;omega
theorem Wh {U:Type}{c:Bool}{a b:Option U}(ha:∃r,a=some r)(hb:∃r,b=some r):∃r,(bif c then a else b)=some r:=by
 cases c
 .exact hb
 .exact ha
theorem aoJ {n:Nat}{p:Pred}(hn:RA p<n)(hp:RA p<2^62):ZX n p=some (((((pre p).take 1000).length:Nat)):Int):=by rw[auw,Pred.Sr,ak2 hn hp];rfl
theorem aoK {n:Nat}:∀(g:Nat)(p:Pred)(k:Int),RA p<=g->RA p<n->RA p<2^62->∃b:Bool,abP n g (p,k)=some b
 |0,p,k,hg,_,_=>by have:=acL p;omega|g+1,p,k,hg,hn,hp=>by
  have hs:=afB p;have hlen:=adM p.Rj;obtain⟨r,hr⟩:=abU (L:=fun m (_:Unit) i=>abe n g p k m i) (l:=p.Rj)
   (fun m i x _ hx ih=>by have hlt:=UW hx;have hsz:=adN (Qj hx);show∃r,abe n g p k (m+1) (i:Int)=some r;obtain⟨b,hb⟩:=aoK (n:=n) g x (wrap .i64 (k-(1:Int))) (by omega) (by omega) (by omega);rw[anT,TH hx,Td hx,TA (by omega),cond_true,Option.bind_some,Pred.Sr,hb];show∃r,(bif !b then _ else _)=some r;exact Wh ⟨_,rfl⟩ (ih ()))
   (fun m _ i hi=>by show∃r,abe n g p k (m+1) (i:Int)=some r;rw[anT,abV hi];exact⟨_,rfl⟩) p.Rj.length 0 n () (by omega) (by omega)
  have hr':abe n g p k n (0:Int)=some r:=hr;obtain⟨z,hz⟩:=afA (c:= !(decide (k< (1:Int)))) (o:=ZX n p) (d:=(0:Int)) (fun _=>⟨_,aoJ hn hp⟩);rw[anU,Pred.Sr];show∃b:Bool,Option.bind (Ur _ _ _) _=some b;rw[hz];show∃b:Bool,(bif _ then some false else _)=some b;refine Wh ⟨_,rfl⟩ ?_;rw[hr',Option.bind_some];cases r with
  |inl q=>exact⟨true,rfl⟩|inr q=>exact⟨q,rfl⟩
theorem aoL {n:Nat}{p:Pred}{k:Int}(hn:RA p<n)(hp:RA p<2^62):∃b:Bool,QQ n (p,k)=some b:=by
 have e:QQ n (p,k)=abP n n (p,k):=by unfold QQ;rfl
 rw[e];exact aoK n p k (by omega) hn hp
mutual
theorem WV:∀p:Pred,(pre p).length=RA p
 | ⟨op,name,n,m,s,subs⟩=>by simp only[pre,RA,List.length_cons,aoM subs]
theorem aoM:∀l:List Pred,(U6 l).length=Ws l
 | []=>rfl|p::l=>by simp only[U6,Ws,PK,WV p,aoM l]
end
theorem ac0 {p:Pred}(h:RA p<2^62):VN p=some (pre p):=by unfold VN;rw[WV,if_pos h]
theorem aoN {n:Nat}:∀(l:List Pred)(c:Nat),c<1000->aaz n l ((),(c:Int))=some (if c+l.length<1000 then .inl ((),((c+l.length:Nat):Int)) else .inr ((),(1000:Int)))
 | [],c,hc=>by rw[auF,if_pos (by simpa using hc)];rfl|x::l,c,hc=>by
  have:=auG n x l (c:Int);rw[show aaz n (x::l) ((),(c:Int))=_ from this,TA (by omega)];by_cases h:c+1=1000
  .have e:((((c+1:Nat):Int))==(1000:Int))=true:=by rw[h];rfl
   rw[e,cond_true,if_neg (by simp;omega),h];rfl
  .have e:((((c+1:Nat):Int))==(1000:Int))=false:=by simp;omega
   rw[e,cond_false];have:=aoN (n:=n) l (c+1) (by omega);rw[show aaz n l ((),(((c+1:Nat):Int)))=_ from this];have e2:c+1+l.length=c+(x::l).length:=by simp;omega
   rw[e2]
theorem avE {n:Nat}{p:Pred}(h:RA p<2^62):Zz n p=some ((((pre p).take 1000).length:Nat):Int):=by
 rw[auH,Pred.Sr];refine bs (acV n p) ?_;show ((VN p.re).bind _).bind _=_;rw[Pred.Sr];rw[ac0 h,Option.bind_some];have:=aoN (n:=n) (pre p) 0 (by omega);rw[show aaz n (pre p) ((),(0:Int))=_ from this,Qi];by_cases c:(pre p).length<1000
 .rw[if_pos c,Qx (by omega)];rfl
 .rw[if_neg c,Qa,Nat.min_eq_left (by omega)];rfl
end Sh
end
section
open Go Go.Proofs Aq
namespace Sh
def aaD (a b:Int):Int:=bif decide (a<b) then-1 else bif decide (a>b) then 1 else 0
def orL:List Int->Int
 | []=>0|x::l=>bif x !=0 then x else orL l
mutual
def WW:Pred->Pred->Int
 | ⟨o,m,a,b,s,l⟩,⟨o',m',a',b',s',l'⟩=>orL [aaD o o',abL m m',aaD a a',aaD b b',abL s s',cmpL l l']
def cmpL:List Pred->List Pred->Int
 | [],[]=>0| [],_::_=>-1|_::_,[]=>1|p::l,q::m=>bif WW p q !=0 then WW p q else cmpL l m
end
def fiv (x y:Pred):List Int:=[aaD x.Op y.Op,abL x.Name y.Name,aaD x.N y.N,aaD x.M y.M,abL x.S y.S]
theorem avG (x y:Pred):WW x y=orL (fiv x y++[cmpL x.Rj y.Rj]):=by cases x;cases y;rfl
end Sh
end
section
open Go Go.Proofs Aq
namespace Sh
def lex (a b:Int):Int:=bif a !=0 then a else b
end Sh
end
section
open Go Aq
namespace Pq
variable {U:Type}
section
variable {d:U}{Ok:U->Prop}{lt:U->U->Prop}{K:{β:Type}->U->U->(Bool->Option β)->Option β}(hc:YU Ok lt K)(ho:Ord lt){L4:Int->Int->Int->Nat->Int×List U->Option (PUnit×List U)}(h4:∀(x1 x2 x4:Int) (m:Nat) (x6:Int) (x7:List U),L4 x1 x2 x4 (m+1) (x6,x7)=bif decide (x6>x1) then bif decide (0<=x6/\x6< (x7.length:Int)) then (Fb x7 x6).bind fun (r8:U)=>bif decide (0<=(wrap .i64 (x6-(1:Int)))/\(wrap .i64 (x6-(1:Int)))< (x7.length:Int)) then (Fb x7 (wrap .i64 (x6-(1:Int)))).bind fun (r9:U)=>
      K r8 r9 fun (RZ:Bool)=>bif RZ then bif decide (0<=(wrap .i64 (x6-(1:Int)))/\(wrap .i64 (x6-(1:Int)))< (x7.length:Int)) then (Fb x7 (wrap .i64 (x6-(1:Int)))).bind fun (Rw:U)=>bif decide (0<=x6/\x6< (x7.length:Int)) then (Fb x7 x6).bind fun (Te:U)=>bif decide (0<=x6/\x6< (x7.length:Int)) then (Fb x7 x6).bind fun (_:U)=>bif decide (0<=(wrap .i64 (x6-(1:Int)))/\(wrap .i64 (x6-(1:Int)))< (((Rc x7 x6 Rw).length:Nat):Int)) then (Fb (Rc x7 x6 Rw) (wrap .i64 (x6-(1:Int)))).bind fun (_:U)=>
           L4 x1 x2 x4 m ((wrap .i64 (x6-(1:Int)),Rc (Rc x7 x6 Rw) (wrap .i64 (x6-(1:Int))) Te))else none else none else none else none else some (((),x7))else none else none else some (((),x7)))
include hc ho h4
theorem OY {a i x2 x4:Int}{l:List U}{m:Nat}(h0:0<=a)(h1:a<=i)(h2:i<l.length)(hb:l.length<2^60)(hal:Al Ok l)(hs:Sd lt d a i l)(hm:(i-a).toNat<m):
 ∃r,L4 a x2 x4 m (i,l)=some r/\Rp d a (i+1) l r.2/\Sd lt d a (i+1) r.2:=by
 refine mu (τ:=Int×List U) (L:=L4 a x2 x4) (fun p=>a<=p.1/\p.1<=i/\Rp d a (i+1) l p.2/\(∀u v,a<=u->u<v->v<=i->u≠p.1->v≠p.1->¬lt (gI d p.2 v) (gI d p.2 u))/\(∀v,p.1<v->v<=i->¬lt (gI d p.2 v) (gI d p.2 p.1))) (fun p=>(p.1-a).toNat) _ ?_ m (i,l) ⟨h1,PZ _,.refl _ _ _ _,fun u v k1 k2 k3 k4 k5=>hs u v k1 k2 (by omega),fun v k1 k2=>by omega⟩ hm;rintro m ⟨j,D⟩ ⟨i1,i2,i3,i4,i5⟩ aJ;dsimp only at i1 i2 i3 i4 i5 aJ⊢;have hl:=i3.len;have bE:=i3.al hal;rw[h4];simp (disch:=omega) only[wr];refine tD (fun hj=>?_) (fun hj=>?_)
 .refine tI (by omega) (by omega) (tE (aB d (by omega) (by omega)) (tI (by omega) (by omega) (tE (aB d (by omega) (by omega)) (tM hc (bE.at d (by omega) (by omega)) (bE.at d (by omega) (by omega)) fun r hr=>?_))));refine tD (fun hlt=>?_) (fun hlt=>?_)
  .refine tI (by omega) (by omega) (tE (aB d (by omega) (by omega)) (tI (by omega) (by omega) (tE (aB d (by omega) (by omega)) (tI (by omega) (by omega) (tE (aB d (by omega) (by omega)) (tI (by omega) (by rw[ay];omega) (tE (aB d (by omega) (by rw[ay];omega)) ?_)))))));have hlt':=hr.1 hlt;refine aJ (j-1,swp d D j (j-1)) ⟨by dsimp only;omega,by dsimp only;omega,i3.swp h0 (by omega) (by omega) (by omega) (by omega) (by omega),fun u v k1 k2 k3 k4 k5=>?_,fun v k1 k2=>?_⟩ (by dsimp only;omega)
   .dsimp only at k4 k5⊢;rw[dO (by omega) (by omega) (by omega) (by omega) (by omega),dO (by omega) (by omega) (by omega) (by omega) (by omega),if_neg k5,if_neg k4];by_cases e1:v=j
    .rw[if_pos e1];by_cases e2:u=j
     .omega
     .rw[if_neg e2];exact i4 u (j-1) k1 (by omega) (by omega) e2 (by omega)
    .rw[if_neg e1];by_cases e2:u=j
     .rw[if_pos e2];exact i4 (j-1) v (by omega) (by omega) k3 (by omega) e1
     .rw[if_neg e2];exact i4 u v k1 k2 k3 e2 e1
   .dsimp only at k1 k2⊢;rw[dO (by omega) (by omega) (by omega) (by omega) (by omega),dO (by omega) (by omega) (by omega) (by omega) (by omega),if_neg (by omega),if_pos rfl];by_cases e1:v=j
    .rw[if_pos e1];exact ho.asym _ _ hlt'
    .rw[if_neg e1];exact i5 v (by omega) k2
  .refine tS ⟨i3,?_⟩;have hlt':¬lt (gI d D j) (gI d D (j-1)):=fun h=>hlt (hr.2 h);intro u v k1 k2 k3;by_cases e1:v=j
   .subst e1;by_cases e2:u=v-1
    .rw[e2];exact hlt'
    .exact ho.neg _ _ _ hlt' (i4 u (v-1) k1 (by omega) (by omega) (by omega) (by omega))
   .by_cases e2:u=j
    .subst e2;exact i5 v k2 (by omega)
    .exact i4 u v k1 k2 (by omega) e2 e1
 .refine tS ⟨i3,?_⟩;have e:j=a:=by omega
  intro u v k1 k2 k3;by_cases e2:u=j
  .subst e2;exact i5 v k2 (by omega)
  .exact i4 u v k1 k2 (by omega) e2 (by omega)
variable {n:Nat}{L1:Int->Int->Nat->Int×List U->Option (PUnit×List U)}(h1:∀(x1 x2:Int) (m:Nat) (x4:Int) (x5:List U),L1 x1 x2 (m+1) (x4,x5)=bif decide (x4<x2) then (L4 x1 x2 x4 n ((x4,x5))).bind fun (Ti:PUnit×List U)=>
    L1 x1 x2 m ((wrap .i64 (x4+(1:Int)),Ti.2))else some (((),x5)))
include h1
theorem avI {a b:Int}{l:List U}(h0:0<=a)(hab:a<=b)(h2:b<=l.length)(hb:l.length<2^60)(hal:Al Ok l)(hn:(b-a).toNat+1<n):
 ∃r,L1 a b n (wrap .i64 (a+1),l)=some r/\Rp d a b l r.2/\Sd lt d a b r.2:=by
 rw[wr (by omega) (by omega)];refine mu (τ:=Int×List U) (L:=L1 a b) (fun p=>a<p.1/\(p.1<=b\/p.1=a+1)/\Rp d a b l p.2/\Sd lt d a p.1 p.2) (fun p=>(b-p.1).toNat) _ ?_ n (a+1,l) ⟨by dsimp only;omega,.inr rfl,.refl _ _ _ _,fun u v k1 k2 k3=>by dsimp only at k3;omega⟩ (by dsimp only;omega);rintro m ⟨i,D⟩ ⟨i1,i2,i3,i4⟩ aJ;dsimp only at i1 i2 i3 i4 aJ⊢;have hl:=i3.len;rw[h1];refine tD (fun hi=>?_) (fun hi=>?_)
 .refine tB (OY hc ho h4 (d:=d) h0 (by omega) (by omega) (by omega) (i3.al hal) i4 (by omega)) fun r ⟨r1,r2⟩=>?_;rw[wr (by omega) (by omega)];exact aJ (i+1,r.2) ⟨by dsimp only;omega,.inl (by dsimp only;omega),i3.trans (r1.wide (PZ _) (by omega) h0),r2⟩ (by dsimp only;omega)
 .refine tS ⟨i3,?_⟩;intro u v k1 k2 k3;exact i4 u v k1 k2 (by omega)
end
section
variable {d:U}{n:Nat}{L2:Nat->(Int×Int)×List U->Option (PUnit×List U)}(h2:∀(m:Nat) (x4 x5:Int) (x6:List U),L2 (m+1) ((x4,x5),x6)=bif decide (x4<x5) then bif decide (0<=x5/\x5< (x6.length:Int)) then (Fb x6 x5).bind fun (r7:U)=>bif decide (0<=x4/\x4< (x6.length:Int)) then (Fb x6 x4).bind fun (r8:U)=>bif decide (0<=x4/\x4< (x6.length:Int)) then (Fb x6 x4).bind fun (_:U)=>bif decide (0<=x5/\x5< (((Rc x6 x4 r7).length:Nat):Int)) then (Fb (Rc x6 x4 r7) x5).bind fun (_:U)=>
        L2 m (((wrap .i64 (x4+(1:Int)),wrap .i64 (x5-(1:Int))),Rc (Rc x6 x4 r7) x5 r8))else none else none else none else none else some (((),x6)))
include h2
theorem revAll {a b:Int}{l:List U}(h0:0<=a)(hab:a<=b)(h3:b<=l.length)(hb:l.length<2^60)(hn:(b-a).toNat+1<n):
 ∃r,L2 n ((a,wrap .i64 (b-1)),l)=some r/\Rp d a b l r.2:=by
 rw[wr (by omega) (by omega)];refine mu (τ:=(Int×Int)×List U) (L:=L2) (fun p=>a<=p.1.1/\p.1.2<b/\a-1<=p.1.2/\p.1.1<=b/\Rp d a b l p.2) (fun p=>(p.1.2-p.1.1+1).toNat) _ ?_ n ((a,b-1),l) ⟨PZ _,by dsimp only;omega,by dsimp only;omega,by dsimp only;omega,.refl _ _ _ _⟩ (by dsimp only;omega);rintro m ⟨⟨i,j⟩,D⟩ ⟨i1,i2,i3,i4,i5⟩ aJ;dsimp only at i1 i2 i3 i4 i5 aJ⊢;have hl:=i5.len;rw[h2];refine tD (fun hi=>?_) (fun hi=>tS i5);refine tI (by omega) (by omega) (tE (aB d (by omega) (by omega)) (tI (by omega) (by omega) (tE (aB d (by omega) (by omega)) (tI (by omega) (by omega) (tE (aB d (by omega) (by omega)) (tI (by omega) (by rw[ay];omega) (tE (aB d (by omega) (by rw[ay];omega)) ?_)))))));rw[wr (by omega) (by omega),wr (by omega) (by omega)];exact aJ ((i+1,j-1),swp d D i j) ⟨by dsimp only;omega,by dsimp only;omega,by dsimp only;omega,by dsimp only;omega,i5.swp h0 (by omega) (by omega) (by omega) (by omega) (by omega)⟩ (by dsimp only;omega)
end
end Pq
end
section
open Go Aq
namespace Pq
variable {U:Type}
def Hp (lt:U->U->Prop)(d:U)(f s hi:Int)(l:List U):Prop:=∀i c,s<=i->(c=2*i+1\/c=2*i+2)->c<hi->¬lt (gI d l (f+i)) (gI d l (f+c))
def two {β:Type}(r:(PUnit×β)⊕(PUnit×β)):β:=Sum.elim (fun q=>q.2) (fun q=>q.2) r
section
variable {d:U}{Ok:U->Prop}{lt:U->U->Prop}{K:{β:Type}->U->U->(Bool->Option β)->Option β}(hc:YU Ok lt K)(ho:Ord lt){S1:Int->Int->Nat->(Int×List U)->Option ((PUnit×List U)⊕(PUnit×List U))}(hS1:∀(x2 x3:Int) (m:Nat) (x5:Int) (x6:List U),S1 x2 x3 (m+1) (x5,x6)=bif decide ((wrap .i64 ((wrap .i64 ((2:Int)*x5))+(1:Int)))>=x2) then some (.inl (((),x6)))else Option.bind (α:=Int) ( bif decide ((wrap .i64 ((wrap .i64 ((wrap .i64 ((2:Int)*x5))+(1:Int)))+(1:Int)))<x2) then bif decide (0<=(wrap .i64 (x3+(wrap .i64 ((wrap .i64 ((2:Int)*x5))+(1:Int)))))/\(wrap .i64 (x3+(wrap .i64 ((wrap .i64 ((2:Int)*x5))+(1:Int)))))< (x6.length:Int)) then (Fb x6 (wrap .i64 (x3+(wrap .i64 ((wrap .i64 ((2:Int)*x5))+(1:Int)))))).bind fun (r7:U)=>bif decide (0<=(wrap .i64 ((wrap .i64 (x3+(wrap .i64 ((wrap .i64 ((2:Int)*x5))+(1:Int)))))+(1:Int)))/\(wrap .i64 ((wrap .i64 (x3+(wrap .i64 ((wrap .i64 ((2:Int)*x5))+(1:Int)))))+(1:Int)))< (x6.length:Int)) then (Fb x6 (wrap .i64 ((wrap .i64 (x3+(wrap .i64 ((wrap .i64 ((2:Int)*x5))+(1:Int)))))+(1:Int)))).bind fun (r8:U)=>
        K r7 r8 fun (r9:Bool)=>bif r9 then some (wrap .i64 ((wrap .i64 ((wrap .i64 ((2:Int)*x5))+(1:Int)))+(1:Int)))else some (wrap .i64 ((wrap .i64 ((2:Int)*x5))+(1:Int)))else none else none else some (wrap .i64 ((wrap .i64 ((2:Int)*x5))+(1:Int)))) fun (RZ:Int)=>bif decide (0<=(wrap .i64 (x3+x5))/\(wrap .i64 (x3+x5))< (x6.length:Int)) then (Fb x6 (wrap .i64 (x3+x5))).bind fun (Rw:U)=>bif decide (0<=(wrap .i64 (x3+RZ))/\(wrap .i64 (x3+RZ))< (x6.length:Int)) then (Fb x6 (wrap .i64 (x3+RZ))).bind fun (Te:U)=>
      K Rw Te fun (RQ:Bool)=>bif !(RQ) then some (.inr (((),x6)))else bif decide (0<=(wrap .i64 (x3+RZ))/\(wrap .i64 (x3+RZ))< (x6.length:Int)) then (Fb x6 (wrap .i64 (x3+RZ))).bind fun (Tq:U)=>bif decide (0<=(wrap .i64 (x3+x5))/\(wrap .i64 (x3+x5))< (x6.length:Int)) then (Fb x6 (wrap .i64 (x3+x5))).bind fun (Ti:U)=>bif decide (0<=(wrap .i64 (x3+x5))/\(wrap .i64 (x3+x5))< (x6.length:Int)) then (Fb x6 (wrap .i64 (x3+x5))).bind fun (r16:U)=>bif decide (0<=(wrap .i64 (x3+RZ))/\(wrap .i64 (x3+RZ))< (((Rc x6 (wrap .i64 (x3+x5)) Tq).length:Nat):Int)) then (Fb (Rc x6 (wrap .i64 (x3+x5)) Tq) (wrap .i64 (x3+RZ))).bind fun (Wv:U)=>
           S1 x2 x3 m ((RZ,Rc (Rc x6 (wrap .i64 (x3+x5)) Tq) (wrap .i64 (x3+RZ)) Ti))else none else none else none else none else none else none)
include hc ho hS1
theorem OZ {f lo hi:Int}{l:List U}{m:Nat}(h0:0<=f)(hlo:0<=lo)(hlb:lo<2^58)(hhi:0<=hi)(hf:f+hi<=l.length)(hb:l.length<2^58)(hal:Al Ok l)(hh:Hp lt d f (lo+1) hi l)(hm:(hi-lo).toNat<m):
 ∃r,S1 hi f m (lo,l)=some r/\Rp d f (f+hi) l (two r)/\Hp lt d f lo hi (two r):=by
 refine mu (τ:=Int×List U) (L:=S1 hi f) (fun p=>lo<=p.1/\(p.1=lo\/p.1<hi)/\Rp d f (f+hi) l p.2/\(∀i c,lo<=i->i≠p.1->(c=2*i+1\/c=2*i+2)->c<hi->¬lt (gI d p.2 (f+i)) (gI d p.2 (f+c)))/\
  (∀q c,lo<=q->(p.1=2*q+1\/p.1=2*q+2)->(c=2*p.1+1\/c=2*p.1+2)->c<hi->¬lt (gI d p.2 (f+q)) (gI d p.2 (f+c)))) (fun p=>(hi-p.1).toNat) _ ?_ m (lo,l)
  ⟨PZ _,.inl rfl,.refl _ _ _ _,fun i c k1 k2 k3 k4=>hh i c (by dsimp only at k2;omega) k3 k4,fun q c k1 k2=>by dsimp only at k2;omega⟩ hm
 rintro m ⟨x,D⟩ ⟨i1,i2,i3,i4,i5⟩ aJ;dsimp only at i1 i2 i3 i4 i5 aJ⊢;have hl:=i3.len;have bE:=i3.al hal;rw[hS1];simp (disch:=omega) only[wr];refine tD (fun hge=>tS ⟨i3,fun i c k1 k2 k3=>?_⟩) (fun hge=>?_)
 .by_cases e:i=x
  .omega
  .exact i4 i c k1 e k2 k3
 refine tB (Q:=fun c=>(c=2*x+1\/c=2*x+2)/\c<hi/\∀c',(c'=2*x+1\/c'=2*x+2)->c'<hi->¬lt (gI d D (f+c)) (gI d D (f+c'))) ?_ fun c=>?_
 .refine tD (fun h2=>?_) (fun h2=>tS ⟨.inl rfl,by omega,fun c' k1 k2=>?_⟩)
  .refine tI (by omega) (by omega) (tE (aB d (by omega) (by omega)) (tI (by omega) (by omega) (tE (aB d (by omega) (by omega)) (tM hc (bE.at d (by omega) (by omega)) (bE.at d (by omega) (by omega)) fun r hr=>?_))));have e2:f+(2*x+1)+1=f+(2*x+2):=by omega
   rw[e2] at hr;refine tD (fun h3=>tS ⟨.inr (by omega),by omega,fun c' k1 k2=>?_⟩) (fun h3=>tS ⟨.inl rfl,by omega,fun c' k1 k2=>?_⟩)
   .have hlt:=hr.1 h3;rw[show 2*x+1+1=2*x+2 by omega];rcases k1 with rfl|rfl
    .exact ho.asym _ _ hlt
    .exact ho.gK _
   .rcases k1 with rfl|rfl
    .exact ho.gK _
    .exact fun h=>h3 (hr.2 h)
  .have e:c'=2*x+1:=by omega
   rw[e];exact ho.gK _
 .rintro⟨hc1,hc2,hc3⟩;simp (disch:=omega) only[wr];refine tI (by omega) (by omega) (tE (aB d (by omega) (by omega)) (tI (by omega) (by omega) (tE (aB d (by omega) (by omega)) (tM hc (bE.at d (by omega) (by omega)) (bE.at d (by omega) (by omega)) fun r hr=>?_))));refine tN (fun h3=>tS ⟨i3,fun i c' k1 k2 k3=>?_⟩) (fun h3=>?_)
  .by_cases e:i=x
   .subst e;exact ho.neg _ _ _ (fun h=>h3 (hr.2 h)) (hc3 c' k2 k3)
   .exact i4 i c' k1 e k2 k3
  .have hlt:=hr.1 h3;refine tI (by omega) (by omega) (tE (aB d (by omega) (by omega)) (tI (by omega) (by omega) (tE (aB d (by omega) (by omega)) (tI (by omega) (by omega) (tE (aB d (by omega) (by omega)) (tI (by omega) (by rw[ay];omega) (tE (aB d (by omega) (by rw[ay];omega)) ?_)))))));have sw:∀k,0<=k->gI d (swp d D (f+x) (f+c)) (f+k)=if k=c then gI d D (f+x) else if k=x then gI d D (f+c) else gI d D (f+k):=fun k hk=>by
    rw[dO (by omega) (by omega) (by omega) (by omega) (by omega)];by_cases e1:k=c
    .rw[if_pos e1,if_pos (by omega)]
    .rw[if_neg e1,if_neg (by omega)];by_cases e2:k=x
     .rw[if_pos e2,if_pos (by omega)]
     .rw[if_neg e2,if_neg (by omega)]
   refine aJ (c,swp d D (f+x) (f+c)) ⟨by dsimp only;omega,.inr hc2,i3.swp h0 (by omega) (by omega) (by omega) (by omega) (by omega),fun i c' k1 k2 k3 k4=>?_,fun q c' k1 k2 k3 k4=>?_⟩ (by dsimp only;omega)
   .dsimp only at k2⊢;rw[sw i (by omega),sw c' (by omega),if_neg k2];by_cases e1:c'=c
    .have ei:i=x:=(by omega);rw[if_pos e1,if_pos ei];exact ho.asym _ _ hlt
    .rw[if_neg e1];by_cases e2:c'=x
     .rw[if_pos e2,if_neg (by omega)];exact i5 i c k1 (by omega) hc1 hc2
     .rw[if_neg e2];by_cases e3:i=x
      .rw[if_pos e3];exact hc3 c' (by omega) k4
      .rw[if_neg e3];exact i4 i c' k1 e3 k3 k4
   .dsimp only at k2 k3⊢;have eq:q=x:=(by omega);rw[sw q (by omega),sw c' (by omega),if_neg (by omega),if_pos eq,if_neg (by omega),if_neg (by omega)];exact i4 c c' (by omega) (by omega) k3 k4
variable {n:Nat}{sift:Unit×Int×Int×Int×(Unit×Unit)->List U->Option (PUnit×List U)}(hS:∀(x1 x2 x3:Int) (x4:List U),sift (((),(x1,(x2,(x3,((),())))))) (x4)=
   (S1 x2 x3 n ((x1,x4))).bind fun (TI:(PUnit×List U)⊕(PUnit×List U))=>
   Sum.elim (fun (q19:PUnit×List U)=>some (((),q19.2)))
    (fun (q20:PUnit×List U)=>some (((),q20.2))) TI)
include hS
theorem Fa {f lo hi:Int}{l:List U}(h0:0<=f)(hlo:0<=lo)(hlb:lo<2^58)(hhi:0<=hi)(hf:f+hi<=l.length)(hb:l.length<2^58)(hal:Al Ok l)(hh:Hp lt d f (lo+1) hi l)(hn:hi.toNat<n):
 ∃r,sift ((),lo,hi,f,((),())) l=some r/\Rp d f (f+hi) l r.2/\Hp lt d f lo hi r.2:=by
 rw[hS];refine tB (OZ hc ho hS1 (d:=d) h0 hlo hlb hhi hf hb hal hh (by omega)) fun r=>?_;rintro⟨r1,r2⟩;rcases r with r|r<;>exact tS ⟨r1,r2⟩
variable {H4:Int->Int->Nat->(Int×List U)->Option (PUnit×List U)}{H8:Int->Nat->(Int×List U)->Option (PUnit×List U)}(qx:∀(x1 x2:Int) (m:Nat) (x4:Int) (x5:List U),H4 x1 x2 (m+1) (x4,x5)=bif decide (x4>=(0:Int)) then (sift (((),(x4,(wrap .i64 (x2-x1),(x1,((),())))))) x5).bind fun (r6:PUnit×List U)=>
    H4 x1 x2 m ((wrap .i64 (x4-(1:Int)),r6.2))else some (((),x5)))(yN:∀(x1:Int) (m:Nat) (x8:Int) (x9:List U),H8 x1 (m+1) (x8,x9)=bif decide (x8>=(0:Int)) then bif decide (0<=(wrap .i64 (x1+x8))/\(wrap .i64 (x1+x8))< (x9.length:Int)) then (Fb x9 (wrap .i64 (x1+x8))).bind fun (RZ:U)=>bif decide (0<=x1/\x1< (x9.length:Int)) then (Fb x9 x1).bind fun (Rw:U)=>bif decide (0<=x1/\x1< (x9.length:Int)) then (Fb x9 x1).bind fun (Te:U)=>bif decide (0<=(wrap .i64 (x1+x8))/\(wrap .i64 (x1+x8))< (((Rc x9 x1 RZ).length:Nat):Int)) then (Fb (Rc x9 x1 RZ) (wrap .i64 (x1+x8))).bind fun (RQ:U)=>(sift (((),((0:Int),(x8,(x1,((),())))))) (Rc (Rc x9 x1 RZ) (wrap .i64 (x1+x8)) Rw)).bind fun (Tq:PUnit×List U)=>
        H8 x1 m ((wrap .i64 (x8-(1:Int)),Tq.2))else none else none else none else none else some (((),x9)))
include qx
theorem build {a b:Int}{l:List U}{m:Nat}{k:Int}(h0:0<=a)(hab:a<=b)(hbl:b<=l.length)(hb:l.length<2^57)(hal:Al Ok l)(hn:(b-a).toNat<n)(hk: -1<=k)(hkb:k<2^57)(hh:Hp lt d a (k+1) (b-a) l)(hm:(k+1).toNat<m):
 ∃r,H4 a b m (k,l)=some r/\Rp d a b l r.2/\Hp lt d a 0 (b-a) r.2:=by
 refine mu (τ:=Int×List U) (L:=H4 a b) (fun p=>-1<=p.1/\p.1<=k/\Rp d a b l p.2/\Hp lt d a (p.1+1) (b-a) p.2) (fun p=>(p.1+1).toNat) _ ?_ m (k,l) ⟨hk,PZ _,.refl _ _ _ _,hh⟩ hm;rintro m ⟨x,D⟩ ⟨i1,i2,i3,i4⟩ aJ;dsimp only at i1 i2 i3 i4 aJ⊢;have hl:=i3.len;rw[qx];refine tD (fun hge=>?_) (fun hge=>tS ⟨i3,?_⟩)
 .simp (disch:=omega) only[wr];refine tB (Fa hc ho hS1 hS (d:=d) h0 (by omega) (by omega) (by omega) (by omega) (by omega) (i3.al hal) i4 hn) fun r=>?_;rintro⟨r1,r2⟩;rw[show a+(b-a)=b by omega] at r1;exact aJ (x-1,r.2) ⟨by dsimp only;omega,by dsimp only;omega,i3.trans r1,by rw[show x-1+1=x by omega];exact r2⟩ (by dsimp only;omega)
 .rw[show x+1=0 by omega] at i4;exact i4
omit hc hS1 hS qx in
theorem Hp.root {f hi:Int}{l:List U}(h:Hp lt d f 0 hi l):∀(k:Nat),(k:Int)<hi->¬lt (gI d l f) (gI d l (f+k)):=by
 intro k;induction k using Nat.strongRecOn with
 |_ k ih=>
  intro hk;cases k with
  |zero=>rw[show f+((0:Nat):Int)=f by omega];exact ho.gK _|succ k=>have h1:=ih (k/2) (by omega) (by omega);exact ho.neg _ _ _ h1 (h ((k/2:Nat):Int) ((k+1:Nat):Int) (by omega) (by omega) hk)
include yN
theorem pop {a b:Int}{l:List U}{m:Nat}(h0:0<=a)(hab:a<=b)(hbl:b<=l.length)(hb:l.length<2^57)(hal:Al Ok l)(hn:(b-a).toNat<n)(hh:Hp lt d a 0 (b-a) l)(hm:(b-a).toNat<m):
 ∃r,H8 a m (b-a-1,l)=some r/\Rp d a b l r.2/\Sd lt d a b r.2:=by
 refine mu (τ:=Int×List U) (L:=H8 a) (fun p=>-1<=p.1/\p.1<b-a/\Rp d a b l p.2/\Hp lt d a 0 (p.1+1) p.2/\Sd lt d (a+p.1+1) b p.2/\(∀u v,a<=u->u<=a+p.1->a+p.1<v->v<b->¬lt (gI d p.2 v) (gI d p.2 u))) (fun p=>(p.1+1).toNat) _ ?_ m (b-a-1,l)
  ⟨by dsimp only;omega,by dsimp only;omega,.refl _ _ _ _,by rw[show b-a-1+1=b-a by omega];exact hh,fun u v k1 k2 k3=>by dsimp only at k1;omega,fun u v k1 k2 k3 k4=>by dsimp only at k3;omega⟩ (by dsimp only;omega)
 rintro m ⟨x,D⟩ ⟨i1,i2,i3,i4,i5,i6⟩ aJ;dsimp only at i1 i2 i3 i4 i5 i6 aJ⊢;have hl:=i3.len;rw[yN];simp (disch:=omega) only[wr];refine tD (fun hge=>?_) (fun hge=>tS ⟨i3,fun u v k1 k2 k3=>i5 u v (by omega) k2 k3⟩);refine tI (by omega) (by omega) (tE (aB d (by omega) (by omega)) (tI (by omega) (by omega) (tE (aB d (by omega) (by omega)) (tI (by omega) (by omega) (tE (aB d (by omega) (by omega)) (tI (by omega) (by rw[ay];omega) (tE (aB d (by omega) (by rw[ay];omega)) ?_)))))));have sw:∀k,0<=k->gI d (swp d D a (a+x)) (a+k)=if k=x then gI d D a else if k=0 then gI d D (a+x) else gI d D (a+k):=fun k hk=>by
  rw[dO (by omega) (by omega) (by omega) (by omega) (by omega)];by_cases e1:k=x
  .rw[if_pos e1,if_pos (by omega)]
  .rw[if_neg e1,if_neg (by omega)];by_cases e2:k=0
   .rw[if_pos e2,if_pos (by omega)]
   .rw[if_neg e2,if_neg (by omega)]
 have s1:Rp d a b l (swp d D a (a+x)):=i3.swp h0 (by omega) (by omega) (by omega) (by omega) (by omega);have hroot:∀k,0<=k->k<=x->¬lt (gI d D a) (gI d D (a+k)):=fun k k0 k1=>by
  have:=Hp.root ho i4 k.toNat (by omega)
  rwa[show (k.toNat:Int)=k by omega] at this
 refine tB (Fa hc ho hS1 hS (d:=d) (hi:=x) (lo:=0) (l:=swp d D a (a+x)) h0 (by omega) (by omega) hge (by rw[aQ];omega) (by rw[aQ];omega) (s1.al hal) (fun i c k1 k2 k3=>?_) (by omega)) fun r=>?_
 .rw[sw i (by omega),sw c (by omega),if_neg (by omega),if_neg (by omega),if_neg (by omega),if_neg (by omega)];exact i4 i c (by omega) k2 (by omega)
 .rintro⟨r1,r2⟩;have hM:∀k,x<=k->a+k<b->gI d r.2 (a+k)=gI d (swp d D a (a+x)) (a+k):=fun k k0 k1=>r1.out _ (by omega) (by omega);have sm:∀φ:U->Prop,(∀k,0<=k->k<=x->φ (gI d D (a+k)))->∀u,a<=u->u<a+x->φ (gI d r.2 u):=fun φ hφ u k0 k1=>by
   refine r1.all φ (fun w w0 w1=>?_) u k0 k1;have:=sw (w-a) (by omega);rw[show a+(w-a)=w by omega] at this;rw[this,if_neg (by omega)];by_cases e:w-a=0
   .rw[if_pos e];exact hφ x (by omega) (by omega)
   .rw[if_neg e];have:=hφ (w-a) (by omega) (by omega)
    rwa[show a+(w-a)=w by omega] at this
  refine aJ (x-1,r.2) ⟨by dsimp only;omega,by dsimp only;omega,s1.trans (r1.wide (PZ _) (by omega) h0),by rw[show x-1+1=x by omega];exact r2,fun u v k1 k2 k3=>?_,fun u v k1 k2 k3 k4=>?_⟩ (by dsimp only;omega)
  .dsimp only at k1⊢;have e1:=hM (u-a) (by omega) (by omega);have e2:=hM (v-a) (by omega) (by omega);rw[show a+(u-a)=u by omega] at e1;rw[show a+(v-a)=v by omega] at e2;have e3:=sw (u-a) (by omega);have e4:=sw (v-a) (by omega);rw[show a+(u-a)=u by omega] at e3;rw[show a+(v-a)=v by omega] at e4;rw[e1,e2,e3,e4,if_neg (by omega:¬v-a=x),if_neg (by omega:¬v-a=0)];by_cases e:u-a=x
   .rw[if_pos e];exact i6 a v (by omega) (by omega) (by omega) k3
   .rw[if_neg e,if_neg (by omega)];exact i5 u v (by omega) k2 k3
  .dsimp only at k2 k3⊢;have e2:=hM (v-a) (by omega) (by omega);rw[show a+(v-a)=v by omega] at e2;have e4:=sw (v-a) (by omega);rw[show a+(v-a)=v by omega] at e4;rw[e2,e4,if_neg (by omega:¬v-a=0)];by_cases e:v-a=x
   .rw[if_pos e];exact sm (fun z=>¬lt (gI d D a) z) (fun k k0 k1=>hroot k k0 k1) u k1 (by omega)
   .rw[if_neg e];exact sm (fun z=>¬lt (gI d D v) z) (fun k k0 k1=>i6 (a+k) v (by omega) (by omega) (by omega) k4) u k1 (by omega)
variable {heap:Unit×Int×Int×(Unit×Unit)->List U->Option (PUnit×List U)}(hH:∀(x1 x2:Int) (x3:List U),heap (((),(x1,(x2,((),()))))) (x3)=bif !((2:Int)==(0:Int)) then (H4 x1 x2 n ((wrap .i64 (Int.tdiv (wrap .i64 ((wrap .i64 (x2-x1))-(1:Int))) (2:Int)),x3))).bind fun (r7:PUnit×List U)=>(H8 x1 n ((wrap .i64 ((wrap .i64 (x2-x1))-(1:Int)),r7.2))).bind fun (Ti:PUnit×List U)=>some (((),Ti.2))else none)
include hH
theorem avK {a b:Int}{l:List U}(h0:0<=a)(hab:a<=b)(hbl:b<=l.length)(hb:l.length<2^57)(hal:Al Ok l)(hn:(b-a).toNat+1<n):
 ∃r,heap ((),a,b,((),())) l=some r/\Rp d a b l r.2/\Sd lt d a b r.2:=by
 rw[hH];simp (disch:=omega) only[wr];refine tG (by decide) ?_;have ht:Int.tdiv (b-a-1) 2<=b-a/\ -1<=Int.tdiv (b-a-1) 2/\(0<b-a->b-a-1<2*Int.tdiv (b-a-1) 2+2/\0<=Int.tdiv (b-a-1) 2):=by
  by_cases h:0<b-a
  .rw[Int.tdiv_eq_ediv_of_nonneg (by omega)];omega
  .rw[show b-a-1= -1 by omega];simp;omega
 rw[wr (i:=Int.tdiv (b-a-1) 2) (by omega) (by omega)];refine tB (build hc ho hS1 hS qx (d:=d) (k:=Int.tdiv (b-a-1) 2) h0 hab hbl hb hal (by omega) (by omega) (by omega) (fun i c k1 k2 k3=>?_) (by omega)) fun r=>?_
 .omega
 .rintro⟨r1,r2⟩;have hl:=r1.len;refine tB (pop hc ho hS1 hS qx yN (d:=d) h0 hab (by omega) (by omega) (r1.al hal) (by omega) r2 (by omega)) fun s=>?_;rintro⟨s1,s2⟩;exact tS ⟨r1.trans s1,s2⟩
end
end Pq
end
