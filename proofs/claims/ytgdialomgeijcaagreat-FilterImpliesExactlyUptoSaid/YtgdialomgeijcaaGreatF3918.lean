import Derived.Test.YtgdialomgeijcaaGreatF3916
import Derived.Test.YtgdialomgeijcaaGreatF3917
set_option linter.all false
section
open Go Go.Proofs Aq
namespace Aq
mutual
def veq:V->V->Bool
 |.int k n,.int k' n'=>if k=k' then if n=n' then true else false else false|.str s,.str t=>if s=t then true else false|.bool s,.bool t=>if s=t then true else false|.agg l,.agg m=>acA l m|.tX .sh l,.tX .sh m=>acA l m|_,_=>false
def acA:List V->List V->Bool
 | [],[]=>true|x::l,y::m=>match veq x y with
  |true=>acA l m|false=>false
 |_,_=>false
end
mutual
theorem apT:∀(x y:V),veq x y=true->x=y:=by
 intro x y h;unfold veq at h;split at h
 .split at h
  .split at h
   .simp_all
   .cases h
  .cases h
 .split at h
  .simp_all
  .cases h
 .split at h
  .simp_all
  .cases h
 .rw[aff _ _ h]
 .rw[aff _ _ h]
 .cases h
theorem aff:∀(l m:List V),acA l m=true->l=m:=by
 intro l m h;unfold acA at h;split at h
 .rfl
 .split at h
  .rename_i h1;rw[apT _ _ h1,aff _ _ h]
  .cases h
 .cases h
end
end Aq
namespace Sh
set_option maxRecDepth 100000
def agS:List (List V×V):=[(agC,agD),(agE,agF),(agG,agH),(agI,agJ)]
def agT:List (List V×V):=[(agK,agL),(agM,agN),(agO,agP),(agQ,agR)]
theorem apU:∀p∈agS,Uo (ES Sq) 94 p.1 p.2:=by
 intro p hp;simp only[agS,PG,List.not_mem_nil,or_false] at hp;rcases hp with rfl|rfl|rfl|rfl
 .exact apE
 .exact apG
 .exact apI
 .exact apK
theorem apV:∀p∈agT,Uo (ES Sq) 58 p.1 p.2:=by
 intro p hp;simp only[agT,PG,List.not_mem_nil,or_false] at hp;rcases hp with rfl|rfl|rfl|rfl
 .exact apM
 .exact apO
 .exact apQ
 .exact apS
def adp:List (List V×V)->List V->Option V
 | [],_=>none|p::l,args=>match acA args p.1 with
  |true=>some p.2|false=>adp l args
theorem agU:∀{l:List (List V×V)}{args:List V}{v:V},adp l args=some v->(args,v)∈l
 |p::l,args,v,h=>by
  unfold adp at h;split at h
  .rename_i he;cases h;rw[aff _ _ he];exact PI ..
  .exact PK _ (agU h)
def adq (f:Nat):Option (List V->Option V):=bif Nat.beq f 42 then some acv else bif Nat.beq f 94 then some (adp agS) else bif Nat.beq f 58 then some (adp agT) else none
theorem es1:TR (ES adq):=alD _ fun f g h args v hv=>by
 unfold adq at h;cases h1:Nat.beq f 42
 .rw[h1,cond_false] at h;cases h2:Nat.beq f 94
  .rw[h2,cond_false] at h;cases h3:Nat.beq f 58
   .rw[h3,cond_false] at h;cases h
   .rw[h3,cond_true] at h;cases h;have:=QJ h3;subst this;exact apV _ (agU hv)
  .rw[h2,cond_true] at h;cases h;have:=QJ h2;subst this;exact apU _ (agU hv)
 .rw[h1,cond_true] at h;cases h;have:=QJ h1;subst this;exact agz rfl hv
theorem apW:V4 (ES adq) (Rh (ES adq) 300) 11 []=some (.bool true):=by kernel_rfl
theorem apX:Uo (ES adq) 11 [] (.bool true):=abh es1 (Yt es1 300).call apW
end Sh
end
section
open Go Go.Proofs Aq
namespace Sh
set_option maxRecDepth 100000
def TY (l:List Attr)(x:List UInt8):Option Attr:=l.find? fun a=>a.Name==x
mutual
def Sb (l:List Attr):Pred->Bool
 | ⟨op,name,n,m,s,subs⟩=>
   if op=1 then true else if op=2 then aaq l subs else if op=3 then anyS l subs else if op=4 then !anyS l subs else if op=5 then (TY l name).isSome else if op=6 then (match TY l name with|some a=>a.Kind==(1:Int)&& decide (a.N>=n)&& decide (a.N<=m)|none=>false) else if op=7 then (match TY l name with|some a=>a.Kind==(2:Int)&& a.S==s|none=>false) else false
def aaq (l:List Attr):List Pred->Bool
 | []=>true|p::ps=>Sb l p&& aaq l ps
def anyS (l:List Attr):List Pred->Bool
 | []=>false|p::ps=>Sb l p||anyS l ps
end
mutual
def RF:Pred->Nat
 | ⟨_,_,_,_,_,subs⟩=>Wx subs+1
def Wx:List Pred->Nat
 | []=>0|p::ps=>RF p+Wx ps
end
def UY (x:Q6):List Attr:=bif x.is then [x.a] else []
def R5:Nat->Nat->List (List Q6)->List Attr
 |_,_,[]=>[]|k,sz,c::cs=>(match c[k/(sz/c.length)]? with|some x=>UY x|none=>[])++R5 (k% (sz/c.length)) (sz/c.length) cs
def Rv:List (List Q6)->Nat
 | []=>1|c::cs=>c.length*Rv cs
abbrev Sc (t:List (List Q6)):V:=lv (lv Q6.v) t
def VN (hs:List Attr->Bool)(t:List (List Q6)):List Attr×Bool:=match (List.range (Rv t)).find? fun k=>hs (R5 k (Rv t) t) with
 |some k=>(R5 k (Rv t) t,false)|none=>([],true)
def abG (t:List (List Q6))(p:Pred):Option (List Attr×Bool):=
 if t.length<2^20/\(∀c∈t,0<c.length)/\Rv t<=4096/\RF p<2^62 then some (VN (fun l=>Sb l p) t) else none
def adr (t:List (List Q6))(p:Pred):V:=.Rm [lv Attr.v (VN (fun l=>Sb l p) t).1,.bool (VN (fun l=>Sb l p) t).2]
mutual
theorem alE:∀p q:Pred,Pred.vr p=Pred.vr q->p=q
 | ⟨a,b,c,d,e,f⟩,⟨a',b',c',d',e',f'⟩,h=>by unfold Pred.vr at h;simp only[V.agg.injEq,Qa,V.int.injEq,V.str.injEq,V.tX.injEq,true_and,and_true] at h;obtain⟨h1,h2,h3,h4,h5,h6⟩:=h;rw[h1,h2,h3,h4,h5,alF f f' h6]
theorem alF:∀l m:List Pred,Pred.vl l=Pred.vl m->l=m
 | [],[],_=>rfl| [],_::_,h=>by unfold Pred.vl at h;cases h|_::_,[],h=>by unfold Pred.vl at h;cases h|p::l,q::m,h=>by unfold Pred.vl at h;simp only[Qa] at h;rw[alE p q h.1,alF l m h.2]
end
theorem apY (p q:Pred)(h:Pred.v p=Pred.v q):p=q:=alE p q (by rw[Pred.afc];exact h)
theorem apZ:∀x y:Q6,Q6.v x=Q6.v y->x=y:=by rintro⟨⟨a,b,c,d⟩,e⟩ ⟨⟨a',b',c',d'⟩,e'⟩ h;have h:V.agg [.str a,.int .i64 b,.int .i64 c,.str d,.bool e]=V.agg [.str a',.int .i64 b',.int .i64 c',.str d',.bool e']:=h;simp only[V.agg.injEq,Qa,V.int.injEq,V.str.injEq,V.bool.injEq,true_and,and_true] at h;obtain⟨rfl,rfl,rfl,rfl,rfl⟩:=h;rfl
theorem map_inj {U:Type}{f:U->V}(hf:∀x y,f x=f y->x=y):∀l m:List U,l.map f=m.map f->l=m
 | [],[],_=>rfl| [],_::_,h=>by cases h|_::_,[],h=>by cases h|x::l,y::m,h=>by simp only[PO,Qa] at h;rw[hf x y h.1,map_inj hf l m h.2]
theorem alG {U:Type}{f:U->V}(hf:∀x y,f x=f y->x=y)(l m:List U)(h:lv f l=lv f m):l=m:=by have h:V.tX .sh (l.map f)=V.tX .sh (m.map f):=h;simp only[V.tX.injEq,true_and] at h;exact map_inj hf l m h
def alH (args:List V)(v:V):Prop:=∃t p,args=[Sc t,Pred.v p]/\v=adr t p/\Uo (ES Sq) 58 args v
open Classical in
noncomputable def firstT (args:List V):Option V:=if h:∃v,alH args v then some h.choose else none
theorem ap0 {args:List V}{v:V}(h:firstT args=some v):Uo (ES Sq) 58 args v:=by
 unfold firstT at h;split at h
 .rename_i hx;cases h;obtain⟨t,p,_,_,h3⟩:=hx.choose_spec;exact h3
 .cases h
theorem ap1 {t:List (List Q6)}{p:Pred}(h:Uo (ES Sq) 58 [Sc t,Pred.v p] (adr t p)):firstT [Sc t,Pred.v p]=some (adr t p):=by have hx:∃v,alH [Sc t,Pred.v p] v:=⟨_,t,p,rfl,rfl,h⟩;unfold firstT;rw[dif_pos hx];obtain⟨t',p',h1,h2,_⟩:=hx.choose_spec;rw[h2];simp only[Qa,and_true] at h1;rw[alG (alG apZ) _ _ h1.1,apY _ _ h1.2]
end Sh
end
section
open Go Go.Proofs Aq
namespace Sh
set_option maxRecDepth 100000
def alI:List V->Option V
 | []=>some (.bool true)|_::_=>none
noncomputable def ap2 (f:Nat):Option (List V->Option V):=bif Nat.beq f 11 then some alI else bif Nat.beq f 42 then some acv else bif Nat.beq f 58 then some firstT else none
noncomputable def E:Env:={P:=Tryz.prog,glob:=alC,imp:=fun f=>Nat.beq f 69||Nat.beq f 70||Nat.beq f 82||Nat.beq f 106||Nat.beq f 91||Nat.beq f 92||Nat.beq f 101||Nat.beq f 103||Nat.beq f 104||Nat.beq f 105||Nat.beq f 107||Nat.beq f 108||Nat.beq f 109||Nat.beq f 111||Nat.beq f 112||Nat.beq f 113||Nat.beq f 114||Nat.beq f 117||Nat.beq f 119||Nat.beq f 122||Nat.beq f 124||Nat.beq f 125||Nat.beq f 126||Nat.beq f 127||Nat.beq f 128||Nat.beq f 129||Nat.beq f 131||Nat.beq f 132||Nat.beq f 134||Nat.beq f 135||Nat.beq f 136||Nat.beq f 137||Nat.beq f 138||Nat.beq f 139||Nat.beq f 140,om:=fun f=>Nat.beq f 77||Nat.beq f 94,Wp:=ap2,cn:=fun d=>bif Nat.beq d 57 then 99999 else bif Nat.beq d 49 then 41 else bif Nat.beq d 39 then 99999 else bif Nat.beq d 9 then 99999 else d,frz:=fun t=>Nat.beq t 24||Nat.beq t 74,alb:=fun d=>Nat.beq d 74002||Nat.beq d 74003||Nat.beq d 24003||Nat.beq d 24004,bsm:=fun d=>Nat.beq d 9}
theorem ap3 (d:Option Nat):Yr E d=false:=by cases d<;>rfl
theorem ap4:XC E 24 (some 1)=false:=rfl
theorem ap5:XC E 24 (some 2)=false:=rfl
attribute [go_sem] ap3 ap4 ap5 if_false
mutual
def pre:Pred->List Pred
 | ⟨op,name,n,m,s,subs⟩=>⟨op,name,n,m,s,subs⟩::UA subs
def UA:List Pred->List Pred
 | []=>[]|p::ps=>pre p++UA ps
end
theorem pre_eq (p:Pred):pre p=p::UA p.Rq:=by cases p;simp[pre]
def yl (l:List Pred):List (List V):=l.map fun q=>[Pred.v q]
abbrev yv (l:Nat):V:=.fn (.yield l) [] []
def agV (d dd l:Nat)(Y:qd)(J:List (List V)->qd->Prop)(D:qd->Prop)(L:List (List V))(v:V)(Y':qd):Prop:=
 Y.next<=Y'.next/\(∀a o,d<a->a<dd->Y'.obj (a,o)=Y.obj (a,o))/\(∀s,s<Y.next->Y'.loops s=Y.loops s\/s=l)/\((v= .bool true/\J L Y')\/(v= .bool false/\D Y'))
theorem agV.trans {d dd l:Nat}{Y Y1:qd}{J:List (List V)->qd->Prop}{D:qd->Prop}{L:List (List V)}{v:V}{Y':qd}(hn:Y.next<=Y1.next)(ho:∀a o,d<a->a<dd->Y1.obj (a,o)=Y.obj (a,o))(hl:∀s,s<Y.next->Y1.loops s=Y.loops s\/s=l)(h:agV d dd l Y1 J D L v Y'):agV d dd l Y J D L v Y':=by
 obtain⟨h1,h2,h3,h4⟩:=h;refine⟨PD hn h1,fun a o ha hb=>(h2 a o ha hb).trans (ho a o ha hb),fun s hs=>?_,h4⟩;rcases h3 s (PV hs hn) with e|e
 .rcases hl s hs with e'|e'
  .exact .inl (e.trans e')
  .exact .inr e'
 .exact .inr e
theorem ads {a o s b p:Nat}{Y:qd}{x:Tg}(h:b≠a):(Y.setObj (a,o) s x).obj (b,p)=Y.obj (b,p):=by show upd Y.obj (a,o) _ (b,p)=_;unfold upd;rw[if_neg];intro e;exact h (congrArg Prod.fst e)
theorem ap6 {Y Y':qd}{loc:Aq.Loc}{s:Nat}(h:Y'.obj loc=Y.obj loc):Y'.Rs loc s=Y.Rs loc s:=by unfold qd.Rs;rw[h]
end Sh
end
section
open Go Go.Proofs Aq
namespace Sh
set_option maxRecDepth 100000
def Pg (d dd l:Nat)(Y Y':qd):Prop:=Y.next<=Y'.next/\(∀a o,d<a->a<dd->Y'.obj (a,o)=Y.obj (a,o))/\(∀s,s<Y.next->Y'.loops s=Y.loops s\/s=l)
theorem Pg.trans {d dd l:Nat}{Y Y1 Y2:qd}(h:Pg d dd l Y Y1)(g:Pg d dd l Y1 Y2):Pg d dd l Y Y2:=by
 refine⟨PD h.1 g.1,fun a o ha hb=>(g.2.1 a o ha hb).trans (h.2.1 a o ha hb),fun s hs=>?_⟩;rcases g.2.2 s (PV hs h.1) with e|e
 .rcases h.2.2 s hs with e'|e'
  .exact .inl (e.trans e')
  .exact .inr e'
 .exact .inr e
theorem Pg.refl {d dd l:Nat}{Y:qd}:Pg d dd l Y Y:=⟨mF _,fun _ _ _ _=>rfl,fun _ _=>.inl rfl⟩
theorem Pg.bump {d dd l k:Nat}{Y:qd}:Pg d dd l Y (Y.bump k):=⟨PN _ _,fun _ _ _ _=>rfl,fun _ _=>.inl rfl⟩
theorem Pg.set {d dd l o s:Nat}{Y:qd}{x:Tg}:Pg d dd l Y (Y.setObj (dd,o) s x):=⟨mF _,fun a o' _ hb=>ads (by omega),fun _ _=>.inl rfl⟩
theorem alJ:∀l:List Pred,l.length<=(UA l).length
 | []=>by simp[UA]|p::l=>by have:=alJ l;rw[UA,pre_eq];simp;omega
theorem alK {q:Pred}:∀{l:List Pred},q∈l->(pre q).length<=(UA l).length
 |p::l,h=>by
  rw[UA,PU];rcases PG.1 h with rfl|h
  .omega
  .have:=alK h;omega
theorem ap7 {d l:Nat}{J:List (List V)->qd->Prop}{D:qd->Prop}(hJ:∀xs Y Y',l<Y.next->J xs Y->Shift d Y Y'->J xs Y')(hD:∀Y Y',l<Y.next->D Y->Shift d Y Y'->D Y')(hr:∀x xs Y,l<Y.next->J (x::xs) Y->∃c Y',Rnd E l x Y c Y'/\Y.next<=Y'.next/\(∀a o,d<a->Y'.obj (a,o)=Y.obj (a,o))/\(∀s,s<Y.next->Y'.loops s=Y.loops s\/s=l)/\(c=true->J xs Y')/\(c=false->D Y')):
 ∀(g:Nat)(p:Pred),sizeOf p<g->(pre p).length<2^62->∀(dd:Nat)(Y:qd)(L:List (List V)),d<dd->l<Y.next->J (yl (pre p)++L) Y->Vb E 70 [Pred.v p,yv l] dd Y (fun v Y'=>Pg d dd l Y Y'/\((v= .bool true/\J L Y')\/(v= .bool false/\D Y'))):=by
 intro g;induction g with
 |zero=>intro p hp;omega|succ g ih=>
 intro p hp hsz dd Y0 L hd hl hj;have L6:∀{Y:qd}{x:Tg}{k o s:Nat},Pg d dd l Y ((Y.bump k).setObj (dd,o) s x):=Pg.trans .bump .set;have part:∀(fr:Fr)(Y:qd)(s:Nat)(q:Pred)(xs:List (List V))(Q:Ex->Fr->qd->Prop),sizeOf q<g->(pre q).length<2^62->fr.d=dd->fr.tm 1=yv l->fr.tm 6= .ref (dd,6) s 0->Y.Rs (dd,6) s=some q.c->l<Y.next->Pg d dd l Y0 Y->J (yl (pre q)++xs) Y->
  (∀fr' Y',(∀i,i<18->6<i->fr'.tm i=fr.tm i)->fr'.d=dd->fr'.tm 1=yv l->l<Y'.next->Pg d dd l Y0 Y'->J xs Y'->Q .normal fr' Y')->(∀fr' Y',fr'.tm 4= .bool false->D Y'->Pg d dd l Y0 Y'->Q .ret fr' Y')->
  CW E ((TG Tryz.f70.body [1,1,0,1,0,0,1,1,0,0,1]).getD .skip) fr Y Q:=by
  intro fr Y s q xs Q hq hqs h1 h2 h3 h4 hl hp hj hQ1 hQ2;have hP:E.P=Tryz.prog:=rfl;refine CW.seq (CW.region ?_);refine OW.o1 (by rfl) (fun S=>by simp only[go_sem,Nat.reduceBEq,Nat.reduceAdd, *];with_reducible exact Is.rfl) ?_;refine OW.o1 (by rfl) (fun S=>by simp only[go_sem,Nat.reduceBEq,Nat.reduceAdd, *];with_reducible exact Is.rfl) ?_;refine OW.abj (g:=70) (a:=[]) (b:=[]) (by rfl) rfl rfl rfl rfl ?_;rw[X0,X0,h1];change Vb E 70 [Pred.v q,yv l] (dd+1) _ _;obtain⟨n,v,Y1,hn,hpg,hv⟩:=ih q hq hqs (dd+1) (Y.bump 4) xs (by omega) (PV hl (PN _ _)) (hJ _ _ _ hl hj ⟨PN _ _,fun _ _=>rfl,fun _ _=>rfl,fun _ _ _=>rfl⟩);have alL:Pg d dd l Y0 Y1:=hp.trans (Pg.trans .bump ⟨hpg.1,fun a o ha hb=>hpg.2.1 a o ha (by omega),hpg.2.2⟩);have hl':l<Y1.next:=PV hl (PD (PN _ 4) hpg.1);refine⟨n,v,Y1,hn,?_⟩;rcases hv with ⟨rfl,hj'⟩| ⟨rfl,hd'⟩
  .refine OW.o1 (by rfl) (fun S=>by simp only[go_sem,Nat.reduceBEq,Nat.reduceAdd, *];with_reducible exact Is.rfl) ?_;refine OW.nil (SE.n ?_);refine CW.aaL (by simp only[go_sem,Nat.reduceBEq,Nat.reduceAdd, *];exact Is.rfl) ?_;refine CW.skip (hQ1 _ _ (fun i h1 h2=>?_) ?_ ?_ hl' alL hj')
   .simp only[ac2];rw[Yu _ _ (by simp;omega),Yu _ _ (by simp;omega),Yu _ _ (by simp;omega),Yu _ _ (by simp;omega)]
   .simp only[ac2,X0,h1]
   .simp only[go_sem,Nat.reduceBEq,h2]
  .refine OW.o1 (by rfl) (fun S=>by simp only[go_sem,Nat.reduceBEq,Nat.reduceAdd, *];with_reducible exact Is.rfl) ?_;refine OW.nil (SE.n ?_);refine CW.aaK (by simp only[go_sem,Nat.reduceBEq,Nat.reduceAdd, *];exact Is.rfl) ?_;refine CW.seq (CW.region ?_);refine OW.o1 (by rfl) (fun S=>by simp only[go_sem,Nat.reduceBEq,Nat.reduceAdd, *];with_reducible exact Is.rfl) ?_;refine OW.nil (SE.n (CW.ret (hQ2 _ _ ?_ ?_ (alL.trans .bump))))
   .simp only[go_sem,Nat.reduceBEq]
   .exact hD _ _ hl' hd' ⟨PN _ _,fun _ _=>rfl,fun _ _=>rfl,fun _ _ _=>rfl⟩
 have loop:∀(k i:Nat)(fr:Fr)(Y:qd),i+k=p.Rq.length->fr.d=dd->fr.tm 1=yv l->fr.tm 12=lv Pred.v p.Rq->fr.tm 13= .int .i64 (p.Rq.length:Nat)->fr.tm 14= .int .i64 (i:Nat)->p.Rq.length<2^62->l<Y.next->Pg d dd l Y0 Y->J (yl (UA (p.Rq.drop i))++L) Y->
  CW E ((TG Tryz.f70.body [1,1,0,1,0]).getD .skip) fr Y (fun e fr' Y'=>(e= .exit 0/\J L Y'/\Pg d dd l Y0 Y')\/(e= .ret/\fr'.tm 4= .bool false/\D Y'/\Pg d dd l Y0 Y')):=by
  intro k;induction k with
  |zero=>
   intro i fr Y hi h1 h2 h3 h4 h5 hb hl hp hj;refine CW.loop (CW.seq (CW.region ?_));refine OW.o1 (by rfl) (fun S=>by simp only[go_sem,Nat.reduceBEq,Nat.reduceAdd, *];with_reducible exact Is.rfl) ?_;refine OW.nil (SE.n ?_);have e:decide (((i:Nat):Int)< ((p.Rq.length:Nat):Int))=false:=by simp;omega
   refine CW.seq (CW.aaL (by simp only[go_sem,Nat.reduceBEq,Nat.reduceAdd, *];exact Is.rfl) ?_);refine CW.exit (SE.x (XE.x (.inl ⟨rfl,?_,hp.trans .bump⟩)));have:p.Rq.drop i=[]:=QW (by omega);rw[this] at hj;exact hJ _ _ _ hl (by simpa [yl,UA] using hj) ⟨PN _ _,fun _ _=>rfl,fun _ _=>rfl,fun _ _ _=>rfl⟩
  |succ k ihk=>
   intro i fr Y hi h1 h2 h3 h4 h5 hb hl hp hj;have hlt:i<p.Rq.length:=by omega
   have hx:Fb p.Rq ((i:Nat):Int)=some p.Rq[i]:=by unfold Fb;rw[if_pos ⟨by omega,by omega⟩];simp[hlt]
   have hdrop:p.Rq.drop i=p.Rq[i]::p.Rq.drop (i+1):=Qd hlt;have hmem:p.Rq[i]∈p.Rq:=Qw hlt;generalize p.Rq[i]=q at hx hdrop hmem;refine CW.loop (CW.seq (CW.region ?_));refine OW.o1 (by rfl) (fun S=>by simp only[go_sem,Nat.reduceBEq,Nat.reduceAdd, *];with_reducible exact Is.rfl) ?_;refine OW.nil (SE.n ?_);have e:decide (((i:Nat):Int)< ((p.Rq.length:Nat):Int))=true:=by simp;omega
   refine CW.seq (CW.aaK (by simp only[go_sem,Nat.reduceBEq,Nat.reduceAdd, *];exact Is.rfl) ?_);refine CW.skip (SE.n ?_);refine CW.seq (CW.block (CW.seq (CW.region ?_)));have hP:E.P=Tryz.prog:=rfl;have aw3:Vk Tryz.prog 22 (lv Pred.v p.Rq) (.int .i64 ((i:Nat):Int))=some (.Q5 q.c 0):=by rw[aez,if_pos (by rfl)];have e1:UE Tryz.prog 22=some 24:=(by kernel_rfl);have e2:RN Tryz.prog 24=some 6:=(by kernel_rfl);rw[e1];simp only[Option.bind_some,e2,hx];rfl
   refine OW.o1 (by rfl) (fun S=>by simp only[go_sem,Nat.reduceBEq,Nat.reduceAdd, *];with_reducible exact Is.rfl) ?_;refine OW.o1 (by rfl) (fun S=>by simp only[go_sem,Nat.reduceBEq,Nat.reduceAdd, *];with_reducible exact Is.rfl) ?_;have hz:Ua Tryz.prog 24=some (.agg [.int .i64 0,.str [],.int .i64 0,.int .i64 0,.str [],.tX .nil []]):=by kernel_rfl
   refine OW.o1 (by rfl) (fun S=>by simp only[go_sem,Nat.reduceBEq,Nat.reduceAdd, *];with_reducible exact Is.rfl) ?_;have aw4:RN Tryz.prog 24=some 6:=by kernel_rfl
   have hsp:Ti [.int .i64 0,.str [],.int .i64 0,.int .i64 0,.str [],.tX .nil []] 0 q.c=q.c:=rfl;refine OW.o0 (by rfl) (fun S=>by rw[aeB];simp only[go_sem,Nat.reduceBEq,Nat.reduceAdd, *];rw[if_pos (by decide)];exact Is.rfl) ?_;refine OW.nil (NQ.i (SE.n ?_));rw[hdrop] at hj;have hj1:J (yl (pre q)++(yl (UA (p.Rq.drop (i+1)))++L)) Y:=by have:yl (UA (q::p.Rq.drop (i+1)))=yl (pre q)++yl (UA (p.Rq.drop (i+1))):=(by simp[yl,UA]);rw[this,Qe] at hj;exact hj
   refine part _ _ ?s q _ _ ?hq ?hqs ?h1 ?h2 ?h3 ?h4 ?hl ?hp (hJ _ _ _ hl hj1 ?hsh) ?hQ1 ?hQ2;case h3=>simp only[go_sem,Nat.reduceBEq,Nat.reduceAdd, *];rfl
   case hq=>
    have h7:=List.sizeOf_lt_of_mem hmem;have h8:sizeOf p.Rq<sizeOf p:=(by cases p;simp;omega);omega
   case hqs=>have h:=alK hmem;rw[pre_eq] at hsz;simp at hsz;omega
   case h1=>simp only[X0,h1]
   case h2=>simp only[go_sem,Nat.reduceBEq,Nat.reduceAdd, *]
   case h4=>exact aac _ _ _ _
   case hl=>exact PV hl (PD (PN _ _) (PN _ _))
   case hp=>exact hp.trans (Pg.trans .bump (Pg.trans .bump (Pg.trans .set .set)))
   case hsh=>exact⟨PD (PN _ _) (PN _ _),fun _ _=>rfl,fun _ _=>rfl,fun a o ha=>(ads (by omega)).trans (ads (by omega))⟩
   case hQ1=>
    intro fr' Y' k1 k2 k3 k4 k5 k6;refine UN.n (SE.n (CW.region ?_));have t12:fr'.tm 12=lv Pred.v p.Rq:=(by rw[k1 12 (by omega) (by omega)];simp only[go_sem,Nat.reduceBEq,Nat.reduceAdd, *]);have t13:fr'.tm 13= .int .i64 (p.Rq.length:Nat):=(by rw[k1 13 (by omega) (by omega)];simp only[go_sem,Nat.reduceBEq,Nat.reduceAdd, *]);have t14:fr'.tm 14= .int .i64 (i:Nat):=(by rw[k1 14 (by omega) (by omega)];simp only[go_sem,Nat.reduceBEq,Nat.reduceAdd, *]);have hw:IntKind.wrap .i64 ((i:Int)+(1:Int))=((i+1:Nat):Int):=(by rw[IntKind.wrap_i64];omega);refine OW.o1 (by rfl) (fun S=>by simp only[go_sem,Nat.reduceBEq,Nat.reduceAdd, *];with_reducible exact Is.rfl) ?_;refine OW.o1 (by rfl) (fun S=>by simp only[go_sem,Nat.reduceBEq,Nat.reduceAdd, *];with_reducible exact Is.rfl) ?_;refine OW.nil (NQ.i (XE.n (ihk (i+1) _ _ (by omega) ?_ ?_ ?_ ?_ ?_ hb ?_ (k5.trans .bump) ?_)))
    .simp only[X0,k2]
    .simp only[go_sem,Nat.reduceBEq,Nat.reduceAdd, *]
    .simp only[go_sem,Nat.reduceBEq,Nat.reduceAdd, *]
    .simp only[go_sem,Nat.reduceBEq,Nat.reduceAdd, *]
    .simp only[go_sem,Nat.reduceBEq,Nat.reduceAdd, *]
    .exact PV k4 (PN _ _)
    .exact hJ _ _ _ k4 k6 ⟨PN _ _,fun _ _=>rfl,fun _ _=>rfl,fun _ _ _=>rfl⟩
   case hQ2=>
    intro fr' Y' k1 k2 k3;exact UN.r (SE.r (XE.r (.inr ⟨rfl,k1,k2,k3⟩)))
 refine Vb.of (fn:=Tryz.f70) (c:=Tryz.f70.body.getD .skip) Tryz.func70 rfl (by kernel_rfl) ?_;generalize hfr:({d:=dd,om:=E.om 70,tm:=fun i=>[Pred.v p,yv l].getD i FN}:Fr)=fr;have h0:fr.tm 0=Pred.v p:=by rw[<-hfr];rfl
 have h1:fr.tm 1=yv l:=by rw[<-hfr];rfl
 have hdd:fr.d=dd:=by rw[<-hfr]
 have hP:E.P=Tryz.prog:=rfl;clear hfr;refine CW.seq (CW.region ?_);refine OW.o1 (by rfl) (fun S=>by simp only[go_sem,Nat.reduceBEq,Nat.reduceAdd, *];with_reducible exact Is.rfl) ?_;refine OW.o1 (by rfl) (fun S=>by simp only[go_sem,Nat.reduceBEq,Nat.reduceAdd, *];with_reducible exact Is.rfl) ?_;refine OW.nil (SE.n ?_);refine CW.seq (CW.seq (CW.region ?_));refine OW.o1 (by rfl) (fun S=>by simp only[go_sem,Nat.reduceBEq,Nat.reduceAdd, *];with_reducible exact Is.rfl) ?_;refine OW.o1 (by rfl) (fun S=>by simp only[go_sem,Nat.reduceBEq,Nat.reduceAdd, *];with_reducible exact Is.rfl) ?_;rw[pre_eq] at hj;have hj':J ([Pred.v p]::(yl (UA p.Rq)++L)) (((Y0.bump 2).setObj (dd,2) Y0.next (.cells p.c)).bump 4):=hJ _ _ _ hl (by simpa [yl] using hj) ⟨PD (PN _ 2) (PN _ 4),fun _ _=>rfl,fun _ _=>rfl,fun a o ha=>ads (by omega)⟩;have hl1:l< (((Y0.bump 2).setObj (dd,2) Y0.next (.cells p.c)).bump 4).next:=by show l<Y0.next+2+4;omega
 obtain⟨c,Y1,hrnd,hn1,ho1,hlo1,hc1,hc2⟩:=hr _ _ _ hl1 hj';have hcell:Y1.Rs (dd,2) Y0.next=some p.c:=by rw[ap6 (ho1 dd 2 hd)];exact aac _ _ _ _
 have agZ:Pg d dd l Y0 Y1:=(Pg.trans L6 .bump).trans ⟨hn1,fun a o ha _=>ho1 a o ha,hlo1⟩;have hl2:l<Y1.next:=PV hl agZ.1;refine OW.yield (l:=l) (b:=c) (by rfl) rfl rfl ?_ hrnd ?_
 .simp only[go_sem,Nat.reduceBEq,Nat.reduceAdd, *]
 refine OW.o1 (by rfl) (fun S=>by simp only[go_sem,Nat.reduceBEq,Nat.reduceAdd, *];with_reducible exact Is.rfl) ?_;refine OW.nil (SE.n ?_);cases c with
 |false=>refine CW.aaK (by simp only[go_sem,Nat.reduceBEq,Nat.reduceAdd, *];exact Is.rfl) ?_;refine CW.seq (CW.region ?_);refine OW.o1 (by rfl) (fun S=>by simp only[go_sem,Nat.reduceBEq,Nat.reduceAdd, *];with_reducible exact Is.rfl) ?_;refine OW.nil (SE.n (CW.ret (SE.r ?_)));refine XF.one (by simp) (by simp only[go_sem,Nat.reduceBEq,Nat.reduceAdd,TJ];with_reducible exact Is.rfl) ⟨agZ.trans .bump,.inr ⟨rfl,?_⟩⟩;exact hD _ _ hl2 (hc2 rfl) ⟨PN _ _,fun _ _=>rfl,fun _ _=>rfl,fun _ _ _=>rfl⟩
 |true=>
  have hlen:p.Rq.length<2^62\/2^62<=p.Rq.length:=by omega
  refine CW.aaL (by simp only[go_sem,Nat.reduceBEq,Nat.reduceAdd, *];exact Is.rfl) ?_;refine CW.skip (SE.n ?_);refine CW.seq (CW.seq (CW.region ?_));refine OW.o1 (by rfl) (fun S=>by simp only[go_sem,Nat.reduceBEq,Nat.reduceAdd, *];with_reducible exact Is.rfl) ?_;refine OW.o1 (by rfl) (fun S=>by simp only[go_sem,Nat.reduceBEq,Nat.reduceAdd, *];with_reducible exact Is.rfl) ?_;refine OW.o1 (by rfl) (fun S=>by simp only[go_sem,Nat.reduceBEq,Nat.reduceAdd, *];with_reducible exact Is.rfl) ?_;refine OW.o1 (by rfl) (fun S=>by simp only[go_sem,Nat.reduceBEq,Nat.reduceAdd, *];with_reducible exact Is.rfl) ?_;refine OW.nil (SE.n (CW.block ?_));refine(loop p.Rq.length 0 _ _ (by omega) ?_ ?_ ?_ ?_ ?_ ?_ ?_ (agZ.trans .bump) ?_).mono ?_
  .simp only[X0,ac2,hdd]
  .simp only[go_sem,Nat.reduceBEq,Nat.reduceAdd, *]
  .simp only[go_sem,Nat.reduceBEq,Nat.reduceAdd, *]
  .simp only[go_sem,Nat.reduceBEq,Nat.reduceAdd, *]
  .simp only[go_sem,Nat.reduceBEq,Nat.reduceAdd, *];rfl
  .have h:=alJ p.Rq;rw[pre_eq] at hsz;simp at hsz;omega
  .exact PV hl2 (PN _ _)
  .exact hJ _ _ _ hl2 (by simpa using hc1 rfl) ⟨PN _ _,fun _ _=>rfl,fun _ _=>rfl,fun _ _ _=>rfl⟩
  .rintro e fr' Y' (⟨rfl,k1,k2⟩| ⟨rfl,k1,k2,k3⟩)
   .refine UN.hit (SE.n (CW.seq (CW.region ?_)));refine OW.o1 (by rfl) (fun S=>by simp only[go_sem,Nat.reduceBEq,Nat.reduceAdd, *];with_reducible exact Is.rfl) ?_;refine OW.nil (SE.n (CW.ret ?_));refine XF.one (by simp) (by simp only[go_sem,Nat.reduceBEq,Nat.reduceAdd,TJ];with_reducible exact Is.rfl) ⟨k2.trans .bump,.inl ⟨rfl,?_⟩⟩;exact hJ _ _ _ (PV hl k2.1) k1 ⟨PN _ _,fun _ _=>rfl,fun _ _=>rfl,fun _ _ _=>rfl⟩
   .refine UN.r (SE.r (XF.one (by simp) (by simp only[TJ];rw[k1];exact Is.rfl) ⟨k3,.inr ⟨rfl,k2⟩⟩))
theorem aqa (p:Pred)(hsz:(pre p).length<2^62):adl E 69 [] [.Q5 p.c 0] (yl (pre p)):=by
 intro d l Y J D hJ hD hr hl hj;refine Vb.of (fn:=Tryz.f69) (c:=Tryz.f69.body.getD .skip) Tryz.func69 rfl (by kernel_rfl) ?_;generalize hfr:({d:=d+1,om:=E.om 69,tm:=fun i=>([]++[.fn (.yield l) [] []]++[.Q5 p.c 0]:List V).getD i FN}:Fr)=fr;have h0:fr.tm 0=yv l:=by rw[<-hfr];rfl
 have h1:fr.tm 1= .Q5 p.c 0:=by rw[<-hfr];rfl
 have hdd:fr.d=d+1:=by rw[<-hfr]
 have hP:E.P=Tryz.prog:=rfl;clear hfr;refine CW.region ?_;refine OW.o1 (by rfl) (fun S=>by simp only[go_sem,Nat.reduceBEq,Nat.reduceAdd, *];with_reducible exact Is.rfl) ?_;refine OW.o1 (by rfl) (fun S=>by simp only[go_sem,Nat.reduceBEq,Nat.reduceAdd, *];with_reducible exact Is.rfl) ?_;refine OW.abj (g:=70) (a:=[]) (b:=[]) (by rfl) rfl rfl rfl rfl ?_;rw[X0,X0,hdd];change Vb E 70 [Pred.v p,yv l] (d+1+1) _ _;obtain⟨n,v,Y1,hn,hpg,hv⟩:=ap7 hJ hD hr (sizeOf p+1) p (by omega) hsz (d+1+1) (Y.bump 3) [] (by omega) (PV hl (PN _ _)) (hJ _ _ _ hl (by simpa using hj) ⟨PN _ _,fun _ _=>rfl,fun _ _=>rfl,fun _ _ _=>rfl⟩);refine⟨n,v,Y1,hn,OW.nil ?_⟩;refine⟨[],rfl,PD (PN _ 3) hpg.1,?_⟩;rcases hv with ⟨_,h⟩| ⟨_,h⟩
 .exact .inl h
 .exact .inr h
def VO (p:Pred):Option (List Pred):=if (pre p).length<2^62 then some (pre p) else none
abbrev ag0:List Sk:=[.d (.int .i64),.d .str,.d (.int .i64),.d (.int .i64),.d .str,.d (.slice (.st 0))]
abbrev Wy:List Sk:=[.d (.st 0)]
noncomputable def Rw:IR R:=abV 69 ⟨[],[.Q5 ag0 0],Wy,fun _ q=>VO (⟨q.1,q.2.1,q.2.2.1,q.2.2.2.1,q.2.2.2.2.1,q.2.2.2.2.2⟩:Pred)⟩ noI
theorem RZ:TW E Rw:=by
 refine apu apt ⟨rfl,fun pa pb xs h=>?_⟩;unfold VO at h;dsimp only at h;split at h
 .rename_i hsz;cases h;have:=aqa _ hsz;have e:∀q:Lv R.T ag0,Rj R [.Q5 ag0 0] q=[.Q5 (Pred.c ⟨q.1,q.2.1,q.2.2.1,q.2.2.2.1,q.2.2.2.2.1,q.2.2.2.2.2⟩) 0]:=fun q=>by unfold Pred.c;rw[Pred.afd];rfl
  have e2:∀l:List Pred,List.map (Rj R Wy) l=yl l:=fun l=>rfl;exact Eq.mpr (congrArg (fun b=>adl E 69 [] b (yl (pre ⟨pb.1,pb.2.1,pb.2.2.1,pb.2.2.2.1,pb.2.2.2.2.1,pb.2.2.2.2.2⟩))) (e pb)) this
 .cases h
end Sh
end
section
open Go Go.Proofs Aq
namespace Sh
noncomputable def g_0 (_:Nat):Nat->List (FR R):=noF
theorem aqb (n:Nat):Ro E (g_0 n):=apv
theorem aqc (p:Lv R.T [])(x:Bool)(h:some true=some x):Pure E 11 (Rj R [] p) (SB [.bool x]):=by
 cases h;exact⟨0,rfl⟩
end Sh
end
