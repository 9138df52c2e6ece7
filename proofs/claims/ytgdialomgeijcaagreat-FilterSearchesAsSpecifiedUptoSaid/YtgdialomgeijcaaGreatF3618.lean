import Derived.Test.YtgdialomgeijcaaGreatF3616
import Derived.Test.YtgdialomgeijcaaGreatF3617
set_option linter.all false
section
open Go Go.Proofs Aq
namespace Aq
mutual
def veq:V->V->Bool
 |.int k n,.int k' n'=>if k=k' then if n=n' then true else false else false|.str s,.str t=>if s=t then true else false|.bool s,.bool t=>if s=t then true else false|.agg l,.agg m=>acF l m|.tX .sh l,.tX .sh m=>acF l m|_,_=>false
def acF:List V->List V->Bool
 | [],[]=>true|x::l,y::m=>match veq x y with
  |true=>acF l m|false=>false
 |_,_=>false
end
mutual
theorem aqc:∀(x y:V),veq x y=true->x=y:=by
 intro x y h;unfold veq at h;split at h
 .split at h
  .split at h
   .simp_all
   .cases h
  .cases h
 .split at h
  .simp_all
  .cases h
 .split at h
  .simp_all
  .cases h
 .rw[afo _ _ h]
 .rw[afo _ _ h]
 .cases h
theorem afo:∀(l m:List V),acF l m=true->l=m:=by
 intro l m h;unfold acF at h;split at h
 .rfl
 .split at h
  .rename_i h1;rw[aqc _ _ h1,afo _ _ h]
  .cases h
 .cases h
end
end Aq
namespace Sh
set_option maxRecDepth 100000
def ag0:List (List V×V):=[(agK,agL),(agM,agN),(agO,agP),(agQ,agR)]
def ag1:List (List V×V):=[(agS,agT),(agU,agV),(agW,agX),(agY,agZ)]
theorem aqd:∀p∈ag0,Um (ES Sv) 94 p.1 p.2:=by
 intro p hp;simp only[ag0,PI,List.not_mem_nil,or_false] at hp;rcases hp with rfl|rfl|rfl|rfl
 .exact apX
 .exact apZ
 .exact ap1
 .exact ap3
theorem aqe:∀p∈ag1,Um (ES Sv) 58 p.1 p.2:=by
 intro p hp;simp only[ag1,PI,List.not_mem_nil,or_false] at hp;rcases hp with rfl|rfl|rfl|rfl
 .exact ap5
 .exact ap7
 .exact ap9
 .exact aqb
def adt:List (List V×V)->List V->Option V
 | [],_=>none|p::l,args=>match acF args p.1 with
  |true=>some p.2|false=>adt l args
theorem ag2:∀{l:List (List V×V)}{args:List V}{v:V},adt l args=some v->(args,v)∈l
 |p::l,args,v,h=>by
  unfold adt at h;split at h
  .rename_i he;cases h;rw[afo _ _ he];exact PN ..
  .exact PV _ (ag2 h)
def adu (f:Nat):Option (List V->Option V):=bif Nat.beq f 42 then some acB else bif Nat.beq f 94 then some (adt ag0) else bif Nat.beq f 58 then some (adt ag1) else none
theorem es1:TU (ES adu):=alW _ fun f g h args v hv=>by
 unfold adu at h;cases h1:Nat.beq f 42
 .rw[h1,cond_false] at h;cases h2:Nat.beq f 94
  .rw[h2,cond_false] at h;cases h3:Nat.beq f 58
   .rw[h3,cond_false] at h;cases h
   .rw[h3,cond_true] at h;cases h;have:=QI h3;subst this;exact aqe _ (ag2 hv)
  .rw[h2,cond_true] at h;cases h;have:=QI h2;subst this;exact aqd _ (ag2 hv)
 .rw[h1,cond_true] at h;cases h;have:=QI h1;subst this;exact agI rfl hv
theorem aqf:VW (ES adu) (Rh (ES adu) 300) 11 []=some (.bool true):=by kernel_rfl
theorem aqg:Um (ES adu) 11 [] (.bool true):=abo es1 (Yu es1 300).call aqf
end Sh
end
section
open Go Go.Proofs Aq
namespace Sh
set_option maxRecDepth 100000
def VK (l:List Attr)(x:List UInt8):Option Attr:=l.find? fun a=>a.Name==x
mutual
def Sn (l:List Attr):Pred->Bool
 | ⟨op,name,n,m,s,subs⟩=>
   if op=1 then true else if op=2 then acG l subs else if op=3 then anyS l subs else if op=4 then !anyS l subs else if op=5 then (VK l name).isSome else if op=6 then (match VK l name with|some a=>a.Kind==(1:Int)&& decide (a.N>=n)&& decide (a.N<=m)|none=>false) else if op=7 then (match VK l name with|some a=>a.Kind==(2:Int)&& a.S==s|none=>false) else false
def acG (l:List Attr):List Pred->Bool
 | []=>true|p::ps=>Sn l p&& acG l ps
def anyS (l:List Attr):List Pred->Bool
 | []=>false|p::ps=>Sn l p||anyS l ps
end
mutual
def RA:Pred->Nat
 | ⟨_,_,_,_,_,subs⟩=>Ws subs+1
def Ws:List Pred->Nat
 | []=>0|p::ps=>RA p+Ws ps
end
def Tz (x:Q7):List Attr:=bif x.is then [x.a] else []
def R9:Nat->Nat->List (List Q7)->List Attr
 |_,_,[]=>[]|k,sz,c::cs=>(match c[k/(sz/c.length)]? with|some x=>Tz x|none=>[])++R9 (k% (sz/c.length)) (sz/c.length) cs
def RJ:List (List Q7)->Nat
 | []=>1|c::cs=>c.length*RJ cs
abbrev Sm (t:List (List Q7)):V:=lv (lv Q7.v) t
def VL (hs:List Attr->Bool)(t:List (List Q7)):List Attr×Bool:=match (List.range (RJ t)).find? fun k=>hs (R9 k (RJ t) t) with
 |some k=>(R9 k (RJ t) t,false)|none=>([],true)
def abM (t:List (List Q7))(p:Pred):Option (List Attr×Bool):=
 if t.length<2^20/\(∀c∈t,0<c.length)/\RJ t<=4096/\RA p<2^62 then some (VL (fun l=>Sn l p) t) else none
def adv (t:List (List Q7))(p:Pred):V:=.Rn [lv Attr.v (VL (fun l=>Sn l p) t).1,.bool (VL (fun l=>Sn l p) t).2]
mutual
theorem alX:∀p q:Pred,Pred.vr p=Pred.vr q->p=q
 | ⟨a,b,c,d,e,f⟩,⟨a',b',c',d',e',f'⟩,h=>by unfold Pred.vr at h;simp only[V.agg.injEq,Qb,V.int.injEq,V.str.injEq,V.tX.injEq,true_and,and_true] at h;obtain⟨h1,h2,h3,h4,h5,h6⟩:=h;rw[h1,h2,h3,h4,h5,alY f f' h6]
theorem alY:∀l m:List Pred,Pred.vl l=Pred.vl m->l=m
 | [],[],_=>rfl| [],_::_,h=>by unfold Pred.vl at h;cases h|_::_,[],h=>by unfold Pred.vl at h;cases h|p::l,q::m,h=>by unfold Pred.vl at h;simp only[Qb] at h;rw[alX p q h.1,alY l m h.2]
end
theorem aqh (p q:Pred)(h:Pred.v p=Pred.v q):p=q:=alX p q (by rw[Pred.afl];exact h)
theorem aqi:∀x y:Q7,Q7.v x=Q7.v y->x=y:=by rintro⟨⟨a,b,c,d⟩,e⟩ ⟨⟨a',b',c',d'⟩,e'⟩ h;have h:V.agg [.str a,.int .i64 b,.int .i64 c,.str d,.bool e]=V.agg [.str a',.int .i64 b',.int .i64 c',.str d',.bool e']:=h;simp only[V.agg.injEq,Qb,V.int.injEq,V.str.injEq,V.bool.injEq,true_and,and_true] at h;obtain⟨rfl,rfl,rfl,rfl,rfl⟩:=h;rfl
theorem map_inj {U:Type}{f:U->V}(hf:∀x y,f x=f y->x=y):∀l m:List U,l.map f=m.map f->l=m
 | [],[],_=>rfl| [],_::_,h=>by cases h|_::_,[],h=>by cases h|x::l,y::m,h=>by simp only[PU,Qb] at h;rw[hf x y h.1,map_inj hf l m h.2]
theorem alZ {U:Type}{f:U->V}(hf:∀x y,f x=f y->x=y)(l m:List U)(h:lv f l=lv f m):l=m:=by have h:V.tX .sh (l.map f)=V.tX .sh (m.map f):=h;simp only[V.tX.injEq,true_and] at h;exact map_inj hf l m h
def al0 (args:List V)(v:V):Prop:=∃t p,args=[Sm t,Pred.v p]/\v=adv t p/\Um (ES Sv) 58 args v
open Classical in
noncomputable def firstT (args:List V):Option V:=if h:∃v,al0 args v then some h.choose else none
theorem aqj {args:List V}{v:V}(h:firstT args=some v):Um (ES Sv) 58 args v:=by
 unfold firstT at h;split at h
 .rename_i hx;cases h;obtain⟨t,p,_,_,h3⟩:=hx.choose_spec;exact h3
 .cases h
theorem aqk {t:List (List Q7)}{p:Pred}(h:Um (ES Sv) 58 [Sm t,Pred.v p] (adv t p)):firstT [Sm t,Pred.v p]=some (adv t p):=by have hx:∃v,al0 [Sm t,Pred.v p] v:=⟨_,t,p,rfl,rfl,h⟩;unfold firstT;rw[dif_pos hx];obtain⟨t',p',h1,h2,_⟩:=hx.choose_spec;rw[h2];simp only[Qb,and_true] at h1;rw[alZ (alZ aqi) _ _ h1.1,aqh _ _ h1.2]
end Sh
end
section
open Go Go.Proofs Aq
namespace Sh
set_option maxRecDepth 100000
def al1:List V->Option V
 | []=>some (.bool true)|_::_=>none
noncomputable def aql (f:Nat):Option (List V->Option V):=bif Nat.beq f 11 then some al1 else bif Nat.beq f 42 then some acB else bif Nat.beq f 58 then some firstT else none
noncomputable def E:Env:={P:=Tryz.prog,glob:=alV,imp:=fun f=>Nat.beq f 69||Nat.beq f 70||Nat.beq f 82||Nat.beq f 106||Nat.beq f 91||Nat.beq f 92||Nat.beq f 101||Nat.beq f 103||Nat.beq f 104||Nat.beq f 105||Nat.beq f 107||Nat.beq f 108||Nat.beq f 109||Nat.beq f 111||Nat.beq f 112||Nat.beq f 113||Nat.beq f 114||Nat.beq f 117||Nat.beq f 119||Nat.beq f 122||Nat.beq f 124||Nat.beq f 125||Nat.beq f 126||Nat.beq f 127||Nat.beq f 128||Nat.beq f 129||Nat.beq f 131||Nat.beq f 132||Nat.beq f 134||Nat.beq f 135||Nat.beq f 136||Nat.beq f 137||Nat.beq f 138||Nat.beq f 139||Nat.beq f 140,om:=fun f=>Nat.beq f 77||Nat.beq f 94,Wi:=aql,cn:=fun d=>bif Nat.beq d 57 then 99999 else bif Nat.beq d 49 then 41 else bif Nat.beq d 39 then 99999 else bif Nat.beq d 9 then 99999 else d,frz:=fun t=>Nat.beq t 24||Nat.beq t 74,alx:=fun d=>Nat.beq d 74002||Nat.beq d 74003||Nat.beq d 24003||Nat.beq d 24004,bsm:=fun d=>Nat.beq d 9}
theorem aqm (d:Option Nat):Yt E d=false:=by cases d<;>rfl
theorem aqn:W9 E 24 (some 1)=false:=rfl
theorem aqo:W9 E 24 (some 2)=false:=rfl
attribute [go_sem] aqm aqn aqo if_false
mutual
def pre:Pred->List Pred
 | ⟨op,name,n,m,s,subs⟩=>⟨op,name,n,m,s,subs⟩::U6 subs
def U6:List Pred->List Pred
 | []=>[]|p::ps=>pre p++U6 ps
end
theorem pre_eq (p:Pred):pre p=p::U6 p.Rj:=by cases p;simp[pre]
def yl (l:List Pred):List (List V):=l.map fun q=>[Pred.v q]
abbrev yv (l:Nat):V:=.fn (.yield l) [] []
def ag3 (d dd l:Nat)(Y:qd)(J:List (List V)->qd->Prop)(D:qd->Prop)(L:List (List V))(v:V)(Y':qd):Prop:=
 Y.next<=Y'.next/\(∀a o,d<a->a<dd->Y'.obj (a,o)=Y.obj (a,o))/\(∀s,s<Y.next->Y'.loops s=Y.loops s\/s=l)/\((v= .bool true/\J L Y')\/(v= .bool false/\D Y'))
theorem ag3.trans {d dd l:Nat}{Y Y1:qd}{J:List (List V)->qd->Prop}{D:qd->Prop}{L:List (List V)}{v:V}{Y':qd}(hn:Y.next<=Y1.next)(ho:∀a o,d<a->a<dd->Y1.obj (a,o)=Y.obj (a,o))(hl:∀s,s<Y.next->Y1.loops s=Y.loops s\/s=l)(h:ag3 d dd l Y1 J D L v Y'):ag3 d dd l Y J D L v Y':=by
 obtain⟨h1,h2,h3,h4⟩:=h;refine⟨PD hn h1,fun a o ha hb=>(h2 a o ha hb).trans (ho a o ha hb),fun s hs=>?_,h4⟩;rcases h3 s (PS hs hn) with e|e
 .rcases hl s hs with e'|e'
  .exact .inl (e.trans e')
  .exact .inr e'
 .exact .inr e
theorem adw {a o s b p:Nat}{Y:qd}{x:Tk}(h:b≠a):(Y.setObj (a,o) s x).obj (b,p)=Y.obj (b,p):=by show upd Y.obj (a,o) _ (b,p)=_;unfold upd;rw[if_neg];intro e;exact h (congrArg Prod.fst e)
theorem aqp {Y Y':qd}{loc:Aq.Loc}{s:Nat}(h:Y'.obj loc=Y.obj loc):Y'.Rt loc s=Y.Rt loc s:=by unfold qd.Rt;rw[h]
end Sh
end
section
open Go Go.Proofs Aq
namespace Sh
set_option maxRecDepth 100000
def Pg (d dd l:Nat)(Y Y':qd):Prop:=Y.next<=Y'.next/\(∀a o,d<a->a<dd->Y'.obj (a,o)=Y.obj (a,o))/\(∀s,s<Y.next->Y'.loops s=Y.loops s\/s=l)
theorem Pg.trans {d dd l:Nat}{Y Y1 Y2:qd}(h:Pg d dd l Y Y1)(g:Pg d dd l Y1 Y2):Pg d dd l Y Y2:=by
 refine⟨PD h.1 g.1,fun a o ha hb=>(g.2.1 a o ha hb).trans (h.2.1 a o ha hb),fun s hs=>?_⟩;rcases g.2.2 s (PS hs h.1) with e|e
 .rcases h.2.2 s hs with e'|e'
  .exact .inl (e.trans e')
  .exact .inr e'
 .exact .inr e
theorem Pg.refl {d dd l:Nat}{Y:qd}:Pg d dd l Y Y:=⟨mF _,fun _ _ _ _=>rfl,fun _ _=>.inl rfl⟩
theorem Pg.bump {d dd l k:Nat}{Y:qd}:Pg d dd l Y (Y.bump k):=⟨PG _ _,fun _ _ _ _=>rfl,fun _ _=>.inl rfl⟩
theorem Pg.set {d dd l o s:Nat}{Y:qd}{x:Tk}:Pg d dd l Y (Y.setObj (dd,o) s x):=⟨mF _,fun a o' _ hb=>adw (by omega),fun _ _=>.inl rfl⟩
theorem al2:∀l:List Pred,l.length<=(U6 l).length
 | []=>by simp[U6]|p::l=>by have:=al2 l;rw[U6,pre_eq];simp;omega
theorem al3 {q:Pred}:∀{l:List Pred},q∈l->(pre q).length<=(U6 l).length
 |p::l,h=>by
  rw[U6,PK];rcases PI.1 h with rfl|h
  .omega
  .have:=al3 h;omega
theorem aqr {d l:Nat}{J:List (List V)->qd->Prop}{D:qd->Prop}(hJ:∀xs Y Y',l<Y.next->J xs Y->Shift d Y Y'->J xs Y')(hD:∀Y Y',l<Y.next->D Y->Shift d Y Y'->D Y')(hr:∀x xs Y,l<Y.next->J (x::xs) Y->∃c Y',Rnd E l x Y c Y'/\Y.next<=Y'.next/\(∀a o,d<a->Y'.obj (a,o)=Y.obj (a,o))/\(∀s,s<Y.next->Y'.loops s=Y.loops s\/s=l)/\(c=true->J xs Y')/\(c=false->D Y')):
 ∀(g:Nat)(p:Pred),sizeOf p<g->(pre p).length<2^62->∀(dd:Nat)(Y:qd)(L:List (List V)),d<dd->l<Y.next->J (yl (pre p)++L) Y->U9 E 70 [Pred.v p,yv l] dd Y (fun v Y'=>Pg d dd l Y Y'/\((v= .bool true/\J L Y')\/(v= .bool false/\D Y'))):=by
 intro g;induction g with
 |zero=>intro p hp;omega|succ g ih=>
 intro p hp hsz dd Y0 L hd hl hj;have L6:∀{Y:qd}{x:Tk}{k o s:Nat},Pg d dd l Y ((Y.bump k).setObj (dd,o) s x):=Pg.trans .bump .set;have part:∀(fr:Fr)(Y:qd)(s:Nat)(q:Pred)(xs:List (List V))(Q:Ex->Fr->qd->Prop),sizeOf q<g->(pre q).length<2^62->fr.d=dd->fr.tm 1=yv l->fr.tm 6= .ref (dd,6) s 0->Y.Rt (dd,6) s=some q.c->l<Y.next->Pg d dd l Y0 Y->J (yl (pre q)++xs) Y->
  (∀fr' Y',(∀i,i<18->6<i->fr'.tm i=fr.tm i)->fr'.d=dd->fr'.tm 1=yv l->l<Y'.next->Pg d dd l Y0 Y'->J xs Y'->Q .normal fr' Y')->(∀fr' Y',fr'.tm 4= .bool false->D Y'->Pg d dd l Y0 Y'->Q .ret fr' Y')->
  CW E ((TL Tryz.f70.body [1,1,0,1,0,0,1,1,0,0,1]).getD .skip) fr Y Q:=by
  intro fr Y s q xs Q hq hqs h1 h2 h3 h4 hl hp hj hQ1 hQ2;have hP:E.P=Tryz.prog:=rfl;refine CW.seq (CW.region ?_);refine OW.o1 (by rfl) (fun S=>by simp only[go_sem,Nat.reduceBEq,Nat.reduceAdd, *];with_reducible exact Is.rfl) ?_;refine OW.o1 (by rfl) (fun S=>by simp only[go_sem,Nat.reduceBEq,Nat.reduceAdd, *];with_reducible exact Is.rfl) ?_;refine OW.abp (g:=70) (a:=[]) (b:=[]) (by rfl) rfl rfl rfl rfl ?_;rw[X0,X0,h1];change U9 E 70 [Pred.v q,yv l] (dd+1) _ _;obtain⟨n,v,Y1,hn,hpg,hv⟩:=ih q hq hqs (dd+1) (Y.bump 4) xs (by omega) (PS hl (PG _ _)) (hJ _ _ _ hl hj ⟨PG _ _,fun _ _=>rfl,fun _ _=>rfl,fun _ _ _=>rfl⟩);have al4:Pg d dd l Y0 Y1:=hp.trans (Pg.trans .bump ⟨hpg.1,fun a o ha hb=>hpg.2.1 a o ha (by omega),hpg.2.2⟩);have hl':l<Y1.next:=PS hl (PD (PG _ 4) hpg.1);refine⟨n,v,Y1,hn,?_⟩;rcases hv with ⟨rfl,hj'⟩| ⟨rfl,hd'⟩
  .refine OW.o1 (by rfl) (fun S=>by simp only[go_sem,Nat.reduceBEq,Nat.reduceAdd, *];with_reducible exact Is.rfl) ?_;refine OW.nil (SH.n ?_);refine CW.aaO (by simp only[go_sem,Nat.reduceBEq,Nat.reduceAdd, *];exact Is.rfl) ?_;refine CW.skip (hQ1 _ _ (fun i h1 h2=>?_) ?_ ?_ hl' al4 hj')
   .simp only[ac5];rw[Yv _ _ (by simp;omega),Yv _ _ (by simp;omega),Yv _ _ (by simp;omega),Yv _ _ (by simp;omega)]
   .simp only[ac5,X0,h1]
   .simp only[go_sem,Nat.reduceBEq,h2]
  .refine OW.o1 (by rfl) (fun S=>by simp only[go_sem,Nat.reduceBEq,Nat.reduceAdd, *];with_reducible exact Is.rfl) ?_;refine OW.nil (SH.n ?_);refine CW.aaN (by simp only[go_sem,Nat.reduceBEq,Nat.reduceAdd, *];exact Is.rfl) ?_;refine CW.seq (CW.region ?_);refine OW.o1 (by rfl) (fun S=>by simp only[go_sem,Nat.reduceBEq,Nat.reduceAdd, *];with_reducible exact Is.rfl) ?_;refine OW.nil (SH.n (CW.ret (hQ2 _ _ ?_ ?_ (al4.trans .bump))))
   .simp only[go_sem,Nat.reduceBEq]
   .exact hD _ _ hl' hd' ⟨PG _ _,fun _ _=>rfl,fun _ _=>rfl,fun _ _ _=>rfl⟩
 have loop:∀(k i:Nat)(fr:Fr)(Y:qd),i+k=p.Rj.length->fr.d=dd->fr.tm 1=yv l->fr.tm 12=lv Pred.v p.Rj->fr.tm 13= .int .i64 (p.Rj.length:Nat)->fr.tm 14= .int .i64 (i:Nat)->p.Rj.length<2^62->l<Y.next->Pg d dd l Y0 Y->J (yl (U6 (p.Rj.drop i))++L) Y->
  CW E ((TL Tryz.f70.body [1,1,0,1,0]).getD .skip) fr Y (fun e fr' Y'=>(e= .exit 0/\J L Y'/\Pg d dd l Y0 Y')\/(e= .ret/\fr'.tm 4= .bool false/\D Y'/\Pg d dd l Y0 Y')):=by
  intro k;induction k with
  |zero=>
   intro i fr Y hi h1 h2 h3 h4 h5 hb hl hp hj;refine CW.loop (CW.seq (CW.region ?_));refine OW.o1 (by rfl) (fun S=>by simp only[go_sem,Nat.reduceBEq,Nat.reduceAdd, *];with_reducible exact Is.rfl) ?_;refine OW.nil (SH.n ?_);have e:decide (((i:Nat):Int)< ((p.Rj.length:Nat):Int))=false:=by simp;omega
   refine CW.seq (CW.aaO (by simp only[go_sem,Nat.reduceBEq,Nat.reduceAdd, *];exact Is.rfl) ?_);refine CW.exit (SH.x (XF.x (.inl ⟨rfl,?_,hp.trans .bump⟩)));have:p.Rj.drop i=[]:=QU (by omega);rw[this] at hj;exact hJ _ _ _ hl (by simpa [yl,U6] using hj) ⟨PG _ _,fun _ _=>rfl,fun _ _=>rfl,fun _ _ _=>rfl⟩
  |succ k ihk=>
   intro i fr Y hi h1 h2 h3 h4 h5 hb hl hp hj;have hlt:i<p.Rj.length:=by omega
   have hx:Fb p.Rj ((i:Nat):Int)=some p.Rj[i]:=by unfold Fb;rw[if_pos ⟨by omega,by omega⟩];simp[hlt]
   have hdrop:p.Rj.drop i=p.Rj[i]::p.Rj.drop (i+1):=Qd hlt;have hmem:p.Rj[i]∈p.Rj:=Qy hlt;generalize p.Rj[i]=q at hx hdrop hmem;refine CW.loop (CW.seq (CW.region ?_));refine OW.o1 (by rfl) (fun S=>by simp only[go_sem,Nat.reduceBEq,Nat.reduceAdd, *];with_reducible exact Is.rfl) ?_;refine OW.nil (SH.n ?_);have e:decide (((i:Nat):Int)< ((p.Rj.length:Nat):Int))=true:=by simp;omega
   refine CW.seq (CW.aaN (by simp only[go_sem,Nat.reduceBEq,Nat.reduceAdd, *];exact Is.rfl) ?_);refine CW.skip (SH.n ?_);refine CW.seq (CW.block (CW.seq (CW.region ?_)));have hP:E.P=Tryz.prog:=rfl;have axr:Vh Tryz.prog 22 (lv Pred.v p.Rj) (.int .i64 ((i:Nat):Int))=some (.Q5 q.c 0):=by rw[aeJ,if_pos (by rfl)];have e1:UF Tryz.prog 22=some 24:=(by kernel_rfl);have e2:RL Tryz.prog 24=some 6:=(by kernel_rfl);rw[e1];simp only[Option.bind_some,e2,hx];rfl
   refine OW.o1 (by rfl) (fun S=>by simp only[go_sem,Nat.reduceBEq,Nat.reduceAdd, *];with_reducible exact Is.rfl) ?_;refine OW.o1 (by rfl) (fun S=>by simp only[go_sem,Nat.reduceBEq,Nat.reduceAdd, *];with_reducible exact Is.rfl) ?_;have hz:Uc Tryz.prog 24=some (.agg [.int .i64 0,.str [],.int .i64 0,.int .i64 0,.str [],.tX .nil []]):=by kernel_rfl
   refine OW.o1 (by rfl) (fun S=>by simp only[go_sem,Nat.reduceBEq,Nat.reduceAdd, *];with_reducible exact Is.rfl) ?_;have axt:RL Tryz.prog 24=some 6:=by kernel_rfl
   have hsp:Tm [.int .i64 0,.str [],.int .i64 0,.int .i64 0,.str [],.tX .nil []] 0 q.c=q.c:=rfl;refine OW.o0 (by rfl) (fun S=>by rw[aeL];simp only[go_sem,Nat.reduceBEq,Nat.reduceAdd, *];rw[if_pos (by decide)];exact Is.rfl) ?_;refine OW.nil (NQ.i (SH.n ?_));rw[hdrop] at hj;have hj1:J (yl (pre q)++(yl (U6 (p.Rj.drop (i+1)))++L)) Y:=by have:yl (U6 (q::p.Rj.drop (i+1)))=yl (pre q)++yl (U6 (p.Rj.drop (i+1))):=(by simp[yl,U6]);rw[this,Qc] at hj;exact hj
   refine part _ _ ?s q _ _ ?hq ?hqs ?h1 ?h2 ?h3 ?h4 ?hl ?hp (hJ _ _ _ hl hj1 ?hsh) ?hQ1 ?hQ2;case h3=>simp only[go_sem,Nat.reduceBEq,Nat.reduceAdd, *];rfl
   case hq=>
    have h7:=List.sizeOf_lt_of_mem hmem;have h8:sizeOf p.Rj<sizeOf p:=(by cases p;simp;omega);omega
   case hqs=>have h:=al3 hmem;rw[pre_eq] at hsz;simp at hsz;omega
   case h1=>simp only[X0,h1]
   case h2=>simp only[go_sem,Nat.reduceBEq,Nat.reduceAdd, *]
   case h4=>exact aag _ _ _ _
   case hl=>exact PS hl (PD (PG _ _) (PG _ _))
   case hp=>exact hp.trans (Pg.trans .bump (Pg.trans .bump (Pg.trans .set .set)))
   case hsh=>exact⟨PD (PG _ _) (PG _ _),fun _ _=>rfl,fun _ _=>rfl,fun a o ha=>(adw (by omega)).trans (adw (by omega))⟩
   case hQ1=>
    intro fr' Y' k1 k2 k3 k4 k5 k6;refine UM.n (SH.n (CW.region ?_));have t12:fr'.tm 12=lv Pred.v p.Rj:=(by rw[k1 12 (by omega) (by omega)];simp only[go_sem,Nat.reduceBEq,Nat.reduceAdd, *]);have t13:fr'.tm 13= .int .i64 (p.Rj.length:Nat):=(by rw[k1 13 (by omega) (by omega)];simp only[go_sem,Nat.reduceBEq,Nat.reduceAdd, *]);have t14:fr'.tm 14= .int .i64 (i:Nat):=(by rw[k1 14 (by omega) (by omega)];simp only[go_sem,Nat.reduceBEq,Nat.reduceAdd, *]);have hw:IntKind.wrap .i64 ((i:Int)+(1:Int))=((i+1:Nat):Int):=(by rw[IntKind.wrap_i64];omega);refine OW.o1 (by rfl) (fun S=>by simp only[go_sem,Nat.reduceBEq,Nat.reduceAdd, *];with_reducible exact Is.rfl) ?_;refine OW.o1 (by rfl) (fun S=>by simp only[go_sem,Nat.reduceBEq,Nat.reduceAdd, *];with_reducible exact Is.rfl) ?_;refine OW.nil (NQ.i (XF.n (ihk (i+1) _ _ (by omega) ?_ ?_ ?_ ?_ ?_ hb ?_ (k5.trans .bump) ?_)))
    .simp only[X0,k2]
    .simp only[go_sem,Nat.reduceBEq,Nat.reduceAdd, *]
    .simp only[go_sem,Nat.reduceBEq,Nat.reduceAdd, *]
    .simp only[go_sem,Nat.reduceBEq,Nat.reduceAdd, *]
    .simp only[go_sem,Nat.reduceBEq,Nat.reduceAdd, *]
    .exact PS k4 (PG _ _)
    .exact hJ _ _ _ k4 k6 ⟨PG _ _,fun _ _=>rfl,fun _ _=>rfl,fun _ _ _=>rfl⟩
   case hQ2=>
    intro fr' Y' k1 k2 k3;exact UM.r (SH.r (XF.r (.inr ⟨rfl,k1,k2,k3⟩)))
 refine U9.of (fn:=Tryz.f70) (c:=Tryz.f70.body.getD .skip) Tryz.func70 rfl (by kernel_rfl) ?_;generalize hfr:({d:=dd,om:=E.om 70,tm:=fun i=>[Pred.v p,yv l].getD i Lv}:Fr)=fr;have h0:fr.tm 0=Pred.v p:=by rw[<-hfr];rfl
 have h1:fr.tm 1=yv l:=by rw[<-hfr];rfl
 have hdd:fr.d=dd:=by rw[<-hfr]
 have hP:E.P=Tryz.prog:=rfl;clear hfr;refine CW.seq (CW.region ?_);refine OW.o1 (by rfl) (fun S=>by simp only[go_sem,Nat.reduceBEq,Nat.reduceAdd, *];with_reducible exact Is.rfl) ?_;refine OW.o1 (by rfl) (fun S=>by simp only[go_sem,Nat.reduceBEq,Nat.reduceAdd, *];with_reducible exact Is.rfl) ?_;refine OW.nil (SH.n ?_);refine CW.seq (CW.seq (CW.region ?_));refine OW.o1 (by rfl) (fun S=>by simp only[go_sem,Nat.reduceBEq,Nat.reduceAdd, *];with_reducible exact Is.rfl) ?_;refine OW.o1 (by rfl) (fun S=>by simp only[go_sem,Nat.reduceBEq,Nat.reduceAdd, *];with_reducible exact Is.rfl) ?_;rw[pre_eq] at hj;have hj':J ([Pred.v p]::(yl (U6 p.Rj)++L)) (((Y0.bump 2).setObj (dd,2) Y0.next (.cells p.c)).bump 4):=hJ _ _ _ hl (by simpa [yl] using hj) ⟨PD (PG _ 2) (PG _ 4),fun _ _=>rfl,fun _ _=>rfl,fun a o ha=>adw (by omega)⟩;have hl1:l< (((Y0.bump 2).setObj (dd,2) Y0.next (.cells p.c)).bump 4).next:=by show l<Y0.next+2+4;omega
 obtain⟨c,Y1,hrnd,hn1,ho1,hlo1,hc1,hc2⟩:=hr _ _ _ hl1 hj';have hcell:Y1.Rt (dd,2) Y0.next=some p.c:=by rw[aqp (ho1 dd 2 hd)];exact aag _ _ _ _
 have ag7:Pg d dd l Y0 Y1:=(Pg.trans L6 .bump).trans ⟨hn1,fun a o ha _=>ho1 a o ha,hlo1⟩;have hl2:l<Y1.next:=PS hl ag7.1;refine OW.yield (l:=l) (b:=c) (by rfl) rfl rfl ?_ hrnd ?_
 .simp only[go_sem,Nat.reduceBEq,Nat.reduceAdd, *]
 refine OW.o1 (by rfl) (fun S=>by simp only[go_sem,Nat.reduceBEq,Nat.reduceAdd, *];with_reducible exact Is.rfl) ?_;refine OW.nil (SH.n ?_);cases c with
 |false=>refine CW.aaN (by simp only[go_sem,Nat.reduceBEq,Nat.reduceAdd, *];exact Is.rfl) ?_;refine CW.seq (CW.region ?_);refine OW.o1 (by rfl) (fun S=>by simp only[go_sem,Nat.reduceBEq,Nat.reduceAdd, *];with_reducible exact Is.rfl) ?_;refine OW.nil (SH.n (CW.ret (SH.r ?_)));refine XG.one (by simp) (by simp only[go_sem,Nat.reduceBEq,Nat.reduceAdd,TN];with_reducible exact Is.rfl) ⟨ag7.trans .bump,.inr ⟨rfl,?_⟩⟩;exact hD _ _ hl2 (hc2 rfl) ⟨PG _ _,fun _ _=>rfl,fun _ _=>rfl,fun _ _ _=>rfl⟩
 |true=>
  have hlen:p.Rj.length<2^62\/2^62<=p.Rj.length:=by omega
  refine CW.aaO (by simp only[go_sem,Nat.reduceBEq,Nat.reduceAdd, *];exact Is.rfl) ?_;refine CW.skip (SH.n ?_);refine CW.seq (CW.seq (CW.region ?_));refine OW.o1 (by rfl) (fun S=>by simp only[go_sem,Nat.reduceBEq,Nat.reduceAdd, *];with_reducible exact Is.rfl) ?_;refine OW.o1 (by rfl) (fun S=>by simp only[go_sem,Nat.reduceBEq,Nat.reduceAdd, *];with_reducible exact Is.rfl) ?_;refine OW.o1 (by rfl) (fun S=>by simp only[go_sem,Nat.reduceBEq,Nat.reduceAdd, *];with_reducible exact Is.rfl) ?_;refine OW.o1 (by rfl) (fun S=>by simp only[go_sem,Nat.reduceBEq,Nat.reduceAdd, *];with_reducible exact Is.rfl) ?_;refine OW.nil (SH.n (CW.block ?_));refine(loop p.Rj.length 0 _ _ (by omega) ?_ ?_ ?_ ?_ ?_ ?_ ?_ (ag7.trans .bump) ?_).mono ?_
  .simp only[X0,ac5,hdd]
  .simp only[go_sem,Nat.reduceBEq,Nat.reduceAdd, *]
  .simp only[go_sem,Nat.reduceBEq,Nat.reduceAdd, *]
  .simp only[go_sem,Nat.reduceBEq,Nat.reduceAdd, *]
  .simp only[go_sem,Nat.reduceBEq,Nat.reduceAdd, *];rfl
  .have h:=al2 p.Rj;rw[pre_eq] at hsz;simp at hsz;omega
  .exact PS hl2 (PG _ _)
  .exact hJ _ _ _ hl2 (by simpa using hc1 rfl) ⟨PG _ _,fun _ _=>rfl,fun _ _=>rfl,fun _ _ _=>rfl⟩
  .rintro e fr' Y' (⟨rfl,k1,k2⟩| ⟨rfl,k1,k2,k3⟩)
   .refine UM.hit (SH.n (CW.seq (CW.region ?_)));refine OW.o1 (by rfl) (fun S=>by simp only[go_sem,Nat.reduceBEq,Nat.reduceAdd, *];with_reducible exact Is.rfl) ?_;refine OW.nil (SH.n (CW.ret ?_));refine XG.one (by simp) (by simp only[go_sem,Nat.reduceBEq,Nat.reduceAdd,TN];with_reducible exact Is.rfl) ⟨k2.trans .bump,.inl ⟨rfl,?_⟩⟩;exact hJ _ _ _ (PS hl k2.1) k1 ⟨PG _ _,fun _ _=>rfl,fun _ _=>rfl,fun _ _ _=>rfl⟩
   .refine UM.r (SH.r (XG.one (by simp) (by simp only[TN];rw[k1];exact Is.rfl) ⟨k3,.inr ⟨rfl,k2⟩⟩))
theorem aqu (p:Pred)(hsz:(pre p).length<2^62):adp E 69 [] [.Q5 p.c 0] (yl (pre p)):=by
 intro d l Y J D hJ hD hr hl hj;refine U9.of (fn:=Tryz.f69) (c:=Tryz.f69.body.getD .skip) Tryz.func69 rfl (by kernel_rfl) ?_;generalize hfr:({d:=d+1,om:=E.om 69,tm:=fun i=>([]++[.fn (.yield l) [] []]++[.Q5 p.c 0]:List V).getD i Lv}:Fr)=fr;have h0:fr.tm 0=yv l:=by rw[<-hfr];rfl
 have h1:fr.tm 1= .Q5 p.c 0:=by rw[<-hfr];rfl
 have hdd:fr.d=d+1:=by rw[<-hfr]
 have hP:E.P=Tryz.prog:=rfl;clear hfr;refine CW.region ?_;refine OW.o1 (by rfl) (fun S=>by simp only[go_sem,Nat.reduceBEq,Nat.reduceAdd, *];with_reducible exact Is.rfl) ?_;refine OW.o1 (by rfl) (fun S=>by simp only[go_sem,Nat.reduceBEq,Nat.reduceAdd, *];with_reducible exact Is.rfl) ?_;refine OW.abp (g:=70) (a:=[]) (b:=[]) (by rfl) rfl rfl rfl rfl ?_;rw[X0,X0,hdd];change U9 E 70 [Pred.v p,yv l] (d+1+1) _ _;obtain⟨n,v,Y1,hn,hpg,hv⟩:=aqr hJ hD hr (sizeOf p+1) p (by omega) hsz (d+1+1) (Y.bump 3) [] (by omega) (PS hl (PG _ _)) (hJ _ _ _ hl (by simpa using hj) ⟨PG _ _,fun _ _=>rfl,fun _ _=>rfl,fun _ _ _=>rfl⟩);refine⟨n,v,Y1,hn,OW.nil ?_⟩;refine⟨[],rfl,PD (PG _ 3) hpg.1,?_⟩;rcases hv with ⟨_,h⟩| ⟨_,h⟩
 .exact .inl h
 .exact .inr h
def VN (p:Pred):Option (List Pred):=if (pre p).length<2^62 then some (pre p) else none
abbrev ag8:List Sk:=[.d (.int .i64),.d .str,.d (.int .i64),.d (.int .i64),.d .str,.d (.slice (.st 0))]
abbrev Wt:List Sk:=[.d (.st 0)]
noncomputable def Rx:IR R:=ab0 69 ⟨[],[.Q5 ag8 0],Wt,fun _ q=>VN (⟨q.1,q.2.1,q.2.2.1,q.2.2.2.1,q.2.2.2.2.1,q.2.2.2.2.2⟩:Pred)⟩ noI
theorem Sb:Ua E Rx:=by
 refine apN apM ⟨rfl,fun pa pb xs h=>?_⟩;unfold VN at h;dsimp only at h;split at h
 .rename_i hsz;cases h;have:=aqu _ hsz;have e:∀q:FN R.T ag8,Ri R [.Q5 ag8 0] q=[.Q5 (Pred.c ⟨q.1,q.2.1,q.2.2.1,q.2.2.2.1,q.2.2.2.2.1,q.2.2.2.2.2⟩) 0]:=fun q=>by unfold Pred.c;rw[Pred.afm];rfl
  have e2:∀l:List Pred,List.map (Ri R Wt) l=yl l:=fun l=>rfl;exact Eq.mpr (congrArg (fun b=>adp E 69 [] b (yl (pre ⟨pb.1,pb.2.1,pb.2.2.1,pb.2.2.2.1,pb.2.2.2.2.1,pb.2.2.2.2.2⟩))) (e pb)) this
 .cases h
end Sh
end
section
open Go Go.Proofs Aq
namespace Sh
noncomputable def g_0 (_:Nat):Nat->List (FR R):=noF
theorem aqv (n:Nat):Rq E (g_0 n):=apO
theorem aqw (p:FN R.T [])(x:Bool)(h:some true=some x):Pure E 11 (Ri R [] p) (Sy [.bool x]):=by
 cases h;exact⟨0,rfl⟩
end Sh
end
