import Derived.Test.YtgdialomgeijcaaGreatF4016
import Derived.Test.YtgdialomgeijcaaGreatF4017
set_option linter.all false
section
open Go Go.Proofs Aq
namespace Aq
mutual
def veq:V->V->Bool
 |.int k n,.int k' n'=>if k=k' then if n=n' then true else false else false|.str s,.str t=>if s=t then true else false|.bool s,.bool t=>if s=t then true else false|.agg l,.agg m=>aee l m|.tX .sh l,.tX .sh m=>aee l m|_,_=>false
def aee:List V->List V->Bool
 | [],[]=>true|x::l,y::m=>match veq x y with
  |true=>aee l m|false=>false
 |_,_=>false
end
mutual
theorem avc:∀(x y:V),veq x y=true->x=y:=by
 intro x y h;unfold veq at h;split at h
 .split at h
  .split at h
   .simp_all
   .cases h
  .cases h
 .split at h
  .simp_all
  .cases h
 .split at h
  .simp_all
  .cases h
 .rw[ag8 _ _ h]
 .rw[ag8 _ _ h]
 .cases h
theorem ag8:∀(l m:List V),aee l m=true->l=m:=by
 intro l m h;unfold aee at h;split at h
 .rfl
 .split at h
  .rename_i h1;rw[avc _ _ h1,ag8 _ _ h]
  .cases h
 .cases h
end
end Aq
namespace Sh
set_option maxRecDepth 100000
def ai7:List (List V×V):=[(aiR,aiS),(aiT,aiU),(aiV,aiW),(aiX,aiY)]
def ai8:List (List V×V):=[(aiZ,ai0),(ai1,ai2),(ai3,ai4),(ai5,ai6)]
theorem avd:∀p∈ai7,UJ (ES SG) 94 p.1 p.2:=by
 intro p hp;simp only[ai7,PI,List.not_mem_nil,or_false] at hp;rcases hp with rfl|rfl|rfl|rfl
 .exact auX
 .exact auZ
 .exact au1
 .exact au3
theorem ave:∀p∈ai8,UJ (ES SG) 58 p.1 p.2:=by
 intro p hp;simp only[ai8,PI,List.not_mem_nil,or_false] at hp;rcases hp with rfl|rfl|rfl|rfl
 .exact au5
 .exact au7
 .exact au9
 .exact avb
def ae6:List (List V×V)->List V->Option V
 | [],_=>none|p::l,args=>match aee args p.1 with
  |true=>some p.2|false=>ae6 l args
theorem ai9:∀{l:List (List V×V)}{args:List V}{v:V},ae6 l args=some v->(args,v)∈l
 |p::l,args,v,h=>by
  unfold ae6 at h;split at h
  .rename_i he;cases h;rw[ag8 _ _ he];exact PG ..
  .exact PK _ (ai9 h)
def ae7 (f:Nat):Option (List V->Option V):=bif Nat.beq f 42 then some aea else bif Nat.beq f 94 then some (ae6 ai7) else bif Nat.beq f 58 then some (ae6 ai8) else none
theorem es1:Ul (ES ae7):=apn _ fun f g h args v hv=>by
 unfold ae7 at h;cases h1:Nat.beq f 42
 .rw[h1,cond_false] at h;cases h2:Nat.beq f 94
  .rw[h2,cond_false] at h;cases h3:Nat.beq f 58
   .rw[h3,cond_false] at h;cases h
   .rw[h3,cond_true] at h;cases h;have:=QK h3;subst this;exact ave _ (ai9 hv)
  .rw[h2,cond_true] at h;cases h;have:=QK h2;subst this;exact avd _ (ai9 hv)
 .rw[h1,cond_true] at h;cases h;have:=QK h1;subst this;exact aiO rfl hv
theorem avf:WH (ES ae7) (Rn (ES ae7) 300) 11 []=some (.bool true):=by kernel_rfl
theorem avg:UJ (ES ae7) 11 [] (.bool true):=acS es1 (aaO es1 300).call avf
end Sh
end
section
open Go Go.Proofs Aq
namespace Sh
set_option maxRecDepth 100000
def Uq (l:List Attr)(x:List UInt8):Option Attr:=l.find? fun a=>a.Name==x
mutual
def Rx (l:List Attr):Pred->Bool
 | ⟨op,name,n,m,s,subs⟩=>
   if op=1 then true else if op=2 then WU l subs else if op=3 then anyS l subs else if op=4 then !anyS l subs else if op=5 then (Uq l name).isSome else if op=6 then (match Uq l name with|some a=>a.Kind==(1:Int)&& decide (a.N>=n)&& decide (a.N<=m)|none=>false) else if op=7 then (match Uq l name with|some a=>a.Kind==(2:Int)&& a.S==s|none=>false) else false
def WU (l:List Attr):List Pred->Bool
 | []=>true|p::ps=>Rx l p&& WU l ps
def anyS (l:List Attr):List Pred->Bool
 | []=>false|p::ps=>Rx l p||anyS l ps
end
mutual
def Rq:Pred->Nat
 | ⟨_,_,_,_,_,subs⟩=>Sm subs+1
def Sm:List Pred->Nat
 | []=>0|p::ps=>Rq p+Sm ps
end
def Vm (x:Rb):List Attr:=bif x.is then [x.a] else []
def Sn:Nat->Nat->List (List Rb)->List Attr
 |_,_,[]=>[]|k,sz,c::cs=>(match c[k/(sz/c.length)]? with|some x=>Vm x|none=>[])++Sn (k% (sz/c.length)) (sz/c.length) cs
def RB:List (List Rb)->Nat
 | []=>1|c::cs=>c.length*RB cs
abbrev SC (t:List (List Rb)):V:=lv (lv Rb.v) t
def VK (hs:List Attr->Bool)(t:List (List Rb)):List Attr×Bool:=match (List.range (RB t)).find? fun k=>hs (Sn k (RB t) t) with
 |some k=>(Sn k (RB t) t,false)|none=>([],true)
def abK (t:List (List Rb))(p:Pred):Option (List Attr×Bool):=
 if t.length<2^20/\(∀c∈t,0<c.length)/\RB t<=4096/\Rq p<2^62 then some (VK (fun l=>Rx l p) t) else none
def ae8 (t:List (List Rb))(p:Pred):V:=.Rw [lv Attr.v (VK (fun l=>Rx l p) t).1,.bool (VK (fun l=>Rx l p) t).2]
mutual
theorem apo:∀p q:Pred,Pred.vr p=Pred.vr q->p=q
 | ⟨a,b,c,d,e,f⟩,⟨a',b',c',d',e',f'⟩,h=>by unfold Pred.vr at h;simp only[V.agg.injEq,Qd,V.int.injEq,V.str.injEq,V.tX.injEq,true_and,and_true] at h;obtain⟨h1,h2,h3,h4,h5,h6⟩:=h;rw[h1,h2,h3,h4,h5,apq f f' h6]
theorem apq:∀l m:List Pred,Pred.vl l=Pred.vl m->l=m
 | [],[],_=>rfl| [],_::_,h=>by unfold Pred.vl at h;cases h|_::_,[],h=>by unfold Pred.vl at h;cases h|p::l,q::m,h=>by unfold Pred.vl at h;simp only[Qd] at h;rw[apo p q h.1,apq l m h.2]
end
theorem avh (p q:Pred)(h:Pred.v p=Pred.v q):p=q:=apo p q (by rw[Pred.ag5];exact h)
theorem avi:∀x y:Rb,Rb.v x=Rb.v y->x=y:=by rintro⟨⟨a,b,c,d⟩,e⟩ ⟨⟨a',b',c',d'⟩,e'⟩ h;have h:V.agg [.str a,.int .i64 b,.int .i64 c,.str d,.bool e]=V.agg [.str a',.int .i64 b',.int .i64 c',.str d',.bool e']:=h;simp only[V.agg.injEq,Qd,V.int.injEq,V.str.injEq,V.bool.injEq,true_and,and_true] at h;obtain⟨rfl,rfl,rfl,rfl,rfl⟩:=h;rfl
theorem map_inj {U:Type}{f:U->V}(hf:∀x y,f x=f y->x=y):∀l m:List U,l.map f=m.map f->l=m
 | [],[],_=>rfl| [],_::_,h=>by cases h|_::_,[],h=>by cases h|x::l,y::m,h=>by simp only[PS,Qd] at h;rw[hf x y h.1,map_inj hf l m h.2]
theorem apr {U:Type}{f:U->V}(hf:∀x y,f x=f y->x=y)(l m:List U)(h:lv f l=lv f m):l=m:=by have h:V.tX .sh (l.map f)=V.tX .sh (m.map f):=h;simp only[V.tX.injEq,true_and] at h;exact map_inj hf l m h
def aps (args:List V)(v:V):Prop:=∃t p,args=[SC t,Pred.v p]/\v=ae8 t p/\UJ (ES SG) 58 args v
open Classical in
noncomputable def firstT (args:List V):Option V:=if h:∃v,aps args v then some h.choose else none
theorem avj {args:List V}{v:V}(h:firstT args=some v):UJ (ES SG) 58 args v:=by
 unfold firstT at h;split at h
 .rename_i hx;cases h;obtain⟨t,p,_,_,h3⟩:=hx.choose_spec;exact h3
 .cases h
theorem avk {t:List (List Rb)}{p:Pred}(h:UJ (ES SG) 58 [SC t,Pred.v p] (ae8 t p)):firstT [SC t,Pred.v p]=some (ae8 t p):=by have hx:∃v,aps [SC t,Pred.v p] v:=⟨_,t,p,rfl,rfl,h⟩;unfold firstT;rw[dif_pos hx];obtain⟨t',p',h1,h2,_⟩:=hx.choose_spec;rw[h2];simp only[Qd,and_true] at h1;rw[apr (apr avi) _ _ h1.1,avh _ _ h1.2]
end Sh
end
section
open Go Go.Proofs Aq
namespace Sh
set_option maxRecDepth 100000
def apt:List V->Option V
 | []=>some (.bool true)|_::_=>none
noncomputable def avl (f:Nat):Option (List V->Option V):=bif Nat.beq f 11 then some apt else bif Nat.beq f 42 then some aea else bif Nat.beq f 58 then some firstT else none
noncomputable def E:Env:={P:=Tryz.prog,glob:=apm,imp:=fun f=>Nat.beq f 69||Nat.beq f 70||Nat.beq f 82||Nat.beq f 106||Nat.beq f 91||Nat.beq f 92||Nat.beq f 101||Nat.beq f 103||Nat.beq f 104||Nat.beq f 105||Nat.beq f 107||Nat.beq f 108||Nat.beq f 109||Nat.beq f 111||Nat.beq f 112||Nat.beq f 113||Nat.beq f 114||Nat.beq f 117||Nat.beq f 119||Nat.beq f 122||Nat.beq f 124||Nat.beq f 125||Nat.beq f 126||Nat.beq f 127||Nat.beq f 128||Nat.beq f 129||Nat.beq f 131||Nat.beq f 132||Nat.beq f 134||Nat.beq f 135||Nat.beq f 136||Nat.beq f 137||Nat.beq f 138||Nat.beq f 139||Nat.beq f 140,om:=fun f=>Nat.beq f 77||Nat.beq f 94,W9:=avl,cn:=fun d=>bif Nat.beq d 57 then 99999 else bif Nat.beq d 49 then 41 else bif Nat.beq d 39 then 99999 else bif Nat.beq d 9 then 99999 else d,frz:=fun t=>Nat.beq t 24||Nat.beq t 74,aoX:=fun d=>Nat.beq d 74002||Nat.beq d 74003||Nat.beq d 24003||Nat.beq d 24004,bsm:=fun d=>Nat.beq d 9}
theorem avm (d:Option Nat):fzM E d=false:=by cases d<;>rfl
theorem avn:YJ E 24 (some 1)=false:=rfl
theorem avo:YJ E 24 (some 2)=false:=rfl
attribute [go_sem] avm avn avo if_false
mutual
def pre:Pred->List Pred
 | ⟨op,name,n,m,s,subs⟩=>⟨op,name,n,m,s,subs⟩::Uw subs
def Uw:List Pred->List Pred
 | []=>[]|p::ps=>pre p++Uw ps
end
theorem pre_eq (p:Pred):pre p=p::Uw p.Ra:=by cases p;simp[pre]
def yl (l:List Pred):List (List V):=l.map fun q=>[Pred.v q]
abbrev yv (l:Nat):V:=.fn (.yield l) [] []
def aja (d dd l:Nat)(Y:qd)(J:List (List V)->qd->Prop)(D:qd->Prop)(L:List (List V))(v:V)(Y':qd):Prop:=
 Y.next<=Y'.next/\(∀a o,d<a->a<dd->Y'.obj (a,o)=Y.obj (a,o))/\(∀s,s<Y.next->Y'.loops s=Y.loops s\/s=l)/\((v= .bool true/\J L Y')\/(v= .bool false/\D Y'))
theorem aja.trans {d dd l:Nat}{Y Y1:qd}{J:List (List V)->qd->Prop}{D:qd->Prop}{L:List (List V)}{v:V}{Y':qd}(hn:Y.next<=Y1.next)(ho:∀a o,d<a->a<dd->Y1.obj (a,o)=Y.obj (a,o))(hl:∀s,s<Y.next->Y1.loops s=Y.loops s\/s=l)(h:aja d dd l Y1 J D L v Y'):aja d dd l Y J D L v Y':=by
 obtain⟨h1,h2,h3,h4⟩:=h;refine⟨PE hn h1,fun a o ha hb=>(h2 a o ha hb).trans (ho a o ha hb),fun s hs=>?_,h4⟩;rcases h3 s (PW hs hn) with e|e
 .rcases hl s hs with e'|e'
  .exact .inl (e.trans e')
  .exact .inr e'
 .exact .inr e
theorem ae9 {a o s b p:Nat}{Y:qd}{x:TD}(h:b≠a):(Y.setObj (a,o) s x).obj (b,p)=Y.obj (b,p):=by show upd Y.obj (a,o) _ (b,p)=_;unfold upd;rw[if_neg];intro e;exact h (congrArg Prod.fst e)
theorem avp {Y Y':qd}{loc:Aq.Loc}{s:Nat}(h:Y'.obj loc=Y.obj loc):Y'.Rz loc s=Y.Rz loc s:=by unfold qd.Rz;rw[h]
end Sh
end
section
open Go Go.Proofs Aq
namespace Sh
set_option maxRecDepth 100000
def Pg (d dd l:Nat)(Y Y':qd):Prop:=Y.next<=Y'.next/\(∀a o,d<a->a<dd->Y'.obj (a,o)=Y.obj (a,o))/\(∀s,s<Y.next->Y'.loops s=Y.loops s\/s=l)
theorem Pg.trans {d dd l:Nat}{Y Y1 Y2:qd}(h:Pg d dd l Y Y1)(g:Pg d dd l Y1 Y2):Pg d dd l Y Y2:=by
 refine⟨PE h.1 g.1,fun a o ha hb=>(g.2.1 a o ha hb).trans (h.2.1 a o ha hb),fun s hs=>?_⟩;rcases g.2.2 s (PW hs h.1) with e|e
 .rcases h.2.2 s hs with e'|e'
  .exact .inl (e.trans e')
  .exact .inr e'
 .exact .inr e
theorem Pg.refl {d dd l:Nat}{Y:qd}:Pg d dd l Y Y:=⟨mF _,fun _ _ _ _=>rfl,fun _ _=>.inl rfl⟩
theorem Pg.bump {d dd l k:Nat}{Y:qd}:Pg d dd l Y (Y.bump k):=⟨PO _ _,fun _ _ _ _=>rfl,fun _ _=>.inl rfl⟩
theorem Pg.set {d dd l o s:Nat}{Y:qd}{x:TD}:Pg d dd l Y (Y.setObj (dd,o) s x):=⟨mF _,fun a o' _ hb=>ae9 (by omega),fun _ _=>.inl rfl⟩
theorem apu:∀l:List Pred,l.length<=(Uw l).length
 | []=>by simp[Uw]|p::l=>by have:=apu l;rw[Uw,pre_eq];simp;omega
theorem apv {q:Pred}:∀{l:List Pred},q∈l->(pre q).length<=(Uw l).length
 |p::l,h=>by
  rw[Uw,PU];rcases PI.1 h with rfl|h
  .omega
  .have:=apv h;omega
theorem avq {d l:Nat}{J:List (List V)->qd->Prop}{D:qd->Prop}(hJ:∀xs Y Y',l<Y.next->J xs Y->Shift d Y Y'->J xs Y')(hD:∀Y Y',l<Y.next->D Y->Shift d Y Y'->D Y')(hr:∀x xs Y,l<Y.next->J (x::xs) Y->∃c Y',Rnd E l x Y c Y'/\Y.next<=Y'.next/\(∀a o,d<a->Y'.obj (a,o)=Y.obj (a,o))/\(∀s,s<Y.next->Y'.loops s=Y.loops s\/s=l)/\(c=true->J xs Y')/\(c=false->D Y')):
 ∀(g:Nat)(p:Pred),sizeOf p<g->(pre p).length<2^62->∀(dd:Nat)(Y:qd)(L:List (List V)),d<dd->l<Y.next->J (yl (pre p)++L) Y->VF E 70 [Pred.v p,yv l] dd Y (fun v Y'=>Pg d dd l Y Y'/\((v= .bool true/\J L Y')\/(v= .bool false/\D Y'))):=by
 intro g;induction g with
 |zero=>intro p hp;omega|succ g ih=>
 intro p hp hsz dd Y0 L hd hl hj;have Q8:∀{Y:qd}{x:TD}{k o s:Nat},Pg d dd l Y ((Y.bump k).setObj (dd,o) s x):=Pg.trans .bump .set;have part:∀(fr:Fr)(Y:qd)(s:Nat)(q:Pred)(xs:List (List V))(Q:Ex->Fr->qd->Prop),sizeOf q<g->(pre q).length<2^62->fr.d=dd->fr.tm 1=yv l->fr.tm 6= .ref (dd,6) s 0->Y.Rz (dd,6) s=some q.c->l<Y.next->Pg d dd l Y0 Y->J (yl (pre q)++xs) Y->
  (∀fr' Y',(∀i,i<18->6<i->fr'.tm i=fr.tm i)->fr'.d=dd->fr'.tm 1=yv l->l<Y'.next->Pg d dd l Y0 Y'->J xs Y'->Q .normal fr' Y')->(∀fr' Y',fr'.tm 4= .bool false->D Y'->Pg d dd l Y0 Y'->Q .ret fr' Y')->
  CW E ((TM Tryz.f70.body [1,1,0,1,0,0,1,1,0,0,1]).getD .skip) fr Y Q:=by
  intro fr Y s q xs Q hq hqs h1 h2 h3 h4 hl hp hj hQ1 hQ2;have hP:E.P=Tryz.prog:=rfl;refine CW.seq (CW.region ?_);refine OW.o1 (by rfl) (fun S=>by simp only[go_sem,Nat.reduceBEq,Nat.reduceAdd, *];with_reducible exact Is.rfl) ?_;refine OW.o1 (by rfl) (fun S=>by simp only[go_sem,Nat.reduceBEq,Nat.reduceAdd, *];with_reducible exact Is.rfl) ?_;refine OW.acT (g:=70) (a:=[]) (b:=[]) (by rfl) rfl rfl rfl rfl ?_;rw[Z9,Z9,h1];change VF E 70 [Pred.v q,yv l] (dd+1) _ _;obtain⟨n,v,Y1,hn,hpg,hv⟩:=ih q hq hqs (dd+1) (Y.bump 4) xs (by omega) (PW hl (PO _ _)) (hJ _ _ _ hl hj ⟨PO _ _,fun _ _=>rfl,fun _ _=>rfl,fun _ _ _=>rfl⟩);have apw:Pg d dd l Y0 Y1:=hp.trans (Pg.trans .bump ⟨hpg.1,fun a o ha hb=>hpg.2.1 a o ha (by omega),hpg.2.2⟩);have hl':l<Y1.next:=PW hl (PE (PO _ 4) hpg.1);refine⟨n,v,Y1,hn,?_⟩;rcases hv with ⟨rfl,hj'⟩| ⟨rfl,hd'⟩
  .refine OW.o1 (by rfl) (fun S=>by simp only[go_sem,Nat.reduceBEq,Nat.reduceAdd, *];with_reducible exact Is.rfl) ?_;refine OW.nil (SY.n ?_);refine CW.ab6 (by simp only[go_sem,Nat.reduceBEq,Nat.reduceAdd, *];exact Is.rfl) ?_;refine CW.skip (hQ1 _ _ (fun i h1 h2=>?_) ?_ ?_ hl' apw hj')
   .simp only[aeN];rw[aaP _ _ (by simp;omega),aaP _ _ (by simp;omega),aaP _ _ (by simp;omega),aaP _ _ (by simp;omega)]
   .simp only[aeN,Z9,h1]
   .simp only[go_sem,Nat.reduceBEq,h2]
  .refine OW.o1 (by rfl) (fun S=>by simp only[go_sem,Nat.reduceBEq,Nat.reduceAdd, *];with_reducible exact Is.rfl) ?_;refine OW.nil (SY.n ?_);refine CW.ab5 (by simp only[go_sem,Nat.reduceBEq,Nat.reduceAdd, *];exact Is.rfl) ?_;refine CW.seq (CW.region ?_);refine OW.o1 (by rfl) (fun S=>by simp only[go_sem,Nat.reduceBEq,Nat.reduceAdd, *];with_reducible exact Is.rfl) ?_;refine OW.nil (SY.n (CW.ret (hQ2 _ _ ?_ ?_ (apw.trans .bump))))
   .simp only[go_sem,Nat.reduceBEq]
   .exact hD _ _ hl' hd' ⟨PO _ _,fun _ _=>rfl,fun _ _=>rfl,fun _ _ _=>rfl⟩
 have loop:∀(k i:Nat)(fr:Fr)(Y:qd),i+k=p.Ra.length->fr.d=dd->fr.tm 1=yv l->fr.tm 12=lv Pred.v p.Ra->fr.tm 13= .int .i64 (p.Ra.length:Nat)->fr.tm 14= .int .i64 (i:Nat)->p.Ra.length<2^62->l<Y.next->Pg d dd l Y0 Y->J (yl (Uw (p.Ra.drop i))++L) Y->
  CW E ((TM Tryz.f70.body [1,1,0,1,0]).getD .skip) fr Y (fun e fr' Y'=>(e= .exit 0/\J L Y'/\Pg d dd l Y0 Y')\/(e= .ret/\fr'.tm 4= .bool false/\D Y'/\Pg d dd l Y0 Y')):=by
  intro k;induction k with
  |zero=>
   intro i fr Y hi h1 h2 h3 h4 h5 hb hl hp hj;refine CW.loop (CW.seq (CW.region ?_));refine OW.o1 (by rfl) (fun S=>by simp only[go_sem,Nat.reduceBEq,Nat.reduceAdd, *];with_reducible exact Is.rfl) ?_;refine OW.nil (SY.n ?_);have e:decide (((i:Nat):Int)< ((p.Ra.length:Nat):Int))=false:=by simp;omega
   refine CW.seq (CW.ab6 (by simp only[go_sem,Nat.reduceBEq,Nat.reduceAdd, *];exact Is.rfl) ?_);refine CW.exit (SY.x (YL.x (.inl ⟨rfl,?_,hp.trans .bump⟩)));have:p.Ra.drop i=[]:=QU (by omega);rw[this] at hj;exact hJ _ _ _ hl (by simpa [yl,Uw] using hj) ⟨PO _ _,fun _ _=>rfl,fun _ _=>rfl,fun _ _ _=>rfl⟩
  |succ k ihk=>
   intro i fr Y hi h1 h2 h3 h4 h5 hb hl hp hj;have hlt:i<p.Ra.length:=by omega
   have hx:Q5 p.Ra ((i:Nat):Int)=some p.Ra[i]:=by unfold Q5;rw[if_pos ⟨by omega,by omega⟩];simp[hlt]
   have hdrop:p.Ra.drop i=p.Ra[i]::p.Ra.drop (i+1):=Qf hlt;have hmem:p.Ra[i]∈p.Ra:=Qx hlt;generalize p.Ra[i]=q at hx hdrop hmem;refine CW.loop (CW.seq (CW.region ?_));refine OW.o1 (by rfl) (fun S=>by simp only[go_sem,Nat.reduceBEq,Nat.reduceAdd, *];with_reducible exact Is.rfl) ?_;refine OW.nil (SY.n ?_);have e:decide (((i:Nat):Int)< ((p.Ra.length:Nat):Int))=true:=by simp;omega
   refine CW.seq (CW.ab5 (by simp only[go_sem,Nat.reduceBEq,Nat.reduceAdd, *];exact Is.rfl) ?_);refine CW.skip (SY.n ?_);refine CW.seq (CW.block (CW.seq (CW.region ?_)));have hP:E.P=Tryz.prog:=rfl;have aDj:VQ Tryz.prog 22 (lv Pred.v p.Ra) (.int .i64 ((i:Nat):Int))=some (.Q9 q.c 0):=by rw[agt,if_pos (by rfl)];have e1:U8 Tryz.prog 22=some 24:=(by kernel_rfl);have e2:RY Tryz.prog 24=some 6:=(by kernel_rfl);rw[e1];simp only[Option.bind_some,e2,hx];rfl
   refine OW.o1 (by rfl) (fun S=>by simp only[go_sem,Nat.reduceBEq,Nat.reduceAdd, *];with_reducible exact Is.rfl) ?_;refine OW.o1 (by rfl) (fun S=>by simp only[go_sem,Nat.reduceBEq,Nat.reduceAdd, *];with_reducible exact Is.rfl) ?_;have hz:Ut Tryz.prog 24=some (.agg [.int .i64 0,.str [],.int .i64 0,.int .i64 0,.str [],.tX .nil []]):=by kernel_rfl
   refine OW.o1 (by rfl) (fun S=>by simp only[go_sem,Nat.reduceBEq,Nat.reduceAdd, *];with_reducible exact Is.rfl) ?_;have aDk:RY Tryz.prog 24=some 6:=by kernel_rfl
   have hsp:TF [.int .i64 0,.str [],.int .i64 0,.int .i64 0,.str [],.tX .nil []] 0 q.c=q.c:=rfl;refine OW.o0 (by rfl) (fun S=>by rw[agv];simp only[go_sem,Nat.reduceBEq,Nat.reduceAdd, *];rw[if_pos (by decide)];exact Is.rfl) ?_;refine OW.nil (NQ.i (SY.n ?_));rw[hdrop] at hj;have hj1:J (yl (pre q)++(yl (Uw (p.Ra.drop (i+1)))++L)) Y:=by have:yl (Uw (q::p.Ra.drop (i+1)))=yl (pre q)++yl (Uw (p.Ra.drop (i+1))):=(by simp[yl,Uw]);rw[this,Qe] at hj;exact hj
   refine part _ _ ?s q _ _ ?hq ?hqs ?h1 ?h2 ?h3 ?h4 ?hl ?hp (hJ _ _ _ hl hj1 ?hsh) ?hQ1 ?hQ2;case h3=>simp only[go_sem,Nat.reduceBEq,Nat.reduceAdd, *];rfl
   case hq=>
    have h7:=List.sizeOf_lt_of_mem hmem;have h8:sizeOf p.Ra<sizeOf p:=(by cases p;simp;omega);omega
   case hqs=>have h:=apv hmem;rw[pre_eq] at hsz;simp at hsz;omega
   case h1=>simp only[Z9,h1]
   case h2=>simp only[go_sem,Nat.reduceBEq,Nat.reduceAdd, *]
   case h4=>exact abw _ _ _ _
   case hl=>exact PW hl (PE (PO _ _) (PO _ _))
   case hp=>exact hp.trans (Pg.trans .bump (Pg.trans .bump (Pg.trans .set .set)))
   case hsh=>exact⟨PE (PO _ _) (PO _ _),fun _ _=>rfl,fun _ _=>rfl,fun a o ha=>(ae9 (by omega)).trans (ae9 (by omega))⟩
   case hQ1=>
    intro fr' Y' k1 k2 k3 k4 k5 k6;refine Vj.n (SY.n (CW.region ?_));have t12:fr'.tm 12=lv Pred.v p.Ra:=(by rw[k1 12 (by omega) (by omega)];simp only[go_sem,Nat.reduceBEq,Nat.reduceAdd, *]);have t13:fr'.tm 13= .int .i64 (p.Ra.length:Nat):=(by rw[k1 13 (by omega) (by omega)];simp only[go_sem,Nat.reduceBEq,Nat.reduceAdd, *]);have t14:fr'.tm 14= .int .i64 (i:Nat):=(by rw[k1 14 (by omega) (by omega)];simp only[go_sem,Nat.reduceBEq,Nat.reduceAdd, *]);have hw:IntKind.wrap .i64 ((i:Int)+(1:Int))=((i+1:Nat):Int):=(by rw[IntKind.wrap_i64];omega);refine OW.o1 (by rfl) (fun S=>by simp only[go_sem,Nat.reduceBEq,Nat.reduceAdd, *];with_reducible exact Is.rfl) ?_;refine OW.o1 (by rfl) (fun S=>by simp only[go_sem,Nat.reduceBEq,Nat.reduceAdd, *];with_reducible exact Is.rfl) ?_;refine OW.nil (NQ.i (YL.n (ihk (i+1) _ _ (by omega) ?_ ?_ ?_ ?_ ?_ hb ?_ (k5.trans .bump) ?_)))
    .simp only[Z9,k2]
    .simp only[go_sem,Nat.reduceBEq,Nat.reduceAdd, *]
    .simp only[go_sem,Nat.reduceBEq,Nat.reduceAdd, *]
    .simp only[go_sem,Nat.reduceBEq,Nat.reduceAdd, *]
    .simp only[go_sem,Nat.reduceBEq,Nat.reduceAdd, *]
    .exact PW k4 (PO _ _)
    .exact hJ _ _ _ k4 k6 ⟨PO _ _,fun _ _=>rfl,fun _ _=>rfl,fun _ _ _=>rfl⟩
   case hQ2=>
    intro fr' Y' k1 k2 k3;exact Vj.r (SY.r (YL.r (.inr ⟨rfl,k1,k2,k3⟩)))
 refine VF.of (fn:=Tryz.f70) (c:=Tryz.f70.body.getD .skip) Tryz.func70 rfl (by kernel_rfl) ?_;generalize hfr:({d:=dd,om:=E.om 70,tm:=fun i=>[Pred.v p,yv l].getD i Q6}:Fr)=fr;have h0:fr.tm 0=Pred.v p:=by rw[<-hfr];rfl
 have h1:fr.tm 1=yv l:=by rw[<-hfr];rfl
 have hdd:fr.d=dd:=by rw[<-hfr]
 have hP:E.P=Tryz.prog:=rfl;clear hfr;refine CW.seq (CW.region ?_);refine OW.o1 (by rfl) (fun S=>by simp only[go_sem,Nat.reduceBEq,Nat.reduceAdd, *];with_reducible exact Is.rfl) ?_;refine OW.o1 (by rfl) (fun S=>by simp only[go_sem,Nat.reduceBEq,Nat.reduceAdd, *];with_reducible exact Is.rfl) ?_;refine OW.nil (SY.n ?_);refine CW.seq (CW.seq (CW.region ?_));refine OW.o1 (by rfl) (fun S=>by simp only[go_sem,Nat.reduceBEq,Nat.reduceAdd, *];with_reducible exact Is.rfl) ?_;refine OW.o1 (by rfl) (fun S=>by simp only[go_sem,Nat.reduceBEq,Nat.reduceAdd, *];with_reducible exact Is.rfl) ?_;rw[pre_eq] at hj;have hj':J ([Pred.v p]::(yl (Uw p.Ra)++L)) (((Y0.bump 2).setObj (dd,2) Y0.next (.cells p.c)).bump 4):=hJ _ _ _ hl (by simpa [yl] using hj) ⟨PE (PO _ 2) (PO _ 4),fun _ _=>rfl,fun _ _=>rfl,fun a o ha=>ae9 (by omega)⟩;have hl1:l< (((Y0.bump 2).setObj (dd,2) Y0.next (.cells p.c)).bump 4).next:=by show l<Y0.next+2+4;omega
 obtain⟨c,Y1,hrnd,hn1,ho1,hlo1,hc1,hc2⟩:=hr _ _ _ hl1 hj';have hcell:Y1.Rz (dd,2) Y0.next=some p.c:=by rw[avp (ho1 dd 2 hd)];exact abw _ _ _ _
 have aje:Pg d dd l Y0 Y1:=(Pg.trans Q8 .bump).trans ⟨hn1,fun a o ha _=>ho1 a o ha,hlo1⟩;have hl2:l<Y1.next:=PW hl aje.1;refine OW.yield (l:=l) (b:=c) (by rfl) rfl rfl ?_ hrnd ?_
 .simp only[go_sem,Nat.reduceBEq,Nat.reduceAdd, *]
 refine OW.o1 (by rfl) (fun S=>by simp only[go_sem,Nat.reduceBEq,Nat.reduceAdd, *];with_reducible exact Is.rfl) ?_;refine OW.nil (SY.n ?_);cases c with
 |false=>refine CW.ab5 (by simp only[go_sem,Nat.reduceBEq,Nat.reduceAdd, *];exact Is.rfl) ?_;refine CW.seq (CW.region ?_);refine OW.o1 (by rfl) (fun S=>by simp only[go_sem,Nat.reduceBEq,Nat.reduceAdd, *];with_reducible exact Is.rfl) ?_;refine OW.nil (SY.n (CW.ret (SY.r ?_)));refine YM.one (by simp) (by simp only[go_sem,Nat.reduceBEq,Nat.reduceAdd,Uf];with_reducible exact Is.rfl) ⟨aje.trans .bump,.inr ⟨rfl,?_⟩⟩;exact hD _ _ hl2 (hc2 rfl) ⟨PO _ _,fun _ _=>rfl,fun _ _=>rfl,fun _ _ _=>rfl⟩
 |true=>
  have hlen:p.Ra.length<2^62\/2^62<=p.Ra.length:=by omega
  refine CW.ab6 (by simp only[go_sem,Nat.reduceBEq,Nat.reduceAdd, *];exact Is.rfl) ?_;refine CW.skip (SY.n ?_);refine CW.seq (CW.seq (CW.region ?_));refine OW.o1 (by rfl) (fun S=>by simp only[go_sem,Nat.reduceBEq,Nat.reduceAdd, *];with_reducible exact Is.rfl) ?_;refine OW.o1 (by rfl) (fun S=>by simp only[go_sem,Nat.reduceBEq,Nat.reduceAdd, *];with_reducible exact Is.rfl) ?_;refine OW.o1 (by rfl) (fun S=>by simp only[go_sem,Nat.reduceBEq,Nat.reduceAdd, *];with_reducible exact Is.rfl) ?_;refine OW.o1 (by rfl) (fun S=>by simp only[go_sem,Nat.reduceBEq,Nat.reduceAdd, *];with_reducible exact Is.rfl) ?_;refine OW.nil (SY.n (CW.block ?_));refine(loop p.Ra.length 0 _ _ (by omega) ?_ ?_ ?_ ?_ ?_ ?_ ?_ (aje.trans .bump) ?_).mono ?_
  .simp only[Z9,aeN,hdd]
  .simp only[go_sem,Nat.reduceBEq,Nat.reduceAdd, *]
  .simp only[go_sem,Nat.reduceBEq,Nat.reduceAdd, *]
  .simp only[go_sem,Nat.reduceBEq,Nat.reduceAdd, *]
  .simp only[go_sem,Nat.reduceBEq,Nat.reduceAdd, *];rfl
  .have h:=apu p.Ra;rw[pre_eq] at hsz;simp at hsz;omega
  .exact PW hl2 (PO _ _)
  .exact hJ _ _ _ hl2 (by simpa using hc1 rfl) ⟨PO _ _,fun _ _=>rfl,fun _ _=>rfl,fun _ _ _=>rfl⟩
  .rintro e fr' Y' (⟨rfl,k1,k2⟩| ⟨rfl,k1,k2,k3⟩)
   .refine Vj.hit (SY.n (CW.seq (CW.region ?_)));refine OW.o1 (by rfl) (fun S=>by simp only[go_sem,Nat.reduceBEq,Nat.reduceAdd, *];with_reducible exact Is.rfl) ?_;refine OW.nil (SY.n (CW.ret ?_));refine YM.one (by simp) (by simp only[go_sem,Nat.reduceBEq,Nat.reduceAdd,Uf];with_reducible exact Is.rfl) ⟨k2.trans .bump,.inl ⟨rfl,?_⟩⟩;exact hJ _ _ _ (PW hl k2.1) k1 ⟨PO _ _,fun _ _=>rfl,fun _ _=>rfl,fun _ _ _=>rfl⟩
   .refine Vj.r (SY.r (YM.one (by simp) (by simp only[Uf];rw[k1];exact Is.rfl) ⟨k3,.inr ⟨rfl,k2⟩⟩))
theorem avt (p:Pred)(hsz:(pre p).length<2^62):ae3 E 69 [] [.Q9 p.c 0] (yl (pre p)):=by
 intro d l Y J D hJ hD hr hl hj;refine VF.of (fn:=Tryz.f69) (c:=Tryz.f69.body.getD .skip) Tryz.func69 rfl (by kernel_rfl) ?_;generalize hfr:({d:=d+1,om:=E.om 69,tm:=fun i=>([]++[.fn (.yield l) [] []]++[.Q9 p.c 0]:List V).getD i Q6}:Fr)=fr;have h0:fr.tm 0=yv l:=by rw[<-hfr];rfl
 have h1:fr.tm 1= .Q9 p.c 0:=by rw[<-hfr];rfl
 have hdd:fr.d=d+1:=by rw[<-hfr]
 have hP:E.P=Tryz.prog:=rfl;clear hfr;refine CW.region ?_;refine OW.o1 (by rfl) (fun S=>by simp only[go_sem,Nat.reduceBEq,Nat.reduceAdd, *];with_reducible exact Is.rfl) ?_;refine OW.o1 (by rfl) (fun S=>by simp only[go_sem,Nat.reduceBEq,Nat.reduceAdd, *];with_reducible exact Is.rfl) ?_;refine OW.acT (g:=70) (a:=[]) (b:=[]) (by rfl) rfl rfl rfl rfl ?_;rw[Z9,Z9,hdd];change VF E 70 [Pred.v p,yv l] (d+1+1) _ _;obtain⟨n,v,Y1,hn,hpg,hv⟩:=avq hJ hD hr (sizeOf p+1) p (by omega) hsz (d+1+1) (Y.bump 3) [] (by omega) (PW hl (PO _ _)) (hJ _ _ _ hl (by simpa using hj) ⟨PO _ _,fun _ _=>rfl,fun _ _=>rfl,fun _ _ _=>rfl⟩);refine⟨n,v,Y1,hn,OW.nil ?_⟩;refine⟨[],rfl,PE (PO _ 3) hpg.1,?_⟩;rcases hv with ⟨_,h⟩| ⟨_,h⟩
 .exact .inl h
 .exact .inr h
def Wv (p:Pred):Option (List Pred):=if (pre p).length<2^62 then some (pre p) else none
abbrev ajf:List Sk:=[.d (.int .i64),.d .str,.d (.int .i64),.d (.int .i64),.d .str,.d (.slice (.st 0))]
abbrev X9:List Sk:=[.d (.st 0)]
noncomputable def RF:IR R:=adG 69 ⟨[],[.Q9 ajf 0],X9,fun _ q=>Wv (⟨q.1,q.2.1,q.2.2.1,q.2.2.2.1,q.2.2.2.2.1,q.2.2.2.2.2⟩:Pred)⟩ noI
theorem Sw:Tf E RF:=by
 refine auN auM ⟨rfl,fun pa pb xs h=>?_⟩;unfold Wv at h;dsimp only at h;split at h
 .rename_i hsz;cases h;have:=avt _ hsz;have e:∀q:FN R.T ajf,Rj R [.Q9 ajf 0] q=[.Q9 (Pred.c ⟨q.1,q.2.1,q.2.2.1,q.2.2.2.1,q.2.2.2.2.1,q.2.2.2.2.2⟩) 0]:=fun q=>by unfold Pred.c;rw[Pred.ag6];rfl
  have e2:∀l:List Pred,List.map (Rj R X9) l=yl l:=fun l=>rfl;exact Eq.mpr (congrArg (fun b=>ae3 E 69 [] b (yl (pre ⟨pb.1,pb.2.1,pb.2.2.1,pb.2.2.2.1,pb.2.2.2.2.1,pb.2.2.2.2.2⟩))) (e pb)) this
 .cases h
end Sh
end
section
open Go Go.Proofs Aq
namespace Sh
noncomputable def g_0 (_:Nat):Nat->List (FR R):=noF
theorem avu (n:Nat):Rt E (g_0 n):=auO
theorem avv (p:FN R.T [])(x:Bool)(h:some true=some x):Pure E 11 (Rj R [] p) (R9 [.bool x]):=by
 cases h;exact⟨0,rfl⟩
theorem avw (p:FN R.T [.d .str,.d .str])(x:Int)(h:some (U2 p.1 p.2)=some x):Pure E 42 (Rj R [.d .str,.d .str] p) (R9 (Rj R [.d (.int .i64)] x)):=by
 cases h;exact⟨0,rfl⟩
end Sh
end
