import Derived.Test.YtgdialomgeijcaaGreatF3516
import Derived.Test.YtgdialomgeijcaaGreatF3517
set_option linter.all false
section
open Go Go.Proofs Aq
namespace Aq
mutual
def veq:V->V->Bool
 |.int k n,.int k' n'=>if k=k' then if n=n' then true else false else false
 |.str s,.str t=>if s=t then true else false
 |.bool s,.bool t=>if s=t then true else false
 |.agg l,.agg m=>veqL l m
 |.lst .sh l,.lst .sh m=>veqL l m
 |_,_=>false
def veqL:List V->List V->Bool
 | [],[]=>true
 |x::l,y::m=>match veq x y with
  |true=>veqL l m
  |false=>false
 |_,_=>false
end
mutual
theorem veq_eq:∀(x y:V),veq x y=true->x=y:=by
 intro x y h
 unfold veq at h
 split at h
 .split at h
  .split at h
   .simp_all
   .cases h
  .cases h
 .split at h
  .simp_all
  .cases h
 .split at h
  .simp_all
  .cases h
 .rw[veqL_eq _ _ h]
 .rw[veqL_eq _ _ h]
 .cases h
theorem veqL_eq:∀(l m:List V),veqL l m=true->l=m:=by
 intro l m h
 unfold veqL at h
 split at h
 .rfl
 .split at h
  .rename_i h1
   rw[veq_eq _ _ h1,veqL_eq _ _ h]
  .cases h
 .cases h
end
end Aq
namespace Sh
set_option maxRecDepth 100000
def tabN:List (List V×V):=[(nuA0,nuV0),(nuA1,nuV1),(nuA2,nuV2),(nuA3,nuV3)]
def tabF:List (List V×V):=[(fiA0,fiV0),(fiA1,fiV1),(fiA2,fiV2),(fiA3,fiV3)]
theorem tabN_ok:∀p∈tabN,PureOK (ES summS0) 94 p.1 p.2:=by
 intro p hp
 simp only[tabN,P9,List.not_mem_nil,or_false] at hp
 rcases hp with rfl|rfl|rfl|rfl
 .exact nuP0
 .exact nuP1
 .exact nuP2
 .exact nuP3
theorem tabF_ok:∀p∈tabF,PureOK (ES summS0) 58 p.1 p.2:=by
 intro p hp
 simp only[tabF,P9,List.not_mem_nil,or_false] at hp
 rcases hp with rfl|rfl|rfl|rfl
 .exact fiP0
 .exact fiP1
 .exact fiP2
 .exact fiP3
def lookT:List (List V×V)->List V->Option V
 | [],_=>none
 |p::l,args=>match veqL args p.1 with
  |true=>some p.2
  |false=>lookT l args
theorem lookT_mem:∀{l:List (List V×V)} {args:List V} {v:V},lookT l args=some v->(args,v)∈l
 |p::l,args,v,h=>by
  unfold lookT at h
  split at h
  .rename_i he
   cases h
   rw[veqL_eq _ _ he];exact Qa ..
  .exact Qb _ (lookT_mem h)
def summS1 (f:Nat):Option (List V->Option V):=bif Nat.beq f 42 then some strT else bif Nat.beq f 94 then some (lookT tabN) else bif Nat.beq f 58 then some (lookT tabF) else none
theorem es1:EnvOK (ES summS1):=esOK _ fun f g h args v hv=>by
 unfold summS1 at h
 cases h1:Nat.beq f 42
 .rw[h1,cond_false] at h
  cases h2:Nat.beq f 94
  .rw[h2,cond_false] at h
   cases h3:Nat.beq f 58
   .rw[h3,cond_false] at h;cases h
   .rw[h3,cond_true] at h
    cases h
    have:=Q6 h3
    subst this
    exact tabF_ok _ (lookT_mem hv)
  .rw[h2,cond_true] at h
   cases h
   have:=Q6 h2
   subst this
   exact tabN_ok _ (lookT_mem hv)
 .rw[h1,cond_true] at h
  cases h
  have:=Q6 h1
  subst this
  exact str_pureOK rfl hv
theorem san_run:callPure (ES summS1) (evl (ES summS1) 300) 11 []=some (.bool true):=by kernel_rfl
theorem san_pure:PureOK (ES summS1) 11 [] (.bool true):=callPure_sound es1 (evl_sound es1 300).call san_run
end Sh
end
section
open Go Go.Proofs Aq
namespace Sh
set_option maxRecDepth 100000
def sanT:List V->Option V
 | []=>some (.bool true)
 |_::_=>none
def summS (f:Nat):Option (List V->Option V):=bif Nat.beq f 11 then some sanT else bif Nat.beq f 42 then some strT else none
noncomputable def E:Env:={P:=Tryz.prog,glob:=globS,imp:=fun f=>Nat.beq f 69||Nat.beq f 70||Nat.beq f 82||Nat.beq f 106||Nat.beq f 91||Nat.beq f 92||Nat.beq f 101||Nat.beq f 103||Nat.beq f 104||Nat.beq f 105||Nat.beq f 107||Nat.beq f 108||Nat.beq f 109||Nat.beq f 111||Nat.beq f 112||Nat.beq f 113||Nat.beq f 114||Nat.beq f 117||Nat.beq f 119||Nat.beq f 122||Nat.beq f 124||Nat.beq f 125||Nat.beq f 126||Nat.beq f 127||Nat.beq f 128||Nat.beq f 129||Nat.beq f 131||Nat.beq f 132||Nat.beq f 134||Nat.beq f 135||Nat.beq f 136||Nat.beq f 137||Nat.beq f 138||Nat.beq f 139||Nat.beq f 140,om:=fun f=>Nat.beq f 77||Nat.beq f 94,summ:=summS,cn:=fun d=>bif Nat.beq d 57 then 99999 else bif Nat.beq d 39 then 99999 else bif Nat.beq d 9 then 99999 else bif Nat.beq d 49 then 41 else d,frz:=fun t=>Nat.beq t 24||Nat.beq t 74,frzd:=fun d=>Nat.beq d 74002||Nat.beq d 74003||Nat.beq d 24003||Nat.beq d 24004,bsm:=fun d=>Nat.beq d 9}
theorem fzM_E (d:Option Nat):fzM E d=false:=by cases d<;>rfl
theorem frz_E1:frzB E 24 (some 1)=false:=rfl
theorem frz_E2:frzB E 24 (some 2)=false:=rfl
attribute [go_sem] fzM_E frz_E1 frz_E2 if_false
mutual
def pre:Pred->List Pred
 | ⟨op,name,n,m,s,subs⟩=>⟨op,name,n,m,s,subs⟩::preL subs
def preL:List Pred->List Pred
 | []=>[]
 |p::ps=>pre p++preL ps
end
theorem pre_eq (p:Pred):pre p=p::preL p.Subs:=by cases p;simp[pre]
def yl (l:List Pred):List (List V):=l.map fun q=>[Pred.v q]
abbrev yv (l:Nat):V:=.fn (.yield l) [] []
def EachQ (d dd l:Nat) (Y:Sig) (J:List (List V)->Sig->Prop) (D:Sig->Prop) (L:List (List V)) (v:V) (Y':Sig):Prop:=
 Y.next<=Y'.next/\(∀a o,d<a->a<dd->Y'.obj (a,o)=Y.obj (a,o))/\(∀s,s<Y.next->Y'.loops s=Y.loops s\/s=l)/\((v= .bool true/\J L Y')\/(v= .bool false/\D Y'))
theorem EachQ.trans {d dd l:Nat} {Y Y1:Sig} {J:List (List V)->Sig->Prop} {D:Sig->Prop} {L:List (List V)} {v:V} {Y':Sig} (hn:Y.next<=Y1.next) (ho:∀a o,d<a->a<dd->Y1.obj (a,o)=Y.obj (a,o)) (hl:∀s,s<Y.next->Y1.loops s=Y.loops s\/s=l)
 (h:EachQ d dd l Y1 J D L v Y'):EachQ d dd l Y J D L v Y':=by
 obtain⟨h1,h2,h3,h4⟩:=h
 refine⟨P7 hn h1,fun a o ha hb=>(h2 a o ha hb).trans (ho a o ha hb),fun s hs=>?_,h4⟩
 rcases h3 s (Qg hs hn) with e|e
 .rcases hl s hs with e'|e'
  .exact .inl (e.trans e')
  .exact .inr e'
 .exact .inr e
theorem set_other {a o s b p:Nat} {Y:Sig} {x:AObj} (h:b≠a):(Y.setObj (a,o) s x).obj (b,p)=Y.obj (b,p):=by
 show upd Y.obj (a,o) _ (b,p)=_
 unfold upd
 rw[if_neg]
 intro e
 exact h (congrArg Prod.fst e)
theorem cellsAt_obj {Y Y':Sig} {loc:Aq.Loc} {s:Nat} (h:Y'.obj loc=Y.obj loc):Y'.cellsAt loc s=Y.cellsAt loc s:=by
 unfold Sig.cellsAt;rw[h]
end Sh
end
section
open Go Go.Proofs Aq
namespace Sh
set_option maxRecDepth 100000
def Pg (d dd l:Nat) (Y Y':Sig):Prop:=Y.next<=Y'.next/\(∀a o,d<a->a<dd->Y'.obj (a,o)=Y.obj (a,o))/\(∀s,s<Y.next->Y'.loops s=Y.loops s\/s=l)
theorem Pg.trans {d dd l:Nat} {Y Y1 Y2:Sig} (h:Pg d dd l Y Y1) (g:Pg d dd l Y1 Y2):Pg d dd l Y Y2:=by
 refine⟨P7 h.1 g.1,fun a o ha hb=>(g.2.1 a o ha hb).trans (h.2.1 a o ha hb),fun s hs=>?_⟩
 rcases g.2.2 s (Qg hs h.1) with e|e
 .rcases h.2.2 s hs with e'|e'
  .exact .inl (e.trans e')
  .exact .inr e'
 .exact .inr e
theorem Pg.refl {d dd l:Nat} {Y:Sig}:Pg d dd l Y Y:=⟨mF _,fun _ _ _ _=>rfl,fun _ _=>.inl rfl⟩
theorem Pg.bump {d dd l k:Nat} {Y:Sig}:Pg d dd l Y (Y.bump k):=⟨Qf _ _,fun _ _ _ _=>rfl,fun _ _=>.inl rfl⟩
theorem Pg.set {d dd l o s:Nat} {Y:Sig} {x:AObj}:Pg d dd l Y (Y.setObj (dd,o) s x):=⟨mF _,fun a o' _ hb=>set_other (by omega),fun _ _=>.inl rfl⟩
theorem preL_len:∀l:List Pred,l.length<=(preL l).length
 | []=>by simp[preL]
 |p::l=>by have:=preL_len l;rw[preL,pre_eq];simp;omega
theorem preL_mem {q:Pred}:∀{l:List Pred},q∈l->(pre q).length<=(preL l).length
 |p::l,h=>by
  rw[preL,Qc]
  rcases P9.1 h with rfl|h
  .omega
  .have:=preL_mem h;omega
theorem each_walk {d l:Nat} {J:List (List V)->Sig->Prop} {D:Sig->Prop} (hJ:∀xs Y Y',l<Y.next->J xs Y->Shift d Y Y'->J xs Y') (hD:∀Y Y',l<Y.next->D Y->Shift d Y Y'->D Y')
 (hr:∀x xs Y,l<Y.next->J (x::xs) Y->∃c Y',Rnd E l x Y c Y'/\Y.next<=Y'.next/\(∀a o,d<a->Y'.obj (a,o)=Y.obj (a,o))/\(∀s,s<Y.next->Y'.loops s=Y.loops s\/s=l)/\(c=true->J xs Y')/\(c=false->D Y')):
 ∀(g:Nat) (p:Pred),sizeOf p<g->(pre p).length<2^62->∀(dd:Nat) (Y:Sig) (L:List (List V)),d<dd->l<Y.next->J (yl (pre p)++L) Y->Imp E 70 [Pred.v p,yv l] dd Y (fun v Y'=>Pg d dd l Y Y'/\((v= .bool true/\J L Y')\/(v= .bool false/\D Y'))):=by
 intro g
 induction g with
 |zero=>intro p hp;omega
 |succ g ih=>
 intro p hp hsz dd Y0 L hd hl hj
 have stp:∀{Y:Sig} {x:AObj} {k o s:Nat},Pg d dd l Y ((Y.bump k).setObj (dd,o) s x):=Pg.trans .bump .set
 have part:∀(fr:Fr) (Y:Sig) (s:Nat) (q:Pred) (xs:List (List V)) (Q:Ex->Fr->Sig->Prop),sizeOf q<g->(pre q).length<2^62->fr.d=dd->fr.tm 1=yv l->fr.tm 6= .ref (dd,6) s 0->Y.cellsAt (dd,6) s=some q.c->l<Y.next->Pg d dd l Y0 Y->J (yl (pre q)++xs) Y->
  (∀fr' Y',(∀i,i<18->6<i->fr'.tm i=fr.tm i)->fr'.d=dd->fr'.tm 1=yv l->l<Y'.next->Pg d dd l Y0 Y'->J xs Y'->Q .normal fr' Y')->(∀fr' Y',fr'.tm 4= .bool false->D Y'->Pg d dd l Y0 Y'->Q .ret fr' Y')->
  CW E ((subO Tryz.f70.body [1,1,0,1,0,0,1,1,0,0,1]).getD .skip) fr Y Q:=by
  intro fr Y s q xs Q hq hqs h1 h2 h3 h4 hl hp hj hQ1 hQ2
  have hP:E.P=Tryz.prog:=rfl
  refine CW.seq (CW.region ?_)
  refine OW.o1 (by rfl) (fun S=>by simp only[go_sem,Nat.reduceBEq,Nat.reduceAdd, *];with_reducible exact Is.rfl) ?_
  refine OW.o1 (by rfl) (fun S=>by simp only[go_sem,Nat.reduceBEq,Nat.reduceAdd, *];with_reducible exact Is.rfl) ?_
  refine OW.callI (g:=70) (a:=[]) (b:=[]) (by rfl) rfl rfl rfl rfl ?_
  rw[set_d,set_d,h1]
  change Imp E 70 [Pred.v q,yv l] (dd+1) _ _
  obtain⟨n,v,Y1,hn,hpg,hv⟩:=ih q hq hqs (dd+1) (Y.bump 4) xs (by omega) (Qg hl (Qf _ _)) (hJ _ _ _ hl hj ⟨Qf _ _,fun _ _=>rfl,fun _ _=>rfl,fun _ _ _=>rfl⟩)
  have hpg':Pg d dd l Y0 Y1:=hp.trans (Pg.trans .bump ⟨hpg.1,fun a o ha hb=>hpg.2.1 a o ha (by omega),hpg.2.2⟩)
  have hl':l<Y1.next:=Qg hl (P7 (Qf _ 4) hpg.1)
  refine⟨n,v,Y1,hn,?_⟩
  rcases hv with ⟨rfl,hj'⟩| ⟨rfl,hd'⟩
  .refine OW.o1 (by rfl) (fun S=>by simp only[go_sem,Nat.reduceBEq,Nat.reduceAdd, *];with_reducible exact Is.rfl) ?_
   refine OW.nil (SeqQ.n ?_)
   refine CW.condF (by simp only[go_sem,Nat.reduceBEq,Nat.reduceAdd, *];exact Is.rfl) ?_
   refine CW.skip (hQ1 _ _ (fun i h1 h2=>?_) ?_ ?_ hl' hpg' hj')
   .simp only[put_some]
    rw[set_ne _ _ (by simp;omega),set_ne _ _ (by simp;omega),set_ne _ _ (by simp;omega),set_ne _ _ (by simp;omega)]
   .simp only[put_some,set_d,h1]
   .simp only[go_sem,Nat.reduceBEq,h2]
  .refine OW.o1 (by rfl) (fun S=>by simp only[go_sem,Nat.reduceBEq,Nat.reduceAdd, *];with_reducible exact Is.rfl) ?_
   refine OW.nil (SeqQ.n ?_)
   refine CW.condT (by simp only[go_sem,Nat.reduceBEq,Nat.reduceAdd, *];exact Is.rfl) ?_
   refine CW.seq (CW.region ?_)
   refine OW.o1 (by rfl) (fun S=>by simp only[go_sem,Nat.reduceBEq,Nat.reduceAdd, *];with_reducible exact Is.rfl) ?_
   refine OW.nil (SeqQ.n (CW.ret (hQ2 _ _ ?_ ?_ (hpg'.trans .bump))))
   .simp only[go_sem,Nat.reduceBEq]
   .exact hD _ _ hl' hd' ⟨Qf _ _,fun _ _=>rfl,fun _ _=>rfl,fun _ _ _=>rfl⟩
 have loop:∀(k i:Nat) (fr:Fr) (Y:Sig),i+k=p.Subs.length->fr.d=dd->fr.tm 1=yv l->fr.tm 12=lv Pred.v p.Subs->fr.tm 13= .int .i64 (p.Subs.length:Nat)->fr.tm 14= .int .i64 (i:Nat)->p.Subs.length<2^62->l<Y.next->Pg d dd l Y0 Y->J (yl (preL (p.Subs.drop i))++L) Y->
  CW E ((subO Tryz.f70.body [1,1,0,1,0]).getD .skip) fr Y (fun e fr' Y'=>(e= .exit 0/\J L Y'/\Pg d dd l Y0 Y')\/(e= .ret/\fr'.tm 4= .bool false/\D Y'/\Pg d dd l Y0 Y')):=by
  intro k
  induction k with
  |zero=>
   intro i fr Y hi h1 h2 h3 h4 h5 hb hl hp hj
   refine CW.loop (CW.seq (CW.region ?_))
   refine OW.o1 (by rfl) (fun S=>by simp only[go_sem,Nat.reduceBEq,Nat.reduceAdd, *];with_reducible exact Is.rfl) ?_
   refine OW.nil (SeqQ.n ?_)
   have e:decide (((i:Nat):Int)< ((p.Subs.length:Nat):Int))=false:=by simp;omega
   refine CW.seq (CW.condF (by simp only[go_sem,Nat.reduceBEq,Nat.reduceAdd, *];exact Is.rfl) ?_)
   refine CW.exit (SeqQ.x (LoopQ.x (.inl ⟨rfl,?_,hp.trans .bump⟩)))
   have:p.Subs.drop i=[]:=Ra (by omega)
   rw[this] at hj
   exact hJ _ _ _ hl (by simpa [yl,preL] using hj) ⟨Qf _ _,fun _ _=>rfl,fun _ _=>rfl,fun _ _ _=>rfl⟩
  |succ k ihk=>
   intro i fr Y hi h1 h2 h3 h4 h5 hb hl hp hj
   have hlt:i<p.Subs.length:=by omega
   have hx:idxL p.Subs ((i:Nat):Int)=some p.Subs[i]:=by
    unfold idxL;rw[if_pos ⟨by omega,by omega⟩];simp[hlt]
   have hdrop:p.Subs.drop i=p.Subs[i]::p.Subs.drop (i+1):=Qq hlt
   have hmem:p.Subs[i]∈p.Subs:=QM hlt
   generalize p.Subs[i]=q at hx hdrop hmem
   refine CW.loop (CW.seq (CW.region ?_))
   refine OW.o1 (by rfl) (fun S=>by simp only[go_sem,Nat.reduceBEq,Nat.reduceAdd, *];with_reducible exact Is.rfl) ?_
   refine OW.nil (SeqQ.n ?_)
   have e:decide (((i:Nat):Int)< ((p.Subs.length:Nat):Int))=true:=by simp;omega
   refine CW.seq (CW.condT (by simp only[go_sem,Nat.reduceBEq,Nat.reduceAdd, *];exact Is.rfl) ?_)
   refine CW.skip (SeqQ.n ?_)
   refine CW.seq (CW.block (CW.seq (CW.region ?_)))
   have hP:E.P=Tryz.prog:=rfl
   have hia':indexAddrV Tryz.prog 22 (lv Pred.v p.Subs) (.int .i64 ((i:Nat):Int))=some (.cref q.c 0):=by
    rw[idx_lv,if_pos (by rfl)]
    have e1:elemT Tryz.prog 22=some 24:=by kernel_rfl
    have e2:szT Tryz.prog 24=some 6:=by kernel_rfl
    rw[e1];simp only[Option.bind_some,e2,hx]
    rfl
   refine OW.o1 (by rfl) (fun S=>by simp only[go_sem,Nat.reduceBEq,Nat.reduceAdd, *];with_reducible exact Is.rfl) ?_
   refine OW.o1 (by rfl) (fun S=>by simp only[go_sem,Nat.reduceBEq,Nat.reduceAdd, *];with_reducible exact Is.rfl) ?_
   have hz:zeroT Tryz.prog 24=some (.agg [.int .i64 0,.str [],.int .i64 0,.int .i64 0,.str [],.lst .nil []]):=by kernel_rfl
   refine OW.o1 (by rfl) (fun S=>by simp only[go_sem,Nat.reduceBEq,Nat.reduceAdd, *];with_reducible exact Is.rfl) ?_
   have hsz6:szT Tryz.prog 24=some 6:=by kernel_rfl
   have hsp:spliceL [.int .i64 0,.str [],.int .i64 0,.int .i64 0,.str [],.lst .nil []] 0 q.c=q.c:=rfl
   refine OW.o0 (by rfl) (fun S=>by
    rw[oc_store]
    simp only[go_sem,Nat.reduceBEq,Nat.reduceAdd, *]
    rw[if_pos (by decide)]
    exact Is.rfl) ?_
   refine OW.nil (NQ.i (SeqQ.n ?_))
   rw[hdrop] at hj
   have hj1:J (yl (pre q)++(yl (preL (p.Subs.drop (i+1)))++L)) Y:=by
    have:yl (preL (q::p.Subs.drop (i+1)))=yl (pre q)++yl (preL (p.Subs.drop (i+1))):=by simp[yl,preL]
    rw[this,Qt] at hj;exact hj
   refine part _ _ ?s q _ _ ?hq ?hqs ?h1 ?h2 ?h3 ?h4 ?hl ?hp (hJ _ _ _ hl hj1 ?hsh) ?hQ1 ?hQ2
   case h3=>simp only[go_sem,Nat.reduceBEq,Nat.reduceAdd, *];rfl
   case hq=>
    have h7:=List.sizeOf_lt_of_mem hmem
    have h8:sizeOf p.Subs<sizeOf p:=by cases p;simp;omega
    omega
   case hqs=>have h:=preL_mem hmem;rw[pre_eq] at hsz;simp at hsz;omega
   case h1=>simp only[set_d,h1]
   case h2=>simp only[go_sem,Nat.reduceBEq,Nat.reduceAdd, *]
   case h4=>exact cells_eq _ _ _ _
   case hl=>exact Qg hl (P7 (Qf _ _) (Qf _ _))
   case hp=>exact hp.trans (Pg.trans .bump (Pg.trans .bump (Pg.trans .set .set)))
   case hsh=>exact⟨P7 (Qf _ _) (Qf _ _),fun _ _=>rfl,fun _ _=>rfl,fun a o ha=>(set_other (by omega)).trans (set_other (by omega))⟩
   case hQ1=>
    intro fr' Y' k1 k2 k3 k4 k5 k6
    refine BlkQ.n (SeqQ.n (CW.region ?_))
    have t12:fr'.tm 12=lv Pred.v p.Subs:=by rw[k1 12 (by omega) (by omega)];simp only[go_sem,Nat.reduceBEq,Nat.reduceAdd, *]
    have t13:fr'.tm 13= .int .i64 (p.Subs.length:Nat):=by rw[k1 13 (by omega) (by omega)];simp only[go_sem,Nat.reduceBEq,Nat.reduceAdd, *]
    have t14:fr'.tm 14= .int .i64 (i:Nat):=by rw[k1 14 (by omega) (by omega)];simp only[go_sem,Nat.reduceBEq,Nat.reduceAdd, *]
    have hw:IntKind.wrap .i64 ((i:Int)+(1:Int))=((i+1:Nat):Int):=by rw[IntKind.wrap_i64];omega
    refine OW.o1 (by rfl) (fun S=>by simp only[go_sem,Nat.reduceBEq,Nat.reduceAdd, *];with_reducible exact Is.rfl) ?_
    refine OW.o1 (by rfl) (fun S=>by simp only[go_sem,Nat.reduceBEq,Nat.reduceAdd, *];with_reducible exact Is.rfl) ?_
    refine OW.nil (NQ.i (LoopQ.n (ihk (i+1) _ _ (by omega) ?_ ?_ ?_ ?_ ?_ hb ?_ (k5.trans .bump) ?_)))
    .simp only[set_d,k2]
    .simp only[go_sem,Nat.reduceBEq,Nat.reduceAdd, *]
    .simp only[go_sem,Nat.reduceBEq,Nat.reduceAdd, *]
    .simp only[go_sem,Nat.reduceBEq,Nat.reduceAdd, *]
    .simp only[go_sem,Nat.reduceBEq,Nat.reduceAdd, *]
    .exact Qg k4 (Qf _ _)
    .exact hJ _ _ _ k4 k6 ⟨Qf _ _,fun _ _=>rfl,fun _ _=>rfl,fun _ _ _=>rfl⟩
   case hQ2=>
    intro fr' Y' k1 k2 k3
    exact BlkQ.r (SeqQ.r (LoopQ.r (.inr ⟨rfl,k1,k2,k3⟩)))
 refine Imp.of (fn:=Tryz.f70) (c:=Tryz.f70.body.getD .skip) Tryz.func70 rfl (by kernel_rfl) ?_
 generalize hfr:({d:=dd,om:=E.om 70,tm:=fun i=>[Pred.v p,yv l].getD i undefV}:Fr)=fr
 have h0:fr.tm 0=Pred.v p:=by rw[<-hfr];rfl
 have h1:fr.tm 1=yv l:=by rw[<-hfr];rfl
 have hdd:fr.d=dd:=by rw[<-hfr]
 have hP:E.P=Tryz.prog:=rfl
 clear hfr
 refine CW.seq (CW.region ?_)
 refine OW.o1 (by rfl) (fun S=>by simp only[go_sem,Nat.reduceBEq,Nat.reduceAdd, *];with_reducible exact Is.rfl) ?_
 refine OW.o1 (by rfl) (fun S=>by simp only[go_sem,Nat.reduceBEq,Nat.reduceAdd, *];with_reducible exact Is.rfl) ?_
 refine OW.nil (SeqQ.n ?_)
 refine CW.seq (CW.seq (CW.region ?_))
 refine OW.o1 (by rfl) (fun S=>by simp only[go_sem,Nat.reduceBEq,Nat.reduceAdd, *];with_reducible exact Is.rfl) ?_
 refine OW.o1 (by rfl) (fun S=>by simp only[go_sem,Nat.reduceBEq,Nat.reduceAdd, *];with_reducible exact Is.rfl) ?_
 rw[pre_eq] at hj
 have hj':J ([Pred.v p]::(yl (preL p.Subs)++L)) (((Y0.bump 2).setObj (dd,2) Y0.next (.cells p.c)).bump 4):=hJ _ _ _ hl (by simpa [yl] using hj) ⟨P7 (Qf _ 2) (Qf _ 4),fun _ _=>rfl,fun _ _=>rfl,fun a o ha=>set_other (by omega)⟩
 have hl1:l< (((Y0.bump 2).setObj (dd,2) Y0.next (.cells p.c)).bump 4).next:=by show l<Y0.next+2+4;omega
 obtain⟨c,Y1,hrnd,hn1,ho1,hlo1,hc1,hc2⟩:=hr _ _ _ hl1 hj'
 have hcell:Y1.cellsAt (dd,2) Y0.next=some p.c:=by
  rw[cellsAt_obj (ho1 dd 2 hd)]
  exact cells_eq _ _ _ _
 have hpg1:Pg d dd l Y0 Y1:=(Pg.trans stp .bump).trans ⟨hn1,fun a o ha _=>ho1 a o ha,hlo1⟩
 have hl2:l<Y1.next:=Qg hl hpg1.1
 refine OW.yield (l:=l) (b:=c) (by rfl) rfl rfl ?_ hrnd ?_
 .simp only[go_sem,Nat.reduceBEq,Nat.reduceAdd, *]
 refine OW.o1 (by rfl) (fun S=>by simp only[go_sem,Nat.reduceBEq,Nat.reduceAdd, *];with_reducible exact Is.rfl) ?_
 refine OW.nil (SeqQ.n ?_)
 cases c with
 |false=>
  refine CW.condT (by simp only[go_sem,Nat.reduceBEq,Nat.reduceAdd, *];exact Is.rfl) ?_
  refine CW.seq (CW.region ?_)
  refine OW.o1 (by rfl) (fun S=>by simp only[go_sem,Nat.reduceBEq,Nat.reduceAdd, *];with_reducible exact Is.rfl) ?_
  refine OW.nil (SeqQ.n (CW.ret (SeqQ.r ?_)))
  refine RetQ.one (by simp) (by simp only[go_sem,Nat.reduceBEq,Nat.reduceAdd,resV];with_reducible exact Is.rfl) ⟨hpg1.trans .bump,.inr ⟨rfl,?_⟩⟩
  exact hD _ _ hl2 (hc2 rfl) ⟨Qf _ _,fun _ _=>rfl,fun _ _=>rfl,fun _ _ _=>rfl⟩
 |true=>
  have hlen:p.Subs.length<2^62\/2^62<=p.Subs.length:=by omega
  refine CW.condF (by simp only[go_sem,Nat.reduceBEq,Nat.reduceAdd, *];exact Is.rfl) ?_
  refine CW.skip (SeqQ.n ?_)
  refine CW.seq (CW.seq (CW.region ?_))
  refine OW.o1 (by rfl) (fun S=>by simp only[go_sem,Nat.reduceBEq,Nat.reduceAdd, *];with_reducible exact Is.rfl) ?_
  refine OW.o1 (by rfl) (fun S=>by simp only[go_sem,Nat.reduceBEq,Nat.reduceAdd, *];with_reducible exact Is.rfl) ?_
  refine OW.o1 (by rfl) (fun S=>by simp only[go_sem,Nat.reduceBEq,Nat.reduceAdd, *];with_reducible exact Is.rfl) ?_
  refine OW.o1 (by rfl) (fun S=>by simp only[go_sem,Nat.reduceBEq,Nat.reduceAdd, *];with_reducible exact Is.rfl) ?_
  refine OW.nil (SeqQ.n (CW.block ?_))
  refine(loop p.Subs.length 0 _ _ (by omega) ?_ ?_ ?_ ?_ ?_ ?_ ?_ (hpg1.trans .bump) ?_).mono ?_
  .simp only[set_d,put_some,hdd]
  .simp only[go_sem,Nat.reduceBEq,Nat.reduceAdd, *]
  .simp only[go_sem,Nat.reduceBEq,Nat.reduceAdd, *]
  .simp only[go_sem,Nat.reduceBEq,Nat.reduceAdd, *]
  .simp only[go_sem,Nat.reduceBEq,Nat.reduceAdd, *];rfl
  .have h:=preL_len p.Subs;rw[pre_eq] at hsz;simp at hsz;omega
  .exact Qg hl2 (Qf _ _)
  .exact hJ _ _ _ hl2 (by simpa using hc1 rfl) ⟨Qf _ _,fun _ _=>rfl,fun _ _=>rfl,fun _ _ _=>rfl⟩
  .rintro e fr' Y' (⟨rfl,k1,k2⟩| ⟨rfl,k1,k2,k3⟩)
   .refine BlkQ.hit (SeqQ.n (CW.seq (CW.region ?_)))
    refine OW.o1 (by rfl) (fun S=>by simp only[go_sem,Nat.reduceBEq,Nat.reduceAdd, *];with_reducible exact Is.rfl) ?_
    refine OW.nil (SeqQ.n (CW.ret ?_))
    refine RetQ.one (by simp) (by simp only[go_sem,Nat.reduceBEq,Nat.reduceAdd,resV];with_reducible exact Is.rfl) ⟨k2.trans .bump,.inl ⟨rfl,?_⟩⟩
    exact hJ _ _ _ (Qg hl k2.1) k1 ⟨Qf _ _,fun _ _=>rfl,fun _ _=>rfl,fun _ _ _=>rfl⟩
   .refine BlkQ.r (SeqQ.r (RetQ.one (by simp) (by simp only[resV];rw[k1];exact Is.rfl) ⟨k3,.inr ⟨rfl,k2⟩⟩))
theorem parts_iter (p:Pred) (hsz:(pre p).length<2^62):IterOK E 69 [] [.cref p.c 0] (yl (pre p)):=by
 intro d l Y J D hJ hD hr hl hj
 refine Imp.of (fn:=Tryz.f69) (c:=Tryz.f69.body.getD .skip) Tryz.func69 rfl (by kernel_rfl) ?_
 generalize hfr:({d:=d+1,om:=E.om 69,tm:=fun i=>([]++[.fn (.yield l) [] []]++[.cref p.c 0]:List V).getD i undefV}:Fr)=fr
 have h0:fr.tm 0=yv l:=by rw[<-hfr];rfl
 have h1:fr.tm 1= .cref p.c 0:=by rw[<-hfr];rfl
 have hdd:fr.d=d+1:=by rw[<-hfr]
 have hP:E.P=Tryz.prog:=rfl
 clear hfr
 refine CW.region ?_
 refine OW.o1 (by rfl) (fun S=>by simp only[go_sem,Nat.reduceBEq,Nat.reduceAdd, *];with_reducible exact Is.rfl) ?_
 refine OW.o1 (by rfl) (fun S=>by simp only[go_sem,Nat.reduceBEq,Nat.reduceAdd, *];with_reducible exact Is.rfl) ?_
 refine OW.callI (g:=70) (a:=[]) (b:=[]) (by rfl) rfl rfl rfl rfl ?_
 rw[set_d,set_d,hdd]
 change Imp E 70 [Pred.v p,yv l] (d+1+1) _ _
 obtain⟨n,v,Y1,hn,hpg,hv⟩:=each_walk hJ hD hr (sizeOf p+1) p (by omega) hsz (d+1+1) (Y.bump 3) [] (by omega) (Qg hl (Qf _ _)) (hJ _ _ _ hl (by simpa using hj) ⟨Qf _ _,fun _ _=>rfl,fun _ _=>rfl,fun _ _ _=>rfl⟩)
 refine⟨n,v,Y1,hn,OW.nil ?_⟩
 refine⟨[],rfl,P7 (Qf _ 3) hpg.1,?_⟩
 rcases hv with ⟨_,h⟩| ⟨_,h⟩
 .exact .inl h
 .exact .inr h
def partsO (p:Pred):Option (List Pred):=if (pre p).length<2^62 then some (pre p) else none
abbrev predSk:List Sk:=[.d (.int .i64),.d .str,.d (.int .i64),.d (.int .i64),.d .str,.d (.slice (.st 0))]
abbrev predEl:List Sk:=[.d (.st 0)]
noncomputable def iters:IR R:=addI 69 ⟨[],[.cref predSk 0],predEl,fun _ q=>partsO (⟨q.1,q.2.1,q.2.2.1,q.2.2.2.1,q.2.2.2.2.1,q.2.2.2.2.2⟩:Pred)⟩ noI
theorem iters_ok:ItersOK E iters:=by
 refine addI_ok noI_ok ⟨rfl,fun pa pb xs h=>?_⟩
 unfold partsO at h
 dsimp only at h
 split at h
 .rename_i hsz
  cases h
  have:=parts_iter _ hsz
  have e:∀q:PayL R.T predSk,encSL R [.cref predSk 0] q=[.cref (Pred.c ⟨q.1,q.2.1,q.2.2.1,q.2.2.2.1,q.2.2.2.2.1,q.2.2.2.2.2⟩) 0]:=fun q=>by
   unfold Pred.c;rw[Pred.vr_map];rfl
  have e2:∀l:List Pred,List.map (encSL R predEl) l=yl l:=fun l=>rfl
  exact Eq.mpr (congrArg (fun b=>IterOK E 69 [] b (yl (pre ⟨pb.1,pb.2.1,pb.2.2.1,pb.2.2.2.1,pb.2.2.2.2.1,pb.2.2.2.2.2⟩))) (e pb)) this
 .cases h
end Sh
end
section
open Go Go.Proofs Aq
namespace Sh
noncomputable def g_0 (_:Nat):Nat->List (FR R):=noF
theorem g_0_ok (n:Nat):RegsOK E (g_0 n):=noF_ok
theorem sanP (p:PayL R.T []) (x:Bool) (h:some true=some x):Pure E 11 (encSL R [] p) (retV [.bool x]):=by
 cases h
 exact⟨0,rfl⟩
theorem strP (p:PayL R.T [.d .str,.d .str]) (x:Int) (h:some (cmpS p.1 p.2)=some x):Pure E 42 (encSL R [.d .str,.d .str] p) (retV (encSL R [.d (.int .i64)] x)):=by
 cases h
 exact⟨0,rfl⟩
end Sh
end
