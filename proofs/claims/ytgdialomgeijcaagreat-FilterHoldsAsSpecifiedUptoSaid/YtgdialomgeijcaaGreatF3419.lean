/- Part of the proof of a law. -/
import Derived.Test.YtgdialomgeijcaaGreatF3417
import Derived.Test.YtgdialomgeijcaaGreatF3418
set_option linter.all false
set_option linter.unusedSimpArgs false
set_option linter.unusedSectionVars false
section
open Go Go.Proofs Aq
namespace Aq
mutual
def veq:V→V→Bool
 |.int k n,.int k' n'=>if k=k' then if n=n' then true else false else false
 |.str s,.str t=>if s=t then true else false
 |.bool s,.bool t=>if s=t then true else false
 |.agg l,.agg m=>AV l m
 |.aj .sh l,.aj .sh m=>AV l m
 |_,_=>false
def AV:List V→List V→Bool
 | [],[]=>true
 |x::l,y::m=>match veq x y with
  |true=>AV l m
  |false=>false
 |_,_=>false
end
mutual
theorem aeu:∀(x y:V),veq x y=true→x=y:=by
 intro x y h
 unfold veq at h
 split at h
 ·split at h
  ·split at h
   ·simp_all
   ·cases h
  ·cases h
 ·split at h
  ·simp_all
  ·cases h
 ·split at h
  ·simp_all
  ·cases h
 ·rw[Ho _ _ h]
 ·rw[Ho _ _ h]
 ·cases h
theorem Ho:∀(l m:List V),AV l m=true→l=m:=by
 intro l m h
 unfold AV at h
 split at h
 ·rfl
 ·split at h
  ·rename_i h1
   rw[aeu _ _ h1,Ho _ _ h]
  ·cases h
 ·cases h
end
end Aq
namespace Sh
set_option maxRecDepth 100000
def M8:List (List V×V):=[(ML,MN),(MO,MP),(MQ,MR),(MU,MV)]
def M9:List (List V×V):=[(MW,MX),(MZ,M0),(M4,M5),(M6,M7)]
theorem aev:∀p∈M8,jk (ES cK) 94 p.1 p.2:=by
 intro p hp
 simp only[M8,List.mem_cons,List.not_mem_nil,or_false] at hp
 rcases hp with rfl|rfl|rfl|rfl
 ·exact aed
 ·exact aef
 ·exact aeh
 ·exact aej
theorem aew:∀p∈M9,jk (ES cK) 58 p.1 p.2:=by
 intro p hp
 simp only[M9,List.mem_cons,List.not_mem_nil,or_false] at hp
 rcases hp with rfl|rfl|rfl|rfl
 ·exact ael
 ·exact aen
 ·exact aep
 ·exact aes
def DR:List (List V×V)→List V→Option V
 | [],_=>none
 |p::l,args=>match AV args p.1 with
  |true=>some p.2
  |false=>DR l args
theorem Na:∀{l:List (List V×V)} {args:List V} {v:V},DR l args=some v→(args,v)∈l
 |p::l,args,v,h=>by
  unfold DR at h
  split at h
  ·rename_i he
   cases h
   rw[Ho _ _ he];exact List.mem_cons_self ..
  ·exact List.mem_cons_of_mem _ (Na h)
def DT (f:Nat):Option (List V→Option V):=bif Nat.beq f 42 then some AL else bif Nat.beq f 94 then some (DR M8) else bif Nat.beq f 58 then some (DR M9) else none
theorem es1:fT (ES DT):=UM _ fun f g h args v hv=>by
 unfold DT at h
 cases h1:Nat.beq f 42
 ·rw[h1,cond_false] at h
  cases h2:Nat.beq f 94
  ·rw[h2,cond_false] at h
   cases h3:Nat.beq f 58
   ·rw[h3,cond_false] at h;cases h
   ·rw[h3,cond_true] at h
    cases h
    have:=Nat.eq_of_beq_eq_true h3
    subst this
    exact aew _ (Na hv)
  ·rw[h2,cond_true] at h
   cases h
   have:=Nat.eq_of_beq_eq_true h2
   subst this
   exact aev _ (Na hv)
 ·rw[h1,cond_true] at h
  cases h
  have:=Nat.eq_of_beq_eq_true h1
  subst this
  exact MC rfl hv
theorem aex:lF (ES DT) (aX (ES DT) 300) 11 []=some (.bool true):=by kernel_rfl
theorem aey:jk (ES DT) 11 [] (.bool true):=wL es1 (qW es1 300).call aex
end Sh
end
section
open Go Go.Proofs Aq
namespace Sh
set_option maxRecDepth 100000
set_option linter.unusedSimpArgs false
set_option linter.unusedVariables false
def UN:List V→Option V
 | []=>some (.bool true)
 |_::_=>none
def aez (f:Nat):Option (List V→Option V):=bif Nat.beq f 11 then some UN else bif Nat.beq f 42 then some AL else none
noncomputable def E:Env:={P:=Tryz.prog,glob:=Ur,imp:=fun f=>Nat.beq f 69||Nat.beq f 70||Nat.beq f 82||Nat.beq f 106,om:=fun f=>false,mY:=aez}
theorem aeA (d:Option Nat):qO E d=false:=by cases d<;>rfl
theorem aeB (t:Nat):E.qN t=false:=rfl
attribute [go_sem] aeA aeB if_false
mutual
def pre:Pred→List Pred
 | ⟨op,name,n,m,s,subs⟩=>⟨op,name,n,m,s,subs⟩::jE subs
def jE:List Pred→List Pred
 | []=>[]
 |p::ps=>pre p++jE ps
end
theorem pre_eq (p:Pred):pre p=p::jE p.aG:=by cases p;simp[pre]
def yl (l:List Pred):List (List V):=l.map fun q=>[Pred.v q]
abbrev yv (l:Nat):V:=.fn (.yield l) [] []
def Nb (d dd l:Nat) (σ:ah) (J:List (List V)→ah→Prop) (D:ah→Prop) (L:List (List V)) (v:V) (σ':ah):Prop:=
 σ.next≤σ'.next∧(∀a o,d<a→a<dd→σ'.obj (a,o)=σ.obj (a,o))∧(∀s,s<σ.next→σ'.loops s=σ.loops s∨s=l)∧((v= .bool true∧J L σ')∨(v= .bool false∧D σ'))
theorem Nb.trans {d dd l:Nat} {σ σ1:ah} {J:List (List V)→ah→Prop} {D:ah→Prop} {L:List (List V)} {v:V} {σ':ah} (hn:σ.next≤σ1.next) (ho:∀a o,d<a→a<dd→σ1.obj (a,o)=σ.obj (a,o)) (hl:∀s,s<σ.next→σ1.loops s=σ.loops s∨s=l)
 (h:Nb d dd l σ1 J D L v σ'):Nb d dd l σ J D L v σ':=by
 obtain⟨h1,h2,h3,h4⟩:=h
 refine⟨Nat.le_trans hn h1,fun a o ha hb=>(h2 a o ha hb).trans (ho a o ha hb),fun s hs=> ?_,h4⟩
 rcases h3 s (Nat.lt_of_lt_of_le hs hn) with e|e
 ·rcases hl s hs with e'|e'
  ·exact .inl (e.trans e')
  ·exact .inr e'
 ·exact .inr e
theorem Hq {a o s b p:Nat} {σ:ah} {x:eO} (h:b≠a):(σ.setObj (a,o) s x).obj (b,p)=σ.obj (b,p):=by
 show upd σ.obj (a,o) _ (b,p)=_
 unfold upd
 rw[if_neg]
 intro e
 exact h (congrArg Prod.fst e)
theorem aeC {σ σ':ah} {loc:Aq.Loc} {s:Nat} (h:σ'.obj loc=σ.obj loc):σ'.bD loc s=σ.bD loc s:=by
 unfold ah.bD;rw[h]
end Sh
end
section
open Go Go.Proofs Aq
namespace Sh
set_option maxRecDepth 100000
set_option linter.unusedSimpArgs false
set_option linter.unusedVariables false
def Pg (d dd l:Nat) (σ σ':ah):Prop:=σ.next≤σ'.next∧(∀a o,d<a→a<dd→σ'.obj (a,o)=σ.obj (a,o))∧(∀s,s<σ.next→σ'.loops s=σ.loops s∨s=l)
theorem Pg.trans {d dd l:Nat} {σ σ1 σ2:ah} (h:Pg d dd l σ σ1) (g:Pg d dd l σ1 σ2):Pg d dd l σ σ2:=by
 refine⟨Nat.le_trans h.1 g.1,fun a o ha hb=>(g.2.1 a o ha hb).trans (h.2.1 a o ha hb),fun s hs=> ?_⟩
 rcases g.2.2 s (Nat.lt_of_lt_of_le hs h.1) with e|e
 ·rcases h.2.2 s hs with e'|e'
  ·exact .inl (e.trans e')
  ·exact .inr e'
 ·exact .inr e
theorem Pg.refl {d dd l:Nat} {σ:ah}:Pg d dd l σ σ:=⟨Nat.le_refl _,fun _ _ _ _=>rfl,fun _ _=>.inl rfl⟩
theorem Pg.bump {d dd l k:Nat} {σ:ah}:Pg d dd l σ (σ.bump k):=⟨Nat.le_add_right _ _,fun _ _ _ _=>rfl,fun _ _=>.inl rfl⟩
theorem Pg.set {d dd l o s:Nat} {σ:ah} {x:eO}:Pg d dd l σ (σ.setObj (dd,o) s x):=⟨Nat.le_refl _,fun a o' _ hb=>Hq (by omega),fun _ _=>.inl rfl⟩
theorem UO:∀l:List Pred,l.length≤(jE l).length
 | []=>by simp[jE]
 |p::l=>by have:=UO l;rw[jE,pre_eq];simp;omega
theorem UQ {q:Pred}:∀{l:List Pred},q∈l→(pre q).length≤(jE l).length
 |p::l,h=>by
  rw[jE,List.length_append]
  rcases List.mem_cons.1 h with rfl|h
  ·omega
  ·have:=UQ h;omega
theorem aeD {d l:Nat} {J:List (List V)→ah→Prop} {D:ah→Prop} (hJ:∀xs σ σ',l<σ.next→J xs σ→Shift d σ σ'→J xs σ') (hD:∀σ σ',l<σ.next→D σ→Shift d σ σ'→D σ')
 (hr:∀x xs σ,l<σ.next→J (x::xs) σ→∃c σ',uE E l x σ c σ'∧σ.next≤σ'.next∧(∀a o,d<a→σ'.obj (a,o)=σ.obj (a,o))∧(∀s,s<σ.next→σ'.loops s=σ.loops s∨s=l)∧(c=true→J xs σ')∧(c=false→D σ')):
 ∀(g:Nat) (p:Pred),sizeOf p<g→(pre p).length<2^62→∀(dd:Nat) (σ:ah) (L:List (List V)),d<dd→l<σ.next→J (yl (pre p)++L) σ→mg E 70 [Pred.v p,yv l] dd σ (fun v σ'=>Pg d dd l σ σ'∧((v= .bool true∧J L σ')∨(v= .bool false∧D σ'))):=by
 intro g
 induction g with
 |zero=>intro p hp;omega
 |succ g ih=>
 intro p hp hsz dd σ0 L hd hl hj
 have au:∀{σ:ah} {x:eO} {k o s:Nat},Pg d dd l σ ((σ.bump k).setObj (dd,o) s x):=Pg.trans .bump .set
 have part:∀(fr:Fr) (σ:ah) (s:Nat) (q:Pred) (xs:List (List V)) (Q:Ex→Fr→ah→Prop),sizeOf q<g→(pre q).length<2^62→fr.d=dd→fr.tm 1=yv l→fr.tm 6= .ref (dd,6) s 0→σ.bD (dd,6) s=some q.c→l<σ.next→Pg d dd l σ0 σ→J (yl (pre q)++xs) σ→
  (∀fr' σ',(∀i,i<18→6<i→fr'.tm i=fr.tm i)→fr'.d=dd→fr'.tm 1=yv l→l<σ'.next→Pg d dd l σ0 σ'→J xs σ'→Q .normal fr' σ')→(∀fr' σ',fr'.tm 4= .bool false→D σ'→Pg d dd l σ0 σ'→Q .ret fr' σ')→
  CW E ((fZ Tryz.f70.body [1,1,0,1,0,0,1,1,0,0,1]).getD .skip) fr σ Q:=by
  intro fr σ s q xs Q hq Nc h1 h2 h3 h4 hl hp hj Nf Ng
  have hP:E.P=Tryz.prog:=rfl
  refine CW.seq (CW.region ?_)
  refine OW.o1 (by rfl) (fun S=>by simp only[go_sem,Nat.reduceBEq,Nat.reduceAdd, *];with_reducible exact Is.rfl) ?_
  refine OW.o1 (by rfl) (fun S=>by simp only[go_sem,Nat.reduceBEq,Nat.reduceAdd, *];with_reducible exact Is.rfl) ?_
  refine OW.zl (g:=70) (a:=[]) (b:=[]) (by rfl) rfl rfl rfl rfl ?_
  rw[tN,tN,h1]
  change mg E 70 [Pred.v q,yv l] (dd+1) _ _
  obtain⟨n,v,σ1,hn,hpg,hv⟩:=ih q hq Nc (dd+1) (σ.bump 4) xs (by omega) (Nat.lt_of_lt_of_le hl (Nat.le_add_right _ _)) (hJ _ _ _ hl hj ⟨Nat.le_add_right _ _,fun _ _=>rfl,fun _ _=>rfl,fun _ _ _=>rfl⟩)
  have UR:Pg d dd l σ0 σ1:=hp.trans (Pg.trans .bump ⟨hpg.1,fun a o ha hb=>hpg.2.1 a o ha (by omega),hpg.2.2⟩)
  have hl':l<σ1.next:=Nat.lt_of_lt_of_le hl (Nat.le_trans (Nat.le_add_right _ 4) hpg.1)
  refine⟨n,v,σ1,hn, ?_⟩
  rcases hv with ⟨rfl,hj'⟩| ⟨rfl,hd'⟩
  ·refine OW.o1 (by rfl) (fun S=>by simp only[go_sem,Nat.reduceBEq,Nat.reduceAdd, *];with_reducible exact Is.rfl) ?_
   refine OW.nil (gF.n ?_)
   refine CW.J7 (by simp only[go_sem,Nat.reduceBEq,Nat.reduceAdd, *];exact Is.rfl) ?_
   refine CW.skip (Nf _ _ (fun i h1 h2=> ?_) ?_ ?_ hl' UR hj')
   ·simp only[Cq]
    rw[tL _ _ (by simp;omega),tL _ _ (by simp;omega),tL _ _ (by simp;omega),tL _ _ (by simp;omega)]
   ·simp only[Cq,tN,h1]
   ·simp only[go_sem,Nat.reduceBEq,h2]
  ·refine OW.o1 (by rfl) (fun S=>by simp only[go_sem,Nat.reduceBEq,Nat.reduceAdd, *];with_reducible exact Is.rfl) ?_
   refine OW.nil (gF.n ?_)
   refine CW.J6 (by simp only[go_sem,Nat.reduceBEq,Nat.reduceAdd, *];exact Is.rfl) ?_
   refine CW.seq (CW.region ?_)
   refine OW.o1 (by rfl) (fun S=>by simp only[go_sem,Nat.reduceBEq,Nat.reduceAdd, *];with_reducible exact Is.rfl) ?_
   refine OW.nil (gF.n (CW.ret (Ng _ _ ?_ ?_ (UR.trans .bump))))
   ·simp only[go_sem,Nat.reduceBEq]
   ·exact hD _ _ hl' hd' ⟨Nat.le_add_right _ _,fun _ _=>rfl,fun _ _=>rfl,fun _ _ _=>rfl⟩
 have loop:∀(k i:Nat) (fr:Fr) (σ:ah),i+k=p.aG.length→fr.d=dd→fr.tm 1=yv l→fr.tm 12=lv Pred.v p.aG→fr.tm 13= .int .i64 (p.aG.length:Nat)→fr.tm 14= .int .i64 (i:Nat)→p.aG.length<2^62→l<σ.next→Pg d dd l σ0 σ→J (yl (jE (p.aG.drop i))++L) σ→
  CW E ((fZ Tryz.f70.body [1,1,0,1,0]).getD .skip) fr σ (fun e fr' σ'=>(e= .exit 0∧J L σ'∧Pg d dd l σ0 σ')∨(e= .ret∧fr'.tm 4= .bool false∧D σ'∧Pg d dd l σ0 σ')):=by
  intro k
  induction k with
  |zero=>
   intro i fr σ hi h1 h2 h3 h4 h5 hb hl hp hj
   refine CW.loop (CW.seq (CW.region ?_))
   refine OW.o1 (by rfl) (fun S=>by simp only[go_sem,Nat.reduceBEq,Nat.reduceAdd, *];with_reducible exact Is.rfl) ?_
   refine OW.nil (gF.n ?_)
   have e:decide (((i:Nat):Int)< ((p.aG.length:Nat):Int))=false:=by simp;omega
   refine CW.seq (CW.J7 (by simp only[go_sem,Nat.reduceBEq,Nat.reduceAdd, *];exact Is.rfl) ?_)
   refine CW.exit (gF.x (pY.x (.inl ⟨rfl, ?_,hp.trans .bump⟩)))
   have:p.aG.drop i=[]:=List.drop_eq_nil_of_le (by omega)
   rw[this] at hj
   exact hJ _ _ _ hl (by simpa [yl,jE] using hj) ⟨Nat.le_add_right _ _,fun _ _=>rfl,fun _ _=>rfl,fun _ _ _=>rfl⟩
  |succ k ihk=>
   intro i fr σ hi h1 h2 h3 h4 h5 hb hl hp hj
   have hlt:i<p.aG.length:=by omega
   have hx:dX p.aG ((i:Nat):Int)=some p.aG[i]:=by
    unfold dX;rw[if_pos ⟨by omega,by omega⟩];simp[hlt]
   have hdrop:p.aG.drop i=p.aG[i]::p.aG.drop (i+1):=List.drop_eq_getElem_cons hlt
   have hmem:p.aG[i]∈p.aG:=List.getElem_mem hlt
   generalize p.aG[i]=q at hx hdrop hmem
   refine CW.loop (CW.seq (CW.region ?_))
   refine OW.o1 (by rfl) (fun S=>by simp only[go_sem,Nat.reduceBEq,Nat.reduceAdd, *];with_reducible exact Is.rfl) ?_
   refine OW.nil (gF.n ?_)
   have e:decide (((i:Nat):Int)< ((p.aG.length:Nat):Int))=true:=by simp;omega
   refine CW.seq (CW.J6 (by simp only[go_sem,Nat.reduceBEq,Nat.reduceAdd, *];exact Is.rfl) ?_)
   refine CW.skip (gF.n ?_)
   refine CW.seq (CW.block (CW.seq (CW.region ?_)))
   have hP:E.P=Tryz.prog:=rfl
   have ahF:kM Tryz.prog 22 (lv Pred.v p.aG) (.int .i64 ((i:Nat):Int))=some (.aH q.c 0):=by
    rw[Qw,if_pos (by rfl)]
    have e1:iA Tryz.prog 22=some 24:=by kernel_rfl
    have e2:bF Tryz.prog 24=some 6:=by kernel_rfl
    rw[e1];simp only[Option.bind_some,e2,hx]
    rfl
   refine OW.o1 (by rfl) (fun S=>by simp only[go_sem,Nat.reduceBEq,Nat.reduceAdd, *];with_reducible exact Is.rfl) ?_
   refine OW.o1 (by rfl) (fun S=>by simp only[go_sem,Nat.reduceBEq,Nat.reduceAdd, *];with_reducible exact Is.rfl) ?_
   have hz:fO Tryz.prog 24=some (.agg [.int .i64 0,.str [],.int .i64 0,.int .i64 0,.str [],.aj .nil []]):=by kernel_rfl
   refine OW.o1 (by rfl) (fun S=>by simp only[go_sem,Nat.reduceBEq,Nat.reduceAdd, *];with_reducible exact Is.rfl) ?_
   have ahG:bF Tryz.prog 24=some 6:=by kernel_rfl
   have hsp:dR [.int .i64 0,.str [],.int .i64 0,.int .i64 0,.str [],.aj .nil []] 0 q.c=q.c:=rfl
   refine OW.o0 (by rfl) (fun S=>by
    rw[Qy]
    simp only[go_sem,Nat.reduceBEq,Nat.reduceAdd, *]
    rw[if_pos (by decide)]
    exact Is.rfl) ?_
   refine OW.nil (NQ.i (gF.n ?_))
   rw[hdrop] at hj
   have hj1:J (yl (pre q)++(yl (jE (p.aG.drop (i+1)))++L)) σ:=by
    have:yl (jE (q::p.aG.drop (i+1)))=yl (pre q)++yl (jE (p.aG.drop (i+1))):=by simp[yl,jE]
    rw[this,List.append_assoc] at hj;exact hj
   refine part _ _ ?s q _ _ ?hq ?Nc ?h1 ?h2 ?h3 ?h4 ?hl ?hp (hJ _ _ _ hl hj1 ?hsh) ?Nf ?Ng
   case h3=>simp only[go_sem,Nat.reduceBEq,Nat.reduceAdd, *];rfl
   case hq=>
    have h7:=List.sizeOf_lt_of_mem hmem
    have h8:sizeOf p.aG<sizeOf p:=by cases p;simp;omega
    omega
   case Nc=>have h:=UQ hmem;rw[pre_eq] at hsz;simp at hsz;omega
   case h1=>simp only[tN,h1]
   case h2=>simp only[go_sem,Nat.reduceBEq,Nat.reduceAdd, *]
   case h4=>exact p8 _ _ _ _
   case hl=>exact Nat.lt_of_lt_of_le hl (Nat.le_trans (Nat.le_add_right _ _) (Nat.le_add_right _ _))
   case hp=>exact hp.trans (Pg.trans .bump (Pg.trans .bump (Pg.trans .set .set)))
   case hsh=>exact⟨Nat.le_trans (Nat.le_add_right _ _) (Nat.le_add_right _ _),fun _ _=>rfl,fun _ _=>rfl,fun a o ha=>(Hq (by omega)).trans (Hq (by omega))⟩
   case Nf=>
    intro fr' σ' k1 k2 k3 k4 k5 k6
    refine mh.n (gF.n (CW.region ?_))
    have t12:fr'.tm 12=lv Pred.v p.aG:=by rw[k1 12 (by omega) (by omega)];simp only[go_sem,Nat.reduceBEq,Nat.reduceAdd, *]
    have t13:fr'.tm 13= .int .i64 (p.aG.length:Nat):=by rw[k1 13 (by omega) (by omega)];simp only[go_sem,Nat.reduceBEq,Nat.reduceAdd, *]
    have t14:fr'.tm 14= .int .i64 (i:Nat):=by rw[k1 14 (by omega) (by omega)];simp only[go_sem,Nat.reduceBEq,Nat.reduceAdd, *]
    have hw:IntKind.wrap .i64 ((i:Int)+(1:Int))=((i+1:Nat):Int):=by rw[IntKind.wrap_i64];omega
    refine OW.o1 (by rfl) (fun S=>by simp only[go_sem,Nat.reduceBEq,Nat.reduceAdd, *];with_reducible exact Is.rfl) ?_
    refine OW.o1 (by rfl) (fun S=>by simp only[go_sem,Nat.reduceBEq,Nat.reduceAdd, *];with_reducible exact Is.rfl) ?_
    refine OW.nil (NQ.i (pY.n (ihk (i+1) _ _ (by omega) ?_ ?_ ?_ ?_ ?_ hb ?_ (k5.trans .bump) ?_)))
    ·simp only[tN,k2]
    ·simp only[go_sem,Nat.reduceBEq,Nat.reduceAdd, *]
    ·simp only[go_sem,Nat.reduceBEq,Nat.reduceAdd, *]
    ·simp only[go_sem,Nat.reduceBEq,Nat.reduceAdd, *]
    ·simp only[go_sem,Nat.reduceBEq,Nat.reduceAdd, *]
    ·exact Nat.lt_of_lt_of_le k4 (Nat.le_add_right _ _)
    ·exact hJ _ _ _ k4 k6 ⟨Nat.le_add_right _ _,fun _ _=>rfl,fun _ _=>rfl,fun _ _ _=>rfl⟩
   case Ng=>
    intro fr' σ' k1 k2 k3
    exact mh.r (gF.r (pY.r (.inr ⟨rfl,k1,k2,k3⟩)))
 refine mg.of (fn:=Tryz.f70) (c:=Tryz.f70.body.getD .skip) Tryz.func70 rfl (by kernel_rfl) ?_
 generalize hfr:({d:=dd,om:=E.om 70,tm:=fun i=>[Pred.v p,yv l].getD i aA}:Fr)=fr
 have h0:fr.tm 0=Pred.v p:=by rw[←hfr];rfl
 have h1:fr.tm 1=yv l:=by rw[←hfr];rfl
 have hdd:fr.d=dd:=by rw[←hfr]
 have hP:E.P=Tryz.prog:=rfl
 clear hfr
 refine CW.seq (CW.region ?_)
 refine OW.o1 (by rfl) (fun S=>by simp only[go_sem,Nat.reduceBEq,Nat.reduceAdd, *];with_reducible exact Is.rfl) ?_
 refine OW.o1 (by rfl) (fun S=>by simp only[go_sem,Nat.reduceBEq,Nat.reduceAdd, *];with_reducible exact Is.rfl) ?_
 refine OW.nil (gF.n ?_)
 refine CW.seq (CW.seq (CW.region ?_))
 refine OW.o1 (by rfl) (fun S=>by simp only[go_sem,Nat.reduceBEq,Nat.reduceAdd, *];with_reducible exact Is.rfl) ?_
 refine OW.o1 (by rfl) (fun S=>by simp only[go_sem,Nat.reduceBEq,Nat.reduceAdd, *];with_reducible exact Is.rfl) ?_
 rw[pre_eq] at hj
 have hj':J ([Pred.v p]::(yl (jE p.aG)++L)) (((σ0.bump 2).setObj (dd,2) σ0.next (.cells p.c)).bump 4):=hJ _ _ _ hl (by simpa [yl] using hj) ⟨Nat.le_trans (Nat.le_add_right _ 2) (Nat.le_add_right _ 4),fun _ _=>rfl,fun _ _=>rfl,fun a o ha=>Hq (by omega)⟩
 have hl1:l< (((σ0.bump 2).setObj (dd,2) σ0.next (.cells p.c)).bump 4).next:=by show l<σ0.next+2+4;omega
 obtain⟨c,σ1,hrnd,hn1,ho1,hlo1,hc1,hc2⟩:=hr _ _ _ hl1 hj'
 have hcell:σ1.bD (dd,2) σ0.next=some p.c:=by
  rw[aeC (ho1 dd 2 hd)]
  exact p8 _ _ _ _
 have Nh:Pg d dd l σ0 σ1:=(Pg.trans au .bump).trans ⟨hn1,fun a o ha _=>ho1 a o ha,hlo1⟩
 have hl2:l<σ1.next:=Nat.lt_of_lt_of_le hl Nh.1
 refine OW.yield (l:=l) (b:=c) (by rfl) rfl rfl ?_ hrnd ?_
 ·simp only[go_sem,Nat.reduceBEq,Nat.reduceAdd, *]
 refine OW.o1 (by rfl) (fun S=>by simp only[go_sem,Nat.reduceBEq,Nat.reduceAdd, *];with_reducible exact Is.rfl) ?_
 refine OW.nil (gF.n ?_)
 cases c with
 |false=>
  refine CW.J6 (by simp only[go_sem,Nat.reduceBEq,Nat.reduceAdd, *];exact Is.rfl) ?_
  refine CW.seq (CW.region ?_)
  refine OW.o1 (by rfl) (fun S=>by simp only[go_sem,Nat.reduceBEq,Nat.reduceAdd, *];with_reducible exact Is.rfl) ?_
  refine OW.nil (gF.n (CW.ret (gF.r ?_)))
  refine qX.one (by simp) (by simp only[go_sem,Nat.reduceBEq,Nat.reduceAdd,gU];with_reducible exact Is.rfl) ⟨Nh.trans .bump,.inr ⟨rfl, ?_⟩⟩
  exact hD _ _ hl2 (hc2 rfl) ⟨Nat.le_add_right _ _,fun _ _=>rfl,fun _ _=>rfl,fun _ _ _=>rfl⟩
 |true=>
  have hlen:p.aG.length<2^62∨2^62≤p.aG.length:=by omega
  refine CW.J7 (by simp only[go_sem,Nat.reduceBEq,Nat.reduceAdd, *];exact Is.rfl) ?_
  refine CW.skip (gF.n ?_)
  refine CW.seq (CW.seq (CW.region ?_))
  refine OW.o1 (by rfl) (fun S=>by simp only[go_sem,Nat.reduceBEq,Nat.reduceAdd, *];with_reducible exact Is.rfl) ?_
  refine OW.o1 (by rfl) (fun S=>by simp only[go_sem,Nat.reduceBEq,Nat.reduceAdd, *];with_reducible exact Is.rfl) ?_
  refine OW.o1 (by rfl) (fun S=>by simp only[go_sem,Nat.reduceBEq,Nat.reduceAdd, *];with_reducible exact Is.rfl) ?_
  refine OW.o1 (by rfl) (fun S=>by simp only[go_sem,Nat.reduceBEq,Nat.reduceAdd, *];with_reducible exact Is.rfl) ?_
  refine OW.nil (gF.n (CW.block ?_))
  refine(loop p.aG.length 0 _ _ (by omega) ?_ ?_ ?_ ?_ ?_ ?_ ?_ (Nh.trans .bump) ?_).mono ?_
  ·simp only[tN,Cq,hdd]
  ·simp only[go_sem,Nat.reduceBEq,Nat.reduceAdd, *]
  ·simp only[go_sem,Nat.reduceBEq,Nat.reduceAdd, *]
  ·simp only[go_sem,Nat.reduceBEq,Nat.reduceAdd, *]
  ·simp only[go_sem,Nat.reduceBEq,Nat.reduceAdd, *];rfl
  ·have h:=UO p.aG;rw[pre_eq] at hsz;simp at hsz;omega
  ·exact Nat.lt_of_lt_of_le hl2 (Nat.le_add_right _ _)
  ·exact hJ _ _ _ hl2 (by simpa using hc1 rfl) ⟨Nat.le_add_right _ _,fun _ _=>rfl,fun _ _=>rfl,fun _ _ _=>rfl⟩
  ·rintro e fr' σ' (⟨rfl,k1,k2⟩| ⟨rfl,k1,k2,k3⟩)
   ·refine mh.hit (gF.n (CW.seq (CW.region ?_)))
    refine OW.o1 (by rfl) (fun S=>by simp only[go_sem,Nat.reduceBEq,Nat.reduceAdd, *];with_reducible exact Is.rfl) ?_
    refine OW.nil (gF.n (CW.ret ?_))
    refine qX.one (by simp) (by simp only[go_sem,Nat.reduceBEq,Nat.reduceAdd,gU];with_reducible exact Is.rfl) ⟨k2.trans .bump,.inl ⟨rfl, ?_⟩⟩
    exact hJ _ _ _ (Nat.lt_of_lt_of_le hl k2.1) k1 ⟨Nat.le_add_right _ _,fun _ _=>rfl,fun _ _=>rfl,fun _ _ _=>rfl⟩
   ·refine mh.r (gF.r (qX.one (by simp) (by simp only[gU];rw[k1];exact Is.rfl) ⟨k3,.inr ⟨rfl,k2⟩⟩))
theorem aeE (p:Pred) (hsz:(pre p).length<2^62):Dz E 69 [] [.aH p.c 0] (yl (pre p)):=by
 intro d l σ J D hJ hD hr hl hj
 refine mg.of (fn:=Tryz.f69) (c:=Tryz.f69.body.getD .skip) Tryz.func69 rfl (by kernel_rfl) ?_
 generalize hfr:({d:=d+1,om:=E.om 69,tm:=fun i=>([]++[.fn (.yield l) [] []]++[.aH p.c 0]:List V).getD i aA}:Fr)=fr
 have h0:fr.tm 0=yv l:=by rw[←hfr];rfl
 have h1:fr.tm 1= .aH p.c 0:=by rw[←hfr];rfl
 have hdd:fr.d=d+1:=by rw[←hfr]
 have hP:E.P=Tryz.prog:=rfl
 clear hfr
 refine CW.region ?_
 refine OW.o1 (by rfl) (fun S=>by simp only[go_sem,Nat.reduceBEq,Nat.reduceAdd, *];with_reducible exact Is.rfl) ?_
 refine OW.o1 (by rfl) (fun S=>by simp only[go_sem,Nat.reduceBEq,Nat.reduceAdd, *];with_reducible exact Is.rfl) ?_
 refine OW.zl (g:=70) (a:=[]) (b:=[]) (by rfl) rfl rfl rfl rfl ?_
 rw[tN,tN,hdd]
 change mg E 70 [Pred.v p,yv l] (d+1+1) _ _
 obtain⟨n,v,σ1,hn,hpg,hv⟩:=aeD hJ hD hr (sizeOf p+1) p (by omega) hsz (d+1+1) (σ.bump 3) [] (by omega) (Nat.lt_of_lt_of_le hl (Nat.le_add_right _ _)) (hJ _ _ _ hl (by simpa using hj) ⟨Nat.le_add_right _ _,fun _ _=>rfl,fun _ _=>rfl,fun _ _ _=>rfl⟩)
 refine⟨n,v,σ1,hn,OW.nil ?_⟩
 refine⟨[],rfl,Nat.le_trans (Nat.le_add_right _ 3) hpg.1, ?_⟩
 rcases hv with ⟨_,h⟩| ⟨_,h⟩
 ·exact .inl h
 ·exact .inr h
def AX (p:Pred):Option (List Pred):=if (pre p).length<2^62 then some (pre p) else none
abbrev Ni:List Sk:=[.d (.int .i64),.d .str,.d (.int .i64),.d (.int .i64),.d .str,.d (.slice (.st 0))]
abbrev Hr:List Sk:=[.d (.st 0)]
noncomputable def cB:IR R:=wH 69 ⟨[],[.aH Ni 0],Hr,fun _ q=>AX (⟨q.1,q.2.1,q.2.2.1,q.2.2.2.1,q.2.2.2.2.1,q.2.2.2.2.2⟩:Pred)⟩ Uc
theorem gY:xQ E cB:=by
 refine adg adf ⟨rfl,fun pa pb xs h=> ?_⟩
 unfold AX at h
 dsimp only at h
 split at h
 ·rename_i hsz
  cases h
  have:=aeE _ hsz
  have e:∀q:ak R.T Ni,aI R [.aH Ni 0] q=[.aH (Pred.c ⟨q.1,q.2.1,q.2.2.1,q.2.2.2.1,q.2.2.2.2.1,q.2.2.2.2.2⟩) 0]:=fun q=>by
   unfold Pred.c;rw[Pred.G7];rfl
  have e2:∀l:List Pred,List.map (aI R Hr) l=yl l:=fun l=>rfl
  exact Eq.mpr (congrArg (fun b=>Dz E 69 [] b (yl (pre ⟨pb.1,pb.2.1,pb.2.2.1,pb.2.2.2.1,pb.2.2.2.2.1,pb.2.2.2.2.2⟩))) (e pb)) this
 ·cases h
end Sh
end
section
open Go Go.Proofs Aq
namespace Sh
noncomputable def Nj (_:Nat):Nat→List (FR R):=Ub
theorem Nk (n:Nat):bG E (Nj n):=adh
theorem aeF (p:ak R.T []) (x:Bool) (h:some true=some x):Pure E 11 (aI R [] p) (bT [.bool x]):=by
 cases h
 exact⟨0,rfl⟩
theorem aeG (p:ak R.T [.d .str,.d .str]) (x:Int) (h:some (qp p.1 p.2)=some x):Pure E 42 (aI R [.d .str,.d .str] p) (bT (aI R [.d (.int .i64)] x)):=by
 cases h
 exact⟨0,rfl⟩
end Sh
end
