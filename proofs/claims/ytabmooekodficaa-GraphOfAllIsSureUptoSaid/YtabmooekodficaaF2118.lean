import Derived.ChangeCalls
import Derived.Deep.DeepHandedRow
import Derived.Lib.LaidTab
import Derived.OpenShut
import Derived.ProofKit
import Derived.Test.YtabmooekodficaaF2115
import Derived.Test.YtabmooekodficaaF2117
import Derived.Test.YtabmooekodficaaRows
set_option linter.all false
section
open Go Go.Proofs Aq
namespace Sh
set_option maxRecDepth 100000
def memS (n:Nat):List Nat->Bool
 | []=>false
 |m::l=>Nat.beq n m||memS n l
def impL:List Nat:=[46,60,27,45,30,26,29,49,59,64,69,74,75,76,78,79,80,81,84,85,86,88,89,91,92,98,100,101,102,103,104,105,106,107]
def omL:List Nat:=[30,45]
noncomputable def ES (s:FuncId->Option (List V->Option V)):Env:={P:=Try.prog,glob:=globS,imp:=fun f=>memS f impL,om:=fun f=>memS f omL,summ:=s,frz:=fun t=>Nat.beq t 56,frzd:=fun d=>Nat.beq d 56002}
theorem esOK (s:FuncId->Option (List V->Option V)) (hs:∀f g,s f=some g->∀args v,g args=some v->PureOK (ES s) f args v):EnvOK (ES s) where
 name:=fun f fn h hn=>by
  have h1:Try.prog.funcs.all (fun fn=>!(fn.name== "runtime.NumGoroutine"))=true:=by kernel_rfl
  have h2:Try.prog.funcs[f]? =some fn:=h
  have h3:=Array.all_eq_true_iff_forall_mem.1 h1 fn (Array.mem_of_getElem? h2)
  rw[hn] at h3
  exact absurd h3 (by decide)
 summ:=hs
 mixed:=by kernel_rfl
 flat:=fun g cs h=>by cases h
theorem es0:EnvOK (ES fun _=>none):=esOK _ fun f g h=>by cases h
end Sh
end
section
open Go Go.Proofs Aq
namespace Sh
set_option maxRecDepth 100000
theorem san_run:callPure (ES fun _=>none) (evl (ES fun _=>none) 400) 10 []=some (.bool true):=by kernel_rfl
theorem san_pure:PureOK (ES fun _=>none) 10 [] (.bool true):=callPure_sound es0 (evl_sound es0 400).call san_run
end Sh
end
section
open Go Go.Proofs Aq
namespace Sh
set_option maxRecDepth 100000
def sanT:List V->Option V
 | []=>some (.bool true)
 |_::_=>none
def summS (f:Nat):Option (List V->Option V):=bif Nat.beq f 10 then some sanT else none
noncomputable def E:Env:=ES summS
theorem fzM_E (d:Option Nat):fzM E d=false:=by cases d<;>rfl
attribute [go_sem] fzM_E if_false
theorem envOK:EnvOK E:=esOK summS fun f g h args v hv=>by
 unfold summS at h
 cases h1:Nat.beq f 10
 ·rw[h1,cond_false] at h;cases h
 ·rw[h1,cond_true] at h
  cases h
  have:=Nat.eq_of_beq_eq_true h1
  subst this
  cases args with
  |nil=>cases hv;exact san_pure
  |cons a l=>cases hv
theorem san_call:Pure E 10 [] (.bool true):=⟨0,rfl⟩
abbrev iv (x:Int):V:=.int .i64 x
abbrev yv (l:Nat):V:=.fn (.yield l) [] []
theorem shift_bump {d k:Nat} {σ:Sig}:Shift d σ (σ.bump k):=⟨QM _ _,fun _ _=>rfl,fun _ _=>rfl,fun _ _ _=>rfl⟩
def valF (q:List Int):Option (List Int):=if q.length<2^62 then some q else none
theorem val_iter (l:List Int) (hsz:l.length<2^62):IterOK E 60 [] [.cref [lv iv l] 0] (l.map fun x=>[iv x]):=by
 intro d lp σ0 J D hJ hD hr hlp hj
 have hP:E.P=Try.prog:=rfl
 have loop:∀(k i:Nat) (fr:Fr) (σ:Sig),i+k=l.length->fr.tm 0=yv lp->fr.tm 5=lv iv l->fr.tm 6= .int .i64 (l.length:Nat)->fr.tm 7= .int .i64 (i:Nat)->lp<σ.next->σ0.next<=σ.next->J ((l.drop i).map fun x=>[iv x]) σ->
  CW E ((subO Try.f60.body [1,0]).getD .skip) fr σ (fun e fr' σ'=>σ0.next<=σ'.next/\((e= .exit 0/\J [] σ')\/(e= .ret/\D σ'))):=by
  intro k
  induction k with
  |zero=>
   intro i fr σ hi h0 h5 h6 h7 hl hn hj
   refine CW.loop (CW.seq (CW.region ?_))
   refine OW.o1 (by rfl) (fun S=>by simp only[go_sem,Nat.reduceBEq,Nat.reduceAdd, *];with_reducible exact Is.rfl) ?_
   refine OW.nil (SeqQ.n ?_)
   have e:decide (((i:Nat):Int)< ((l.length:Nat):Int))=false:=by simp;omega
   refine CW.seq (CW.condF (by simp only[go_sem,Nat.reduceBEq,Nat.reduceAdd, *];exact Is.rfl) ?_)
   refine CW.exit (SeqQ.x (LoopQ.x ⟨Qw hn (QM _ _),.inl ⟨rfl,?_⟩⟩))
   have:l.drop i=[]:=RF (by omega)
   rw[this] at hj
   exact hJ _ _ _ hl hj shift_bump
  |succ k ihk=>
   intro i fr σ hi h0 h5 h6 h7 hl hn hj
   have hlt:i<l.length:=by omega
   have hx:idxL l ((i:Nat):Int)=some l[i]:=by
    unfold idxL;rw[if_pos ⟨by omega,by omega⟩];simp[hlt]
   have hdrop:l.drop i=l[i]::l.drop (i+1):=QO hlt
   generalize l[i]=q at hx hdrop
   refine CW.loop (CW.seq (CW.region ?_))
   refine OW.o1 (by rfl) (fun S=>by simp only[go_sem,Nat.reduceBEq,Nat.reduceAdd, *];with_reducible exact Is.rfl) ?_
   refine OW.nil (SeqQ.n ?_)
   have e:decide (((i:Nat):Int)< ((l.length:Nat):Int))=true:=by simp;omega
   refine CW.seq (CW.condT (by simp only[go_sem,Nat.reduceBEq,Nat.reduceAdd, *];exact Is.rfl) ?_)
   refine CW.skip (SeqQ.n ?_)
   refine CW.seq (CW.block (CW.seq (CW.region ?_)))
   have hia':indexAddrV Try.prog 26 (lv iv l) (.int .i64 ((i:Nat):Int))=some (.cref [iv q] 0):=by
    rw[idx_lv,if_pos (by rfl)]
    have e1:elemT Try.prog 26=some 3:=by kernel_rfl
    have e2:szT Try.prog 3=some 1:=by kernel_rfl
    rw[e1];simp only[Option.bind_some,e2,hx]
    rfl
   refine OW.o1 (by rfl) (fun S=>by simp only[go_sem,Nat.reduceBEq,Nat.reduceAdd, *];with_reducible exact Is.rfl) ?_
   refine OW.o1 (v:=iv q) (by rfl) (fun S=>by simp only[go_sem,Nat.reduceBEq,Nat.reduceAdd, *];exact Is.rfl) ?_
   refine OW.o1 (v:=iv q) (by rfl) (fun S=>by simp only[go_sem,Nat.reduceBEq,Nat.reduceAdd, *];exact Is.rfl) ?_
   refine OW.nil (SeqQ.n ?_)
   refine CW.seq (CW.region ?_)
   refine OW.o1 (by rfl) (fun S=>by simp only[go_sem,Nat.reduceBEq,Nat.reduceAdd, *];with_reducible exact Is.rfl) ?_
   refine OW.o1 (v:=iv q) (by rfl) (fun S=>by simp only[go_sem,Nat.reduceBEq,Nat.reduceAdd, *];exact Is.rfl) ?_
   rw[hdrop] at hj
   have hj':J ([iv q]::(l.drop (i+1)).map fun x=>[iv x]) (((σ.bump 1).bump 3).bump 4):=hJ _ _ _ hl hj ((shift_bump.trans shift_bump).trans shift_bump)
   have hl1:lp< (((σ.bump 1).bump 3).bump 4).next:=by show lp<σ.next+1+3+4;omega
   obtain⟨c,σ1,hrnd,hn1,ho1,hlo1,hc1,hc2⟩:=hr _ _ _ hl1 hj'
   have hl2:lp<σ1.next:=QF hl1 hn1
   have hn2:σ0.next<=σ1.next:=Qw hn (Qw (show σ.next<=σ.next+1+3+4 by omega) hn1)
   refine OW.yield (l:=lp) (b:=c) (σ1:=σ1) (by rfl) rfl rfl ?_ ?_ ?_
   ·simp only[go_sem,Nat.reduceBEq,Nat.reduceAdd, *]
   ·simp only[go_sem,Nat.reduceBEq,Nat.reduceAdd, *]
    exact hrnd
   refine OW.o1 (by rfl) (fun S=>by simp only[go_sem,Nat.reduceBEq,Nat.reduceAdd, *];with_reducible exact Is.rfl) ?_
   refine OW.nil (SeqQ.n ?_)
   cases c with
   |false=>
    refine CW.condT (by simp only[go_sem,Nat.reduceBEq,Nat.reduceAdd, *];exact Is.rfl) ?_
    refine CW.ret (BlkQ.r (SeqQ.r (LoopQ.r ⟨hn2,.inr ⟨rfl,hc2 rfl⟩⟩)))
   |true=>
    refine CW.condF (by simp only[go_sem,Nat.reduceBEq,Nat.reduceAdd, *];exact Is.rfl) ?_
    refine CW.skip (BlkQ.n (SeqQ.n (CW.region ?_)))
    have hw:IntKind.wrap .i64 ((i:Int)+(1:Int))=((i+1:Nat):Int):=by rw[IntKind.wrap_i64];omega
    refine OW.o1 (by rfl) (fun S=>by simp only[go_sem,Nat.reduceBEq,Nat.reduceAdd, *];with_reducible exact Is.rfl) ?_
    refine OW.o1 (by rfl) (fun S=>by simp only[go_sem,Nat.reduceBEq,Nat.reduceAdd, *];with_reducible exact Is.rfl) ?_
    refine OW.nil (NQ.i (LoopQ.n (ihk (i+1) _ _ (by omega) ?_ ?_ ?_ ?_ ?_ ?_ ?_)))
    ·simp only[go_sem,Nat.reduceBEq,Nat.reduceAdd, *]
    ·simp only[go_sem,Nat.reduceBEq,Nat.reduceAdd, *]
    ·simp only[go_sem,Nat.reduceBEq,Nat.reduceAdd, *]
    ·simp only[go_sem,Nat.reduceBEq,Nat.reduceAdd, *]
    ·exact QF hl2 (QM _ _)
    ·exact Qw hn2 (QM _ _)
    ·exact hJ _ _ _ hl2 (hc1 rfl) shift_bump
 refine Imp.of (fn:=Try.f60) (c:=Try.f60.body.getD .skip) Try.func60 rfl (by kernel_rfl) ?_
 generalize hfr:({d:=d+1,om:=E.om 60,tm:=fun i=>([]++[.fn (.yield lp) [] []]++[.cref [lv iv l] 0]:List V).getD i undefV}:Fr)=fr
 have h0:fr.tm 0=yv lp:=by rw[<-hfr];rfl
 have h1:fr.tm 1= .cref [lv iv l] 0:=by rw[<-hfr];rfl
 clear hfr
 refine CW.seq (CW.region ?_)
 refine OW.o1 (v:=lv iv l) (by rfl) (fun S=>by simp only[go_sem,Nat.reduceBEq,Nat.reduceAdd, *];exact Is.rfl) ?_
 refine OW.o1 (by rfl) (fun S=>by simp only[go_sem,Nat.reduceBEq,Nat.reduceAdd, *];with_reducible exact Is.rfl) ?_
 refine OW.o1 (by rfl) (fun S=>by simp only[go_sem,Nat.reduceBEq,Nat.reduceAdd, *];with_reducible exact Is.rfl) ?_
 refine OW.nil (SeqQ.n (CW.block ?_))
 refine(loop l.length 0 _ _ (by omega) ?_ ?_ ?_ ?_ ?_ ?_ ?_).mono ?_
 ·simp only[go_sem,Nat.reduceBEq,Nat.reduceAdd, *]
 ·simp only[go_sem,Nat.reduceBEq,Nat.reduceAdd, *]
 ·simp only[go_sem,Nat.reduceBEq,Nat.reduceAdd, *]
 ·simp only[go_sem,Nat.reduceBEq,Nat.reduceAdd, *];rfl
 ·exact QF hlp (QM _ _)
 ·exact QM _ _
 ·exact hJ _ _ _ hlp (by simpa using hj) shift_bump
 ·rintro e fr' σ' ⟨k0,⟨rfl,k1⟩| ⟨rfl,k1⟩⟩
  ·exact BlkQ.hit ⟨[],rfl,k0,.inl k1⟩
  ·exact BlkQ.r ⟨[],rfl,k0,.inr k1⟩
end Sh
end
section
open Go Go.Proofs Aq
namespace Sh
set_option maxRecDepth 100000
def ltS (ke:List Int) (a b:Int):Bool:=decide (ke.getD a.toNat 0<ke.getD b.toNat 0)||(decide (ke.getD a.toNat 0=ke.getD b.toNat 0)&& decide (a<b))
def minS (ke:List Int):Int->List Int->Int
 |m,[]=>m
 |m,x::l=>minS ke (bif ltS ke x m then x else m) l
def inS (n:Nat) (x:Int):Bool:=decide (0<=x)&& decide (x<n)
def walkG (hs:List Hood) (ke:List Int):Nat->Int->Option (List Int)
 |0,_=>none
 |n+1,c=>
  match hs[c.toNat]? with
  |some h=>match h.Slots with
   | []=>none
   |a::l=>
    bif inS ke.length c&& (a::l).all (inS ke.length)&& decide ((a::l).length<2^62) then
     (let x:=minS ke a l
      bif decide (ke.getD c.toNat 0<=ke.getD x.toNat 0) then some [c] else (walkG hs ke n x).map (c:: ·))
    else none
  |none=>none
abbrev intEl:List Sk:=[.d (.int .i64)]
abbrev seaSk:List Sk:=[.d (.int .i64),.d (.slice (.slice (.int .i64))),.d (.slice (.st 0)),.d (.slice (.int .i64))]
def walkL (b:PayL R.T [.cref seaSk 0]) (c:Int):Option (List Int):=walkG b.2.2.1 b.2.2.2 ((b.2.2.1:List Hood).length+1) c
open Classical in
noncomputable def walkR (b:PayL R.T [.cref seaSk 0]) (c:Int):Option (List Int):=
 (walkL b c).bind fun L=>if IterO E false 46 [] (encSL R [.cref seaSk 0] b) [iv c] (L.map fun x=>[iv x]) then some L else none
theorem walkR_iter {b:PayL R.T [.cref seaSk 0]} {c:Int} {L:List Int} (h:walkR b c=some L):IterO E false 46 [] (encSL R [.cref seaSk 0] b) [iv c] (L.map fun x=>[iv x]):=by
 obtain⟨L',h1,h2⟩:=mF.1 h
 split at h2
 ·cases h2;assumption
 ·cases h2
theorem walkR_of {b:PayL R.T [.cref seaSk 0]} {c:Int} {L:List Int} (h:walkL b c=some L) (hi:IterO E false 46 [] (encSL R [.cref seaSk 0] b) [iv c] (L.map fun x=>[iv x])):walkR b c=some L:=by
 unfold walkR
 rw[h]
 simp only[Option.bind_some]
 rw[if_pos hi]
end Sh
end
section
open Go Go.Proofs Aq
namespace Sh
set_option maxRecDepth 100000
theorem pure82:Pure E 70 [] (.agg [.fn (.func 94) [] [.cref [iv (-1)] 0],.fn (.func 94) [] [.cref [iv 1] 0]]):=⟨20,by kernel_rfl⟩
theorem pure83:Pure E 71 [] (.agg [.fn (.func 96) [] [],.fn (.func 97) [] []]):=⟨20,by kernel_rfl⟩
end Sh
end
section
open Go Go.Proofs Aq
namespace Sh
set_option maxRecDepth 100000
abbrev roV (m:Int):V:=bif decide (m=2) then .agg [.fn (.func 94) [] [.cref [iv (-1)] 0],.fn (.func 94) [] [.cref [iv 1] 0]] else .agg [.fn (.func 96) [] [],.fn (.func 97) [] []]
theorem pure65 (m:Int):Pure E 62 [iv m] (roV m):=by
 refine Pure.of' (fn:=Try.f62) (c:=Try.f62.body.getD .skip) [.cell 2 85] Try.func62 rfl ?_
 intro fr σ hd hom htm
 have h0:fr.tm 0=iv m:=htm 0
 clear htm
 have hP:E.P=Try.prog:=rfl
 have hz:zeroT Try.prog 85=some (.agg [.nilf,.nilf]):=by kernel_rfl
 have hsz:szT Try.prog 85=some 2:=by kernel_rfl
 have hdd:=hd
 have hld:∀a b,ldT Try.prog 85 [a,b] 0=some (.agg [a,b]):=by intro a b;kernel_rfl
 have hone:(oneCell V.nilf&& oneCell V.nilf)=true:=by rfl
 refine CW.seq (CW.region ?_)
 refine OW.o1 (by rfl) (fun S=>by simp only[go_sem,Nat.reduceBEq,Nat.reduceAdd, *];with_reducible exact Is.rfl) ?_
 refine OW.nil (SeqQ.n ?_)
 refine CW.seq (CW.seq (CW.region ?_))
 refine OW.o1 (by rfl) (fun S=>by simp only[go_sem,Nat.reduceBEq,Nat.reduceAdd, *];with_reducible exact Is.rfl) ?_
 refine OW.o1 (by rfl) (fun S=>by simp only[go_sem,Nat.reduceBEq,Nat.reduceAdd, *];with_reducible exact Is.rfl) ?_
 refine OW.nil (SeqQ.n ?_)
 by_cases hm:m=2
 ·refine CW.condT (by simp only[go_sem,Nat.reduceBEq,Nat.reduceAdd, *];exact Is.rfl) ?_
  refine CW.seq (CW.region ?_)
  refine OW.callP pure82 (by exact Is.rfl) (by exact Is.rfl) (by exact Is.rfl) (by rfl) ?_
  refine OW.o0 (by rfl) (fun S=>by simp only[go_sem,Nat.reduceBEq,Nat.reduceAdd,hz,hP,hone,hdd];rw[if_pos ⟨hsz.symm,Qt _,rfl⟩];exact Is.rfl) ?_
  refine OW.nil (SeqQ.n ?_)
  refine CW.ret (SeqQ.r ?_)
  refine RetQ.one (by intro i h;cases h) (by simp only[resV,go_sem,Nat.reduceBEq,Nat.reduceAdd,cells_eq,hP,spliceL,hld];exact Is.rfl) ?_
  simp only[roV,hm,decide_true,cond_true]
  rfl
 ·have hm':(m==2)=false:=by simpa using hm
  refine CW.condF (by simp only[go_sem,Nat.reduceBEq,Nat.reduceAdd, *];exact Is.rfl) ?_
  refine CW.skip (SeqQ.n ?_)
  refine CW.seq (CW.region ?_)
  refine OW.callP pure83 (by exact Is.rfl) (by exact Is.rfl) (by exact Is.rfl) (by rfl) ?_
  refine OW.o0 (by rfl) (fun S=>by simp only[go_sem,Nat.reduceBEq,Nat.reduceAdd,hz,hP,hone,hdd];rw[if_pos ⟨hsz.symm,Qt _,rfl⟩];exact Is.rfl) ?_
  refine OW.nil (SeqQ.n ?_)
  refine CW.ret ?_
  refine RetQ.one (by intro i h;cases h) (by simp only[resV,go_sem,Nat.reduceBEq,Nat.reduceAdd,cells_eq,hP,spliceL,hld];exact Is.rfl) ?_
  simp only[roV,hm,decide_false,cond_false]
  rfl
abbrev hiA:List Sk:=[.d (.int .i64),.d (.int .i64),.cref [.d (.int .i64)] 0]
abbrev hiB:List Sk:=[.d (.int .i64),.d (.int .i64)]
abbrev hiM:List Sk:=[.d (.slice (.int .i64)),.fn 32 [.d (.st 3)] []]
abbrev hiP:List Sk:=[.d (.int .i64),.d (.int .i64),.d (.int .i64)]
abbrev hiR:List Sk:=[.d (.int .i64)]
def hi2 (m:Int):Bool:=decide (m=2)
def highF (A:PayL R.T hiA->Option (PayL R.T hiR)) (B:PayL R.T hiB->Option (PayL R.T hiR)) (M:PayL R.T hiM->Option (PayL R.T hiR)) (p:PayL R.T hiP):Option (PayL R.T hiR):=
 (bif hi2 p.1 then A (p.2.1,p.2.2,(1:Int)) else B (p.2.1,p.2.2)).bind fun x=>some (imin x (134217728:Int))
theorem high_ok {A:PayL R.T hiA->Option (PayL R.T hiR)} {B:PayL R.T hiB->Option (PayL R.T hiR)} {M:PayL R.T hiM->Option (PayL R.T hiR)} (hA:∀p x,A p=some x->Pure E 94 (encSL R hiA p) (retV (encSL R hiR x))) (hB:∀p x,B p=some x->Pure E 97 (encSL R hiB p) (retV (encSL R hiR x))) (hM:∀p x,M p=some x->Pure E 47 (encSL R hiM p) (retV (encSL R hiR x)))
 (p:PayL R.T hiP) (x:PayL R.T hiR) (h:highF A B M p=some x):Pure E 43 (encSL R hiP p) (retV (encSL R hiR x)):=by
 obtain⟨m,a,b⟩:=p
 refine Pure.of' (fn:=Try.f43) (c:=Try.f43.body.getD .skip) [.tmp 6] Try.func43 rfl ?_
 intro fr σ hd hom htm
 have h0:fr.tm 0=iv m:=htm 0
 have h1:fr.tm 1=iv a:=htm 1
 have h2:fr.tm 2=iv b:=htm 2
 clear htm
 have hP:E.P=Try.prog:=rfl
 have hmn:∀y c:Int,minMaxV false (iv y) [iv c]=some (iv (imin y c)):=by intro y c;rfl
 have hft:fieldT Try.prog 85 1=some (1,66):=by kernel_rfl
 have hs75:szT Try.prog 66=some 1:=by kernel_rfl
 have hld:∀a b:V,ldT Try.prog 66 [a,b] 1=some b:=by intro a b;kernel_rfl
 refine CW.seq (CW.region ?_)
 refine OW.o1 (by rfl) (fun S=>by simp only[go_sem,Nat.reduceBEq,Nat.reduceAdd, *];with_reducible exact Is.rfl) ?_
 refine OW.nil (SeqQ.n ?_)
 refine CW.seq (CW.region ?_)
 refine OW.o1 (by rfl) (fun S=>by simp only[go_sem,Nat.reduceBEq,Nat.reduceAdd, *];with_reducible exact Is.rfl) ?_
 by_cases hm: @Eq Int m 2
 ·simp only[highF,hi2,hm,decide_true,cond_true] at h
  obtain⟨y,h3,h4⟩:=mF.1 h
  have hp:=pure65 m
  have hv:roV m= .agg [.fn (.func 94) [] [.cref [iv (-1)] 0],.fn (.func 94) [] [.cref [iv 1] 0]]:=by simp only[roV,hm,decide_true,cond_true]
  rw[hv] at hp
  refine OW.callP hp (by exact Is.rfl) (by exact Is.rfl) (by exact Is.rfl) (by rfl) ?_
  refine OW.o1 (by rfl) (fun S=>by simp only[opC,opV,go_sem,Nat.reduceBEq,Nat.reduceAdd,hP,hft,hld,hs75,Option.bind_some,Option.map_some];exact Is.rfl) ?_
  refine OW.o1 (by rfl) (fun S=>by simp only[go_sem,Nat.reduceBEq,Nat.reduceAdd, *];with_reducible exact Is.rfl) ?_
  refine OW.o1 (by rfl) (fun S=>by simp only[go_sem,Nat.reduceBEq,Nat.reduceAdd, *];with_reducible exact Is.rfl) ?_
  have hA':Pure E 94 [iv a,iv b,.cref [iv 1] 0] (iv y):=hA _ _ h3
  refine OW.callP hA' (by exact Is.rfl) (by exact Is.rfl) (by exact Is.rfl) (by rfl) ?_
  refine OW.o1 (by rfl) (fun S=>by simp only[go_sem,Nat.reduceBEq,Nat.reduceAdd,hmn,Option.map_some];exact Is.rfl) ?_
  refine OW.o1 (by rfl) (fun S=>by simp only[go_sem,Nat.reduceBEq,Nat.reduceAdd, *];with_reducible exact Is.rfl) ?_
  refine OW.nil (SeqQ.n ?_)
  refine CW.ret ?_
  refine RetQ.one (by intro i h;cases h) (by simp only[resV,go_sem,Nat.reduceBEq,Nat.reduceAdd, *];exact Is.rfl) ?_
  cases h4
  rfl
 ·simp only[highF,hi2,hm,decide_false,cond_false] at h
  obtain⟨y,h3,h4⟩:=mF.1 h
  have hp:=pure65 m
  have hv:roV m= .agg [.fn (.func 96) [] [],.fn (.func 97) [] []]:=by simp only[roV,hm,decide_false,cond_false]
  rw[hv] at hp
  refine OW.callP hp (by exact Is.rfl) (by exact Is.rfl) (by exact Is.rfl) (by rfl) ?_
  refine OW.o1 (by rfl) (fun S=>by simp only[opC,opV,go_sem,Nat.reduceBEq,Nat.reduceAdd,hP,hft,hld,hs75,Option.bind_some,Option.map_some];exact Is.rfl) ?_
  refine OW.o1 (by rfl) (fun S=>by simp only[go_sem,Nat.reduceBEq,Nat.reduceAdd, *];with_reducible exact Is.rfl) ?_
  refine OW.o1 (by rfl) (fun S=>by simp only[go_sem,Nat.reduceBEq,Nat.reduceAdd, *];with_reducible exact Is.rfl) ?_
  have hB':Pure E 97 [iv a,iv b] (iv y):=hB _ _ h3
  refine OW.callP hB' (by exact Is.rfl) (by exact Is.rfl) (by exact Is.rfl) (by rfl) ?_
  refine OW.o1 (by rfl) (fun S=>by simp only[go_sem,Nat.reduceBEq,Nat.reduceAdd,hmn,Option.map_some];exact Is.rfl) ?_
  refine OW.o1 (by rfl) (fun S=>by simp only[go_sem,Nat.reduceBEq,Nat.reduceAdd, *];with_reducible exact Is.rfl) ?_
  refine OW.nil (SeqQ.n ?_)
  refine CW.ret ?_
  refine RetQ.one (by intro i h;cases h) (by simp only[resV,go_sem,Nat.reduceBEq,Nat.reduceAdd, *];exact Is.rfl) ?_
  cases h4
  rfl
end Sh
end
section
open Go Go.Proofs Aq
namespace Sh
set_option maxRecDepth 100000
noncomputable def iters:IR R:=addIo 46 ⟨[],[.cref seaSk 0],intEl,intEl,fun _ b c=>walkR b c,false⟩ (addI 60 ⟨[],[.cref [.d (.slice (.int .i64))] 0],intEl,fun _ q=>valF q⟩ noI)
theorem iters_ok:ItersOK E iters:=by
 refine addIo_ok (addI_ok noI_ok ⟨rfl,?_⟩) ⟨rfl,?_⟩
 ·intro pa pb xs h
  have h':valF pb=some xs:=h
  unfold valF at h'
  split at h'
  ·rename_i hsz
   cases h'
   have:=val_iter pb hsz
   rw[show (List.map (encSL R intEl) pb)=(List.map (fun x=>[iv x]) pb) from rfl]
   exact this
  ·cases h'
 ·intro pa pb pc xs h cs hcs
  obtain⟨ρ,top,hr⟩:=hcs
  obtain⟨v,l,rfl,h1,h2⟩:=RlL.inv_cons hr
  have h3:=Rl.inv_int h1
  have h4:=RlL.inv_nil h2
  subst h3;subst h4
  exact walkR_iter h
noncomputable def regs0 (_:Nat):Nat->List (FR R):=noF
theorem regs0_ok (n:Nat):RegsOK E (regs0 n):=noF_ok
theorem sanP (p:PayL R.T []) (x:PayL R.T [.d .bool]) (h:some true=some x):Pure E 10 (encSL R [] p) (retV (encSL R [.d .bool] x)):=by
 cases h
 exact san_call
end Sh
end
section
namespace Go.Proofs.Ytabmooekodficaa.graphs
open Go Go.ChangeShapes Go.WideShapes Go.ChangeAt Go.RowKit Aq Sh
set_option maxRecDepth 100000
theorem own:ownKnob Try.prog.godebug=none:=by kernel_rfl
theorem u4:Try.prog.underlying 4=some .bool:=by kernel_rfl
theorem glob_ok {W:World}:∀g cs,Sh.E.glob g=some cs->Rel (KA W) (fun _=>0) W (.cref cs 0) (.pointer (some (at_ g 0))):=fun g cs hg=>by cases hg
theorem tys_ok:(rty.all fun x=>tyOK R Try.prog x.1 x.2)=true:=by kernel_rfl
theorem look_mem {α:Type}:∀{l:List (Nat×α)} {i:Nat} {x:α},_root_.Aq.look l i=some x->(i,x)∈l
 | [],_,_,h=>by cases h
 | (j,y)::l,i,x,h=>by
   unfold _root_.Aq.look at h
   cases hb:Nat.beq j i
   ·rw[hb] at h;exact QB _ (look_mem h)
   ·rw[hb] at h
    cases h
    have:=Nat.eq_of_beq_eq_true hb
    subst this
    simp
theorem hty:∀t τ,R.ty t=some τ->tyOK R Try.prog t τ=true:=fun t τ h=>QK.1 tys_ok (t,τ) (look_mem h)
theorem laidOut:laidOutB Try.prog=true:=by kernel_rfl
theorem rowed:mapsRowed Try.prog=true:=by kernel_rfl
theorem kids:Kids Try.prog (· <Try.prog.types.size):=kids_rows laidOut rowed
theorem full:((List.range Try.prog.types.size).all fun t=>match Try.prog.underlying t with|some (.slice e)=>decide (0<Try.prog.cellsOf e)|_=>true)=true:=by kernel_rfl
theorem bulkOK (H:Type):Bulk H Rows.uptoBulk Rows.uptoBulkAll where
 one d:=by
  cases d with
  |lit l=>cases l<;>simp[Rows.uptoBulk]
  |_=>simp[Rows.uptoBulk]
 str s:=by simp[Rows.uptoBulk]
 agg l:=by simp[Rows.uptoBulk]
 sl l r:=by simp only[Rows.uptoBulk];omega
 nil:=rfl
 cons d l:=by simp only[Rows.uptoBulkAll]
end Go.Proofs.Ytabmooekodficaa.graphs
end
