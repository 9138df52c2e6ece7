import Derived.Test.YtabmooekodficaaGreatDoorF4421
import Derived.Test.YtabmooekodficaaGreatDoorF4424
set_option linter.all false
section
open Go Go.Proofs Aq
namespace Sh
set_option maxRecDepth 100000
def jQ (root:List ah->Option ah) (split:Int->Option Int):Nat->List ah->Int->Option (List ah)
 |0,_,_=>none
 |g+1,l,i=>bif Nat.beq l.length 1 then some [] else (split ((l.length:Nat):Int)).bind fun k=>bif decide (0<=k/\k<=((l.length:Nat):Int)) then
   (bif decide (i<k) then (jQ root split g (l.take k.toNat) i).bind fun p=>(root (l.drop k.toNat)).map fun d=>p++[d]
    else (jQ root split g (l.drop k.toNat) (IntKind.wrap .i64 (i-k))).bind fun p=>(root (l.take k.toNat)).map fun d=>p++[d]) else none
structure PS (σ:Sig) (s6 s7:Nat) (acc:List ah):Prop where
 c6:∃c,σ.cellsAt (1,6) s6=some [.lst c (acc.map ah.v)]/\Bh 16 σ c acc.length
 c7:σ.cellsAt (1,7) s7=some [.fn (.func 49) [] [.ref (1,7) s7 0,.ref (1,6) s6 0]]
section
variable {E:Env} {S:bH} {fr:Fr} {σ:Sig} {st ty:Nat} {pos:String} {aG:Array Edge} {gd:Option (Nat×Bool)}
def qP (c:Cap) (k:Int):Cap:=if k.toNat=0 then c else match c with
 |.full=>.full
 |_=>.sh
theorem QW {d:Option Nat} {x h:Operand} {t e:TypeId} {sz:Nat} {c:Cap} {l:List V} {k:Int} (hx:fr.ev E x= .lst c l) (hh:fr.ev E h= .int .i64 k) (hu:E.P.underlying t=some (.slice e)) (hs:szT E.P e=some sz) (hz:eF sz l=true) (h0:0<=k) (h1:k<=(l.length:Nat)):
 opC E S fr σ st ⟨d,.slice t x (some h) none none,ty,pos,aG,gd⟩=some (.lst (qP c k) (l.drop k.toNat),fr,σ):=by
 have:bS l.length l.length (some (.int .i64 k)) none none=some (k.toNat,l.length,l.length):=by
  unfold bS bnd dP
  simp only[Option.bind_some]
  rw[if_pos ⟨h0,h1⟩,Option.bind_some]
 show Option.map _ ((dQ E.P σ t (fr.ev E x) (some (fr.ev E h)) none none).map fun v=>(v,σ))=_
 rw[hx,hh]
 unfold dQ qP
 rw[hu];dsimp only
 rw[hs,Option.bind_some,this,Option.bind_some,if_pos hz]
 by_cases hk:k.toNat=0
 ·rw[if_pos ⟨hk,rfl,rfl⟩,if_pos hk,hk];rfl
 ·rw[if_neg (fun e=>hk e.1),if_neg hk,List.take_length]
  cases c<;>simp
end
theorem QX {σ:Sig} {c:Cap} {n:Nat} (h:Bh 16 σ c n) (k:Nat):Bh 16 (σ.bump k) c n:=by
 rcases h with rfl| ⟨s,rfl,h4,h5⟩
 ·exact .inl rfl
 ·exact .inr ⟨s,rfl,h4,aeD h5 (aeG _ _)⟩
theorem PS.bump {σ:Sig} {s6 s7 k:Nat} {acc:List ah} (h:PS σ s6 s7 acc):PS (σ.bump k) s6 s7 acc:=by
 obtain⟨⟨c,h1,h2⟩,h3⟩:=h
 refine⟨⟨c,h1,?_⟩,h3⟩
 rcases h2 with rfl| ⟨s,rfl,h4,h5⟩
 ·exact .inl rfl
 ·exact .inr ⟨s,rfl,h4,aeD h5 (aeG _ _)⟩
theorem QY (l:List ah):pcleanL (l.map ah.v)=true:=by
 induction l with
 |nil=>rfl
 |cons a l ih=>simp only[aez,pcleanL,ah.pc,ih,Bool.and_self]
theorem QZ (σ:Sig) (c:Cap) (l:List ah):Is (([]++[V.lst c (l.map ah.v)]++[]).mapM (closeV 20 σ)) (some [lv ah.v l]):=by
 show List.mapM (closeV 20 σ) [V.lst c (l.map ah.v)]=_
 rw[aew,ko (n:=18) c l ah.pc];rfl
theorem Q0 (c:Cap) (l:List ah) (d:ah):Is ((([]++[V.lst c (l.map ah.v)]++[]).all fun x=>pclean (er x))||flat d.v) true:=by
 show ((pclean (.lst .sh (l.map ah.v))&& true)||flat d.v)=true
 rw[show pclean (.lst .sh (l.map ah.v))=pcleanL (l.map ah.v) from by simp[pclean],QY];rfl
theorem acM (c:Cap) (l:List ah):pclean (er (V.lst c (l.map ah.v)))=true:=by
 show pclean (.lst .sh (l.map ah.v))=true
 rw[show pclean (.lst .sh (l.map ah.v))=pcleanL (l.map ah.v) from by simp[pclean],QY]
theorem Q5 (d:ah):nJ E 30 1 [(0,d.v)]=some (.lst .full [d.v]):=by kernel_rfl
theorem Q6 {σ:Sig} {c:Cap} {l:List ah} {d:ah} {c2:Cap} (hc:Bh 16 σ c l.length) (hl:l.length<2^30) (st:Nat):∃s',nT Tryz.prog σ st 30 30 (.lst c (l.map ah.v)) (.lst c2 [d.v])=some (.lst (.own 16 s') ((l++[d]).map ah.v),σ.aI s' (l.length+1))/\(s'<σ.next\/s'=st):=by
 have ha:qb Tryz.prog 30 30 16 16 (.agg (List.replicate 16 (.int .u8 0))):=by
  refine qb.mk 29 true ?_ ?_ ?_ ?_ ?_ rfl (by decide) rfl ?_<;>kernel_rfl
 have hr:roomOK ((l.map ah.v).length+[d.v].length) 16=true:=by
  unfold roomOK
  simp only[ab3,List.length_cons,List.length_nil,RS,decide_eq_true_eq]
  omega
 rcases hc with rfl| ⟨s,rfl,h4,h5⟩
 ·refine⟨st,?_,.inr rfl⟩
  have h:=Xo (σ:=σ) (st:=st) (c2:=c2) ha (mY [d]) (mY l) hr
  exact h.trans (by simp)
 ·refine⟨s,?_,.inl h5⟩
  have h:=Xn (σ:=σ) (st:=st) (c2:=c2) ha (mY [d]) (mY l) hr (by rw[ab3];exact h4)
  exact h.trans (by simp)
theorem Q7 {root:List ah->Option ah} {split:Int->Option Int}:∀(g:Nat) (l:List ah) (i:Int) (p:List ah),jQ root split g l i=some p->p.length<g:=by
 intro g
 induction g with
 |zero=>intro l i p h;cases h
 |succ g ih=>
  intro l i p h
  unfold jQ at h
  cases hb:Nat.beq l.length 1 with
  |true=>rw[hb,cond_true] at h;cases h;simp
  |false=>
   rw[hb,cond_false,iR] at h
   obtain⟨k,_,h⟩:=h
   cases hk:decide (0<=k/\k<=((l.length:Nat):Int)) with
   |false=>rw[hk] at h;cases h
   |true=>
    rw[hk,cond_true] at h
    cases hi:decide (i<k) with
    |true=>
     rw[hi,cond_true,iR] at h
     obtain⟨q,hq,h⟩:=h
     rw[aat] at h
     obtain⟨d,_,rfl⟩:=h
     have:=ih _ _ _ hq;simp;omega
    |false=>
     rw[hi,cond_false,iR] at h
     obtain⟨q,hq,h⟩:=h
     rw[aat] at h
     obtain⟨d,_,rfl⟩:=h
     have:=ih _ _ _ hq;simp;omega
theorem Q8 {all:List Oper} {fr:Fr} {d x ty:Nat} {pos:String} {aG:Array Edge} {c:Cap} {l:List ah} (hx:fr.tm x= .lst c (l.map ah.v)):
 Is (footI E all fr ⟨some d,.call ⟨.value (.func 26), #[.tmp x], #[30]⟩,ty,pos,aG,none⟩ true) ⟨false,false,[.slot x],[.slot d]⟩:=by
 have hf:footS E fr ⟨some d,.call ⟨.value (.func 26), #[.tmp x], #[30]⟩,ty,pos,aG,none⟩=rdF []:=by
  unfold footS
  have h1:dJ E fr ⟨some d,.call ⟨.value (.func 26), #[.tmp x], #[30]⟩,ty,pos,aG,none⟩ (.func 26)=false:=kV (g:=26) (a:=[]) (b:=[]) rfl (fun _ _=>rfl)
  have h2:fr.ev E (.func 26)= .fn (.func 26) [] []:=rfl
  have h3:E.imp 26=false:=rfl
  have h4:(([]++(#[Operand.tmp x].toList.map (fr.ev E))++[]).all fun v=>pclean (er v))=true:=by
   show (pclean (er (fr.tm x))&& true)=true
   rw[hx,acM];rfl
  simp only[h1,h2,h3,h4,if_true,if_false,aaB]
 show (⟨(footS E fr _).tAll,(footS E fr _).wAll,_++(footS E fr _).t,_++(footS E fr _).w⟩:Foot)=_
 rw[hf];rfl
theorem Jt {L:Option Aq.Loc} {σ:Sig} {l:List V}:bD L σ (.tup l)=(.tup l,σ):=rfl
theorem acN {root:List ah->Option ah} {split:Int->Option Int} (hroot:∀p x,root p=some x->Pure E 26 [lv ah.v p] x.v) (hsplit:∀p x,split p=some x->Pure E 50 [.int .i64 p] (.int .i64 x)):
 ∀(g:Nat) (l:List ah) (i:Int) (p:List ah),jQ root split g l i=some p->∀(dd:Nat) (σ:Sig) (acc:List ah) (s6 s7:Nat) (c0:Cap),1<dd->acc.length+g<2^30->PS σ s6 s7 acc->
  Imp E 49 [.lst c0 (l.map ah.v),.int .i64 i,.ref (1,7) s7 0,.ref (1,6) s6 0] dd σ (fun v σ'=>v= .tup []/\PS σ' s6 s7 (acc++p)/\σ.next<=σ'.next):=by
 intro g
 induction g with
 |zero=>intro l i p h;cases h
 |succ g ih=>
  intro l i p h dd σ acc s6 s7 c0 aeZ hlen hps
  have hP:E.P=Tryz.prog:=rfl
  have e1:ldT Tryz.prog 84 [.fn (.func 49) [] [.ref (1,7) s7 0,.ref (1,6) s6 0]] 0=some (.fn (.func 49) [] [.ref (1,7) s7 0,.ref (1,6) s6 0]):=rfl
  have e2:szT E.P 29=some 16:=by kernel_rfl
  have e6:E.P.underlying 30=some (.slice 29):=by kernel_rfl
  have acO:=hps
  obtain⟨⟨cp,hc6,hcp⟩,hc7⟩:=acO
  have hres:Tryz.f49.results.toList=[]:=rfl
  refine Imp.of (fn:=Tryz.f49) (c:=Tryz.f49.body.getD .skip) Tryz.func49 rfl (by kernel_rfl) ?_
  generalize hfr:({d:=dd,om:=E.om 49,tm:=fun j=>([.lst c0 (l.map ah.v),.int .i64 i,.ref (1,7) s7 0,.ref (1,6) s6 0]:List V).getD j undefV}:Fr)=fr
  have a0:fr.tm 0= .lst c0 (l.map ah.v):=by rw[<-hfr];rfl
  have a1:fr.tm 1= .int .i64 i:=by rw[<-hfr];rfl
  have a2:fr.tm 2= .ref (1,7) s7 0:=by rw[<-hfr];rfl
  have a3:fr.tm 3= .ref (1,6) s6 0:=by rw[<-hfr];rfl
  have hd:fr.d=dd:=by rw[<-hfr]
  have hom:fr.om=false:=by rw[<-hfr];rfl
  clear hfr
  have hmap:(l.map ah.v).length=l.length:=ab3 ..
  refine CW.seq (CW.seq (CW.region ?_))
  refine OW.o1 (by rfl) (fun S=>by simp only[go_sem,Nat.reduceBEq,Nat.reduceAdd, *];with_reducible exact Is.rfl) ?_
  refine OW.o1 (by rfl) (fun S=>by simp only[go_sem,Nat.reduceBEq,Nat.reduceAdd, *];with_reducible exact Is.rfl) ?_
  refine OW.o1 (by rfl) (fun S=>by simp only[go_sem,Nat.reduceBEq,Nat.reduceAdd, *];with_reducible exact Is.rfl) ?_
  refine OW.nil (SeqQ.n ?_)
  unfold jQ at h
  cases hb:Nat.beq l.length 1 with
  |true=>
   rw[hb,cond_true] at h
   cases h
   have hl:l.length=1:=afx hb
   refine CW.condT (by simp only[go_sem,Nat.reduceBEq,Nat.reduceAdd, *];exact Is.rfl) (CW.ret ?_)
   rw[hres]
   exact⟨[],rfl,rfl,by rw[aeX];exact PS.bump hps,aeG _ _⟩
  |false=>
   have hl:l.length≠1:=fun e=>by rw[e] at hb;cases hb
   have hl':(((l.length:Nat):Int)==1)=false:=by simp;omega
   rw[hb,cond_false,iR] at h
   obtain⟨k,hk,h⟩:=h
   cases hkk:decide (0<=k/\k<=((l.length:Nat):Int)) with
   |false=>rw[hkk] at h;cases h
   |true=>
   rw[hkk,cond_true] at h
   obtain⟨k0,k1⟩:=of_decide_eq_true hkk
   refine CW.condF (by simp only[go_sem,Nat.reduceBEq,Nat.reduceAdd, *];exact Is.rfl) (CW.skip (SeqQ.n ?_))
   refine CW.seq (CW.region ?_)
   refine OW.o1 (by rfl) (fun S=>by simp only[go_sem,Nat.reduceBEq,Nat.reduceAdd, *];with_reducible exact Is.rfl) ?_
   refine OW.o1 (by rfl) (fun S=>by simp only[go_sem,Nat.reduceBEq,Nat.reduceAdd, *];with_reducible exact Is.rfl) ?_
   refine OW.callP (hsplit _ _ hk) (by rfl) (by simp only[go_sem,Nat.reduceBEq,Nat.reduceAdd,hmap, *];exact Is.rfl) (by simp only[go_sem,Nat.reduceBEq,Nat.reduceAdd, *];exact Is.rfl) (by rfl) ?_
   refine OW.o1 (by rfl) (fun S=>by simp only[go_sem,Nat.reduceBEq,Nat.reduceAdd, *];with_reducible exact Is.rfl) ?_
   refine OW.nil (SeqQ.n ?_)
   refine CW.seq (CW.region ?_)
   refine OW.o1 (by rfl) (fun S=>by simp only[go_sem,Nat.reduceBEq,Nat.reduceAdd, *];with_reducible exact Is.rfl) ?_
   refine OW.o1 (by rfl) (fun S=>by simp only[go_sem,Nat.reduceBEq,Nat.reduceAdd, *];with_reducible exact Is.rfl) ?_
   refine OW.o1 (by rfl) (fun S=>by simp only[go_sem,Nat.reduceBEq,Nat.reduceAdd, *];with_reducible exact Is.rfl) ?_
   refine OW.nil (SeqQ.n ?_)
   cases hik:decide (i<k) with
   |true=>
    rw[hik,cond_true,iR] at h
    obtain⟨q,hq,h⟩:=h
    rw[aat] at h
    obtain⟨dg,hdg,rfl⟩:=h
    refine CW.condT (by simp only[go_sem,Nat.reduceBEq,Nat.reduceAdd, *];exact Is.rfl) ?_
    refine CW.seq (CW.drw (fun _=>?_) (by kernel_rfl))
    refine FW'.o1 (by rfl) (fun S=>by simp only[go_sem,Nat.reduceBEq,Nat.reduceAdd, *];with_reducible exact Is.rfl) (by simp only[go_sem,Nat.reduceBEq,Nat.reduceAdd,footI,footS,slotsT,slotsW,dstK,rdF,wrF,refK, *];with_reducible exact Is.rfl) ?_
    refine FW'.o1 (by rfl) (fun S=>by simp only[go_sem,Nat.reduceBEq,Nat.reduceAdd, *];with_reducible exact Is.rfl) (by simp only[go_sem,Nat.reduceBEq,Nat.reduceAdd,footI,footS,slotsT,slotsW,dstK,rdF,wrF,refK, *];with_reducible exact Is.rfl) ?_
    refine FW'.o1 (by rfl) (fun S=>by simp only[go_sem,Nat.reduceBEq,Nat.reduceAdd, *];with_reducible exact Is.rfl) (by simp only[go_sem,Nat.reduceBEq,Nat.reduceAdd,footI,footS,slotsT,slotsW,dstK,rdF,wrF,refK, *];with_reducible exact Is.rfl) ?_
    refine FW'.o1 (by rfl) (fun S=>by simp only[go_sem,Nat.reduceBEq,Nat.reduceAdd, *];with_reducible exact Is.rfl) (by simp only[go_sem,Nat.reduceBEq,Nat.reduceAdd,footI,footS,slotsT,slotsW,dstK,rdF,wrF,refK, *];with_reducible exact Is.rfl) ?_
    refine FW'.o1 (v:=.lst .full ((l.take k.toNat).map ah.v)) (by rfl) (fun S=>by rw[List.map_take];exact I7 (c:=c0) (by simp only[go_sem,Nat.reduceBEq, *]) (by simp only[go_sem,Nat.reduceBEq, *]) (by simp only[go_sem,Nat.reduceBEq, *]) e6 e2 (nU (mY l)) k0 (by rw[hmap];exact k1)) (by simp only[go_sem,Nat.reduceBEq,Nat.reduceAdd,footI,footS,slotsT,slotsW,dstK,rdF,wrF,refK, *];with_reducible exact Is.rfl) ?_
    refine FW'.o1 (by rfl) (fun S=>by simp only[go_sem,Nat.reduceBEq,Nat.reduceAdd, *];with_reducible exact Is.rfl) (by simp only[go_sem,Nat.reduceBEq,Nat.reduceAdd,footI,footS,slotsT,slotsW,dstK,rdF,wrF,refK, *];with_reducible exact Is.rfl) ?_
    refine FW'.mJ (g:=49) (a:=[]) (b:=[.ref (1,7) s7 0,.ref (1,6) s6 0]) (by rfl) rfl rfl (by simp only[go_sem,Nat.reduceBEq,Nat.reduceAdd, *]) rfl ?_
    simp only[p8,nS,hd]
    change Imp E 49 [.lst .full ((l.take k.toNat).map ah.v),.int .i64 i,.ref (1,7) s7 0,.ref (1,6) s6 0] (dd+1) _ _
    obtain⟨n,v,σ1,hn,rfl,zq,hnx⟩:=ih _ _ _ hq (dd+1) _ acc s6 s7 .full (by omega) (by omega) (PS.bump (PS.bump (PS.bump (PS.bump hps))))
    refine⟨n,_,σ1,hn,?_⟩
    simp only[Jt]
    refine FW'.nil (by kernel_rfl) (NQ.i (SeqQ.n ?_))
    obtain⟨⟨cq,acP,hcq⟩,Ju⟩:=zq
    refine CW.LZ (fun nk zu=>?_) (by kernel_rfl)
    have hnk:7<nk:=by rw[zu];decide
    clear zu
    refine FW'.o1 (by rfl) (fun S=>by simp only[go_sem,Nat.reduceBEq,Nat.reduceAdd, *];with_reducible exact Is.rfl) (by simp only[go_sem,Nat.reduceBEq,Nat.reduceAdd,footI,footS,slotsT,slotsW,dstK,rdF,wrF,refK, *];with_reducible exact Is.rfl) ?_
    refine FW'.o1 (by rfl) (fun S=>by simp only[go_sem,Nat.reduceBEq,Nat.reduceAdd, *];with_reducible exact Is.rfl) (by simp only[go_sem,Nat.reduceBEq,Nat.reduceAdd,footI,footS,slotsT,slotsW,dstK,rdF,wrF,refK, *];with_reducible exact Is.rfl) ?_
    refine FW'.o1 (by rfl) (fun S=>by simp only[go_sem,Nat.reduceBEq,Nat.reduceAdd, *];with_reducible exact Is.rfl) (by simp only[go_sem,Nat.reduceBEq,Nat.reduceAdd,footI,footS,slotsT,slotsW,dstK,rdF,wrF,refK, *];with_reducible exact Is.rfl) ?_
    refine FW'.o1 (v:=.lst (qP c0 k) ((l.drop k.toNat).map ah.v)) (by rfl) (fun S=>by rw[List.map_drop];exact QW (c:=c0) (by simp only[go_sem,Nat.reduceBEq, *]) (by simp only[go_sem,Nat.reduceBEq, *]) e6 e2 (nU (mY l)) k0 (by rw[hmap];exact k1)) (by simp only[go_sem,Nat.reduceBEq,Nat.reduceAdd,footI,footS,slotsT,slotsW,dstK,rdF,wrF,refK, *];with_reducible exact Is.rfl) ?_
    refine FW'.callP (hroot _ _ hdg) (by rfl) (by simp only[go_sem,Nat.reduceBEq,Nat.reduceAdd, *];exact QZ _ _ _) (by simp only[go_sem,Nat.reduceBEq,Nat.reduceAdd, *];exact Q0 _ _ _) (by rfl) (Q8 (c:=qP c0 k) (l:=l.drop k.toNat) (by simp only[go_sem,Nat.reduceBEq, *])) ?_
    refine FW'.o1 (v:=.lst .full [dg.v]) (by rfl) (fun S=>by simp only[go_sem,Nat.reduceBEq,Nat.reduceAdd,Q5, *];with_reducible exact Is.rfl) (by simp only[go_sem,Nat.reduceBEq,Nat.reduceAdd,footI,footS,slotsT,slotsW,dstK,rdF,wrF,refK, *];with_reducible exact Is.rfl) ?_
    obtain⟨s',hs',hs2⟩:=Q6 (σ:=σ1.bump nk) (c2:=.full) (d:=dg) (l:=acc++q) (QX hcq nk) (by have:=Q7 _ _ _ _ hq;rw[aaG];omega) (σ1.next+1+1+1+1+1+1)
    refine FW'.o1 (v:=.lst (.own 16 s') ((acc++q++[dg]).map ah.v)) (σ1:=(σ1.bump nk).aI s' ((acc++q).length+1)) (by rfl) (fun S=>?_) (by simp only[go_sem,Nat.reduceBEq,Nat.reduceAdd,footI,footS,slotsT,slotsW,dstK,rdF,wrF,refK, *];with_reducible exact Is.rfl) ?_
    ·rw[Gb (c:=cq) (l:=(acc++q).map ah.v) (by simp only[go_sem,Nat.reduceBEq, *]) (by simp only[go_sem,Nat.reduceBEq, *])]
     simp only[go_sem,Nat.reduceBEq,Nat.reduceAdd, *]
     exact Is.rfl
    refine FW'.o0 (by rfl) (fun S=>by simp only[go_sem,Nat.reduceBEq,Nat.reduceAdd, *];rw[if_pos (by decide)];exact Is.rfl) (by simp only[go_sem,Nat.reduceBEq,Nat.reduceAdd,footI,footS,slotsT,slotsW,dstK,rdF,wrF,refK, *];with_reducible exact Is.rfl) ?_
    refine FW'.nil (by kernel_rfl) (NQ.i ?_)
    rw[hres]
    refine⟨[],rfl,rfl,?_⟩
    show PS _ _ _ (acc++(q++[dg]))/\_
    rw[<-aeC]
    refine⟨⟨⟨_,cells_eq _ _ _ _,.inr ⟨s',rfl,?_,?_⟩⟩,?_⟩,?_⟩
    ·show upd σ1.top s' _ s'=_
     simp[upd];omega
    ·show s'<σ1.next+nk
     rcases hs2 with h2|h2
     ·exact h2
     ·omega
    ·rw[p9 _ _ _ _ (by decide)];exact Ju
    ·show σ.next<=σ1.next+nk
     have:σ.next<=σ1.next:=aaI (aaI (aaI (aaI (aeG _ _) (aeG _ _)) (aeG _ _)) (aeG _ _)) hnx
     omega
   |false=>
    rw[hik,cond_false,iR] at h
    obtain⟨q,hq,h⟩:=h
    rw[aat] at h
    obtain⟨dg,hdg,rfl⟩:=h
    refine CW.condF (by simp only[go_sem,Nat.reduceBEq,Nat.reduceAdd, *];exact Is.rfl) ?_
    refine CW.seq (CW.drw (fun _=>?_) (by kernel_rfl))
    refine FW'.o1 (by rfl) (fun S=>by simp only[go_sem,Nat.reduceBEq,Nat.reduceAdd, *];with_reducible exact Is.rfl) (by simp only[go_sem,Nat.reduceBEq,Nat.reduceAdd,footI,footS,slotsT,slotsW,dstK,rdF,wrF,refK, *];with_reducible exact Is.rfl) ?_
    refine FW'.o1 (by rfl) (fun S=>by simp only[go_sem,Nat.reduceBEq,Nat.reduceAdd, *];with_reducible exact Is.rfl) (by simp only[go_sem,Nat.reduceBEq,Nat.reduceAdd,footI,footS,slotsT,slotsW,dstK,rdF,wrF,refK, *];with_reducible exact Is.rfl) ?_
    refine FW'.o1 (by rfl) (fun S=>by simp only[go_sem,Nat.reduceBEq,Nat.reduceAdd, *];with_reducible exact Is.rfl) (by simp only[go_sem,Nat.reduceBEq,Nat.reduceAdd,footI,footS,slotsT,slotsW,dstK,rdF,wrF,refK, *];with_reducible exact Is.rfl) ?_
    refine FW'.o1 (v:=.lst (qP c0 k) ((l.drop k.toNat).map ah.v)) (by rfl) (fun S=>by rw[List.map_drop];exact QW (c:=c0) (by simp only[go_sem,Nat.reduceBEq, *]) (by simp only[go_sem,Nat.reduceBEq, *]) e6 e2 (nU (mY l)) k0 (by rw[hmap];exact k1)) (by simp only[go_sem,Nat.reduceBEq,Nat.reduceAdd,footI,footS,slotsT,slotsW,dstK,rdF,wrF,refK, *];with_reducible exact Is.rfl) ?_
    refine FW'.o1 (by rfl) (fun S=>by simp only[go_sem,Nat.reduceBEq,Nat.reduceAdd, *];with_reducible exact Is.rfl) (by simp only[go_sem,Nat.reduceBEq,Nat.reduceAdd,footI,footS,slotsT,slotsW,dstK,rdF,wrF,refK, *];with_reducible exact Is.rfl) ?_
    refine FW'.o1 (by rfl) (fun S=>by simp only[go_sem,Nat.reduceBEq,Nat.reduceAdd, *];with_reducible exact Is.rfl) (by simp only[go_sem,Nat.reduceBEq,Nat.reduceAdd,footI,footS,slotsT,slotsW,dstK,rdF,wrF,refK, *];with_reducible exact Is.rfl) ?_
    refine FW'.o1 (by rfl) (fun S=>by simp only[go_sem,Nat.reduceBEq,Nat.reduceAdd, *];with_reducible exact Is.rfl) (by simp only[go_sem,Nat.reduceBEq,Nat.reduceAdd,footI,footS,slotsT,slotsW,dstK,rdF,wrF,refK, *];with_reducible exact Is.rfl) ?_
    refine FW'.mJ (g:=49) (a:=[]) (b:=[.ref (1,7) s7 0,.ref (1,6) s6 0]) (by rfl) rfl rfl (by simp only[go_sem,Nat.reduceBEq,Nat.reduceAdd, *]) rfl ?_
    simp only[p8,nS,hd]
    change Imp E 49 [.lst (qP c0 k) ((l.drop k.toNat).map ah.v),.int .i64 (IntKind.wrap .i64 (i-k)),.ref (1,7) s7 0,.ref (1,6) s6 0] (dd+1) _ _
    obtain⟨n,v,σ1,hn,rfl,zq,hnx⟩:=ih _ _ _ hq (dd+1) _ acc s6 s7 (qP c0 k) (by omega) (by omega) (PS.bump (PS.bump (PS.bump (PS.bump hps))))
    refine⟨n,_,σ1,hn,?_⟩
    simp only[Jt]
    refine FW'.nil (by kernel_rfl) (NQ.i (SeqQ.n ?_))
    obtain⟨⟨cq,acP,hcq⟩,Ju⟩:=zq
    refine CW.LZ (fun nk zu=>?_) (by kernel_rfl)
    have hnk:7<nk:=by rw[zu];decide
    clear zu
    refine FW'.o1 (by rfl) (fun S=>by simp only[go_sem,Nat.reduceBEq,Nat.reduceAdd, *];with_reducible exact Is.rfl) (by simp only[go_sem,Nat.reduceBEq,Nat.reduceAdd,footI,footS,slotsT,slotsW,dstK,rdF,wrF,refK, *];with_reducible exact Is.rfl) ?_
    refine FW'.o1 (by rfl) (fun S=>by simp only[go_sem,Nat.reduceBEq,Nat.reduceAdd, *];with_reducible exact Is.rfl) (by simp only[go_sem,Nat.reduceBEq,Nat.reduceAdd,footI,footS,slotsT,slotsW,dstK,rdF,wrF,refK, *];with_reducible exact Is.rfl) ?_
    refine FW'.o1 (by rfl) (fun S=>by simp only[go_sem,Nat.reduceBEq,Nat.reduceAdd, *];with_reducible exact Is.rfl) (by simp only[go_sem,Nat.reduceBEq,Nat.reduceAdd,footI,footS,slotsT,slotsW,dstK,rdF,wrF,refK, *];with_reducible exact Is.rfl) ?_
    refine FW'.o1 (by rfl) (fun S=>by simp only[go_sem,Nat.reduceBEq,Nat.reduceAdd, *];with_reducible exact Is.rfl) (by simp only[go_sem,Nat.reduceBEq,Nat.reduceAdd,footI,footS,slotsT,slotsW,dstK,rdF,wrF,refK, *];with_reducible exact Is.rfl) ?_
    refine FW'.o1 (v:=.lst .full ((l.take k.toNat).map ah.v)) (by rfl) (fun S=>by rw[List.map_take];exact I7 (c:=c0) (by simp only[go_sem,Nat.reduceBEq, *]) (by simp only[go_sem,Nat.reduceBEq, *]) (by simp only[go_sem,Nat.reduceBEq, *]) e6 e2 (nU (mY l)) k0 (by rw[hmap];exact k1)) (by simp only[go_sem,Nat.reduceBEq,Nat.reduceAdd,footI,footS,slotsT,slotsW,dstK,rdF,wrF,refK, *];with_reducible exact Is.rfl) ?_
    refine FW'.callP (hroot _ _ hdg) (by rfl) (by simp only[go_sem,Nat.reduceBEq,Nat.reduceAdd, *];exact QZ _ _ _) (by simp only[go_sem,Nat.reduceBEq,Nat.reduceAdd, *];exact Q0 _ _ _) (by rfl) (Q8 (c:=.full) (l:=l.take k.toNat) (by simp only[go_sem,Nat.reduceBEq, *])) ?_
    refine FW'.o1 (v:=.lst .full [dg.v]) (by rfl) (fun S=>by simp only[go_sem,Nat.reduceBEq,Nat.reduceAdd,Q5, *];with_reducible exact Is.rfl) (by simp only[go_sem,Nat.reduceBEq,Nat.reduceAdd,footI,footS,slotsT,slotsW,dstK,rdF,wrF,refK, *];with_reducible exact Is.rfl) ?_
    obtain⟨s',hs',hs2⟩:=Q6 (σ:=σ1.bump nk) (c2:=.full) (d:=dg) (l:=acc++q) (QX hcq nk) (by have:=Q7 _ _ _ _ hq;rw[aaG];omega) (σ1.next+1+1+1+1+1+1+1)
    refine FW'.o1 (v:=.lst (.own 16 s') ((acc++q++[dg]).map ah.v)) (σ1:=(σ1.bump nk).aI s' ((acc++q).length+1)) (by rfl) (fun S=>?_) (by simp only[go_sem,Nat.reduceBEq,Nat.reduceAdd,footI,footS,slotsT,slotsW,dstK,rdF,wrF,refK, *];with_reducible exact Is.rfl) ?_
    ·rw[Gb (c:=cq) (l:=(acc++q).map ah.v) (by simp only[go_sem,Nat.reduceBEq, *]) (by simp only[go_sem,Nat.reduceBEq, *])]
     simp only[go_sem,Nat.reduceBEq,Nat.reduceAdd, *]
     exact Is.rfl
    refine FW'.o0 (by rfl) (fun S=>by simp only[go_sem,Nat.reduceBEq,Nat.reduceAdd, *];rw[if_pos (by decide)];exact Is.rfl) (by simp only[go_sem,Nat.reduceBEq,Nat.reduceAdd,footI,footS,slotsT,slotsW,dstK,rdF,wrF,refK, *];with_reducible exact Is.rfl) ?_
    refine FW'.nil (by kernel_rfl) (NQ.i ?_)
    rw[hres]
    refine⟨[],rfl,rfl,?_⟩
    show PS _ _ _ (acc++(q++[dg]))/\_
    rw[<-aeC]
    refine⟨⟨⟨_,cells_eq _ _ _ _,.inr ⟨s',rfl,?_,?_⟩⟩,?_⟩,?_⟩
    ·show upd σ1.top s' _ s'=_
     simp[upd];omega
    ·show s'<σ1.next+nk
     rcases hs2 with h2|h2
     ·exact h2
     ·omega
    ·rw[p9 _ _ _ _ (by decide)];exact Ju
    ·show σ.next<=σ1.next+nk
     have:σ.next<=σ1.next:=aaI (aaI (aaI (aaI (aeG _ _) (aeG _ _)) (aeG _ _)) (aeG _ _)) hnx
     omega
def vK (root:List ah->Option ah) (split:Int->Option Int) (l:List ah) (i:Int):Option (List ah×Int):=
 bif decide (i<0)||decide (i>=((l.length:Nat):Int)) then some ([],1) else bif decide (l.length<2^29) then (jQ root split (l.length+1) l i).map fun p=>(p,0) else none
theorem Jv (σ:Sig) (c:Cap) (l:List ah) (e:Int):closeV 20 σ (.tup [.lst c (l.map ah.v),.int .i64 e])=some (.tup [lv ah.v l,.int .i64 e]):=by
 rw[Bg (n:=18)]
 have h1:closeV 19 σ (.lst c (l.map ah.v))=some (lv ah.v l):=ko (n:=17) c l ah.pc
 have h2:closeV 19 σ (.int .i64 e)=some (.int .i64 e):=closeV_clean rfl
 rw[aew,h1,aew,h2];rfl
theorem acQ {root:List ah->Option ah} {split:Int->Option Int} (hroot:∀p x,root p=some x->Pure E 26 [lv ah.v p] x.v) (hsplit:∀p x,split p=some x->Pure E 50 [.int .i64 p] (.int .i64 x)) {l:List ah} {i:Int} {r:List ah×Int} (h:vK root split l i=some r):
 Pure E 22 [lv ah.v l,.int .i64 i] (.tup [lv ah.v r.1,.int .i64 r.2]):=by
 have hP:E.P=Tryz.prog:=rfl
 have hres:Tryz.f22.results.toList=[.tmp 4,.tmp 5]:=rfl
 refine Pure.of (fn:=Tryz.f22) (c:=Tryz.f22.body.getD .skip) rfl Tryz.func22 rfl (by kernel_rfl) ?_
 generalize hfr:({d:=1,om:=E.om 22,tm:=fun j=>([lv ah.v l,.int .i64 i]:List V).getD j undefV}:Fr)=fr
 have a0:fr.tm 0=lv ah.v l:=by rw[<-hfr];rfl
 have a1:fr.tm 1= .int .i64 i:=by rw[<-hfr];rfl
 have hd:fr.d=1:=by rw[<-hfr]
 have hom:fr.om=false:=by rw[<-hfr];rfl
 clear hfr
 have hmap:(l.map ah.v).length=l.length:=ab3 ..
 unfold vK at h
 refine CW.seq (CW.region ?_)
 refine OW.o1 (by rfl) (fun S=>by simp only[go_sem,Nat.reduceBEq,Nat.reduceAdd, *];with_reducible exact Is.rfl) ?_
 refine OW.o1 (by rfl) (fun S=>by simp only[go_sem,Nat.reduceBEq,Nat.reduceAdd, *];with_reducible exact Is.rfl) ?_
 refine OW.nil (SeqQ.n ?_)
 refine CW.seq (CW.seq (CW.region ?_))
 refine OW.o1 (by rfl) (fun S=>by simp only[go_sem,Nat.reduceBEq,Nat.reduceAdd, *];with_reducible exact Is.rfl) ?_
 refine OW.o1 (by rfl) (fun S=>by simp only[go_sem,Nat.reduceBEq,Nat.reduceAdd, *];with_reducible exact Is.rfl) ?_
 cases hi0:decide (i<0) with
 |true=>
  rw[hi0,Bool.true_or,cond_true] at h
  cases h
  refine OW.o1 (by rfl) (fun S=>by simp only[go_sem,Nat.reduceBEq,Nat.reduceAdd, *];with_reducible exact Is.rfl) ?_
  refine OW.s1 (by simp only[go_sem,Nat.reduceBEq,Nat.reduceAdd, *];with_reducible exact Is.rfl) ?_
  refine OW.s1 (by simp only[go_sem,Nat.reduceBEq,Nat.reduceAdd, *];with_reducible exact Is.rfl) ?_
  refine OW.s1 (by simp only[go_sem,Nat.reduceBEq,Nat.reduceAdd, *];with_reducible exact Is.rfl) ?_
  refine OW.s1 (by simp only[go_sem,Nat.reduceBEq,Nat.reduceAdd, *];with_reducible exact Is.rfl) ?_
  refine OW.o1 (by rfl) (fun S=>by rw[kr _ _ _ (by simp only[go_sem,Nat.reduceBEq, *])];simp only[go_sem,Nat.reduceBEq,Nat.reduceAdd, *];with_reducible exact Is.rfl) ?_
  refine OW.nil (SeqQ.n ?_)
  refine CW.condT (by simp only[go_sem,Nat.reduceBEq,Nat.reduceAdd, *];exact Is.rfl) ?_
  refine CW.seq (CW.region ?_)
  refine OW.o1 (by rfl) (fun S=>by simp only[go_sem,Nat.reduceBEq,Nat.reduceAdd, *];with_reducible exact Is.rfl) ?_
  refine OW.o1 (by rfl) (fun S=>by simp only[go_sem,Nat.reduceBEq,Nat.reduceAdd, *];with_reducible exact Is.rfl) ?_
  refine OW.nil (SeqQ.n (CW.ret (SeqQ.r ?_)))
  rw[hres]
  refine RetQ.tup (by intro i h;cases h) (by simp only[aew,List.mapM_nil,resV,go_sem,Nat.reduceBEq, *];exact Is.rfl) ?_
  exact Jv _ .nil [] 1
 |false=>
  rw[hi0,Bool.false_or] at h
  refine OW.o1 (by rfl) (fun S=>by simp only[go_sem,Nat.reduceBEq,Nat.reduceAdd, *];with_reducible exact Is.rfl) ?_
  refine OW.o1 (by simp only[go_sem,Nat.reduceBEq,Nat.reduceAdd, *];with_reducible exact Is.rfl) (fun S=>by simp only[go_sem,Nat.reduceBEq,Nat.reduceAdd, *];with_reducible exact Is.rfl) ?_
  refine OW.o1 (by simp only[go_sem,Nat.reduceBEq,Nat.reduceAdd, *];with_reducible exact Is.rfl) (fun S=>by simp only[go_sem,Nat.reduceBEq,Nat.reduceAdd, *];with_reducible exact Is.rfl) ?_
  refine OW.o1 (by simp only[go_sem,Nat.reduceBEq,Nat.reduceAdd, *];with_reducible exact Is.rfl) (fun S=>by simp only[go_sem,Nat.reduceBEq,Nat.reduceAdd,lv,hmap, *];with_reducible exact Is.rfl) ?_
  refine OW.o1 (by simp only[go_sem,Nat.reduceBEq,Nat.reduceAdd, *];with_reducible exact Is.rfl) (fun S=>by simp only[go_sem,Nat.reduceBEq,Nat.reduceAdd, *];with_reducible exact Is.rfl) ?_
  refine OW.o1 (by rfl) (fun S=>by rw[iH _ _ _ (by simp only[go_sem,Nat.reduceBEq, *])];simp only[go_sem,Nat.reduceBEq,Nat.reduceAdd, *];with_reducible exact Is.rfl) ?_
  refine OW.nil (SeqQ.n ?_)
  cases hi1:decide (i>=((l.length:Nat):Int)) with
  |true=>
   rw[hi1,cond_true] at h
   cases h
   refine CW.condT (by simp only[go_sem,Nat.reduceBEq,Nat.reduceAdd, *];exact Is.rfl) ?_
   refine CW.seq (CW.region ?_)
   refine OW.o1 (by rfl) (fun S=>by simp only[go_sem,Nat.reduceBEq,Nat.reduceAdd, *];with_reducible exact Is.rfl) ?_
   refine OW.o1 (by rfl) (fun S=>by simp only[go_sem,Nat.reduceBEq,Nat.reduceAdd, *];with_reducible exact Is.rfl) ?_
   refine OW.nil (SeqQ.n (CW.ret (SeqQ.r ?_)))
   rw[hres]
   refine RetQ.tup (by intro i h;cases h) (by simp only[aew,List.mapM_nil,resV,go_sem,Nat.reduceBEq, *];exact Is.rfl) ?_
   exact Jv _ .nil [] 1
  |false=>
   rw[hi1,cond_false] at h
   cases hlt:decide (l.length<2^29) with
   |false=>rw[hlt] at h;cases h
   |true=>
   have hlt':=of_decide_eq_true hlt
   rw[hlt,cond_true,aat] at h
   obtain⟨p,hp,rfl⟩:=h
   refine CW.condF (by simp only[go_sem,Nat.reduceBEq,Nat.reduceAdd, *];exact Is.rfl) (CW.skip (SeqQ.n ?_))
   have z1:zeroT Tryz.prog 30=some (.lst .nil []):=by kernel_rfl
   have z2:zeroT Tryz.prog 84=some .nilf:=by kernel_rfl
   refine CW.seq (CW.region ?_)
   refine OW.o1 (by rfl) (fun S=>by simp only[go_sem,Nat.reduceBEq,Nat.reduceAdd, *];with_reducible exact Is.rfl) ?_
   refine OW.nil (SeqQ.n ?_)
   refine CW.seq (CW.region ?_)
   refine OW.o1 (by rfl) (fun S=>by simp only[go_sem,Nat.reduceBEq,Nat.reduceAdd, *];rw[if_pos (by decide)];exact Is.rfl) ?_
   refine OW.nil (SeqQ.n ?_)
   refine CW.seq (CW.region ?_)
   refine OW.o1 (by rfl) (fun S=>by rw[Qe (a:=[]) (b:=[.tmp 7,.tmp 6])];simp only[aez,List.map_nil,go_sem,Nat.reduceBEq,Nat.reduceAdd, *];exact Is.rfl) ?_
   refine OW.o0 (by rfl) (fun S=>by simp only[go_sem,Nat.reduceBEq,Nat.reduceAdd, *];rw[if_pos (by decide)];exact Is.rfl) ?_
   refine OW.nil (SeqQ.n ?_)
   refine CW.seq (CW.region ?_)
   refine OW.o1 (v:=.fn (.func 49) [] [.ref (1,7) _ 0,.ref (1,6) _ 0]) (by rfl) (fun S=>by simp only[go_sem,Nat.reduceBEq,Nat.reduceAdd, *];exact Is.rfl) ?_
   refine OW.o1 (by rfl) (fun S=>by simp only[go_sem,Nat.reduceBEq,Nat.reduceAdd, *];with_reducible exact Is.rfl) ?_
   refine OW.o1 (by rfl) (fun S=>by simp only[go_sem,Nat.reduceBEq,Nat.reduceAdd, *];with_reducible exact Is.rfl) ?_
   refine OW.mJ (g:=49) (a:=[]) (b:=[.ref (1,7) _ 0,.ref (1,6) _ 0]) (by rfl) rfl rfl (by simp only[go_sem,Nat.reduceBEq,Nat.reduceAdd, *];rfl) rfl ?_
   simp only[p8,nS,hd]
   refine imp_mono (acN hroot hsplit _ _ _ _ hp 2 _ [] _ _ .sh (by decide) (by simp;omega) ⟨⟨.nil, ?c6,.inl rfl⟩, ?c7⟩) (fun v σ1 zq=>?_)
   case c6=>rw[cells_bump,p9 _ _ _ _ (by decide),cells_bump,p9 _ _ _ _ (by decide),cells_bump];exact cells_eq _ _ _ _
   case c7=>rw[cells_bump];exact cells_eq _ _ _ _
   obtain⟨rfl,hps,hnx⟩:=zq
   simp only[Jt]
   refine OW.nil (SeqQ.n ?_)
   obtain⟨⟨c,hc6,_⟩,_⟩:=hps
   refine CW.seq (CW.region ?_)
   refine OW.o1 (by rfl) (fun S=>by simp only[go_sem,Nat.reduceBEq,Nat.reduceAdd, *];with_reducible exact Is.rfl) ?_
   refine OW.o1 (by rfl) (fun S=>by simp only[go_sem,Nat.reduceBEq,Nat.reduceAdd, *];with_reducible exact Is.rfl) ?_
   refine OW.o1 (by rfl) (fun S=>by simp only[go_sem,Nat.reduceBEq,Nat.reduceAdd, *];with_reducible exact Is.rfl) ?_
   refine OW.nil (SeqQ.n (CW.ret ?_))
   rw[hres]
   refine RetQ.tup (by intro i h;cases h) (by simp only[aew,List.mapM_nil,resV,go_sem,Nat.reduceBEq, *];exact Is.rfl) ?_
   exact Jv _ c ([]++p) 0
end Sh
end
section
open Go Go.Proofs Aq
namespace Sh
set_option maxRecDepth 100000
theorem acR (uI:∀a b x,oH (a,b)=some x->Pure E 53 [a.v,b.v] x.v) (hsplit:∀p x,kH p=some x->Pure E 50 [.int .i64 p] (.int .i64 x)) {leaf root:ah} {i n:Int} {l:List ah} {b:Bool} (h:chkF leaf i n l root=some b):Pure E 32 (lI leaf i n l root) (.bool b):=by
 have h':=h
 unfold chkF at h'
 split at h'
 ·rename_i hl
  obtain⟨m,v,σ',e1,rfl⟩:=aaM uI hsplit hl h'
  have h1:PureOK E 32 (lI leaf i n l root) (.bool b):=aaN (aas (m:=m) envOK) e1 rfl
  refine⟨0,?_⟩
  show uD Eg (lI leaf i n l root)=some (.bool b)
  exact aad Eg h (Iz rfl (fun _ _ h=>h) h1)
 ·cases h'
theorem acS (p:PayL R.T [.d (.st 2),.d (.int .i64),.d (.int .i64),.d (.slice (.st 2)),.d (.st 2)]) (x:PayL R.T [.d .bool]) (h:chkF p.1 p.2.1 p.2.2.1 p.2.2.2.1 p.2.2.2.2=some x):Pure E 32 (encSL R [.d (.st 2),.d (.int .i64),.d (.int .i64),.d (.slice (.st 2)),.d (.st 2)] p) (retV (encSL R [.d .bool] x)):=by
 obtain⟨leaf,i,n,l,root⟩:=p
 exact acR acK acL h
end Sh
end
