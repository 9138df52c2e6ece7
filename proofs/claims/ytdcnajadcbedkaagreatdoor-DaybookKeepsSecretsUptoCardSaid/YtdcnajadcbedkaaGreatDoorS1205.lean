/- Part of the proof of a law. -/
import Derived.Test.YtdcnajadcbedkaaGreatDoorS1204
set_option linter.all false
section
namespace Aq
open Go Go.RowKit
section
variable {E:Env} {S:jI}
theorem afZ (all:List Oper) (base:Nat):∀(os:List Oper) (k:Nat) (fr:Fr) (σ:ah) (fs:List bV) (sW:Fr) (σN:ah),(∀j,os[j]? =all[k+j]?)->
 kY E S all (base+k) os fr σ=some (fs,sW,σN)->fs.length=os.length/\∃s:Nat->Fr×ah,s k=(fr,σ)/\s (k+os.length)=(sW,σN)/\
  ∀i,k<=i->i<k+os.length->jK E S all base i (s i).1 (s i).2=some (s (i+1))/\∃o wt,all[i]? =some o/\eT all (s i).1 o=some wt/\fs[i-k]? =some (fq E all (s i).1 o wt):=by
 intro os
 induction os with
 |nil=>
  intro k fr σ fs sW σN _ h
  simp only[kY,iE,mF] at h
  obtain⟨rfl,rfl,rfl⟩:=h
  exact⟨rfl,fun _=>(fr,σ),rfl,rfl,fun i h1 h2=>by simp at h2;omega⟩
 |cons o os ih=>
  intro k fr σ fs sW σN hall h
  have h0:all[k]? =some o:=by simpa using (hall 0).symm
  have af0:∀j,os[j]? =all[k+1+j]? :=fun j=>by have:=hall (j+1);simpa [agh,Nat.add_comm 1 j] using this
  simp only[kY,iR] at h
  obtain⟨wt,hwt,h⟩:=h
  have main:∀(bQ:Fr) (σ1:ah) (fs':List bV),jK E S all base k fr σ=some (bQ,σ1)->kY E S all (base+(k+1)) os bQ σ1=some (fs',sW,σN)->fs=fq E all fr o wt::fs'->
   fs.length=(o::os).length/\∃s:Nat->Fr×ah,s k=(fr,σ)/\s (k+(o::os).length)=(sW,σN)/\
   ∀i,k<=i->i<k+(o::os).length->jK E S all base i (s i).1 (s i).2=some (s (i+1))/\∃o wt,all[i]? =some o/\eT all (s i).1 o=some wt/\fs[i-k]? =some (fq E all (s i).1 o wt):=by
   intro bQ σ1 fs' hstep hrec hfs
   obtain⟨hlen,s,hs1,hs2,hs3⟩:=ih (k+1) bQ σ1 fs' sW σN af0 hrec
   refine⟨by rw[hfs];simp[hlen],fun i=>if i=k then (fr,σ) else s i,by simp, ?_,fun i h1 h2=> ?_⟩
   ·have:¬(k+(o::os).length=k):=by simp
    simp only[this,if_false]
    rw[show k+(o::os).length=k+1+os.length by simp;omega]
    exact hs2
   ·by_cases hik:i=k
    ·subst hik
     have:¬(i+1=i):=by omega
     simp only[if_true,this,if_false]
     rw[hs1]
     exact⟨hstep,o,wt,h0,hwt,by rw[hfs];simp⟩
    ·have:¬(i+1=k):=by omega
     simp only[hik,this,if_false]
     obtain⟨g1,o',wt',g2,g3,g4⟩:=hs3 i (by omega) (by simp at h2;omega)
     refine⟨g1,o',wt',g2,g3, ?_⟩
     rw[hfs,show i-k=(i-(k+1))+1 by omega]
     simpa using g4
  cases wt with
  |true=>
   simp only[if_true,iR,aao,mF] at h
   obtain⟨⟨v,fK,σ2⟩,hop,⟨fs',r⟩,hrec,hfs,hr⟩:=h
   refine main _ _ fs' ?_ (by rw[<-hr];exact hrec) hfs.symm
   simp only[jK,h0,hwt,Option.bind_some,if_true,hop,Option.map_some]
  |false=>
   simp only[aap,if_false,aao,mF] at h
   obtain⟨⟨fs',r⟩,hrec,hfs,hr⟩:=h
   refine main _ _ fs' ?_ (by rw[<-hr];exact hrec) hfs.symm
   simp only[jK,h0,hwt,Option.bind_some,aap,if_false]
theorem Q8 (ops:List Oper) (base:Nat):∀(l:List Nat) (x:Fr×ah),FH (fun i x=>jK E S ops base i x.1 x.2) l x=opsL E S ops base l x.1 x.2
 | [],x=>rfl
 |i::l,x=>by
  simp only[FH,opsL]
  cases jK E S ops base i x.1 x.2 with
  |none=>rfl
  |some y=>exact Q8 ops base l y
def rH (acc:List Nat) (o:Oper):Nat:=o.after.toList.foldl (fun s e=>if Region.binds .any e then s|||2^e.on|||acc.getD e.on 0 else s) 0
theorem af3:∀(ops:List Oper) (acc:List Nat),ops.foldl (fun acc o=>acc++[rH acc o]) acc=acc++(ops.foldl (fun acc o=>acc++[rH acc o]) acc).drop acc.length/\
 (ops.foldl (fun acc o=>acc++[rH acc o]) acc).length=acc.length+ops.length/\
 ∀i o,ops[i]? =some o->(ops.foldl (fun acc o=>acc++[rH acc o]) acc).getD (acc.length+i) 0=rH ((ops.foldl (fun acc o=>acc++[rH acc o]) acc).take (acc.length+i)) o:=by
 intro ops
 induction ops with
 |nil=>intro acc;simp
 |cons a ops ih=>
  intro acc
  obtain⟨h1,h2,h3⟩:=ih (acc++[rH acc a])
  simp only[List.foldl_cons]
  generalize hR:ops.foldl (fun acc o=>acc++[rH acc o]) (acc++[rH acc a])=R at h1 h2 h3⊢
  have hpre:R.take acc.length=acc:=by
   rw[h1]
   simp
  refine⟨?_,by rw[h2];simp;omega,fun i o ho=> ?_⟩
  ·conv=>lhs;rw[<-aga acc.length R,hpre]
  ·cases i with
   |zero=>
    simp at ho
    subst ho
    rw[Nat.add_zero,hpre,h1]
    simp
   |succ i=>
    have:=h3 i o (by simpa using ho)
    simpa [agh,Nat.add_comm 1 i] using this
theorem af4 {acc:List Nat} {o:Oper} {j:Nat} (h:(rH acc o).testBit j=true):∃e∈o.after.toList,Region.binds .any e=true/\(j=e.on\/(acc.getD e.on 0).testBit j=true):=by
 unfold rH at h
 generalize hl:o.after.toList=l at h
 clear hl
 have gen:∀(l:List Edge) (s:Nat),(l.foldl (fun s e=>if Region.binds .any e then s|||2^e.on|||acc.getD e.on 0 else s) s).testBit j=true->
  s.testBit j=true\/∃e∈l,Region.binds .any e=true/\(j=e.on\/(acc.getD e.on 0).testBit j=true):=by
  intro l
  induction l with
  |nil=>intro s h;exact .inl h
  |cons e l ih=>
   intro s h
   simp only[List.foldl_cons] at h
   rcases ih _ h with h1| ⟨e',he',hb,hj⟩
   ·split at h1
    ·rename_i hb
     simp only[Nat.testBit_or,al5] at h1
     rcases h1 with (h1|h1)|h1
     ·exact .inl h1
     ·exact .inr ⟨e,by simp,hb,.inl (by
       rw[Nat.testBit_two_pow] at h1
       have:e.on=j:=by simpa using h1
       exact this.symm)⟩
     ·exact .inr ⟨e,by simp,hb,.inr h1⟩
    ·exact .inl h1
   ·exact .inr ⟨e',by simp[he'],hb,hj⟩
 rcases gen l 0 h with h1|h1
 ·simp at h1
 ·exact h1
theorem af5 {ops:List Oper} (oz:ou ops=true) {i j:Nat} {o:Oper} (ho:ops[i]? =some o) (h:((o9 ops).getD i 0).testBit j=true):
 ∃e∈o.after.toList,Region.binds .any e=true/\e.on<i/\(j=e.on\/((o9 ops).getD e.on 0).testBit j=true):=by
 have hp:o9 ops=ops.foldl (fun acc o=>acc++[rH acc o]) []:=rfl
 obtain⟨_,_,h3⟩:=af3 ops []
 have:=h3 i o ho
 simp only[List.length_nil,ae5] at this
 rw[hp,this] at h
 obtain⟨e,he,hb,hj⟩:=af4 h
 have hlt:e.on<i:=by
  have hi:i<ops.length:=by
   rcases Nat.lt_or_ge i ops.length with h|h
   ·exact h
   ·rw[List.getElem?_eq_none h] at ho;cases ho
  simp only[ou,adI] at oz
  have h1:=oz i (by simpa using hi)
  rw[ho] at h1
  simp only[adI] at h1
  simpa [hb] using h1 e he
 refine⟨e,he,hb,hlt,hj.imp id (fun hj=> ?_)⟩
 rw[hp]
 have e1:∀(l:List Nat) (a b:Nat),a<b->(l.take b).getD a 0=l.getD a 0:=fun l a b hab=>by simp[List.getD,List.getElem?_take,hab]
 rw[e1 _ _ _ hlt] at hj
 exact hj
theorem Xw {ops:Array Oper} (oz:ou ops.toList=true) {md:Region.Mode} {l:List Nat} (hl:xA md ops [] l):
 ∀(i:Nat) (l1 l2:List Nat),l=l1++i::l2->∀j,((o9 ops.toList).getD i 0).testBit j=true->j∈l1:=by
 intro i
 induction i using Nat.strongRecOn with
 |_ i ih=>
  intro l1 l2 Q9 j hj
  have hi:i<ops.size:=(hl.mem i (by rw[Q9];simp)).1
  have hoi:ops[i]? =some ops[i]:=by simp[hi]
  obtain⟨e,he,hb,hlt,Ra⟩:=af5 oz (o:=ops[i]) (by simpa using hoi) hj
  have hon:e.on∈l1:=by
   rcases hl.ord l1 i l2 Q9 ops[i] hoi e he (afL md hb) with h|h
   ·cases h
   ·exact h
  rcases Ra with rfl|Ra
  ·exact hon
  ·obtain⟨a,b,rfl⟩:=List.append_of_mem hon
   have:=ih e.on hlt a (b++i::l2) (by rw[Q9];simp) j Ra
   exact ajr _ this
theorem af6 {ops:Array Oper} {base:Nat} {fr sW:Fr} {σ σN:ah} {fs:List bV} (hF:kY E S ops.toList base ops.toList fr σ=some (fs,sW,σN)) (oz:ou ops.toList=true)
 (hP:vD (o9 ops.toList) fs=true) {md:Region.Mode} {l:List Nat} (hl:xA md ops [] l):opsL E S ops.toList base l fr σ=some (sW,σN):=by
 obtain⟨hlen,s,hs0,hsn,hs⟩:=afZ ops.toList base ops.toList 0 fr σ fs sW σN (fun j=>by simp) (by simpa using hF)
 have hn:ops.toList.length=ops.size:=by simp
 rw[ae5,hn] at hsn
 have hfs:∀i,i<ops.size->∃o wt,ops.toList[i]? =some o/\eT ops.toList (s i).1 o=some wt/\fs.getD i fQ=fq E ops.toList (s i).1 o wt/\jK E S ops.toList base i (s i).1 (s i).2=some (s (i+1)):=by
  intro i hi
  obtain⟨g1,o,wt,g2,g3,g4⟩:=hs i (ael _) (by omega)
  exact⟨o,wt,g2,g3,by simp only[Nat.sub_zero] at g4;simp[List.getD,g4],g1⟩
 have hself:∀i,i<ops.size->∀k,¬(fs.getD i fQ).W k->Ag k (s i) (s (i+1)):=by
  intro i hi k hk
  obtain⟨o,wt,g1,g2,g3,g4⟩:=hfs i hi
  rw[g3] at hk
  obtain⟨_,_,_,_,h4⟩:=Xu g1 g2 g4 (s i) (fun k _=>.refl k _)
  exact h4 k hk
 have hap:∀i j,i<ops.size->j<i->((o9 ops.toList).getD i 0).testBit j=true\/((∀k,¬((fs.getD i fQ).W k/\(fs.getD j fQ).T k))/\∀k,¬((fs.getD j fQ).W k/\(fs.getD i fQ).T k)):=by
  intro i j hi hj
  simp only[vD,adI] at hP
  have:=hP i (by simp;omega) j (by simpa using hj)
  simp only[al5] at this
  refine this.imp id (fun h=> ?_)
  simp only[P6,aan,ajp] at h
  exact⟨Xr h.1,Xr h.2⟩
 have key:=Xe (X:=Fr×ah) (Key:=Key) ops.size (fun i x=>jK E S ops.toList base i x.1 x.2) Ag Ag.refl (fun k x y z=>Ag.trans) s
  (fun i=>(fs.getD i fQ).T) (fun i=>(fs.getD i fQ).W) (fun i k=>bV.Xo)
  (fun i hi x hx=>by
    obtain⟨o,wt,g1,g2,g3,g4⟩:=hfs i hi
    obtain⟨y,h1,h2,h3,_⟩:=Xu g1 g2 g4 x (fun k hk=>hx k (by rw[g3];exact hk))
    exact⟨y,h1,fun k hk=>h2 k (by rw[<-g3];exact hk),fun k hk=>h3 k (by rw[<-g3];exact hk)⟩)
  hself (fun j i=>((o9 ops.toList).getD i 0).testBit j=true) hap (fun k x y=>Ag.symm)
  l [] (fr,σ) hl.nodup hl.mem hl.all (fun l1 i l2 h j hj=>.inr (Xw oz hl i l1 l2 h j hj)) (fun i hi=>by cases hi)
  (by
    intro k m
    induction m with
    |zero=>intro _ _;rw[hs0];exact .refl _ _
    |succ m ih=>
     intro hm hj
     refine Ag.trans (Ag.symm (hself m (by omega) k (fun hw=> ?_))) (ih (by omega) (fun j hjn hw=>⟨(fun h=>by cases h),(fun h=>by have:=(hj j hjn hw).2 (by omega);cases this)⟩))
     have:=(hj m (by omega) hw).2 (by omega)
     cases this)
 obtain⟨y,h1,h2⟩:=key
 rw[Q8] at h1
 have:=Ag.all h2
 rw[hsn] at this
 rw[h1,<-this]
theorem af7 {ops:Array Oper} {base:Nat} {x y:Fr×ah} (hF:Free E S (o9 ops.toList) ops.toList base x y) (oz:ou ops.toList=true) {md:Region.Mode} {l:List Nat} (hl:xA md ops [] l):
 opsL E S ops.toList base l x.1 x.2=some y:=by
 obtain⟨s,T,W,h0,hn,zm,hloc,hself,hap⟩:=hF
 have hsz:ops.toList.length=ops.size:=by simp
 rw[hsz] at hn hloc hself hap
 obtain⟨z,h1,h2⟩:=Xe (X:=Fr×ah) (Key:=Key) ops.size (fun i x=>jK E S ops.toList base i x.1 x.2) Ag Ag.refl (fun k x y z=>Ag.trans) s T W zm
  hloc hself (fun j i=>((o9 ops.toList).getD i 0).testBit j=true) hap (fun k x y=>Ag.symm)
  l [] x hl.nodup hl.mem hl.all (fun l1 i l2 h j hj=>.inr (Xw oz hl i l1 l2 h j hj)) (fun i hi=>by cases hi)
  (by
    intro k m
    induction m with
    |zero=>intro _ _;rw[h0];exact .refl _ _
    |succ m ih=>
     intro hm hj
     refine Ag.trans (Ag.symm (hself m (by omega) k (fun hw=> ?_))) (ih (by omega) (fun j hjn hw=>⟨(fun h=>by cases h),(fun h=>by have:=(hj j hjn hw).2 (by omega);cases this)⟩))
     have:=(hj m (by omega) hw).2 (by omega)
     cases this)
 rw[Q8] at h1
 have:=Ag.all h2
 rw[hn] at this
 rw[h1,<-this]
end
section
variable {E:Env} {S:jI} {B0:Nat} {σ σ':ah} {K K':aP} {w w':World} {fr fr':Fr} {a:Act} {n:Nat}
theorem af8 (hE:mH E) (hS:Sound E S) {id:Nat} {ops:Array Oper} {dr:Bool} {e:Ex} (h:bZ E S (.region id ops dr) fr σ=some (e,fr',σ')):mG E (.region id ops dr) fr σ e fr' σ':=by
 have fin:∀(l:List Nat),opsL E S ops.toList σ.next l fr {σ with next:=σ.next+ops.toList.length}=some (fr',σ')->l.Nodup->(∀i∈l,i<ops.size)->∀ro B0 K w a n ds Q,St E B0 σ K w fr a n ds->iM n (.region id ops dr)=true->
  (∀x a' w',zl E B0 n ds σ K w .normal fr' σ' x a' w'->Q x a' w')->wpOpsIn (FW ro) 0 E.P ops Q l a w:=by
  intro l hl hnd hlt ro B0 K w a n ds Q hs hok hq
  have hnx:=KG hS _ _ _ _ _ hl
  simp only at hnx
  have hs':St E B0 {σ with next:=σ.next+ops.toList.length} K w fr a n ds:=⟨afj hs.ok _,hs.hB,hs.fr,hs.sz,hs.df,fun s h=>adV (hs.st s h) (ajO _ _),hs.hD⟩
  refine afl hE hS ops σ.next hok ro _ l fr _ K w a hl hnd hlt hs' (by simp) (fun i _ hA=>by have:=hs.st _ hA;omega) (fun a' K' w' hs2 st=>hq _ _ _ ?_)
  refine⟨trivial,K',hs2, ?_⟩
  have st':Step E B0 (newer σ σ') {σ with next:=σ.next+ops.toList.length} K w σ' K' w':=st.mono (fun s hs=>by
   rcases hs with h|h
   ·exact⟨h.1,by simp at hnx;omega⟩
   ·refine⟨aav (ajO _ _) h.1,h.2⟩)
  exact⟨st'.ok,st'.ext,st'.below,st'.D,st'.A,st'.nI,st'.wU⟩
 simp only[bZ] at h
 split at h
 ·rename_i hdr
  simp only[iR] at h
  obtain⟨⟨fs,bQ,σ1⟩,hF,h⟩:=h
  have hall:bQ=fr'/\σ1=σ'/\e= .normal/\ou ops.toList=true/\∀md l,xA md ops [] l->opsL E S ops.toList σ.next l fr {σ with next:=σ.next+ops.toList.length}=some (fr',σ'):=by
   split at h
   ·rename_i BM
    simp only[iE,mF] at h
    obtain⟨rfl,rfl,rfl⟩:=h
    simp only[aan] at BM
    exact⟨rfl,rfl,rfl,BM.1,fun md l hl=>af6 hF BM.1 BM.2 hl⟩
   ·unfold J8 at h
    split at h
    ·rename_i hfree
     simp only[iE,mF] at h
     obtain⟨rfl,rfl,rfl⟩:=h
     exact⟨rfl,rfl,rfl,hfree.1,fun md l hl=>af7 hfree.2 hfree.1 hl⟩
    ·cases h
  obtain⟨rfl,rfl,rfl,BM,KH⟩:=hall
  have hany:∀t,∃md,xA md ops [] (Region.schedule (E.P.follows .mixedOrders) ops t):=fun t=>afK hE.mixed _ BM t
  have hdo:∀t,opsL E S ops.toList σ.next (Region.schedule (E.P.follows .mixedOrders) ops t) fr {σ with next:=σ.next+ops.toList.length}=some (bQ,σ1):=fun t=>by
   obtain⟨md,hl⟩:=hany t
   exact KH md _ hl
  have hnx:=KG hS _ _ _ _ _ (hdo 0)
  simp only at hnx
  refine⟨aav (ajO _ _) hnx,fun ro B0 K w a n ds hs hok _=> ?_⟩
  rw[hdr]
  refine wpIn_region_draw (fun t=> ?_)
  obtain⟨md,hl⟩:=hany t
  have hst:=Step.same (new:=newer σ σ) hs.ok (w':={w with drawn:=w.drawn+1}) rfl rfl rfl rfl
  have hs1:St E B0 σ K {w with drawn:=w.drawn+1} fr a n ds:=⟨hst.ok,hs.hB,hs.fr.ext hst.ext,hs.sz,hs.df,hs.st,hs.hD⟩
  refine fin _ (hdo t) hl.nodup (fun i hi=>(hl.mem i hi).1) ro B0 K _ a n ds _ hs1 (by rw[hdr];exact hok) ?_
  rintro x a' w' ⟨h1,K',h2,h3⟩
  exact⟨h1,K',h2,hst.widen h3 (RS _) (aav (ajO _ _) hnx)⟩
 ·rename_i hdr
  have hdr':dr=false:=by simpa using hdr
  simp only[aao,mF] at h
  obtain⟨⟨bQ,σ1⟩,hF,rfl,rfl,rfl⟩:=h
  rw[afh] at hF
  have hnx:=KG hS _ _ _ _ _ hF
  simp only at hnx
  refine⟨aav (ajO _ _) hnx,fun ro B0 K w a n ds hs hok _=> ?_⟩
  rw[hdr']
  exact wpIn_region (fin _ hF List.nodup_range (fun i hi=>by simpa using hi) ro B0 K w a n ds _ hs (by rw[hdr'];exact hok) (fun _ _ _ h=>h))
end
end Aq
end
section
namespace Aq
open Go Go.RowKit
section
variable {E:Env} {S:jI} {K K':aP} {w w':World} {σ σ':ah} {B0:Nat}
theorem Rb (K:aP) (T:Nat->Nat) (w:World) (D':Nat->Prop):Ext K T w {K with D:=D'} T w:=
 ⟨fun _ h=>⟨h,rfl,rfl,rfl⟩,fun _ _=>.inl ⟨rfl,rfl,rfl,rfl⟩,fun _ _ h=>⟨h,rfl⟩,fun _ h=>⟨h,rfl⟩⟩
theorem aV.KO (h:aV E B0 σ K w) (D':Nat->Prop) (hD:∀b,D' b->w.heap[b]? =some (.deferred (some []))):aV E B0 σ {K with D:=D'} w:=by
 have e:=Rb K σ.top w D'
 refine⟨fun loc s ob hs=> ?_,h.own,h.I,h.IM,fun l r hl=> ?_,fun g cs hg=>(h.glob g cs hg).ext e,h.rb,hD⟩
 ·obtain⟨a1,a2,a3⟩:=h.obj loc s ob hs
  exact⟨a1,a2.ext e a1 (fun _=>rfl),a3⟩
 ·obtain⟨a1,a2⟩:=h.loop l r hl
  exact⟨a1,a2.ext e a1 rfl rfl⟩
theorem aV.KP (h:aV E B0 σ K w) (hB:B0<=w.heap.size) {new:Nat->Prop} {b:Nat} {o o':Obj} (hb0:B0<=b) (hb:w.heap[b]? =some o) (hc:∀vals t f,o≠ .cells vals t f) (hm:∀es bL,o≠ .map es bL)
 (af9:∀l r,σ'.loops l=some r->σ.loops l=some r/\K.lp l≠b) (h1:σ'.obj=σ.obj) (h2:σ'.top=σ.top) (D':Nat->Prop) (hD:∀x,D' x->K.D x/\x≠b) (hDk:∀x,K.D x->D' x):
 Step E B0 new σ K w σ' {K with D:=D'} (w.putObj b o')/\aV E B0 σ' {K with D:=D'} (w.putObj b o'):=by
 have hlt:=lt_of_heap hb
 have ho:=QK w b o'
 have hcell:∀b' i v,w.cell? (at_ b' i)=some v->b'≠b:=fun b' i v hv e=>by
  subst e
  have:∃vals t f,o= .cells vals t f:=by
   simp only[World.cell?,hb] at hv
   cases o<;>simp at hv
   exact⟨_,_,_,rfl⟩
  obtain⟨vals,t,f,rfl⟩:=this
  exact hc _ _ _ rfl
 have e:Ext K σ.top w {K with D:=D'} σ'.top (w.putObj b o'):=by
  rw[h2]
  refine⟨fun _ h=>⟨h,rfl,rfl,rfl⟩,fun _ _=>.inl ⟨rfl,rfl,rfl,rfl⟩,fun b' i hi=>⟨hi, ?_⟩,fun b' hi=>⟨hi, ?_⟩⟩
  ·obtain⟨⟨v,hv⟩,_⟩:=h.I b' i hi
   exact cell_of_heap (ho.block b' (hcell b' i v hv) (lt_of_cell hv))
  ·obtain⟨⟨es,bL,hv⟩,_⟩:=h.IM b' hi
   exact ho.block b' (pE hv hb (fun e=>hm _ _ e.symm)) (lt_of_heap hv)
 have ok:aV E B0 σ' {K with D:=D'} (w.putObj b o'):=by
  refine h.upd (σ':=σ') ho e (fun _ _=>rfl) (fun r hr'=>⟨by simpa using hlt,hb0⟩) ?_ ?_ ?_ ?_ ?_ ?_
  ·intro loc s ob hs
   rw[h1] at hs
   refine .inl ⟨hs,fun kr e'=> ?_⟩
   obtain⟨_,a2,_⟩:=h.obj loc s ob hs
   cases ob with
   |cells cs=>
    obtain⟨_,vals,t,g1,_⟩:=a2.2 (by cases cs with|nil=>exact kr.elim|cons _ _=>simp)
    rw[e',hb] at g1
    exact hc _ _ _ (adG g1)
   |map ks vs=>
    obtain⟨_,es,bL,g1,_⟩:=a2
    rw[e',hb] at g1
    exact hm _ _ (adG g1)
  ·intro s hs hlt'
   refine .inl ⟨hs,rfl,rfl,rfl,fun e'=> ?_⟩
   obtain⟨_,⟨v,hv⟩,_⟩:=(h.own s hs hlt').2.2 (K.lo s) (RS _) hlt'
   exact hcell _ _ _ hv e'
  ·intro b' i hi
   obtain⟨⟨v,hv⟩,_⟩:=h.I b' i hi
   exact .inl ⟨hi,hcell b' i v hv⟩
  ·intro b' hi
   obtain⟨⟨es,bL,hv⟩,_⟩:=h.IM b' hi
   exact .inl ⟨hi,pE hv hb (fun e=>hm _ _ e.symm)⟩
  ·intro l r hl
   exact .inl (af9 l r hl)
  ·intro b' hd
   exact .inl (hD b' hd)
 exact⟨⟨ok,e,ho.below hb0 hB,hDk,fun _ h=>.inl h,fun _ _ h=>.inl h,fun _ h=>.inl h⟩,ok⟩
theorem Step.agb (h:aV E B0 σ K w) (hB:B0<=w.heap.size) {new:Nat->Prop}:
 Step E B0 new σ K w σ {K with D:=fun b=>K.D b\/b=w.heap.size} (w.alloc (.deferred (some []))):=by
 have ho:=zh w (.deferred (some []))
 have e:Ext K σ.top w {K with D:=fun b=>K.D b\/b=w.heap.size} σ.top (w.alloc (.deferred (some []))):=by
  refine⟨fun _ h=>⟨h,rfl,rfl,rfl⟩,fun _ _=>.inl ⟨rfl,rfl,rfl,rfl⟩,fun b' i hi=>⟨hi, ?_⟩,fun b' hi=>⟨hi, ?_⟩⟩
  ·obtain⟨⟨v,hv⟩,_⟩:=h.I b' i hi
   rw[hv];exact Ka hv
  ·obtain⟨⟨es,bL,hv⟩,_⟩:=h.IM b' hi
   exact heap_alloc_old (lt_of_heap hv)
 refine⟨?_,e,ho.below hB hB,fun _ h=>.inl h,fun _ h=>.inl h,fun _ _ h=>.inl h,fun _ h=>.inl h⟩
 refine h.upd (σ':=σ) ho e (fun _ _=>rfl) (fun r hr'=>⟨by simp,hB⟩) ?_ ?_ ?_ ?_ ?_ ?_
 ·intro loc s ob hs
  refine .inl ⟨hs,fun hr=> ?_⟩
  have:=(h.rb _ _ ((h.obj _ _ _ hs).2.2 hr)).1
  omega
 ·intro s hs hlt'
  have:=(h.rb _ _ (h.own s hs hlt').2.1).1
  exact .inl ⟨hs,rfl,rfl,rfl,by omega⟩
 ·intro b' i hi
  obtain⟨⟨v,hv⟩,_⟩:=h.I b' i hi
  exact .inl ⟨hi,af2 (lt_of_cell hv)⟩
 ·intro b' hi
  obtain⟨⟨es,bL,hv⟩,_⟩:=h.IM b' hi
  exact .inl ⟨hi,af2 (lt_of_heap hv)⟩
 ·intro l r hl
  have:=(h.rb _ _ (h.loop l r hl).2.2.1).1
  exact .inl ⟨hl,by omega⟩
 ·intro b' hd
  rcases hd with hd|rfl
  ·exact .inl ⟨hd,af2 (lt_of_heap (h.D b' hd))⟩
  ·exact .inr ⟨rfl,heap_alloc_new _ _⟩
def aP.BN (K:aP) (st b:Nat):aP:=
 {K with A:=fun s=>K.A s\/s=st,lo:=upd K.lo st 0,hi:=upd K.hi st 0,lp:=upd K.lp st b,ρ:=upd K.ρ b (some (.loop st))}
theorem Step.agc (h:aV E B0 σ K w) (hB:B0<=w.heap.size) (hst:¬K.A σ.next) {fr:Fr} {tmps:Array Value} {ps:List Nat} {dS body:Code} {fn:FuncId} {D:Nat} (hf:kg K σ.top w fr tmps)
 (hok1:iM tmps.size dS=true) (hok2:iM tmps.size body=true) (hps:∀p∈ps,p<tmps.size) (hn1:lW dS=true) (hn2:lW body=true):
 Step E B0 (· =σ.next) σ K w ({σ with next:=σ.next+1}.fO σ.next {st:=0,pend:=none,fr:=fr,ps:=ps,dS:=dS,body:=body}) (K.BN σ.next w.heap.size)
  (w.alloc (.loop {state:=.ready,pending:=none,fn:=fn,tmps:=tmps,params:=ps.toArray,assign:=dS,body:=body,defers:=D})):=by
 generalize hrec:({state:=.ready,pending:=none,fn:=fn,tmps:=tmps,params:=ps.toArray,assign:=dS,body:=body,defers:=D}:Go.Loop)=rec
 have ho:=zh w (.loop rec)
 have hne:∀s,K.A s->s≠σ.next:=fun s hs e=>hst (e▸hs)
 have e:Ext K σ.top w (K.BN σ.next w.heap.size) σ.top (w.alloc (.loop rec)):=by
  refine⟨fun s hs=>⟨.inl hs,rfl,upd_ne _ _ (hne s hs),rfl⟩,fun s hs=>.inl ⟨rfl,rfl,upd_ne _ _ (hne s hs),upd_ne _ _ (hne s hs)⟩,fun b' i hi=>⟨hi, ?_⟩,fun b' hi=>⟨hi, ?_⟩⟩
  ·obtain⟨⟨v,hv⟩,_⟩:=h.I b' i hi
   rw[hv];exact Ka hv
  ·obtain⟨⟨es,bL,hv⟩,_⟩:=h.IM b' hi
   exact heap_alloc_old (lt_of_heap hv)
 refine⟨?_,e,ho.below hB hB,fun _ h=>h,fun _ h=>h,fun _ _ h=>.inl h,fun _ h=>.inl h⟩
 refine h.upd (σ':=({σ with next:=σ.next+1}.fO σ.next {st:=0,pend:=none,fr:=fr,ps:=ps,dS:=dS,body:=body})) ho e (fun k hk=>upd_ne _ _ hk) (fun r hr'=>⟨by simp,hB⟩) ?_ ?_ ?_ ?_ ?_ ?_
 ·intro loc s ob hs
  have hs':σ.obj loc=some (s,ob):=hs
  refine .inl ⟨hs',fun hr=> ?_⟩
  have:=(h.rb _ _ ((h.obj _ _ _ hs').2.2 hr)).1
  omega
 ·intro s hs hlt'
  have hs':s≠σ.next:=by
   rintro rfl
   simp only[aP.BN,upd_same] at hlt'
   omega
  have hA:K.A s:=hs.resolve_right hs'
  simp only[aP.BN,upd_ne _ _ hs'] at hlt'
  have:=(h.rb _ _ (h.own s hA hlt').2.1).1
  exact .inl ⟨hA,upd_ne _ _ hs',upd_ne _ _ hs',rfl,by omega⟩
 ·intro b' i hi
  obtain⟨⟨v,hv⟩,_⟩:=h.I b' i hi
  exact .inl ⟨hi,af2 (lt_of_cell hv)⟩
 ·intro b' hi
  obtain⟨⟨es,bL,hv⟩,_⟩:=h.IM b' hi
  exact .inl ⟨hi,af2 (lt_of_heap hv)⟩
 ·intro l r hl
  by_cases hll:l=σ.next
  ·subst hll
   right
   have hr:r={st:=0,pend:=none,fr:=fr,ps:=ps,dS:=dS,body:=body}:=by
    simpa [ah.fO,upd] using hl.symm
   subst hr
   have hlp:(K.BN σ.next w.heap.size).lp σ.next=w.heap.size:=upd_same _ _ _
   refine⟨.inr rfl,by rw[hlp];exact hB,by rw[hlp];exact upd_same _ _ _,fn,tmps,D, ?_,hf.ext e,hok1,hok2,hps,hn1,hn2⟩
   rw[hlp,heap_alloc_new,<-hrec];rfl
  ·left
   have hl1:σ.loops l=some r:=by simpa [ah.fO,upd,hll] using hl
   have:=(h.rb _ _ (h.loop l r hl1).2.2.1).1
   exact⟨hl1,by omega⟩
 ·intro b' hd
  exact .inl ⟨hd,af2 (lt_of_heap (h.D b' hd))⟩
theorem agd (hE:mH E) (hS:Sound E S) {f:Operand} {ps:Array Tmp} {dS body:Code} {fr fr':Fr} {e:Ex} (h:bZ E S (.rangeFunc f ps dS body) fr σ=some (e,fr',σ')):mG E (.rangeFunc f ps dS body) fr σ e fr' σ':=by
 simp only[bZ] at h
 split at h
 ·rename_i hfun
  simp only[iR] at h
  obtain⟨⟨v,σ3⟩,happ,r,hr,h⟩:=h
  split at h
  ·simp at h
  ·rename_i hst
   simp only[iE,mF] at h
   obtain⟨he,rfl,rfl⟩:=h
   have hfn:∃g a b,fr.ev E f= .fn (.func g) a b:=by
    generalize fr.ev E f=x at hfun
    unfold P7 at hfun
    split at hfun
    ·exact⟨_,_,_,rfl⟩
    ·simp at hfun
   have hnext:σ.next+1<=σ3.next:=by
    obtain⟨g,a,b,hg⟩:=hfn
    rw[hg] at happ
    unfold iL at happ
    dsimp only at happ
    split at happ
    ·exact(hS.call _ _ _ _ _ _ happ).1
    ·simp only[iR] at happ
     obtain⟨_,_,_,_,happ⟩:=happ
     split at happ
     ·simp only[iE,mF] at happ
      rw[<-happ.2];exact RS _
     ·simp at happ
   refine⟨aav (adh _) hnext,fun ro B0 K w a n ds hs hok hnr=> ?_⟩
   have hro:ro=none/\ds.nm=false:=by
    rcases hnr with h|h
    ·exact h
    ·simp[lW] at h
   obtain⟨hro,hnm⟩:=hro
   subst hro
   simp only[iM,aan,adI,decide_eq_true_eq] at hok
   obtain⟨⟨⟨⟨hps,hok1⟩,hok2⟩,hn1⟩,hn2⟩:=hok
   refine wpIn_rangeFunc (fun fn _=> ?_)
   have st1:=Step.agb (new:=newer σ (σ3.mg σ.next)) hs.ok hs.hB
   have hB1:=aav hs.hB st1.below.size
   have hst:¬K.A σ.next:=fun hA=>Nat.lt_irrefl _ (hs.st _ hA)
   have hf1:kg {K with D:=fun b=>K.D b\/b=w.heap.size} σ.top (w.alloc (.deferred (some []))) fr a.tmps:=hs.fr.ext st1.ext
   have st2:=Step.agc (fn:=fn) (D:=w.heap.size) (ps:=ps.toList) (dS:=dS) (body:=body) st1.ok hB1 hst hf1 (by rw[hs.sz];exact hok1) (by rw[hs.sz];exact hok2) (fun p hp=>by rw[hs.sz];exact hps p hp) hn1 hn2
   have hsz1:(w.alloc (.deferred (some []))).heap.size=w.heap.size+1:=by simp
   generalize hK2:aP.BN {K with D:=fun b=>K.D b\/b=w.heap.size} σ.next (w.alloc (.deferred (some []))).heap.size=K2 at st2
   generalize hw2:(w.alloc (.deferred (some []))).alloc (.loop {state:=.ready,pending:=none,fn:=fn,tmps:=a.tmps,params:=ps.toList.toArray,assign:=dS,body:=body,defers:=w.heap.size})=w2 at st2
   have Xx:K2.lp σ.next=w.heap.size+1:=by rw[<-hK2,<-hsz1];exact upd_same _ _ _
   have hA2:K2.A σ.next:=by rw[<-hK2];exact .inr rfl
   have hf2:kg K2 σ.top w2 fr a.tmps:=hf1.ext st2.ext
   have agf:∀s,K2.A s->s<σ.next+1:=fun s hsA=>by
    rcases st2.A s hsA with h1|h1
    ·exact Nat.lt_succ_of_lt (hs.st s h1)
    ·omega
   have hB2:=aav hB1 st2.below.size
   have hra:RelA K2 σ.top w2 [.fn (.yield σ.next) [] []] #[.func (.yield (w.heap.size+1)) #[] #[]]:=by
    refine⟨rfl,fun i hi=> ?_⟩
    have hi0:i=0:=by simpa using hi
    subst hi0
    have:=Rel.yield (K:=K2) (T:=σ.top) (w:=w2) σ.next hA2
    rw[Xx] at this
    exact this
   obtain⟨_,g,first,cap,hcf,hbody,hcall⟩:=Xb hE hS.call st2.ok hB2 agf hfn happ (wW st2.ok hf2 f) hra
   have henter:=run_enterLoop_outer (P:=E.P) (w:=w) fn a.tmps ps dS body
   have hwe:(w.alloc (.deferred (some []))).alloc (.loop {state:=.ready,pending:=none,fn:=fn,tmps:=a.tmps,params:=ps,assign:=dS,body:=body,defers:=w.heap.size})=w2:=by
    rw[<-hw2]
   rw[hwe] at henter
   refine⟨w.heap.size+1,[mark w.heap.size],w2,{target:=.fn (.func g) cap,args:=first++ #[.func (.yield (w.heap.size+1)) #[] #[]]},w2,g,first++ #[.func (.yield (w.heap.size+1)) #[] #[]]++cap,w2,henter, ?_,fun _ _=>trivial, ?_,
    fun hd=>by simp[FW,Fence.wide] at hd, ?_⟩
   ·unfold resolve
    have hargs:(rangeCall f (w.heap.size+1)).args.map a.eval= #[.func (.yield (w.heap.size+1)) #[] #[]]:=by simp[rangeCall,Act.eval]
    rw[hargs]
    simp only[rangeCall,hcf,Deferred.ofValue,Sem.run_pure]
   ·simp only[invoke]
    exact QT hE hbody _ _
   ·have agi:CallsIn (FW none) (0-1) E.P g (first++ #[.func (.yield (w.heap.size+1)) #[] #[]]++cap) w2 _:=hcall
    refine agi.mono ?_
    intro en w3 hp
    cases en with
    |panicked ch=>exact hp.elim
    |outgrown=>exact hp.elim
    |returned cv=>
     obtain⟨K3,r3,KQ,hA3,uq⟩:=hp
     obtain⟨aqG,hb3,hρ3,fn3,agl,D3,hh3,hf3,_⟩:=KQ.loop σ.next r hr
     have BH:K3.lp σ.next=w.heap.size+1:=((uq.ext.A σ.next hA2).2.2.1).trans Xx
     have hend:=run_endLoop (P:=E.P) hh3 (by
      show pz r.st≠ .busy
      unfold pz
      split
      ·simp
      ·simp[hst])
     rw[BH] at hend
     have hB3:=aav hB2 uq.below.size
     have hput:=aV.KP (σ':=σ3.mg σ.next) (new:=newer σ (σ3.mg σ.next)) (o':=.loop {state:=.exhausted,pending:=r.pend.bind qE,fn:=fn3,tmps:=agl,params:=r.ps.toArray,assign:=r.dS,body:=r.body,defers:=D3}) KQ hB3 hb3 hh3 (fun _ _ _=>by simp) (fun _ _=>by simp)
      (fun l r1 hl=>by
        have hll:l≠σ.next:=by
         rintro rfl
         simp[ah.mg,upd] at hl
        have hl1:σ3.loops l=some r1:=by simpa [ah.mg,upd,hll] using hl
        refine⟨hl1,fun e'=> ?_⟩
        have:=(KQ.loop l r1 hl1).2.2.1
        rw[e',hρ3] at this
        cases this
        exact hll rfl) rfl rfl K3.D (fun x hx=>⟨hx,pE (KQ.D x hx) hh3 (by simp)⟩) (fun _ h=>h)
     have Rc:({K3 with D:=K3.D}:aP)=K3:=rfl
     rw[Rc] at hput
     obtain⟨BO,KR⟩:=hput
     rw[BH] at BO KR
     have hσn:(σ3.mg σ.next).next=σ3.next:=rfl
     have pG:=Step.trans (new:=newer σ (σ3.mg σ.next)) st1 ((st2.mono (fun s hs'=>by subst hs';exact⟨RS _,by rw[hσn];omega⟩)).trans ((uq.mono (fun s hs'=>by
      have h1:σ.next+1<=s:=hs'.1
      exact⟨by omega,hs'.2⟩)).trans BO))
     have mk:∀w4,aV E B0 (σ3.mg σ.next) K3 w4->Step E B0 (newer σ (σ3.mg σ.next)) σ K w (σ3.mg σ.next) K3 w4->St E B0 (σ3.mg σ.next) K3 w4 fr {a with defers:=[mark w.heap.size]++a.defers} n ds:=by
      intro w4 KR pG
      refine⟨KR,aav hs.hB pG.below.size,hs.fr.ext pG.ext,hs.sz, ?_,hA3,aav hs.hD pG.below.size⟩
      obtain⟨bs,d1,d2,d3,_⟩:=hs.df
      refine⟨w.heap.size::bs,by simp[d1], ?_,fun b hb=> ?_,fun e=>by rw[hnm] at e;cases e⟩
      ·refine ajP.2 ⟨fun hm=> ?_,d2⟩
       exact Nat.lt_irrefl _ (lt_of_heap (hs.ok.D _ (d3 _ hm).1))
      ·rcases adf.1 hb with rfl|hb
       ·exact⟨uq.D _ (st2.D _ (.inr rfl)),hs.hD⟩
       ·exact⟨pG.D b (d3 b hb).1,(d3 b hb).2⟩
     have hSt:=mk _ KR pG
     refine⟨_,_,hend, ?_⟩
     cases hp:r.pend with
     |none=>
      rw[hp] at he hSt pG
      simp only[Option.bind_none]
      subst he
      exact⟨trivial,K3,hSt,pG⟩
     |some e1=>
      rw[hp] at he hSt pG
      simp only at he
      subst he
      cases e1 with
      |normal=>exact⟨trivial,K3,hSt,pG⟩
      |exit i=>exact wpIn_exit ⟨rfl,K3,hSt,pG⟩
      |ret=>exact wpIn_ret ⟨trivial,K3,hSt,pG⟩
 ·simp at h
end
end Aq
end
section
namespace Aq
open Go Go.RowKit
theorem exists_least {p:Nat->Prop} (h:∃n,p n):∃n,p n/\∀m,p m->n<=m:=by
 obtain⟨n,hn⟩:=h
 induction n using Nat.strongRecOn with
 |_ n ih=>
  by_cases hm:∃m,m<n/\p m
  ·obtain⟨m,hm1,hm2⟩:=hm
   exact ih m hm1 hm2
  ·exact⟨n,hn,fun m hm'=>Classical.byContradiction fun hlt=>hm ⟨m,by omega,hm'⟩⟩
open Classical in
noncomputable def least (p:Nat->Prop):Nat:=if h:∃n,p n then (exists_least h).choose else 0
theorem Xy {p:Nat->Prop} (h:∃n,p n):p (least p)/\∀m,p m->least p<=m:=by
 unfold least
 rw[dif_pos h]
 exact(exists_least h).choose_spec
theorem agn {F:Fence} {rm:Nat} {P:Program} {Q:Exit->Act->World->Prop} {a:Act} {w:World} {c:Code} (I:Nat->Act->World->Prop) (n₀:Nat) (h₀:I n₀ a w)
 (round:∀n a w,I n a w->c.wpIn F rm P (Exit.then (fun a' w'=> ∃n',n'<n/\I n' a' w') Q) a w):(Code.loop c).wpIn F rm P Q a w:=by
 refine wpIn_loop (fun a w=> ∃n,I n a w) (fun a w=>least (fun n=>I n a w)) ⟨n₀,h₀⟩ ?_
 intro a w hI
 refine wpIn_mono (round _ a w (Xy hI).1) ?_
 intro e a' w' hq
 cases e with
 |normal=>
  obtain⟨n',hlt,hI'⟩:=hq
  exact show (∃n,I n a' w')/\least (fun n=>I n a' w')<least (fun n=>I n a w) from ⟨⟨n',hI'⟩,Nat.lt_of_le_of_lt ((Xy ⟨n',hI'⟩).2 n' hI') hlt⟩
 |exit id=>exact hq
 |goto l=>exact hq
 |ret=>exact hq
 |panic ch=>exact hq
 |outgrown=>exact hq
section
variable {E:Env}
def Xz (E:Env) (code:Code->Fr->ah->Option (Ex×Fr×ah)) (c:Code):Prop:=∀fr σ e fr' σ',code c fr σ=some (e,fr',σ')->mG E c fr σ e fr' σ'
theorem agp (hE:mH E) (n:Nat) (hS:∀m,m<=n->Sound E (dK E m)):∀c,Xz E (bZ E (dK E n)) c:=by
 intro c
 induction c with
 |skip=>
  intro fr σ e fr' σ' h
  simp only[bZ,iE,mF] at h
  obtain⟨rfl,rfl,rfl⟩:=h
  exact aeE
 |region id ops dr=>
  intro fr σ e fr' σ' h
  exact af8 hE (hS n (RS _)) h
 |seq x y FT ihy=>
  intro fr σ e fr' σ' h
  simp only[bZ,iR] at h
  obtain⟨⟨e1,bQ,σ1⟩,h1,h⟩:=h
  cases e1 with
  |normal=>exact aeJ (FT _ _ _ _ _ h1) (ihy _ _ _ _ _ h)
  |exit i=>
   simp only[iE,mF] at h
   obtain⟨rfl,rfl,rfl⟩:=h
   exact WK (by simp) (FT _ _ _ _ _ h1)
  |ret=>
   simp only[iE,mF] at h
   obtain⟨rfl,rfl,rfl⟩:=h
   exact WK (by simp) (FT _ _ _ _ _ h1)
 |cond c x y FT ihy=>
  intro fr σ e fr' σ' h
  simp only[bZ,iR] at h
  obtain⟨t,ht,h⟩:=h
  refine aeK ht ?_
  cases t
  ·exact ihy _ _ _ _ _ (by simpa using h)
  ·exact FT _ _ _ _ _ (by simpa using h)
 |block id c ih=>
  intro fr σ e fr' σ' h
  simp only[bZ,aao] at h
  obtain⟨⟨e1,bQ,σ1⟩,h1,h⟩:=h
  have:=aeL (id:=id) (ih _ _ _ _ _ h1)
  cases e1 with
  |normal=>
   simp only[mF] at h
   obtain⟨rfl,rfl,rfl⟩:=h
   exact this
  |ret=>
   simp only[mF] at h
   obtain⟨rfl,rfl,rfl⟩:=h
   exact this
  |exit i=>
   simp only[QF] at this
   simp only at h
   split at h
   ·rename_i hi
    simp only[mF] at h
    obtain⟨rfl,rfl,rfl⟩:=h
    rwa[if_pos hi] at this
   ·rename_i hi
    simp only[mF] at h
    obtain⟨rfl,rfl,rfl⟩:=h
    rwa[if_neg hi] at this
 |loop c ih=>
  intro fr σ e fr' σ' h
  have hm:(dK E (n+1)).code (.loop c) fr σ=some (e,fr',σ'):=h
  have hbody:∀k,k<=n->Xz E (bZ E (dK E k)) c:=by
   intro k hk
   by_cases hkn:k=n
   ·subst hkn;exact ih
   ·intro fr σ e fr' σ' hc
    exact(hS (k+1) (by omega)).code c fr σ e fr' σ' hc
  have hnext:∀(k:Nat) (fr:Fr) (σ:ah),k<=n+1->(dK E k).code (.loop c) fr σ=some (e,fr',σ')->σ.next<=σ'.next:=by
   intro k
   induction k with
   |zero=>intro fr σ _ hh;cases hh
   |succ k ihk=>
    intro fr σ hk hh
    have hh':bZ E (dK E k) (.loop c) fr σ=some (e,fr',σ'):=hh
    simp only[bZ,iR] at hh'
    obtain⟨⟨e1,bQ,σ1⟩,h1,h2⟩:=hh'
    have hb:=(hbody k (by omega) _ _ _ _ _ h1).1
    cases e1 with
    |normal=>exact aav hb (ihk bQ σ1 (by omega) h2)
    |exit i=>simp only[iE,mF] at h2;obtain⟨_,_,rfl⟩:=h2;exact hb
    |ret=>simp only[iE,mF] at h2;obtain⟨_,_,rfl⟩:=h2;exact hb
  refine⟨hnext (n+1) fr σ (RS _) hm,fun ro B0 K w a sz ds hs hok hnr=> ?_⟩
  refine agn (fun m a1 w1=>m<=n+1/\∃bQ σ1 K1,(dK E m).code (.loop c) bQ σ1=some (e,fr',σ')/\St E B0 σ1 K1 w1 bQ a1 sz ds/\Step E B0 (newer σ σ1) σ K w σ1 K1 w1/\σ.next<=σ1.next) (n+1)
   ⟨RS _,fr,σ,K,hm,hs,.refl hs.ok,RS _⟩ ?_
  rintro m a1 w1 ⟨hmn,bQ,σ1,K1,hcode,hs1,st1,hle1⟩
  cases m with
  |zero=>cases hcode
  |succ k=>
   have hh':bZ E (dK E k) (.loop c) bQ σ1=some (e,fr',σ'):=hcode
   simp only[bZ,iR] at hh'
   obtain⟨⟨e2,fK,σ2⟩,h1,h2⟩:=hh'
   obtain⟨hle2,hwp⟩:=hbody k (by omega) _ _ _ _ _ h1
   refine wpIn_mono (hwp ro B0 K1 w1 a1 sz ds hs1 hok hnr) ?_
   rintro x a2 w2 ⟨hx,K2,hs2,st2⟩
   cases e2 with
   |normal=>
    cases x<;>simp only[ow] at hx
    exact⟨k,ake k,by omega,fK,σ2,K2,h2,hs2,st1.widen st2 hle1 hle2,aav hle1 hle2⟩
   |exit i=>
    simp only[iE,mF] at h2
    obtain⟨rfl,rfl,rfl⟩:=h2
    cases x<;>simp only[ow] at hx
    exact⟨hx,K2,hs2,st1.widen st2 hle1 hle2⟩
   |ret=>
    simp only[iE,mF] at h2
    obtain⟨rfl,rfl,rfl⟩:=h2
    cases x<;>simp only[ow] at hx
    exact⟨trivial,K2,hs2,st1.widen st2 hle1 hle2⟩
 |rangeFunc f ps x y=>intro fr σ e fr' σ' h;exact agd hE (hS n (RS _)) h
 |exit id=>
  intro fr σ e fr' σ' h
  simp only[bZ,iE,mF] at h
  obtain⟨rfl,rfl,rfl⟩:=h
  exact aeF id
 |scope c ih=>
  intro fr σ e fr' σ' h
  simp only[bZ] at h
  exact aeI (ih _ _ _ _ _ h)
 |label l=>
  intro fr σ e fr' σ' h
  simp only[bZ,iE,mF] at h
  obtain⟨rfl,rfl,rfl⟩:=h
  exact aeH l
 |goto l=>intro fr σ e fr' σ' h;simp[bZ] at h
 |ret=>
  intro fr σ e fr' σ' h
  simp only[bZ,iE,mF] at h
  obtain⟨rfl,rfl,rfl⟩:=h
  exact aeG
 |refuse why=>intro fr σ e fr' σ' h;simp[bZ] at h
variable {B0:Nat} {σ:ah} {K:aP} {w:World} {fr:Fr}
def KS (tmps:Array Value):ResultVar->Sem Value
 |.tmp t=>pure (tmps.getD t undef)
 |.cell a t=>do loadVar t (<-asAddr (tmps.getD a undef))
theorem agq (h:aV E B0 σ K w) {tmps:Array Value} (hf:kg K σ.top w fr tmps) {r:ResultVar} {v:V} (hv:lX E fr σ r=some v):
 ∃c,(KS tmps r).run E.P w= .ok c w/\Rel K σ.top w v c:=by
 cases r with
 |tmp t=>
  simp only[lX,iE] at hv
  subst hv
  exact⟨_,rfl,hf t⟩
 |cell a t=>
  simp only[lX] at hv
  have ha:=hf a
  cases hx:fr.tm a with
  |ref loc s off=>
   rw[hx] at hv ha
   simp only at hv
   obtain⟨c,h1,h2⟩:=Qp h (t:=t) ha (v:=v) hv
   simp only[KS]
   generalize tmps.getD a undef=ca at h1 ha
   cases ha with
   |ref _ _ _ hA=>
    refine⟨c, ?_,h2⟩
    simpa [Instr.loadAt,Instr.sureAddr,asAddr] using h1
  |_=>rw[hx] at hv;simp at hv
theorem agr (h:aV E B0 σ K w) {tmps:Array Value} (hf:kg K σ.top w fr tmps):∀(rs:List ResultVar) (vs:List V),rs.mapM (lX E fr σ)=some vs->
 ∃cs:List Value,(rs.mapM (KS tmps)).run E.P w= .ok cs w/\vs.length=cs.length/\
  ∀i,i<vs.length->Rel K σ.top w (vs.getD i aC) (cs.getD i undef):=by
 intro rs
 induction rs with
 |nil=>intro vs hv;simp at hv;subst hv;exact⟨[],by simp,rfl,fun i hi=>absurd hi (aat i)⟩
 |cons r rs ih=>
  intro vs hv
  simp only[adi,Option.pure_def,Option.bind_eq_bind,iR,iE] at hv
  obtain⟨v,h1,vs',h2,rfl⟩:=hv
  obtain⟨c,g1,g2⟩:=agq h hf h1
  obtain⟨cs,k1,k2,k3⟩:=ih vs' h2
  refine⟨c::cs, ?_,by simp[k2],fun i hi=> ?_⟩
  ·simp only[adi,Sem.run_bind,g1,Result.andThen_ok,k1,Sem.run_pure]
  ·cases i with
   |zero=>exact g2
   |succ i=>exact k3 i (by simpa using hi)
theorem ags {fn:Func} {tmps:Array Value} {R:Ending->World->Prop} {B1:Nat} (hB1:B0<=B1) (KD:Nat->Prop):∀(bs:List Nat) (K:aP) (w:World),aV E B0 σ K w->B0<=w.heap.size->bs.Nodup->(∀b∈bs,K.D b/\B1<=b)->(∀b,KD b->K.D b)->(∀b,KD b->b<B1)->
 (∀w1,Step E B0 (fun _=>False) σ {K with D:=KD} w σ {K with D:=KD} w1->LeavesIn Fence.wide 0 E.P fn tmps R [] .returning w1)->LeavesInM Fence.wide 0 E.P fn tmps R (bs.map mark) .returning w:=by
 intro bs
 induction bs with
 |nil=>
  intro K w h _ _ _ hk _ hl
  refine hl w (.refl (h.KO KD (fun b hb=>h.D b (hk b hb))))
 |cons b bs ih=>
  intro K w h hB hnd hbs hk hlt hl
  obtain⟨hb,FU⟩:=hbs b (by simp)
  have hheap:=h.D b hb
  have hput:=aV.KP (σ':=σ) (new:=fun _=>False) (o':=.deferred none) h hB (aav hB1 FU) hheap (fun _ _ _=>by simp) (fun _ _=>by simp)
   (fun l r hl=>by
     obtain⟨_,_,_,_,_,_,hh,_⟩:=h.loop l r hl
     exact⟨hl,pE hh hheap (by simp)⟩) rfl rfl
  have ok1:aV E B0 σ {K with D:=fun x=>K.D x/\x≠b} (w.putObj b (.deferred none)):=by
   have ho:=QK w b (.deferred none)
   have h0:aV E B0 σ {K with D:=fun _=>False} w:=h.KO _ (fun b hb=>hb.elim)
   have hp:=(aV.KP (σ':=σ) (new:=fun _=>False) (o':=.deferred none) h0 hB (aav hB1 FU) hheap (fun _ _ _=>by simp) (fun _ _=>by simp)
    (fun l r hl=>by
      obtain⟨_,_,_,_,_,_,hh,_⟩:=h.loop l r hl
      exact⟨hl,pE hh hheap (by simp)⟩) rfl rfl (fun _=>False) (fun x hx=>hx.elim) (fun _ h=>h)).2
   exact hp.KO (fun x=>K.D x/\x≠b) (fun x hx=>by
    rw[World.putObj_heap_other hx.2];exact h.D x hx.1)
  refine⟨by simp,.inl ⟨b,w.putObj b (.deferred none),rfl,run_takeDeferred hheap, ?_⟩⟩
  refine ih {K with D:=fun x=>K.D x/\x≠b} (w.putObj b (.deferred none)) ok1 (by simpa using hB) (ajP.1 hnd).2
   (fun x hx=>⟨⟨(hbs x (by simp[hx])).1,fun e=>(ajP.1 hnd).1 (e▸hx)⟩,(hbs x (by simp[hx])).2⟩) (fun x hx=>⟨hk x hx,fun e=>by have:=hlt x hx;omega⟩) hlt (fun w1 st=>hl w1 ?_)
  have Rc:aV E B0 σ {K with D:=KD} w:=h.KO KD (fun b hb=>h.D b (hk b hb))
  have st0:=(aV.KP (σ':=σ) (new:=fun _=>False) (o':=.deferred none) Rc hB (aav hB1 FU) hheap (fun _ _ _=>by simp) (fun _ _=>by simp)
   (fun l r hl=>by
     obtain⟨_,_,_,_,_,_,hh,_⟩:=h.loop l r hl
     exact⟨hl,pE hh hheap (by simp)⟩) rfl rfl KD (fun x hx=>⟨hx,fun e=>by have h1:x<B1:=hlt x hx;omega⟩) (fun _ h=>h)).1
  exact st0.trans st
theorem agt (n:Nat) (hS:Kr E (dK E n).code):Fz E (um E (dK E n)):=by
 intro f args d σ v σ' h
 simp only[um,iR] at h
 obtain⟨fn,hfn,c,hc,h⟩:=h
 split at h
 ·rename_i hok
  simp only[iR] at h
  obtain⟨⟨e,bQ,σ1⟩,hcode,h⟩:=h
  have hne:e= .normal\/e= .ret:=by
   cases e with
   |normal=>exact .inl rfl
   |ret=>exact .inr rfl
   |exit i=>simp at h
  have h':(fn.results.toList.mapM (lX E bQ σ1)).map (fun vs=>(match vs with| [v]=>v|vs=>.bE vs,σ1))=some (v,σ'):=by
   rcases hne with rfl|rfl<;>exact h
  simp only[aao,mF] at h'
  obtain⟨vs,hvs,hv,rfl⟩:=h'
  obtain⟨hle,hwp⟩:=hS _ _ _ _ _ _ hcode
  refine⟨hle,⟨fn,c,hfn,hc⟩,fun ro B0 K w dB hs hB hA hr=> ?_⟩
  have hsz:dB.size=args.length:=hr.1.symm
  have hst:St E B0 σ K w {d:=d,om:=E.om f,tm:=fun i=>args.getD i aC} {tmps:=dB++Array.replicate (fn.ntmps-dB.size) undef,defers:=[]} fn.ntmps ⟨[],w.heap.size,false⟩:=by
   refine⟨hs,hB,fun t=> ?_,by simp;omega,⟨[],rfl,List.nodup_nil,(fun b hb=>by cases hb),fun _=>rfl⟩,hA,RS _⟩
   show Rel K σ.top w (args.getD t aC) _
   by_cases ht:t<args.length
   ·have e1:(dB++Array.replicate (fn.ntmps-dB.size) undef).getD t undef=dB.getD t undef:=by
     simp only[amc]
     rw[Array.getElem?_append_left (by omega)]
    rw[e1];exact hr.2 t ht
   ·have e1:(dB++Array.replicate (fn.ntmps-dB.size) undef).getD t undef=undef:=by
     simp only[amc]
     rw[Array.getElem?_append_right (by omega),Array.getElem?_replicate]
     split<;>rfl
    have e2:args.getD t aC=aC:=by simp[List.getD,List.getElem?_eq_none (Nat.le_of_not_lt ht)]
    rw[e1,e2];exact .undef _ _ _
  have hwp':=hwp none B0 K w _ fn.ntmps ⟨[],w.heap.size,false⟩ hst hok.2 (.inl ⟨rfl,rfl⟩)
  have agu:CallsIn Fence.wide 0 E.P f dB w (xg E B0 σ K w v σ1):=by
   refine callsIn_of_wp_marks hfn hc trivial (wpIn_mono hwp' ?_)
   rintro x a' w' ⟨hx,K',hs',st'⟩
   have hleave:LeavesInM Fence.wide 0 E.P fn a'.tmps (xg E B0 σ K w v σ1) a'.defers .returning w':=by
    obtain⟨bs,d1,d2,d3,_⟩:=hs'.df
    rw[d1,aeX]
    refine ags (B1:=w.heap.size) hB K.D bs K' w' hs'.ok hs'.hB d2 d3 st'.D (fun b hb=>lt_of_heap (hs.D b hb)) (fun w1 KT=> ?_)
    have Rf:=KT.ok
    have hf2:kg {K' with D:=K.D} σ1.top w1 bQ a'.tmps:=by
     have e1:Ext K' σ1.top w' {K' with D:=K.D} σ1.top w1:=(Rb K' σ1.top w' K.D).trans KT.ext
     exact hs'.fr.ext e1
    obtain⟨cs,k1,k2,k3⟩:=agr Rf hf2 fn.results.toList vs hvs
    have hrun:(results fn a'.tmps).run E.P w1= .ok (if h:cs.toArray.size=1 then cs.toArray[0] else .tuple cs.toArray) w1:=by
     have hres:results fn a'.tmps=(do let vs<-fn.results.mapM (KS a'.tmps);pure (if h:vs.size=1 then vs[0] else .tuple vs)):=rfl
     rw[hres,Array.mapM_eq_mapM_toList]
     simp only[Sem.run_bind,Sem.run_map,k1,Result.andThen_ok,Sem.run_pure]
    have KC:Step E B0 (newer σ σ1) σ K w σ1 {K' with D:=K.D} w1:=
     ⟨Rf,st'.ext.trans ((Rb K' σ1.top w' K.D).trans KT.ext),st'.below.trans KT.below,fun _ h=>h,st'.A,st'.nI,st'.wU⟩
    refine⟨_,hrun,{K' with D:=K.D}, ?_,Rf,hs'.st,KC⟩
    rw[<-hv]
    cases vs with
    |nil=>
     have:cs=[]:=by simpa using k2.symm
     subst this
     exact .bE [] #[] rfl (fun i hi=>absurd hi (aat i))
    |cons v1 vs=>
     cases cs with
     |nil=>simp at k2
     |cons c1 cs=>
      cases vs with
      |nil=>
       have:cs=[]:=by simpa using k2.symm
       subst this
       have:=k3 0 (by simp)
       simpa using this
      |cons v2 vs=>
       have hsz2:¬((c1::cs).toArray.size=1):=by
        simp only[List.length_cons,Nat.add_right_cancel_iff] at k2
        rw[List.size_toArray,List.length_cons]
        omega
       rw[dif_neg hsz2]
       refine .bE _ _ (by simpa using k2) (fun i hi=> ?_)
       have:=k3 i hi
       simpa [amc,List.getD] using this
   rcases hne with rfl|rfl<;>cases x<;>simp only[ow] at hx<;>exact hleave
  exact agu
 ·simp at h
theorem agv (hE:mH E):∀n,Sound E (dK E n):=by
 have all:∀n m,m<=n->Sound E (dK E m):=by
  intro n
  induction n with
  |zero=>
   intro m hm
   obtain rfl:m=0:=by omega
   exact⟨(fun _ _ _ _ _ _ h=>by cases h),(fun _ _ _ _ _ _ h=>by cases h)⟩
  |succ n ih=>
   intro m hm
   by_cases hmn:m<=n
   ·exact ih m hmn
   ·obtain rfl:m=n+1:=by omega
    exact⟨fun c fr σ e fr' σ' h=>agp hE n ih c fr σ e fr' σ' h,agt n (ih n (RS _)).code⟩
 exact fun n=>all n n (RS _)
theorem agw (hE:mH E) {n:Nat} {f:FuncId} {args:List V} {v:V} (h:jJ E (dK E n) f args=some v):sU E f args v:=WS hE (agv hE n).call h
end
end Aq
end
section
namespace Aq
open Go
section
variable {E:Env}
def iG (S T:jI):Prop:=(∀c fr σ r,S.code c fr σ=some r->T.code c fr σ=some r)/\∀f args d σ r,S.call f args d σ=some r->T.call f args d σ=some r
variable {S T:jI}
theorem BQ (h:iG S T) {f:FuncId} {args:List V} {v:V} (hc:jJ E S f args=some v):jJ E T f args=some v:=by
 unfold jJ at hc⊢
 cases hg:E.jO f with
 |some g=>simp only[hg] at hc⊢;exact hc
 |none=>
  simp only[hg,iR] at hc⊢
  obtain⟨x,h1,h2⟩:=hc
  exact⟨x,h.2 _ _ _ _ _ h1,h2⟩
theorem Rh (h:iG S T) {l:Nat} {args:List V} {σ:ah} {r:V×ah} (hc:sN S l args σ=some r):sN T l args σ=some r:=by
 unfold sN at hc⊢
 simp only[iR] at hc⊢
 obtain⟨r0,hl,hc⟩:=hc
 refine⟨r0,hl, ?_⟩
 split at hc
 ·rename_i hst
  rw[if_pos hst]
  simp only[iR] at hc⊢
  obtain⟨⟨e1,bQ,σ1⟩,FB,hc⟩:=hc
  refine⟨(e1,bQ,σ1),h.1 _ _ _ _ FB, ?_⟩
  cases e1 with
  |normal=>
   simp only[iR] at hc⊢
   obtain⟨r1,hl1,hc⟩:=hc
   refine⟨r1,hl1, ?_⟩
   split at hc
   ·rename_i xu
    rw[if_pos xu]
    simp only[iR] at hc⊢
    obtain⟨x,hb,y,hy,hc⟩:=hc
    exact⟨x,h.1 _ _ _ _ hb,y,hy,hc⟩
   ·simp at hc
  |exit i=>simp at hc
  |ret=>simp at hc
 ·simp at hc
theorem XA (h:iG S T) {d:Nat} {σ:ah} {fv:V} {args:List V} {r:V×ah} (hc:iL E S d σ fv args=some r):iL E T d σ fv args=some r:=by
 unfold iL at hc⊢
 split at hc
 ·split at hc
  ·rename_i hi;simp only[hi,if_true];exact h.2 _ _ _ _ _ hc
  ·rename_i hi
   simp only[iR] at hc
   obtain⟨as,h1,v,h2,h3⟩:=hc
   simp only[hi,h1,Option.bind_some,BQ h h2]
   exact h3
 ·exact Rh h hc
 ·simp at hc
theorem XB (h:iG S T) {σ:ah} {st:Nat} {fv:V} {args:List V} {r:V×ah} (hc:mW E S σ st fv args=some r):mW E T σ st fv args=some r:=by
 unfold mW at hc⊢
 split at hc
 ·split at hc
  ·rename_i hi
   simp only[iR] at hc
   obtain⟨as,h1,v,h2,h3⟩:=hc
   simp only[hi,if_true,h1,Option.bind_some,h.2 _ _ _ _ _ h2]
   exact h3
  ·cases hc
 ·cases hc
theorem Ri (h:iG S T) {fr:Fr} {σ:ah} {st:Nat} {o:Oper} {r:V×Fr×ah} (hc:opC E S fr σ st o=some r):opC E T fr σ st o=some r:=by
 unfold opC at hc⊢
 split at hc
 ·rename_i c ho
  simp only[ho] at hc⊢
  split at hc
  ·exact hc
  ·rename_i f hf
   split at hc
   ·rename_i dW
    simp only[dW,if_true]
    simp only[aao] at hc⊢
    obtain⟨x,h1,h2⟩:=hc
    exact⟨x,XB h h1,h2⟩
   rename_i dW
   simp only[dW,if_false,aap]
   simp only[aao] at hc⊢
   obtain⟨x,h1,h2⟩:=hc
   exact⟨x,XA h h1,h2⟩
  ·simp at hc
 ·simp at hc
 ·exact hc
theorem FV (h:iG S T) (all:List Oper):∀(os:List Oper) (st:Nat) (fr:Fr) (σ:ah) (r:Fr×ah),opsE E S all st os fr σ=some r->opsE E T all st os fr σ=some r:=by
 intro os
 induction os with
 |nil=>intro st fr σ r hc;exact hc
 |cons o os ih=>
  intro st fr σ r hc
  simp only[opsE,iR] at hc⊢
  obtain⟨t,h1,h2⟩:=hc
  refine⟨t,h1, ?_⟩
  cases t with
  |true=>
   simp only[if_true,iR] at h2⊢
   obtain⟨x,h3,h4⟩:=h2
   exact⟨x,Ri h h3,ih _ _ _ _ h4⟩
  |false=>
   simp only[aap,if_false] at h2⊢
   exact ih _ _ _ _ h2
theorem KU (h:iG S T) (all:List Oper):∀(os:List Oper) (st:Nat) (fr:Fr) (σ:ah) (r:List bV×Fr×ah),kY E S all st os fr σ=some r->kY E T all st os fr σ=some r:=by
 intro os
 induction os with
 |nil=>intro st fr σ r hc;exact hc
 |cons o os ih=>
  intro st fr σ r hc
  simp only[kY,iR] at hc⊢
  obtain⟨t,h1,h2⟩:=hc
  refine⟨t,h1, ?_⟩
  cases t with
  |true=>
   simp only[if_true,iR,aao] at h2⊢
   obtain⟨x,h3,y,h4,h5⟩:=h2
   exact⟨x,Ri h h3,y,ih _ _ _ _ h4,h5⟩
  |false=>
   simp only[aap,if_false,aao] at h2⊢
   obtain⟨y,h4,h5⟩:=h2
   exact⟨y,ih _ _ _ _ h4,h5⟩
theorem agx (h:iG S T) {ops:List Oper} {base i:Nat} {fr:Fr} {σ:ah} {r:Fr×ah} (hc:jK E S ops base i fr σ=some r):jK E T ops base i fr σ=some r:=by
 unfold jK at hc⊢
 split at hc
 ·exact hc
 ·simp only[iR] at hc⊢
  obtain⟨t,h1,h2⟩:=hc
  refine⟨t,h1, ?_⟩
  cases t with
  |true=>
   simp only[if_true,aao] at h2⊢
   obtain⟨x,h3,h4⟩:=h2
   exact⟨x,Ri h h3,h4⟩
  |false=>simpa using h2
theorem agy (h:iG S T) {ms:List Nat} {ops:List Oper} {base:Nat} {x y:Fr×ah} (hf:Free E S ms ops base x y):Free E T ms ops base x y:=by
 obtain⟨s,T',W,h0,hn,zm,hloc,hr⟩:=hf
 refine⟨s,T',W,h0,hn,zm,fun i hi x hx=> ?_,hr⟩
 obtain⟨y,h1,h2⟩:=hloc i hi x hx
 exact⟨y,agx h h1,h2⟩
theorem zu (h:iG S T):∀(c:Code) (fr:Fr) (σ:ah) (r:Ex×Fr×ah),bZ E S c fr σ=some r->bZ E T c fr σ=some r:=by
 intro c
 induction c with
 |region id ops dr=>
  intro fr σ r hc
  simp only[bZ] at hc⊢
  split at hc
  ·rename_i hd
   simp only[hd,if_true,iR] at hc⊢
   obtain⟨x,h1,h2⟩:=hc
   refine⟨x,KU h _ _ _ _ _ _ h1, ?_⟩
   split at h2
   ·rename_i hp;rw[if_pos hp];exact h2
   ·rename_i hp
    rw[if_neg hp]
    unfold J8 at h2⊢
    split at h2
    ·rename_i hf
     rw[if_pos ⟨hf.1,agy h hf.2⟩];exact h2
    ·cases h2
  ·rename_i hd
   simp only[hd,aap,if_false,aao] at hc⊢
   obtain⟨x,h1,h2⟩:=hc
   exact⟨x,FV h _ _ _ _ _ _ h1,h2⟩
 |seq a b iha ihb=>
  intro fr σ r hc
  simp only[bZ,iR] at hc⊢
  obtain⟨⟨e,bQ,σ1⟩,h1,h2⟩:=hc
  refine⟨(e,bQ,σ1),iha _ _ _ h1, ?_⟩
  cases e with
  |normal=>exact ihb _ _ _ h2
  |exit i=>exact h2
  |ret=>exact h2
 |cond c a b iha ihb=>
  intro fr σ r hc
  simp only[bZ,iR] at hc⊢
  obtain⟨t,h1,h2⟩:=hc
  refine⟨t,h1, ?_⟩
  cases t with
  |true=>simp only[if_true] at h2⊢;exact iha _ _ _ h2
  |false=>simp only[aap,if_false] at h2⊢;exact ihb _ _ _ h2
 |block id c ih=>
  intro fr σ r hc
  simp only[bZ,aao] at hc⊢
  obtain⟨x,h1,h2⟩:=hc
  exact⟨x,ih _ _ _ h1,h2⟩
 |loop c ih=>
  intro fr σ r hc
  simp only[bZ,iR] at hc⊢
  obtain⟨⟨e,bQ,σ1⟩,h1,h2⟩:=hc
  refine⟨(e,bQ,σ1),ih _ _ _ h1, ?_⟩
  cases e with
  |normal=>exact h.1 _ _ _ _ h2
  |exit i=>exact h2
  |ret=>exact h2
 |rangeFunc f ps a b iha ihb=>
  intro fr σ r hc
  simp only[bZ] at hc⊢
  split at hc
  ·rename_i hf
   rw[if_pos hf]
   simp only[iR] at hc⊢
   obtain⟨x,h1,h2⟩:=hc
   exact⟨x,XA h h1,h2⟩
  ·simp at hc
 |scope c ih=>intro fr σ r hc;simp only[bZ] at hc⊢;exact ih _ _ _ hc
 |_=>intro fr σ r hc;simpa [bZ] using hc
theorem XC (h:iG S T) {f:FuncId} {args:List V} {d:Nat} {σ:ah} {r:V×ah} (hc:um E S f args d σ=some r):um E T f args d σ=some r:=by
 simp only[um,iR] at hc⊢
 obtain⟨fn,h1,c,h2,h3⟩:=hc
 refine⟨fn,h1,c,h2, ?_⟩
 split at h3
 ·rename_i hok
  rw[if_pos hok]
  simp only[iR] at h3⊢
  obtain⟨x,h4,h5⟩:=h3
  exact⟨x,h.1 _ _ _ _ h4,h5⟩
 ·simp at h3
theorem agz:∀n,iG (dK E n) (dK E (n+1)):=by
 intro n
 induction n with
 |zero=>exact⟨(fun _ _ _ _ h=>by cases h),(fun _ _ _ _ _ h=>by cases h)⟩
 |succ n ih=>exact⟨fun c fr σ r h=>zu ih c fr σ r h,fun f args d σ r h=>XC ih h⟩
theorem iG.refl (S:jI):iG S S:=⟨fun _ _ _ _ h=>h,fun _ _ _ _ _ h=>h⟩
theorem iG.trans {S T U:jI} (h:iG S T) (g:iG T U):iG S U:=⟨fun _ _ _ _ x=>g.1 _ _ _ _ (h.1 _ _ _ _ x),fun _ _ _ _ _ x=>g.2 _ _ _ _ _ (h.2 _ _ _ _ _ x)⟩
theorem kC {n m:Nat} (h:n<=m):iG (dK E n) (dK E m):=by
 induction m with
 |zero=>obtain rfl:n=0:=by omega
        exact .refl _
 |succ m ih=>
  by_cases e:n=m+1
  ·subst e;exact .refl _
  ·exact(ih (by omega)).trans (agz m)
end
section
variable (E:Env)
def OW (all:List Oper) (st:Nat) (os:List Oper) (fr:Fr) (σ:ah) (Q:Fr->ah->Prop):Prop:=
 ∃n fr' σ',opsE E (dK E n) all st os fr σ=some (fr',σ')/\Q fr' σ'
def dU (ms:List Nat) (all:List Oper) (st:Nat) (os:List Oper) (fr:Fr) (σ:ah) (fs:List bV) (Q:Fr->ah->Prop):Prop:=
 ∃n fs' fr' σ',kY E (dK E n) all st os fr σ=some (fs',fr',σ')/\vD ms (fs++fs')=true/\Q fr' σ'
def CW (c:Code) (fr:Fr) (σ:ah) (Q:Ex->Fr->ah->Prop):Prop:=
 ∃n e fr' σ',bZ E (dK E n) c fr σ=some (e,fr',σ')/\Q e fr' σ'
def Pure (f:FuncId) (args:List V) (v:V):Prop:=∃n,jJ E (dK E n) f args=some v
def qJ (f:FuncId) (args:List V) (d:Nat) (σ:ah) (Q:V->ah->Prop):Prop:=∃n v σ',(dK E n).call f args d σ=some (v,σ')/\Q v σ'
end
section
variable {E:Env} {fr:Fr} {σ:ah}
theorem Pure.ok (hE:mH E) {f:FuncId} {args:List V} {v:V} (h:Pure E f args v):sU E f args v:=h.elim fun _ h=>agw hE h
theorem OW.mono {all:List Oper} {st:Nat} {os:List Oper} {Q Q':Fr->ah->Prop} (h:OW E all st os fr σ Q) (hq:∀fr σ,Q fr σ->Q' fr σ):OW E all st os fr σ Q':=
 let ⟨n,fr',σ',h1,h2⟩:=h;⟨n,fr',σ',h1,hq _ _ h2⟩
theorem CW.mono {c:Code} {Q Q':Ex->Fr->ah->Prop} (h:CW E c fr σ Q) (hq:∀e fr σ,Q e fr σ->Q' e fr σ):CW E c fr σ Q':=
 let ⟨n,e,fr',σ',h1,h2⟩:=h;⟨n,e,fr',σ',h1,hq _ _ _ h2⟩
theorem OW.nil {all:List Oper} {st:Nat} {Q:Fr->ah->Prop} (h:Q fr σ):OW E all st [] fr σ Q:=⟨0,fr,σ,rfl,h⟩
theorem OW.op {all:List Oper} {st:Nat} {o:Oper} {os:List Oper} {v:V} {σ1:ah} {Q:Fr->ah->Prop} (hw:eT all fr o=some true) (hop:∀S,opC E S fr σ st o=some (v,fr,σ1))
 (h:OW E all (st+1) os (fr.put o.dst v) σ1 Q):OW E all st (o::os) fr σ Q:=by
 obtain⟨n,fr',σ',h1,h2⟩:=h
 exact⟨n,fr',σ',by simp only[opsE,hw,Option.bind_some,if_true,hop,h1],h2⟩
theorem OW.skip {all:List Oper} {st:Nat} {o:Oper} {os:List Oper} {Q:Fr->ah->Prop} (hw:eT all fr o=some false) (h:OW E all (st+1) os (fr.put o.dst aC) σ Q):OW E all st (o::os) fr σ Q:=by
 obtain⟨n,fr',σ',h1,h2⟩:=h
 exact⟨n,fr',σ',by simp only[opsE,hw,Option.bind_some,aap,if_false,h1],h2⟩
theorem XD {d:Nat} {g:FuncId} {a b args as:List V} {v:V} {n:Nat} (hi:E.imp g=false) (has:(a++args++b).mapM (aQ 20 σ)=some as) (hp:jJ E (dK E n) g as=some v)
 (hc:((a++args++b).all (fun x=>aF (er x))||flat v)=true):iL E (dK E n) d σ (.fn (.func g) a b) args=some (v,σ):=by
 unfold iL
 simp only[hi,aap,if_false,has,Option.bind_some,hp,hc,if_true]
theorem KV {o:Oper} {f:Operand} {g:FuncId} {a b:List V} (hf:fr.ev E f= .fn (.func g) a b) (h:∀d,o.dst=some d->E.own g d=false):jP E fr o f=false:=by
 unfold jP
 rw[hf]
 cases hd:o.dst with
 |none=>rfl
 |some d=>exact h d hd
def oC (E:Env) (f:FuncId) (as:List V) (sz:Nat) (l:List V):Prop:=∃n v σ1,(dK E n).call f as 1 ah.init=some (v,σ1)/\∀st σ,(∃c,(c= .nil\/c= .full)/\oo σ st σ1 v=some (.aj c l,σ))\/oo σ st σ1 v=some (.aj (.own sz st) l,σ.bU st l.length)
theorem oC.of {f:FuncId} {as:List V} {sz:Nat} {l:List V} {n:Nat} {c:Cap} {σ1:ah} (h:(dK E n).call f as 1 ah.init=some (.aj c l,σ1)) (hp:aX l=true) (hc:c= .nil\/c= .full\/∃s,c= .own sz s/\σ1.top s=l.length):oC E f as sz l:=by
 refine⟨n,_,σ1,h,fun st σ=> ?_⟩
 rcases hc with rfl|rfl| ⟨s,rfl,ht⟩
 ·exact .inl ⟨.nil,.inl rfl,by unfold oo;dsimp only;rw[if_pos hp]⟩
 ·exact .inl ⟨.full,.inr rfl,by unfold oo;dsimp only;rw[if_pos hp]⟩
 ·exact .inr (by unfold oo;dsimp only;rw[if_pos hp,if_pos ht])
theorem OW.own {all:List Oper} {st:Nat} {o:Oper} {os:List Oper} {Q:Fr->ah->Prop} {c:Call} {f:Operand} {g:FuncId} {a b as l:List V} {d sz:Nat} (hw:eT all fr o=some true) (ho:o.op= .call c) (fu:c.callee= .value f)
 (hf:fr.ev E f= .fn (.func g) a b) (hd:o.dst=some d) (hown:E.own g d=true) (has:qB (E.vB g) σ (a++c.args.toList.map (fr.ev E)++b)=some as) (hp:oC E g as sz l)
 (hc:(a++c.args.toList.map (fr.ev E)++b).all (fun x=>aF (er x))=true)
 (h1:∀c,c= .nil\/c= .full->OW E all (st+1) os (fr.put o.dst (.aj c l)) σ Q) (h2:OW E all (st+1) os (fr.put o.dst (.aj (.own sz st) l)) (σ.bU st l.length) Q):OW E all st (o::os) fr σ Q:=by
 obtain⟨m,v0,σ1,hm,hcp⟩:=hp
 have dW:jP E fr o f=true:=by unfold jP;rw[hf,hd];exact hown
 have go:∀(v:V) (σ2:ah),oo σ st σ1 v0=some (v,σ2)->OW E all (st+1) os (fr.put o.dst v) σ2 Q->OW E all st (o::os) fr σ Q:=by
  rintro v σ2 hr ⟨n,fr',σ',g1,g2⟩
  have hm':=(kC (ajL n m)).2 _ _ _ _ _ hm
  have g1':=FV (kC (ajR n m)) _ _ _ _ _ _ g1
  refine⟨max n m,fr',σ', ?_,g2⟩
  have hov:mW E (dK E (max n m)) σ st (.fn (.func g) a b) (c.args.toList.map (fr.ev E))=some (v,σ2):=by
   unfold mW
   dsimp only
   rw[if_pos hc,has,Option.bind_some,hm',Option.bind_some]
   exact hr
  simp only[opsE,hw,Option.bind_some,if_true,opC,ho,fu,dW]
  rw[hf,hov]
  simp only[Option.map_some,Option.bind_some,g1']
 rcases hcp st σ with ⟨c,hc,hr⟩|hr
 ·exact go _ _ hr (h1 c hc)
 ·exact go _ _ hr h2
theorem OW.call {all:List Oper} {st:Nat} {o:Oper} {os:List Oper} {v:V} {Q:Fr->ah->Prop} {c:Call} {f:Operand} {g:FuncId} {a b as:List V} (hw:eT all fr o=some true) (ho:o.op= .call c) (fu:c.callee= .value f)
 (hf:fr.ev E f= .fn (.func g) a b) (hi:E.imp g=false) (has:(a++c.args.toList.map (fr.ev E)++b).mapM (aQ 20 σ)=some as) (hp:Pure E g as v)
 (hc:((a++c.args.toList.map (fr.ev E)++b).all (fun x=>aF (er x))||flat v)=true) (h:OW E all (st+1) os (fr.put o.dst v) σ Q) (dW:∀d,o.dst=some d->E.own g d=false:=by intros;rfl):OW E all st (o::os) fr σ Q:=by
 obtain⟨n,fr',σ',h1,h2⟩:=h
 obtain⟨m,hm⟩:=hp
 have hm':=BQ (kC (ajL n m)) hm
 have h1':=FV (kC (ajR n m)) _ _ _ _ _ _ h1
 refine⟨max n m,fr',σ', ?_,h2⟩
 simp only[opsE,hw,Option.bind_some,if_true,opC,ho,fu,KV hf dW,aap,if_false,hf,XD hi has hm' hc,Option.map_some,h1']
theorem OW.KW {all:List Oper} {st:Nat} {o:Oper} {os:List Oper} {Q:Fr->ah->Prop} {c:Call} {f:Operand} {g:FuncId} {a b:List V} (hw:eT all fr o=some true) (ho:o.op= .call c) (fu:c.callee= .value f)
 (hf:fr.ev E f= .fn (.func g) a b) (hi:E.imp g=true) (hp:qJ E g (a++c.args.toList.map (fr.ev E)++b) (fr.d+1) σ (fun v σ1=>OW E all (st+1) os (fr.put o.dst v) σ1 Q)) (dW:∀d,o.dst=some d->E.own g d=false:=by intros;rfl):OW E all st (o::os) fr σ Q:=by
 obtain⟨m,v,σ1,hm,n,fr',σ',h1,h2⟩:=hp
 have hm':=(kC (ajL n m)).2 _ _ _ _ _ hm
 have h1':=FV (kC (ajR n m)) _ _ _ _ _ _ h1
 refine⟨max n m,fr',σ', ?_,h2⟩
 have:iL E (dK E (max n m)) fr.d σ (.fn (.func g) a b) (c.args.toList.map (fr.ev E))=some (v,σ1):=by
  unfold iL;simp only[hi,if_true];exact hm'
 simp only[opsE,hw,Option.bind_some,if_true,opC,ho,fu,KV hf dW,aap,if_false,hf,this,Option.map_some,h1']
theorem dU.nil {ms:List Nat} {all:List Oper} {st:Nat} {fs:List bV} {Q:Fr->ah->Prop} (hp:vD ms fs=true) (h:Q fr σ):dU E ms all st [] fr σ fs Q:=⟨0,[],fr,σ,rfl,by simpa using hp,h⟩
theorem dU.op {ms:List Nat} {all:List Oper} {st:Nat} {o:Oper} {os:List Oper} {v:V} {σ1:ah} {fs:List bV} {Q:Fr->ah->Prop} (hw:eT all fr o=some true) (hop:∀S,opC E S fr σ st o=some (v,fr,σ1))
 (h:dU E ms all (st+1) os (fr.put o.dst v) σ1 (fs++[fq E all fr o true]) Q):dU E ms all st (o::os) fr σ fs Q:=by
 obtain⟨n,fs',fr',σ',h1,h2,h3⟩:=h
 exact⟨n,fq E all fr o true::fs',fr',σ',by simp only[kY,hw,Option.bind_some,if_true,hop,h1,Option.map_some],by simpa using h2,h3⟩
theorem dU.skip {ms:List Nat} {all:List Oper} {st:Nat} {o:Oper} {os:List Oper} {fs:List bV} {Q:Fr->ah->Prop} (hw:eT all fr o=some false)
 (h:dU E ms all (st+1) os (fr.put o.dst aC) σ (fs++[fq E all fr o false]) Q):dU E ms all st (o::os) fr σ fs Q:=by
 obtain⟨n,fs',fr',σ',h1,h2,h3⟩:=h
 exact⟨n,fq E all fr o false::fs',fr',σ',by simp only[kY,hw,Option.bind_some,aap,if_false,h1,Option.map_some],by simpa using h2,h3⟩
theorem dU.call {ms:List Nat} {all:List Oper} {st:Nat} {o:Oper} {os:List Oper} {v:V} {fs:List bV} {Q:Fr->ah->Prop} {c:Call} {f:Operand} {g:FuncId} {a b as:List V} (hw:eT all fr o=some true) (ho:o.op= .call c)
 (fu:c.callee= .value f) (hf:fr.ev E f= .fn (.func g) a b) (hi:E.imp g=false) (has:(a++c.args.toList.map (fr.ev E)++b).mapM (aQ 20 σ)=some as) (hp:Pure E g as v)
 (hc:((a++c.args.toList.map (fr.ev E)++b).all (fun x=>aF (er x))||flat v)=true) (h:dU E ms all (st+1) os (fr.put o.dst v) σ (fs++[fq E all fr o true]) Q) (dW:∀d,o.dst=some d->E.own g d=false:=by intros;rfl):dU E ms all st (o::os) fr σ fs Q:=by
 obtain⟨n,fs',fr',σ',h1,h2,h3⟩:=h
 obtain⟨m,hm⟩:=hp
 have hm':=BQ (kC (ajL n m)) hm
 have h1':=KU (kC (ajR n m)) _ _ _ _ _ _ h1
 refine⟨max n m,fq E all fr o true::fs',fr',σ', ?_,by simpa using h2,h3⟩
 simp only[kY,hw,Option.bind_some,if_true,opC,ho,fu,KV hf dW,aap,if_false,hf,XD hi has hm' hc,Option.map_some,h1']
theorem dU.own {ms:List Nat} {all:List Oper} {st:Nat} {o:Oper} {os:List Oper} {fs:List bV} {Q:Fr->ah->Prop} {c:Call} {f:Operand} {g:FuncId} {a b as l:List V} {d sz:Nat} (hw:eT all fr o=some true) (ho:o.op= .call c) (fu:c.callee= .value f)
 (hf:fr.ev E f= .fn (.func g) a b) (hd:o.dst=some d) (hown:E.own g d=true) (has:qB (E.vB g) σ (a++c.args.toList.map (fr.ev E)++b)=some as) (hp:oC E g as sz l)
 (hc:(a++c.args.toList.map (fr.ev E)++b).all (fun x=>aF (er x))=true)
 (h1:∀c,c= .nil\/c= .full->dU E ms all (st+1) os (fr.put o.dst (.aj c l)) σ (fs++[fq E all fr o true]) Q) (h2:dU E ms all (st+1) os (fr.put o.dst (.aj (.own sz st) l)) (σ.bU st l.length) (fs++[fq E all fr o true]) Q):dU E ms all st (o::os) fr σ fs Q:=by
 obtain⟨m,v0,σ1,hm,hcp⟩:=hp
 have dW:jP E fr o f=true:=by unfold jP;rw[hf,hd];exact hown
 have go:∀(v:V) (σ2:ah),oo σ st σ1 v0=some (v,σ2)->dU E ms all (st+1) os (fr.put o.dst v) σ2 (fs++[fq E all fr o true]) Q->dU E ms all st (o::os) fr σ fs Q:=by
  rintro v σ2 hr ⟨n,fs',fr',σ',g1,g2,g3⟩
  have hm':=(kC (ajL n m)).2 _ _ _ _ _ hm
  have g1':=KU (kC (ajR n m)) _ _ _ _ _ _ g1
  refine⟨max n m,fq E all fr o true::fs',fr',σ', ?_,by simpa using g2,g3⟩
  have hov:mW E (dK E (max n m)) σ st (.fn (.func g) a b) (c.args.toList.map (fr.ev E))=some (v,σ2):=by
   unfold mW
   dsimp only
   rw[if_pos hc,has,Option.bind_some,hm',Option.bind_some]
   exact hr
  simp only[kY,hw,Option.bind_some,if_true,opC,ho,fu,dW]
  rw[hf,hov]
  simp only[Option.map_some,Option.bind_some,g1']
 rcases hcp st σ with ⟨c,hc,hr⟩|hr
 ·exact go _ _ hr (h1 c hc)
 ·exact go _ _ hr h2
theorem dU.KW {ms:List Nat} {all:List Oper} {st:Nat} {o:Oper} {os:List Oper} {fs:List bV} {Q:Fr->ah->Prop} {c:Call} {f:Operand} {g:FuncId} {a b:List V} (hw:eT all fr o=some true) (ho:o.op= .call c)
 (fu:c.callee= .value f) (hf:fr.ev E f= .fn (.func g) a b) (hi:E.imp g=true)
 (hp:qJ E g (a++c.args.toList.map (fr.ev E)++b) (fr.d+1) σ (fun v σ1=>dU E ms all (st+1) os (fr.put o.dst v) σ1 (fs++[fq E all fr o true]) Q)) (dW:∀d,o.dst=some d->E.own g d=false:=by intros;rfl):dU E ms all st (o::os) fr σ fs Q:=by
 obtain⟨m,v,σ1,hm,n,fs',fr',σ',h1,h2,h3⟩:=hp
 have hm':=(kC (ajL n m)).2 _ _ _ _ _ hm
 have h1':=KU (kC (ajR n m)) _ _ _ _ _ _ h1
 refine⟨max n m,fq E all fr o true::fs',fr',σ', ?_,by simpa using h2,h3⟩
 have:iL E (dK E (max n m)) fr.d σ (.fn (.func g) a b) (c.args.toList.map (fr.ev E))=some (v,σ1):=by
  unfold iL;simp only[hi,if_true];exact hm'
 simp only[kY,hw,Option.bind_some,if_true,opC,ho,fu,KV hf dW,aap,if_false,hf,this,Option.map_some,h1']
end
def ah.bump (σ:ah) (k:Nat):ah:={σ with next:=σ.next+k}
section
variable {E:Env} {fr:Fr} {σ:ah}
theorem CW.region {id:Nat} {ops:Array Oper} {Q:Ex->Fr->ah->Prop} (h:OW E ops.toList σ.next ops.toList fr (σ.bump ops.toList.length) (fun fr σ=>Q .normal fr σ)):CW E (.region id ops false) fr σ Q:=by
 obtain⟨n,fr',σ',h1,h2⟩:=h
 exact⟨n,.normal,fr',σ',by simp only[bZ,aap,if_false];rw[show opsE E (dK E n) ops.toList σ.next ops.toList fr {σ with next:=σ.next+ops.toList.length}=some (fr',σ') from h1];rfl,h2⟩
theorem CW.draw {id:Nat} {ops:Array Oper} {Q:Ex->Fr->ah->Prop} (he:ou ops.toList=true)
 (h:dU E (o9 ops.toList) ops.toList σ.next ops.toList fr (σ.bump ops.toList.length) [] (fun fr σ=>Q .normal fr σ)):CW E (.region id ops true) fr σ Q:=by
 obtain⟨n,fs,fr',σ',h1,h2,h3⟩:=h
 refine⟨n,.normal,fr',σ', ?_,h3⟩
 simp only[bZ,if_true]
 rw[show kY E (dK E n) ops.toList σ.next ops.toList fr {σ with next:=σ.next+ops.toList.length}=some (fs,fr',σ') from h1]
 simp only[Option.bind_some,he,Bool.true_and]
 rw[if_pos (by simpa using h2)]
def rJ (E:Env) (b:Code) (Q:Ex->Fr->ah->Prop) (e:Ex) (fr:Fr) (σ:ah):Prop:=match e with
 |.normal=>CW E b fr σ Q
 |e=>Q e fr σ
theorem CW.seq {a b:Code} {Q:Ex->Fr->ah->Prop} (h:CW E a fr σ (rJ E b Q)):CW E (.seq a b) fr σ Q:=by
 obtain⟨n,e,bQ,σ1,h1,h2⟩:=h
 cases e with
 |normal=>
  obtain⟨m,e,fr',σ',h3,h4⟩:=h2
  refine⟨max n m,e,fr',σ', ?_,h4⟩
  simp only[bZ,zu (kC (ajR n m)) _ _ _ _ h1,Option.bind_some,zu (kC (ajL n m)) _ _ _ _ h3]
 |exit i=>exact⟨n,.exit i,bQ,σ1,by simp only[bZ,h1,Option.bind_some],h2⟩
 |ret=>exact⟨n,.ret,bQ,σ1,by simp only[bZ,h1,Option.bind_some],h2⟩
theorem CW.skip {Q:Ex->Fr->ah->Prop} (h:Q .normal fr σ):CW E .skip fr σ Q:=⟨0,.normal,fr,σ,rfl,h⟩
theorem CW.ret {Q:Ex->Fr->ah->Prop} (h:Q .ret fr σ):CW E .ret fr σ Q:=⟨0,.ret,fr,σ,rfl,h⟩
theorem CW.exit {i:Nat} {Q:Ex->Fr->ah->Prop} (h:Q (.exit i) fr σ):CW E (.exit i) fr σ Q:=⟨0,.exit i,fr,σ,rfl,h⟩
theorem CW.cond {c:Operand} {a b:Code} {t:Bool} {Q:Ex->Fr->ah->Prop} (hc:fr.ev E c= .bool t) (ht:t=true->CW E a fr σ Q) (hf:t=false->CW E b fr σ Q):CW E (.cond c a b) fr σ Q:=by
 cases t with
 |true=>
  obtain⟨n,e,fr',σ',h1,h2⟩:=ht rfl
  exact⟨n,e,fr',σ',by simp only[bZ,hc,oh,Option.bind_some,if_true,h1],h2⟩
 |false=>
  obtain⟨n,e,fr',σ',h1,h2⟩:=hf rfl
  exact⟨n,e,fr',σ',by simp only[bZ,hc,oh,Option.bind_some,aap,if_false,h1],h2⟩
def uw (id:Nat) (Q:Ex->Fr->ah->Prop) (e:Ex) (fr:Fr) (σ:ah):Prop:=match e with
 |.exit i=>if i=id then Q .normal fr σ else Q (.exit i) fr σ
 |e=>Q e fr σ
theorem CW.block {id:Nat} {c:Code} {Q:Ex->Fr->ah->Prop} (h:CW E c fr σ (uw id Q)):CW E (.block id c) fr σ Q:=by
 obtain⟨n,e,fr',σ',h1,h2⟩:=h
 cases e with
 |normal=>exact⟨n,.normal,fr',σ',by simp only[bZ,h1,Option.map_some],h2⟩
 |ret=>exact⟨n,.ret,fr',σ',by simp only[bZ,h1,Option.map_some],h2⟩
 |exit i=>
  simp only[uw] at h2
  split at h2
  ·rename_i hi
   exact⟨n,.normal,fr',σ',by simp only[bZ,h1,Option.map_some,if_pos hi],h2⟩
  ·rename_i hi
   exact⟨n,.exit i,fr',σ',by simp only[bZ,h1,Option.map_some,if_neg hi],h2⟩
theorem CW.scope {c:Code} {Q:Ex->Fr->ah->Prop} (h:CW E c fr σ Q):CW E (.scope c) fr σ Q:=by
 obtain⟨n,e,fr',σ',h1,h2⟩:=h
 exact⟨n,e,fr',σ',by simp only[bZ,h1],h2⟩
theorem CW.label {l:Nat} {Q:Ex->Fr->ah->Prop} (h:Q .normal fr σ):CW E (.label l) fr σ Q:=⟨0,.normal,fr,σ,by simp only[bZ],h⟩
def xB (E:Env) (c:Code) (Q:Ex->Fr->ah->Prop) (e:Ex) (fr:Fr) (σ:ah):Prop:=match e with
 |.normal=>CW E (.loop c) fr σ Q
 |e=>Q e fr σ
theorem CW.loop {c:Code} {Q:Ex->Fr->ah->Prop} (h:CW E c fr σ (xB E c Q)):CW E (.loop c) fr σ Q:=by
 obtain⟨n,e,bQ,σ1,h1,h2⟩:=h
 cases e with
 |normal=>
  obtain⟨m,e,fr',σ',h3,h4⟩:=h2
  refine⟨max n m+1,e,fr',σ', ?_,h4⟩
  simp only[bZ,zu (kC (show n<=max n m+1 by omega)) _ _ _ _ h1,Option.bind_some]
  exact zu (kC (ajL n m)) _ _ _ _ h3
 |exit i=>exact⟨n,.exit i,bQ,σ1,by simp only[bZ,h1,Option.bind_some],h2⟩
 |ret=>exact⟨n,.ret,bQ,σ1,by simp only[bZ,h1,Option.bind_some],h2⟩
def xC (E:Env) (rs:List ResultVar) (R:V->ah->Prop) (e:Ex) (fr:Fr) (σ:ah):Prop:=match e with
 |.exit _=>False
 |_=> ∃vs,rs.mapM (lX E fr σ)=some vs/\R (match vs with| [v]=>v|vs=>.bE vs) σ
theorem qJ.of {f:FuncId} {args:List V} {d:Nat} {fn:Func} {c:Code} {R:V->ah->Prop} (hf:E.P.funcs[f]? =some fn) (hb:fn.body=some c) (hok:(decide (args.length<=fn.ntmps)&& iM fn.ntmps c)=true)
 (h:CW E c {d:=d,om:=E.om f,tm:=fun i=>args.getD i aC} σ (xC E fn.results.toList R)):qJ E f args d σ R:=by
 obtain⟨n,e,fr',σ',h1,h2⟩:=h
 have hok':args.length<=fn.ntmps/\iM fn.ntmps c=true:=by simpa using hok
 have key:∀vs,fn.results.toList.mapM (lX E fr' σ')=some vs->(e= .normal\/e= .ret)->(dK E (n+2)).call f args d σ=some ((match vs with| [v]=>v|vs=>.bE vs),σ'):=by
  intro vs hvs he
  show um E (dK E (n+1)) f args d σ=_
  have h3:(dK E (n+1)).code c {d:=d,om:=E.om f,tm:=fun i=>args.getD i aC} σ=some (e,fr',σ'):=h1
  simp only[um,hf,hb,Option.bind_some,if_pos hok',h3]
  rcases he with rfl|rfl<;>simp only[hvs,Option.map_some]<;>rcases vs with _| ⟨x,_| ⟨y,l⟩⟩<;>rfl
 cases e with
 |normal=>obtain⟨vs,h3,h4⟩:=h2;exact⟨n+2,_,σ',key vs h3 (.inl rfl),h4⟩
 |ret=>obtain⟨vs,h3,h4⟩:=h2;exact⟨n+2,_,σ',key vs h3 (.inr rfl),h4⟩
 |exit i=>exact h2.elim
theorem Pure.of {f:FuncId} {args:List V} {v:V} {fn:Func} {c:Code} (hs:E.jO f=none) (hf:E.P.funcs[f]? =some fn) (hb:fn.body=some c) (hok:(decide (args.length<=fn.ntmps)&& iM fn.ntmps c)=true)
 (h:CW E c {d:=1,om:=E.om f,tm:=fun i=>args.getD i aC} ah.init (xC E fn.results.toList (fun v0 σ=>aQ 20 σ v0=some v))):Pure E f args v:=by
 obtain⟨n,v0,σ',h1,h2⟩:=qJ.of hf hb hok h
 exact⟨n,by simp only[jJ,hs,h1,Option.bind_some,h2]⟩
theorem XE (fr:Fr) (d:Nat) (v:V):fr.put (some d) v=fr.set d v:=rfl
theorem agA (fr:Fr) (v:V):fr.put none v=fr:=rfl
theorem KX (fr:Fr) (d:Nat) (v:V):(fr.set d v).tm d=v:=by simp[Fr.set,upd]
theorem FX (fr:Fr) {d t:Nat} (v:V) (h:(t==d)=false):(fr.set d v).tm t=fr.tm t:=by
 have h':¬t=d:=by simpa using h
 simp[Fr.set,upd,h']
theorem agB (fr:Fr) (d:Nat) (v:V):(fr.set d v).d=fr.d:=rfl
theorem agC (fr:Fr) (d:Nat) (v:V):(fr.set d v).om=fr.om:=rfl
theorem BR (fr:Fr) (t:Nat):fr.ev E (.tmp t)=fr.tm t:=rfl
theorem XF (fr:Fr) (v:Value):fr.ev E (.const v)=(ofValue v).getD (.raw v):=rfl
theorem XG (fr:Fr) (f:FuncId):fr.ev E (.func f)= .fn (.func f) [] []:=rfl
theorem agD (σ:ah) (k:Nat):(σ.bump k).next=σ.next+k:=rfl
theorem agE (σ:ah) (l:Aq.Loc) (s:Nat) (o:ig):(σ.setObj l s o).next=σ.next:=rfl
theorem agF (σ:ah) (s n:Nat):(σ.bU s n).next=σ.next:=rfl
theorem BS (σ:ah) (s n:Nat):(σ.bU s n).top s=n:=by simp[ah.bU,upd]
theorem FY (σ:ah) {s t:Nat} (n:Nat) (h:t≠s):(σ.bU s n).top t=σ.top t:=by simp[ah.bU,upd,h]
theorem agG (σ:ah) (k:Nat):(σ.bump k).top=σ.top:=rfl
theorem agH (σ:ah) (l:Aq.Loc) (s:Nat) (o:ig):(σ.setObj l s o).top=σ.top:=rfl
theorem XH {l l':Aq.Loc} (h:qC l l'=false):¬l=l':=by
 rintro rfl
 simp[qC] at h
theorem Rj (a b c d:Nat):qC (a,b) (c,d)=(b==d&& a==c):=rfl
theorem vG (σ:ah) (l:Aq.Loc) (s:Nat) (cs:List V):(σ.setObj l s (.cells cs)).cB l s=some cs:=by simp[ah.setObj,ah.cB,upd]
theorem XI (σ:ah) {l l':Aq.Loc} (s s':Nat) (o:ig) (h:qC l l'=false):(σ.setObj l' s' o).cB l s=σ.cB l s:=by
 have h':=XH h
 simp[ah.setObj,ah.cB,upd,h']
theorem agI (σ:ah) (k:Nat) (l:Aq.Loc) (s:Nat):(σ.bump k).cB l s=σ.cB l s:=rfl
theorem agJ (σ:ah) (t n:Nat) (l:Aq.Loc) (s:Nat):(σ.bU t n).cB l s=σ.cB l s:=rfl
theorem map_eq (σ:ah) (l:Aq.Loc) (s:Nat) (ks vs:List V):(σ.setObj l s (.map ks vs)).fP l s=some (ks,vs):=by simp[ah.setObj,ah.fP,upd]
theorem XJ (σ:ah) {l l':Aq.Loc} (s s':Nat) (o:ig) (h:qC l l'=false):(σ.setObj l' s' o).fP l s=σ.fP l s:=by
 have h':=XH h
 simp[ah.setObj,ah.fP,upd,h']
theorem agK (σ:ah) (k:Nat) (l:Aq.Loc) (s:Nat):(σ.bump k).fP l s=σ.fP l s:=rfl
theorem agL (σ:ah) (t n:Nat) (l:Aq.Loc) (s:Nat):(σ.bU t n).fP l s=σ.fP l s:=rfl
theorem agM {a b c d:Nat} (h:b≠d):((a,b):Aq.Loc)≠(c,d):=fun e=>h (by cases e;rfl)
end
end Aq
end
