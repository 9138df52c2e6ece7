import Derived.Test.YtgdialomgeijcaaGreatF3704
set_option linter.all false
section
namespace Aq
open Go Go.RowKit
section
variable {E:Env} {S:bG}
theorem KL (all:List Oper) (base:Nat):∀(os:List Oper) (k:Nat) (fr:Fr) (σ:Sig) (fs:List Foot) (jr:Fr) (σN:Sig),(∀j,os[j]? =all[k+j]?)->
 eX E S all (base+k) os fr σ=some (fs,jr,σN)->fs.length=os.length/\∃s:Nat->Fr×Sig,s k=(fr,σ)/\s (k+os.length)=(jr,σN)/\
  ∀i,k<=i->i<k+os.length->dn E S all base i (s i).1 (s i).2=some (s (i+1))/\∃o wt,all[i]? =some o/\aT all (s i).1 o=some wt/\fs[i-k]? =some (bq E all (s i).1 o wt):=by
 intro os
 induction os with
 |nil=>
  intro k fr σ fs jr σN _ h
  simp only[eX,iE,iR] at h
  obtain⟨rfl,rfl,rfl⟩:=h
  exact⟨rfl,fun _=>(fr,σ),rfl,rfl,fun i h1 h2=>by simp at h2;omega⟩
 |cons o os ih=>
  intro k fr σ fs jr σN hall h
  have h0:all[k]? =some o:=by simpa using (hall 0).symm
  have KM:∀j,os[j]? =all[k+1+j]? :=fun j=>by have:=hall (j+1);simpa [Sy,Nat.add_comm 1 j] using this
  simp only[eX,iP] at h
  obtain⟨wt,hwt,h⟩:=h
  have main:∀(aB:Fr) (σ1:Sig) (fs':List Foot),dn E S all base k fr σ=some (aB,σ1)->eX E S all (base+(k+1)) os aB σ1=some (fs',jr,σN)->fs=bq E all fr o wt::fs'->
   fs.length=(o::os).length/\∃s:Nat->Fr×Sig,s k=(fr,σ)/\s (k+(o::os).length)=(jr,σN)/\
   ∀i,k<=i->i<k+(o::os).length->dn E S all base i (s i).1 (s i).2=some (s (i+1))/\∃o wt,all[i]? =some o/\aT all (s i).1 o=some wt/\fs[i-k]? =some (bq E all (s i).1 o wt):=by
   intro aB σ1 fs' hstep hrec hfs
   obtain⟨hlen,s,hs1,hs2,hs3⟩:=ih (k+1) aB σ1 fs' jr σN KM hrec
   refine⟨by rw[hfs];simp[hlen],fun i=>if i=k then (fr,σ) else s i,by simp,?_,fun i h1 h2=>?_⟩
   ·have:¬(k+(o::os).length=k):=by simp
    simp only[this,if_false]
    rw[show k+(o::os).length=k+1+os.length by simp;omega]
    exact hs2
   ·by_cases hik:i=k
    ·subst hik
     have:¬(i+1=i):=by omega
     simp only[if_true,this,if_false]
     rw[hs1]
     exact⟨hstep,o,wt,h0,hwt,by rw[hfs];simp⟩
    ·have:¬(i+1=k):=by omega
     simp only[hik,this,if_false]
     obtain⟨g1,o',KN,g2,g3,g4⟩:=hs3 i (by omega) (by simp at h2;omega)
     refine⟨g1,o',KN,g2,g3,?_⟩
     rw[hfs,show i-k=(i-(k+1))+1 by omega]
     simpa using g4
  cases wt with
  |true=>
   simp only[if_true,iP,RF,iR] at h
   obtain⟨⟨v,aW,σ2⟩,hop,⟨fs',r⟩,hrec,hfs,hr⟩:=h
   refine main _ _ fs' ?_ (by rw[<-hr];exact hrec) hfs.symm
   simp only[dn,h0,hwt,Option.bind_some,if_true,hop,Option.map_some]
  |false=>
   simp only[RH,if_false,RF,iR] at h
   obtain⟨⟨fs',r⟩,hrec,hfs,hr⟩:=h
   refine main _ _ fs' ?_ (by rw[<-hr];exact hrec) hfs.symm
   simp only[dn,h0,hwt,Option.bind_some,RH,if_false]
theorem xD (ops:List Oper) (base:Nat):∀(l:List Nat) (x:Fr×Sig),qx (fun i x=>dn E S ops base i x.1 x.2) l x=opsL E S ops base l x.1 x.2
 | [],x=>rfl
 |i::l,x=>by
  simp only[qx,opsL]
  cases dn E S ops base i x.1 x.2 with
  |none=>rfl
  |some y=>exact xD ops base l y
def iW (acc:List Nat) (o:Oper):Nat:=o.after.toList.foldl (fun s e=>if Region.binds .any e then s|||2^e.on|||acc.getD e.on 0 else s) 0
theorem KO:∀(ops:List Oper) (acc:List Nat),ops.foldl (fun acc o=>acc++[iW acc o]) acc=acc++(ops.foldl (fun acc o=>acc++[iW acc o]) acc).drop acc.length/\
 (ops.foldl (fun acc o=>acc++[iW acc o]) acc).length=acc.length+ops.length/\
 ∀i o,ops[i]? =some o->(ops.foldl (fun acc o=>acc++[iW acc o]) acc).getD (acc.length+i) 0=iW ((ops.foldl (fun acc o=>acc++[iW acc o]) acc).take (acc.length+i)) o:=by
 intro ops
 induction ops with
 |nil=>intro acc;simp
 |cons a ops ih=>
  intro acc
  obtain⟨h1,h2,h3⟩:=ih (acc++[iW acc a])
  simp only[List.foldl_cons]
  generalize hR:ops.foldl (fun acc o=>acc++[iW acc o]) (acc++[iW acc a])=R at h1 h2 h3⊢
  have hpre:R.take acc.length=acc:=by
   rw[h1]
   simp
  refine⟨?_,by rw[h2];simp;omega,fun i o ho=>?_⟩
  ·conv=>lhs;rw[<-Tw acc.length R,hpre]
  ·cases i with
   |zero=>
    simp at ho
    subst ho
    rw[Nat.add_zero,hpre,h1]
    simp
   |succ i=>
    have:=h3 i o (by simpa using ho)
    simpa [Sy,Nat.add_comm 1 i] using this
theorem KP {acc:List Nat} {o:Oper} {j:Nat} (h:(iW acc o).testBit j=true):∃e∈o.after.toList,Region.binds .any e=true/\(j=e.on\/(acc.getD e.on 0).testBit j=true):=by
 unfold iW at h
 generalize hl:o.after.toList=l at h
 clear hl
 have gen:∀(l:List Edge) (s:Nat),(l.foldl (fun s e=>if Region.binds .any e then s|||2^e.on|||acc.getD e.on 0 else s) s).testBit j=true->
  s.testBit j=true\/∃e∈l,Region.binds .any e=true/\(j=e.on\/(acc.getD e.on 0).testBit j=true):=by
  intro l
  induction l with
  |nil=>intro s h;exact .inl h
  |cons e l ih=>
   intro s h
   simp only[List.foldl_cons] at h
   rcases ih _ h with h1| ⟨e',he',hb,hj⟩
   ·split at h1
    ·rename_i hb
     simp only[Nat.testBit_or,SX] at h1
     rcases h1 with (h1|h1)|h1
     ·exact .inl h1
     ·exact .inr ⟨e,by simp,hb,.inl (by
       rw[Nat.testBit_two_pow] at h1
       have:e.on=j:=by simpa using h1
       exact this.symm)⟩
     ·exact .inr ⟨e,by simp,hb,.inr h1⟩
    ·exact .inl h1
   ·exact .inr ⟨e',by simp[he'],hb,hj⟩
 rcases gen l 0 h with h1|h1
 ·simp at h1
 ·exact h1
theorem KQ {ops:List Oper} (dX:edgesOK ops=true) {i j:Nat} {o:Oper} (ho:ops[i]? =some o) (h:((preM ops).getD i 0).testBit j=true):
 ∃e∈o.after.toList,Region.binds .any e=true/\e.on<i/\(j=e.on\/((preM ops).getD e.on 0).testBit j=true):=by
 have hp:preM ops=ops.foldl (fun acc o=>acc++[iW acc o]) []:=rfl
 obtain⟨_,_,h3⟩:=KO ops []
 have:=h3 i o ho
 simp only[List.length_nil,Sr] at this
 rw[hp,this] at h
 obtain⟨e,he,hb,hj⟩:=KP h
 have hlt:e.on<i:=by
  have hi:i<ops.length:=by
   rcases Nat.lt_or_ge i ops.length with h|h
   ·exact h
   ·rw[List.getElem?_eq_none h] at ho;cases ho
  simp only[edgesOK,RZ] at dX
  have h1:=dX i (by simpa using hi)
  rw[ho] at h1
  simp only[RZ] at h1
  simpa [hb] using h1 e he
 refine⟨e,he,hb,hlt,hj.imp id (fun hj=>?_)⟩
 rw[hp]
 have e1:∀(l:List Nat) (a b:Nat),a<b->(l.take b).getD a 0=l.getD a 0:=fun l a b hab=>by simp[List.getD,List.getElem?_take,hab]
 rw[e1 _ _ _ hlt] at hj
 exact hj
theorem xE {ops:Array Oper} (dX:edgesOK ops.toList=true) {md:Region.Mode} {l:List Nat} (hl:kC md ops [] l):
 ∀(i:Nat) (l1 l2:List Nat),l=l1++i::l2->∀j,((preM ops.toList).getD i 0).testBit j=true->j∈l1:=by
 intro i
 induction i using Nat.strongRecOn with
 |_ i ih=>
  intro l1 l2 xG j hj
  have hi:i<ops.size:=(hl.mem i (by rw[xG];simp)).1
  have hoi:ops[i]? =some ops[i]:=by simp[hi]
  obtain⟨e,he,hb,hlt,xH⟩:=KQ dX (o:=ops[i]) (by simpa using hoi) hj
  have hon:e.on∈l1:=by
   rcases hl.ord l1 i l2 xG ops[i] hoi e he (Kr md hb) with h|h
   ·cases h
   ·exact h
  rcases xH with rfl|xH
  ·exact hon
  ·obtain⟨a,b,rfl⟩:=List.append_of_mem hon
   have:=ih e.on hlt a (b++i::l2) (by rw[xG];simp) j xH
   exact Tg _ this
theorem KR {ops:Array Oper} {base:Nat} {fr jr:Fr} {σ σN:Sig} {fs:List Foot} (hF:eX E S ops.toList base ops.toList fr σ=some (fs,jr,σN)) (dX:edgesOK ops.toList=true)
 (hP:pairsOK (preM ops.toList) fs=true) {md:Region.Mode} {l:List Nat} (hl:kC md ops [] l):opsL E S ops.toList base l fr σ=some (jr,σN):=by
 obtain⟨hlen,s,hs0,hsn,hs⟩:=KL ops.toList base ops.toList 0 fr σ fs jr σN (fun j=>by simp) (by simpa using hF)
 have hn:ops.toList.length=ops.size:=by simp
 rw[Sr,hn] at hsn
 have hfs:∀i,i<ops.size->∃o wt,ops.toList[i]? =some o/\aT ops.toList (s i).1 o=some wt/\fs.getD i allF=bq E ops.toList (s i).1 o wt/\dn E S ops.toList base i (s i).1 (s i).2=some (s (i+1)):=by
  intro i hi
  obtain⟨g1,o,wt,g2,g3,g4⟩:=hs i (Sb _) (by omega)
  exact⟨o,wt,g2,g3,by simp only[Nat.sub_zero] at g4;simp[List.getD,g4],g1⟩
 have hself:∀i,i<ops.size->∀k,¬(fs.getD i allF).W k->Ag k (s i) (s (i+1)):=by
  intro i hi k hk
  obtain⟨o,wt,g1,g2,g3,g4⟩:=hfs i hi
  rw[g3] at hk
  obtain⟨_,_,_,_,h4⟩:=CB g1 g2 g4 (s i) (fun k _=>.refl k _)
  exact h4 k hk
 have hap:∀i j,i<ops.size->j<i->((preM ops.toList).getD i 0).testBit j=true\/((∀k,¬((fs.getD i allF).W k/\(fs.getD j allF).T k))/\∀k,¬((fs.getD j allF).W k/\(fs.getD i allF).T k)):=by
  intro i j hi hj
  simp only[pairsOK,RZ] at hP
  have:=hP i (by simp;omega) j (by simpa using hj)
  simp only[SX] at this
  refine this.imp id (fun h=>?_)
  simp only[vE,RD,SK] at h
  exact⟨Cy h.1,Cy h.2⟩
 have key:=Cg (X:=Fr×Sig) (Key:=Key) ops.size (fun i x=>dn E S ops.toList base i x.1 x.2) Ag Ag.refl (fun k x y z=>Ag.trans) s
  (fun i=>(fs.getD i allF).T) (fun i=>(fs.getD i allF).W) (fun i k=>Foot.Ct)
  (fun i hi x hx=>by
    obtain⟨o,wt,g1,g2,g3,g4⟩:=hfs i hi
    obtain⟨y,h1,h2,h3,_⟩:=CB g1 g2 g4 x (fun k hk=>hx k (by rw[g3];exact hk))
    exact⟨y,h1,fun k hk=>h2 k (by rw[<-g3];exact hk),fun k hk=>h3 k (by rw[<-g3];exact hk)⟩)
  hself (fun j i=>((preM ops.toList).getD i 0).testBit j=true) hap (fun k x y=>Ag.symm)
  l [] (fr,σ) hl.nodup hl.mem hl.all (fun l1 i l2 h j hj=>.inr (xE dX hl i l1 l2 h j hj)) (fun i hi=>by cases hi)
  (by
    intro k m
    induction m with
    |zero=>intro _ _;rw[hs0];exact .refl _ _
    |succ m ih=>
     intro hm hj
     refine Ag.trans (Ag.symm (hself m (by omega) k (fun hw=>?_))) (ih (by omega) (fun j hjn hw=>⟨(fun h=>by cases h),(fun h=>by have:=(hj j hjn hw).2 (by omega);cases this)⟩))
     have:=(hj m (by omega) hw).2 (by omega)
     cases this)
 obtain⟨y,h1,h2⟩:=key
 rw[xD] at h1
 have:=Ag.all h2
 rw[hsn] at this
 rw[h1,<-this]
theorem KS {ops:Array Oper} {base:Nat} {x y:Fr×Sig} (hF:Free E S (preM ops.toList) ops.toList base x y) (dX:edgesOK ops.toList=true) {md:Region.Mode} {l:List Nat} (hl:kC md ops [] l):
 opsL E S ops.toList base l x.1 x.2=some y:=by
 obtain⟨s,T,W,h0,hn,qy,hloc,hself,hap⟩:=hF
 have hsz:ops.toList.length=ops.size:=by simp
 rw[hsz] at hn hloc hself hap
 obtain⟨z,h1,h2⟩:=Cg (X:=Fr×Sig) (Key:=Key) ops.size (fun i x=>dn E S ops.toList base i x.1 x.2) Ag Ag.refl (fun k x y z=>Ag.trans) s T W qy
  hloc hself (fun j i=>((preM ops.toList).getD i 0).testBit j=true) hap (fun k x y=>Ag.symm)
  l [] x hl.nodup hl.mem hl.all (fun l1 i l2 h j hj=>.inr (xE dX hl i l1 l2 h j hj)) (fun i hi=>by cases hi)
  (by
    intro k m
    induction m with
    |zero=>intro _ _;rw[h0];exact .refl _ _
    |succ m ih=>
     intro hm hj
     refine Ag.trans (Ag.symm (hself m (by omega) k (fun hw=>?_))) (ih (by omega) (fun j hjn hw=>⟨(fun h=>by cases h),(fun h=>by have:=(hj j hjn hw).2 (by omega);cases this)⟩))
     have:=(hj m (by omega) hw).2 (by omega)
     cases this)
 rw[xD] at h1
 have:=Ag.all h2
 rw[hn] at this
 rw[h1,<-this]
end
section
variable {E:Env} {S:bG} {B0:Nat} {σ σ':Sig} {K K':Con} {w w':World} {fr fr':Fr} {a:Act} {n:Nat}
theorem KT (hE:EnvOK E) (hS:Sound E S) {id:Nat} {ops:Array Oper} {dr:Bool} {e:Ex} (h:aO E S (.region id ops dr) fr σ=some (e,fr',σ')):eu E (.region id ops dr) fr σ e fr' σ':=by
 have fin:∀(l:List Nat),opsL E S ops.toList σ.next l fr {σ with next:=σ.next+ops.toList.length}=some (fr',σ')->l.Nodup->(∀i∈l,i<ops.size)->∀ro B0 K w a n ds Q,St E B0 σ K w fr a n ds->aP n (.region id ops dr)=true->
  (∀x a' w',jY E B0 n ds σ K w .normal fr' σ' x a' w'->Q x a' w')->wpOpsIn (FW ro) 0 E.P ops Q l a w:=by
  intro l hl hnd hlt ro B0 K w a n ds Q hs hok hq
  have hnx:=lg hS _ _ _ _ _ hl
  simp only at hnx
  have hs':St E B0 {σ with next:=σ.next+ops.toList.length} K w fr a n ds:=⟨mD hs.ok _,hs.hB,hs.fr,hs.sz,hs.df,fun s h=>RS (hs.st s h) (RP _ _),hs.hD⟩
  refine wZ hE hS ops σ.next hok ro _ l fr _ K w a hl hnd hlt hs' (by simp) (fun i _ hA=>by have:=hs.st _ hA;omega) (fun a' K' w' hs2 st=>hq _ _ _ ?_)
  refine⟨trivial,K',hs2,?_⟩
  have st':Step E B0 (newer σ σ') {σ with next:=σ.next+ops.toList.length} K w σ' K' w':=st.mono (fun s hs=>by
   rcases hs with h|h
   ·exact⟨h.1,by simp at hnx;omega⟩
   ·refine⟨RG (RP _ _) h.1,h.2⟩)
  exact⟨st'.ok,st'.ext,st'.below,st'.D,st'.A,st'.nI,st'.gZ⟩
 simp only[aO] at h
 split at h
 ·rename_i hdr
  simp only[iP] at h
  obtain⟨⟨fs,aB,σ1⟩,hF,h⟩:=h
  have hall:aB=fr'/\σ1=σ'/\e= .normal/\edgesOK ops.toList=true/\∀md l,kC md ops [] l->opsL E S ops.toList σ.next l fr {σ with next:=σ.next+ops.toList.length}=some (fr',σ'):=by
   split at h
   ·rename_i ow
    simp only[iE,iR] at h
    obtain⟨rfl,rfl,rfl⟩:=h
    simp only[RD] at ow
    exact⟨rfl,rfl,rfl,ow.1,fun md l hl=>KR hF ow.1 ow.2 hl⟩
   ·unfold vF at h
    split at h
    ·rename_i hfree
     simp only[iE,iR] at h
     obtain⟨rfl,rfl,rfl⟩:=h
     exact⟨rfl,rfl,rfl,hfree.1,fun md l hl=>KS hfree.2 hfree.1 hl⟩
    ·cases h
  obtain⟨rfl,rfl,rfl,ow,tu⟩:=hall
  have hany:∀t,∃md,kC md ops [] (Region.schedule (E.P.follows .mixedOrders) ops t):=fun t=>Cw hE.mixed _ ow t
  have hdo:∀t,opsL E S ops.toList σ.next (Region.schedule (E.P.follows .mixedOrders) ops t) fr {σ with next:=σ.next+ops.toList.length}=some (aB,σ1):=fun t=>by
   obtain⟨md,hl⟩:=hany t
   exact tu md _ hl
  have hnx:=lg hS _ _ _ _ _ (hdo 0)
  simp only at hnx
  refine⟨RG (RP _ _) hnx,fun ro B0 K w a n ds hs hok _=>?_⟩
  rw[hdr]
  refine wpIn_region_draw (fun t=>?_)
  obtain⟨md,hl⟩:=hany t
  have hst:=Step.same (new:=newer σ σ) hs.ok (w':={w with drawn:=w.drawn+1}) rfl rfl rfl rfl
  have hs1:St E B0 σ K {w with drawn:=w.drawn+1} fr a n ds:=⟨hst.ok,hs.hB,hs.fr.ext hst.ext,hs.sz,hs.df,hs.st,hs.hD⟩
  refine fin _ (hdo t) hl.nodup (fun i hi=>(hl.mem i hi).1) ro B0 K _ a n ds _ hs1 (by rw[hdr];exact hok) ?_
  rintro x a' w' ⟨h1,K',h2,h3⟩
  exact⟨h1,K',h2,hst.widen h3 (mF _) (RG (RP _ _) hnx)⟩
 ·rename_i hdr
  have hdr':dr=false:=by simpa using hdr
  simp only[RF,iR] at h
  obtain⟨⟨aB,σ1⟩,hF,rfl,rfl,rfl⟩:=h
  rw[JY] at hF
  have hnx:=lg hS _ _ _ _ _ hF
  simp only at hnx
  refine⟨RG (RP _ _) hnx,fun ro B0 K w a n ds hs hok _=>?_⟩
  rw[hdr']
  exact wpIn_region (fin _ hF List.nodup_range (fun i hi=>by simpa using hi) ro B0 K w a n ds _ hs (by rw[hdr'];exact hok) (fun _ _ _ h=>h))
end
section
variable {E:Env} {S:bG} {K K':Con} {w w':World} {σ σ':Sig} {B0:Nat}
theorem oz (K:Con) (T:Nat->Nat) (w:World) (D':Nat->Prop):Ext K T w {K with D:=D'} T w:=
 ⟨fun _ h=>⟨h,rfl,rfl,rfl⟩,fun _ _=>.inl ⟨rfl,rfl,rfl,rfl⟩,fun _ _ h=>⟨h,rfl⟩,fun _ h=>⟨h,rfl⟩⟩
theorem ay.lu (h:ay E B0 σ K w) (D':Nat->Prop) (hD:∀b,D' b->w.heap[b]? =some (.deferred (some []))):ay E B0 σ {K with D:=D'} w:=by
 have e:=oz K σ.top w D'
 refine⟨fun loc s ob hs=>?_,h.own,h.I,h.IM,fun l r hl=>?_,fun g cs hg=>(h.glob g cs hg).ext e,h.rb,hD⟩
 ·obtain⟨a1,a2,a3⟩:=h.obj loc s ob hs
  exact⟨a1,a2.ext e a1 (fun _=>rfl),a3⟩
 ·obtain⟨a1,a2⟩:=h.loop l r hl
  exact⟨a1,a2.ext e a1 rfl rfl⟩
theorem ay.oC (h:ay E B0 σ K w) (hB:B0<=w.heap.size) {new:Nat->Prop} {b:Nat} {o o':Obj} (hb0:B0<=b) (hb:w.heap[b]? =some o) (hc:∀vals t f,o≠ .cells vals t f) (hm:∀es aI,o≠ .map es aI)
 (KU:∀l r,σ'.loops l=some r->σ.loops l=some r/\K.lp l≠b) (h1:σ'.obj=σ.obj) (h2:σ'.top=σ.top) (D':Nat->Prop) (hD:∀x,D' x->K.D x/\x≠b) (KV:∀x,K.D x->D' x):
 Step E B0 new σ K w σ' {K with D:=D'} (w.putObj b o')/\ay E B0 σ' {K with D:=D'} (w.putObj b o'):=by
 have hlt:=lt_of_heap hb
 have ho:=wQ w b o'
 have hcell:∀b' i v,w.cell? (at_ b' i)=some v->b'≠b:=fun b' i v hv e=>by
  subst e
  have:∃vals t f,o= .cells vals t f:=by
   simp only[World.cell?,hb] at hv
   cases o<;>simp at hv
   exact⟨_,_,_,rfl⟩
  obtain⟨vals,t,f,rfl⟩:=this
  exact hc _ _ _ rfl
 have e:Ext K σ.top w {K with D:=D'} σ'.top (w.putObj b o'):=by
  rw[h2]
  refine⟨fun _ h=>⟨h,rfl,rfl,rfl⟩,fun _ _=>.inl ⟨rfl,rfl,rfl,rfl⟩,fun b' i hi=>⟨hi,?_⟩,fun b' hi=>⟨hi,?_⟩⟩
  ·obtain⟨⟨v,hv⟩,_⟩:=h.I b' i hi
   exact cell_of_heap (ho.block b' (hcell b' i v hv) (lt_of_cell hv))
  ·obtain⟨⟨es,aI,hv⟩,_⟩:=h.IM b' hi
   exact ho.block b' (fK hv hb (fun e=>hm _ _ e.symm)) (lt_of_heap hv)
 have ok:ay E B0 σ' {K with D:=D'} (w.putObj b o'):=by
  refine h.upd (σ':=σ') ho e (fun _ _=>rfl) (fun r hr'=>⟨by simpa using hlt,hb0⟩) ?_ ?_ ?_ ?_ ?_ ?_
  ·intro loc s ob hs
   rw[h1] at hs
   refine .inl ⟨hs,fun dG e'=>?_⟩
   obtain⟨_,a2,_⟩:=h.obj loc s ob hs
   cases ob with
   |cells cs=>
    obtain⟨_,vals,t,g1,_⟩:=a2.2 (by cases cs with|nil=>exact dG.elim|cons _ _=>simp)
    rw[e',hb] at g1
    exact hc _ _ _ (R6 g1)
   |map ks vs=>
    obtain⟨_,es,aI,g1,_⟩:=a2
    rw[e',hb] at g1
    exact hm _ _ (R6 g1)
  ·intro s hs hlt'
   refine .inl ⟨hs,rfl,rfl,rfl,fun e'=>?_⟩
   obtain⟨_,⟨v,hv⟩,_⟩:=(h.own s hs hlt').2.2 (K.lo s) (mF _) hlt'
   exact hcell _ _ _ hv e'
  ·intro b' i hi
   obtain⟨⟨v,hv⟩,_⟩:=h.I b' i hi
   exact .inl ⟨hi,hcell b' i v hv⟩
  ·intro b' hi
   obtain⟨⟨es,aI,hv⟩,_⟩:=h.IM b' hi
   exact .inl ⟨hi,fK hv hb (fun e=>hm _ _ e.symm)⟩
  ·intro l r hl
   exact .inl (KU l r hl)
  ·intro b' hd
   exact .inl (hD b' hd)
 exact⟨⟨ok,e,ho.below hb0 hB,KV,fun _ h=>.inl h,fun _ _ h=>.inl h,fun _ h=>.inl h⟩,ok⟩
theorem Step.CG (h:ay E B0 σ K w) (hB:B0<=w.heap.size) {new:Nat->Prop}:
 Step E B0 new σ K w σ {K with D:=fun b=>K.D b\/b=w.heap.size} (w.alloc (.deferred (some []))):=by
 have ho:=l8 w (.deferred (some []))
 have e:Ext K σ.top w {K with D:=fun b=>K.D b\/b=w.heap.size} σ.top (w.alloc (.deferred (some []))):=by
  refine⟨fun _ h=>⟨h,rfl,rfl,rfl⟩,fun _ _=>.inl ⟨rfl,rfl,rfl,rfl⟩,fun b' i hi=>⟨hi,?_⟩,fun b' hi=>⟨hi,?_⟩⟩
  ·obtain⟨⟨v,hv⟩,_⟩:=h.I b' i hi
   rw[hv];exact sj hv
  ·obtain⟨⟨es,aI,hv⟩,_⟩:=h.IM b' hi
   exact heap_alloc_old (lt_of_heap hv)
 refine⟨?_,e,ho.below hB hB,fun _ h=>.inl h,fun _ h=>.inl h,fun _ _ h=>.inl h,fun _ h=>.inl h⟩
 refine h.upd (σ':=σ) ho e (fun _ _=>rfl) (fun r hr'=>⟨by simp,hB⟩) ?_ ?_ ?_ ?_ ?_ ?_
 ·intro loc s ob hs
  refine .inl ⟨hs,fun hr=>?_⟩
  have:=(h.rb _ _ ((h.obj _ _ _ hs).2.2 hr)).1
  omega
 ·intro s hs hlt'
  have:=(h.rb _ _ (h.own s hs hlt').2.1).1
  exact .inl ⟨hs,rfl,rfl,rfl,by omega⟩
 ·intro b' i hi
  obtain⟨⟨v,hv⟩,_⟩:=h.I b' i hi
  exact .inl ⟨hi,Sn (lt_of_cell hv)⟩
 ·intro b' hi
  obtain⟨⟨es,aI,hv⟩,_⟩:=h.IM b' hi
  exact .inl ⟨hi,Sn (lt_of_heap hv)⟩
 ·intro l r hl
  have:=(h.rb _ _ (h.loop l r hl).2.2.1).1
  exact .inl ⟨hl,by omega⟩
 ·intro b' hd
  rcases hd with hd|rfl
  ·exact .inl ⟨hd,Sn (lt_of_heap (h.D b' hd))⟩
  ·exact .inr ⟨rfl,heap_alloc_new _ _⟩
def Con.mJ (K:Con) (st b:Nat):Con:=
 {K with A:=fun s=>K.A s\/s=st,lo:=upd K.lo st 0,hi:=upd K.hi st 0,lp:=upd K.lp st b,ρ:=upd K.ρ b (some (.loop st))}
theorem Step.CJ (h:ay E B0 σ K w) (hB:B0<=w.heap.size) (hst:¬K.A σ.next) {fr:Fr} {tmps:Array Value} {ps:List Nat} {aK body:Code} {fn:FuncId} {D:Nat} (hf:bT K σ.top w fr tmps)
 (hok1:aP tmps.size aK=true) (hok2:aP tmps.size body=true) (hps:∀p∈ps,p<tmps.size) (hn1:bH aK=true) (hn2:bH body=true):
 Step E B0 (· =σ.next) σ K w ({σ with next:=σ.next+1}.bA σ.next {st:=0,pend:=none,fr:=fr,ps:=ps,aK:=aK,body:=body}) (K.mJ σ.next w.heap.size)
  (w.alloc (.loop {state:=.ready,pending:=none,fn:=fn,tmps:=tmps,params:=ps.toArray,assign:=aK,body:=body,defers:=D})):=by
 generalize hrec:({state:=.ready,pending:=none,fn:=fn,tmps:=tmps,params:=ps.toArray,assign:=aK,body:=body,defers:=D}:Go.Loop)=rec
 have ho:=l8 w (.loop rec)
 have hne:∀s,K.A s->s≠σ.next:=fun s hs e=>hst (e▸hs)
 have e:Ext K σ.top w (K.mJ σ.next w.heap.size) σ.top (w.alloc (.loop rec)):=by
  refine⟨fun s hs=>⟨.inl hs,rfl,upd_ne _ _ (hne s hs),rfl⟩,fun s hs=>.inl ⟨rfl,rfl,upd_ne _ _ (hne s hs),upd_ne _ _ (hne s hs)⟩,fun b' i hi=>⟨hi,?_⟩,fun b' hi=>⟨hi,?_⟩⟩
  ·obtain⟨⟨v,hv⟩,_⟩:=h.I b' i hi
   rw[hv];exact sj hv
  ·obtain⟨⟨es,aI,hv⟩,_⟩:=h.IM b' hi
   exact heap_alloc_old (lt_of_heap hv)
 refine⟨?_,e,ho.below hB hB,fun _ h=>h,fun _ h=>h,fun _ _ h=>.inl h,fun _ h=>.inl h⟩
 refine h.upd (σ':=({σ with next:=σ.next+1}.bA σ.next {st:=0,pend:=none,fr:=fr,ps:=ps,aK:=aK,body:=body})) ho e (fun k hk=>upd_ne _ _ hk) (fun r hr'=>⟨by simp,hB⟩) ?_ ?_ ?_ ?_ ?_ ?_
 ·intro loc s ob hs
  have hs':σ.obj loc=some (s,ob):=hs
  refine .inl ⟨hs',fun hr=>?_⟩
  have:=(h.rb _ _ ((h.obj _ _ _ hs').2.2 hr)).1
  omega
 ·intro s hs hlt'
  have hs':s≠σ.next:=by
   rintro rfl
   simp only[Con.mJ,upd_same] at hlt'
   omega
  have hA:K.A s:=hs.resolve_right hs'
  simp only[Con.mJ,upd_ne _ _ hs'] at hlt'
  have:=(h.rb _ _ (h.own s hA hlt').2.1).1
  exact .inl ⟨hA,upd_ne _ _ hs',upd_ne _ _ hs',rfl,by omega⟩
 ·intro b' i hi
  obtain⟨⟨v,hv⟩,_⟩:=h.I b' i hi
  exact .inl ⟨hi,Sn (lt_of_cell hv)⟩
 ·intro b' hi
  obtain⟨⟨es,aI,hv⟩,_⟩:=h.IM b' hi
  exact .inl ⟨hi,Sn (lt_of_heap hv)⟩
 ·intro l r hl
  by_cases hll:l=σ.next
  ·subst hll
   right
   have hr:r={st:=0,pend:=none,fr:=fr,ps:=ps,aK:=aK,body:=body}:=by
    simpa [Sig.bA,upd] using hl.symm
   subst hr
   have hlp:(K.mJ σ.next w.heap.size).lp σ.next=w.heap.size:=upd_same _ _ _
   refine⟨.inr rfl,by rw[hlp];exact hB,by rw[hlp];exact upd_same _ _ _,fn,tmps,D,?_,hf.ext e,hok1,hok2,hps,hn1,hn2⟩
   rw[hlp,heap_alloc_new,<-hrec];rfl
  ·left
   have hl1:σ.loops l=some r:=by simpa [Sig.bA,upd,hll] using hl
   have:=(h.rb _ _ (h.loop l r hl1).2.2.1).1
   exact⟨hl1,by omega⟩
 ·intro b' hd
  exact .inl ⟨hd,Sn (lt_of_heap (h.D b' hd))⟩
theorem KW (hE:EnvOK E) (hS:Sound E S) {f:Operand} {ps:Array Tmp} {aK body:Code} {fr fr':Fr} {e:Ex} (h:aO E S (.rangeFunc f ps aK body) fr σ=some (e,fr',σ')):eu E (.rangeFunc f ps aK body) fr σ e fr' σ':=by
 simp only[aO] at h
 split at h
 ·rename_i hfun
  simp only[iP] at h
  obtain⟨⟨v,σ3⟩,happ,r,hr,h⟩:=h
  split at h
  ·simp at h
  ·rename_i hst
   simp only[iE,iR] at h
   obtain⟨he,rfl,rfl⟩:=h
   have hfn:∃g a b,fr.ev E f= .fn (.func g) a b:=by
    generalize fr.ev E f=x at hfun
    unfold nG at hfun
    split at hfun
    ·exact⟨_,_,_,rfl⟩
    ·simp at hfun
   have hnext:σ.next+1<=σ3.next:=by
    obtain⟨g,a,b,hg⟩:=hfn
    rw[hg] at happ
    unfold dh at happ
    dsimp only at happ
    split at happ
    ·exact(hS.call _ _ _ _ _ _ happ).1
    ·simp only[iP] at happ
     obtain⟨_,_,_,_,happ⟩:=happ
     split at happ
     ·simp only[iE,iR] at happ
      rw[<-happ.2];exact mF _
     ·simp at happ
   refine⟨RG (RV _) hnext,fun ro B0 K w a n ds hs hok hnr=>?_⟩
   have hro:ro=none/\ds.nm=false:=by
    rcases hnr with h|h
    ·exact h
    ·simp[bH] at h
   obtain⟨hro,hnm⟩:=hro
   subst hro
   simp only[aP,RD,RZ,decide_eq_true_eq] at hok
   obtain⟨⟨⟨⟨hps,hok1⟩,hok2⟩,hn1⟩,hn2⟩:=hok
   refine wpIn_rangeFunc (fun fn _=>?_)
   have st1:=Step.CG (new:=newer σ (σ3.eP σ.next)) hs.ok hs.hB
   have hB1:=RG hs.hB st1.below.size
   have hst:¬K.A σ.next:=fun hA=>Nat.lt_irrefl _ (hs.st _ hA)
   have hf1:bT {K with D:=fun b=>K.D b\/b=w.heap.size} σ.top (w.alloc (.deferred (some []))) fr a.tmps:=hs.fr.ext st1.ext
   have st2:=Step.CJ (fn:=fn) (D:=w.heap.size) (ps:=ps.toList) (aK:=aK) (body:=body) st1.ok hB1 hst hf1 (by rw[hs.sz];exact hok1) (by rw[hs.sz];exact hok2) (fun p hp=>by rw[hs.sz];exact hps p hp) hn1 hn2
   have hsz1:(w.alloc (.deferred (some []))).heap.size=w.heap.size+1:=by simp
   generalize hK2:Con.mJ {K with D:=fun b=>K.D b\/b=w.heap.size} σ.next (w.alloc (.deferred (some []))).heap.size=K2 at st2
   generalize hw2:(w.alloc (.deferred (some []))).alloc (.loop {state:=.ready,pending:=none,fn:=fn,tmps:=a.tmps,params:=ps.toList.toArray,assign:=aK,body:=body,defers:=w.heap.size})=w2 at st2
   have tL:K2.lp σ.next=w.heap.size+1:=by rw[<-hK2,<-hsz1];exact upd_same _ _ _
   have hA2:K2.A σ.next:=by rw[<-hK2];exact .inr rfl
   have hf2:bT K2 σ.top w2 fr a.tmps:=hf1.ext st2.ext
   have xI:∀s,K2.A s->s<σ.next+1:=fun s hsA=>by
    rcases st2.A s hsA with h1|h1
    ·exact Nat.lt_succ_of_lt (hs.st s h1)
    ·omega
   have hB2:=RG hB1 st2.below.size
   have hra:RelA K2 σ.top w2 [.fn (.yield σ.next) [] []] #[.func (.yield (w.heap.size+1)) #[] #[]]:=by
    refine⟨rfl,fun i hi=>?_⟩
    have hi0:i=0:=by simpa using hi
    subst hi0
    have:=Rel.yield (K:=K2) (T:=σ.top) (w:=w2) σ.next hA2
    rw[tL] at this
    exact this
   obtain⟨_,g,first,cap,hcf,hbody,hcall⟩:=Cb hE hS.call st2.ok hB2 xI hfn happ (ig st2.ok hf2 f) hra
   have henter:=run_enterLoop_outer (P:=E.P) (w:=w) fn a.tmps ps aK body
   have xJ:(w.alloc (.deferred (some []))).alloc (.loop {state:=.ready,pending:=none,fn:=fn,tmps:=a.tmps,params:=ps,assign:=aK,body:=body,defers:=w.heap.size})=w2:=by
    rw[<-hw2]
   rw[xJ] at henter
   refine⟨w.heap.size+1,[mark w.heap.size],w2,{target:=.fn (.func g) cap,args:=first++ #[.func (.yield (w.heap.size+1)) #[] #[]]},w2,g,first++ #[.func (.yield (w.heap.size+1)) #[] #[]]++cap,w2,henter,?_,fun _ _=>trivial,?_,
    fun hd=>by simp[FW,Fence.wide] at hd,?_⟩
   ·unfold resolve
    have hargs:(rangeCall f (w.heap.size+1)).args.map a.eval= #[.func (.yield (w.heap.size+1)) #[] #[]]:=by simp[rangeCall,Act.eval]
    rw[hargs]
    simp only[rangeCall,hcf,Deferred.ofValue,Sem.run_pure]
   ·simp only[invoke]
    exact og hE hbody _ _
   ·have xK:CallsIn (FW none) (0-1) E.P g (first++ #[.func (.yield (w.heap.size+1)) #[] #[]]++cap) w2 _:=hcall
    refine xK.mono ?_
    intro en w3 hp
    cases en with
    |panicked ch=>exact hp.elim
    |outgrown=>exact hp.elim
    |returned cv=>
     obtain⟨K3,r3,mK,hA3,fF⟩:=hp
     obtain⟨Rt,hb3,KX,KY,KZ,D3,hh3,hf3,_⟩:=mK.loop σ.next r hr
     have j6:K3.lp σ.next=w.heap.size+1:=((fF.ext.A σ.next hA2).2.2.1).trans tL
     have hend:=run_endLoop (P:=E.P) hh3 (by
      show fD r.st≠ .busy
      unfold fD
      split
      ·simp
      ·simp[hst])
     rw[j6] at hend
     have hB3:=RG hB2 fF.below.size
     have hput:=ay.oC (σ':=σ3.eP σ.next) (new:=newer σ (σ3.eP σ.next)) (o':=.loop {state:=.exhausted,pending:=r.pend.bind fJ,fn:=KY,tmps:=KZ,params:=r.ps.toArray,assign:=r.aK,body:=r.body,defers:=D3}) mK hB3 hb3 hh3 (fun _ _ _=>by simp) (fun _ _=>by simp)
      (fun l r1 hl=>by
        have hll:l≠σ.next:=by
         rintro rfl
         simp[Sig.eP,upd] at hl
        have hl1:σ3.loops l=some r1:=by simpa [Sig.eP,upd,hll] using hl
        refine⟨hl1,fun e'=>?_⟩
        have:=(mK.loop l r1 hl1).2.2.1
        rw[e',KX] at this
        cases this
        exact hll rfl) rfl rfl K3.D (fun x hx=>⟨hx,fK (mK.D x hx) hh3 (by simp)⟩) (fun _ h=>h)
     have qF:({K3 with D:=K3.D}:Con)=K3:=rfl
     rw[qF] at hput
     obtain⟨oD,tO⟩:=hput
     rw[j6] at oD tO
     have K4:(σ3.eP σ.next).next=σ3.next:=rfl
     have gM:=Step.trans (new:=newer σ (σ3.eP σ.next)) st1 ((st2.mono (fun s hs'=>by subst hs';exact⟨mF _,by rw[K4];omega⟩)).trans ((fF.mono (fun s hs'=>by
      have h1:σ.next+1<=s:=hs'.1
      exact⟨by omega,hs'.2⟩)).trans oD))
     have mk:∀w4,ay E B0 (σ3.eP σ.next) K3 w4->Step E B0 (newer σ (σ3.eP σ.next)) σ K w (σ3.eP σ.next) K3 w4->St E B0 (σ3.eP σ.next) K3 w4 fr {a with defers:=[mark w.heap.size]++a.defers} n ds:=by
      intro w4 tO gM
      refine⟨tO,RG hs.hB gM.below.size,hs.fr.ext gM.ext,hs.sz,?_,hA3,RG hs.hD gM.below.size⟩
      obtain⟨bs,d1,d2,d3,_⟩:=hs.df
      refine⟨w.heap.size::bs,by simp[d1],?_,fun b hb=>?_,fun e=>by rw[hnm] at e;cases e⟩
      ·refine Sl.2 ⟨fun hm=>?_,d2⟩
       exact Nat.lt_irrefl _ (lt_of_heap (hs.ok.D _ (d3 _ hm).1))
      ·rcases RL.1 hb with rfl|hb
       ·exact⟨fF.D _ (st2.D _ (.inr rfl)),hs.hD⟩
       ·exact⟨gM.D b (d3 b hb).1,(d3 b hb).2⟩
     have hSt:=mk _ tO gM
     refine⟨_,_,hend,?_⟩
     cases hp:r.pend with
     |none=>
      rw[hp] at he hSt gM
      simp only[Option.bind_none]
      subst he
      exact⟨trivial,K3,hSt,gM⟩
     |some e1=>
      rw[hp] at he hSt gM
      simp only at he
      subst he
      cases e1 with
      |normal=>exact⟨trivial,K3,hSt,gM⟩
      |exit i=>exact wpIn_exit ⟨rfl,K3,hSt,gM⟩
      |ret=>exact wpIn_ret ⟨trivial,K3,hSt,gM⟩
 ·simp at h
end
theorem exists_least {p:Nat->Prop} (h:∃n,p n):∃n,p n/\∀m,p m->n<=m:=by
 obtain⟨n,hn⟩:=h
 induction n using Nat.strongRecOn with
 |_ n ih=>
  by_cases hm:∃m,m<n/\p m
  ·obtain⟨m,hm1,hm2⟩:=hm
   exact ih m hm1 hm2
  ·exact⟨n,hn,fun m hm'=>Classical.byContradiction fun hlt=>hm ⟨m,by omega,hm'⟩⟩
open Classical in
noncomputable def least (p:Nat->Prop):Nat:=if h:∃n,p n then (exists_least h).choose else 0
theorem CK {p:Nat->Prop} (h:∃n,p n):p (least p)/\∀m,p m->least p<=m:=by
 unfold least
 rw[dif_pos h]
 exact(exists_least h).choose_spec
theorem K5 {F:Fence} {rm:Nat} {P:Program} {Q:Exit->Act->World->Prop} {a:Act} {w:World} {c:Code} (I:Nat->Act->World->Prop) (n₀:Nat) (h₀:I n₀ a w)
 (round:∀n a w,I n a w->c.wpIn F rm P (Exit.then (fun a' w'=>∃n',n'<n/\I n' a' w') Q) a w):(Code.loop c).wpIn F rm P Q a w:=by
 refine wpIn_loop (fun a w=>∃n,I n a w) (fun a w=>least (fun n=>I n a w)) ⟨n₀,h₀⟩ ?_
 intro a w hI
 refine wpIn_mono (round _ a w (CK hI).1) ?_
 intro e a' w' hq
 cases e with
 |normal=>
  obtain⟨n',hlt,hI'⟩:=hq
  exact show (∃n,I n a' w')/\least (fun n=>I n a' w')<least (fun n=>I n a w) from ⟨⟨n',hI'⟩,Nat.lt_of_le_of_lt ((CK ⟨n',hI'⟩).2 n' hI') hlt⟩
 |exit id=>exact hq
 |goto l=>exact hq
 |ret=>exact hq
 |panic ch=>exact hq
 |outgrown=>exact hq
section
variable {E:Env}
def CO (E:Env) (code:Code->Fr->Sig->Option (Ex×Fr×Sig)) (c:Code):Prop:=∀fr σ e fr' σ',code c fr σ=some (e,fr',σ')->eu E c fr σ e fr' σ'
theorem xL (hE:EnvOK E) (n:Nat) (hS:∀m,m<=n->Sound E (evl E m)):∀c,CO E (aO E (evl E n)) c:=by
 intro c
 induction c with
 |skip=>
  intro fr σ e fr' σ' h
  simp only[aO,iE,iR] at h
  obtain⟨rfl,rfl,rfl⟩:=h
  exact Jm
 |region id ops dr=>
  intro fr σ e fr' σ' h
  exact KT hE (hS n (mF _)) h
 |seq x y jv ihy=>
  intro fr σ e fr' σ' h
  simp only[aO,iP] at h
  obtain⟨⟨e1,aB,σ1⟩,h1,h⟩:=h
  cases e1 with
  |normal=>exact Js (jv _ _ _ _ _ h1) (ihy _ _ _ _ _ h)
  |exit i=>
   simp only[iE,iR] at h
   obtain⟨rfl,rfl,rfl⟩:=h
   exact BL (by simp) (jv _ _ _ _ _ h1)
  |ret=>
   simp only[iE,iR] at h
   obtain⟨rfl,rfl,rfl⟩:=h
   exact BL (by simp) (jv _ _ _ _ _ h1)
 |cond c x y jv ihy=>
  intro fr σ e fr' σ' h
  simp only[aO,iP] at h
  obtain⟨t,ht,h⟩:=h
  refine Jt ht ?_
  cases t
  ·exact ihy _ _ _ _ _ (by simpa using h)
  ·exact jv _ _ _ _ _ (by simpa using h)
 |block id c ih=>
  intro fr σ e fr' σ' h
  simp only[aO,RF] at h
  obtain⟨⟨e1,aB,σ1⟩,h1,h⟩:=h
  have:=Ju (id:=id) (ih _ _ _ _ _ h1)
  cases e1 with
  |normal=>
   simp only[iR] at h
   obtain⟨rfl,rfl,rfl⟩:=h
   exact this
  |ret=>
   simp only[iR] at h
   obtain⟨rfl,rfl,rfl⟩:=h
   exact this
  |exit i=>
   simp only[wJ] at this
   simp only at h
   split at h
   ·rename_i hi
    simp only[iR] at h
    obtain⟨rfl,rfl,rfl⟩:=h
    rwa[if_pos hi] at this
   ·rename_i hi
    simp only[iR] at h
    obtain⟨rfl,rfl,rfl⟩:=h
    rwa[if_neg hi] at this
 |loop c ih=>
  intro fr σ e fr' σ' h
  have hm:(evl E (n+1)).code (.loop c) fr σ=some (e,fr',σ'):=h
  have hbody:∀k,k<=n->CO E (aO E (evl E k)) c:=by
   intro k hk
   by_cases hkn:k=n
   ·subst hkn;exact ih
   ·intro fr σ e fr' σ' hc
    exact(hS (k+1) (by omega)).code c fr σ e fr' σ' hc
  have hnext:∀(k:Nat) (fr:Fr) (σ:Sig),k<=n+1->(evl E k).code (.loop c) fr σ=some (e,fr',σ')->σ.next<=σ'.next:=by
   intro k
   induction k with
   |zero=>intro fr σ _ hh;cases hh
   |succ k ihk=>
    intro fr σ hk hh
    have hh':aO E (evl E k) (.loop c) fr σ=some (e,fr',σ'):=hh
    simp only[aO,iP] at hh'
    obtain⟨⟨e1,aB,σ1⟩,h1,h2⟩:=hh'
    have hb:=(hbody k (by omega) _ _ _ _ _ h1).1
    cases e1 with
    |normal=>exact RG hb (ihk aB σ1 (by omega) h2)
    |exit i=>simp only[iE,iR] at h2;obtain⟨_,_,rfl⟩:=h2;exact hb
    |ret=>simp only[iE,iR] at h2;obtain⟨_,_,rfl⟩:=h2;exact hb
  refine⟨hnext (n+1) fr σ (mF _) hm,fun ro B0 K w a sz ds hs hok hnr=>?_⟩
  refine K5 (fun m a1 w1=>m<=n+1/\∃aB σ1 K1,(evl E m).code (.loop c) aB σ1=some (e,fr',σ')/\St E B0 σ1 K1 w1 aB a1 sz ds/\Step E B0 (newer σ σ1) σ K w σ1 K1 w1/\σ.next<=σ1.next) (n+1)
   ⟨mF _,fr,σ,K,hm,hs,.refl hs.ok,mF _⟩ ?_
  rintro m a1 w1 ⟨hmn,aB,σ1,K1,hcode,hs1,st1,hle1⟩
  cases m with
  |zero=>cases hcode
  |succ k=>
   have hh':aO E (evl E k) (.loop c) aB σ1=some (e,fr',σ'):=hcode
   simp only[aO,iP] at hh'
   obtain⟨⟨e2,aW,σ2⟩,h1,h2⟩:=hh'
   obtain⟨hle2,hwp⟩:=hbody k (by omega) _ _ _ _ _ h1
   refine wpIn_mono (hwp ro B0 K1 w1 a1 sz ds hs1 hok hnr) ?_
   rintro x a2 w2 ⟨hx,K2,hs2,st2⟩
   cases e2 with
   |normal=>
    cases x<;>simp only[dx] at hx
    exact⟨k,Ta k,by omega,aW,σ2,K2,h2,hs2,st1.widen st2 hle1 hle2,RG hle1 hle2⟩
   |exit i=>
    simp only[iE,iR] at h2
    obtain⟨rfl,rfl,rfl⟩:=h2
    cases x<;>simp only[dx] at hx
    exact⟨hx,K2,hs2,st1.widen st2 hle1 hle2⟩
   |ret=>
    simp only[iE,iR] at h2
    obtain⟨rfl,rfl,rfl⟩:=h2
    cases x<;>simp only[dx] at hx
    exact⟨trivial,K2,hs2,st1.widen st2 hle1 hle2⟩
 |rangeFunc f ps x y=>intro fr σ e fr' σ' h;exact KW hE (hS n (mF _)) h
 |exit id=>
  intro fr σ e fr' σ' h
  simp only[aO,iE,iR] at h
  obtain⟨rfl,rfl,rfl⟩:=h
  exact Jo id
 |scope c ih=>
  intro fr σ e fr' σ' h
  simp only[aO] at h
  exact Jr (ih _ _ _ _ _ h)
 |label l=>
  intro fr σ e fr' σ' h
  simp only[aO,iE,iR] at h
  obtain⟨rfl,rfl,rfl⟩:=h
  exact Jq l
 |goto l=>intro fr σ e fr' σ' h;simp[aO] at h
 |ret=>
  intro fr σ e fr' σ' h
  simp only[aO,iE,iR] at h
  obtain⟨rfl,rfl,rfl⟩:=h
  exact Jp
 |refuse why=>intro fr σ e fr' σ' h;simp[aO] at h
variable {B0:Nat} {σ:Sig} {K:Con} {w:World} {fr:Fr}
def qG (tmps:Array Value):ResultVar->Sem Value
 |.tmp t=>pure (tmps.getD t undef)
 |.cell a t=>do loadVar t (<-asAddr (tmps.getD a undef))
theorem K6 (h:ay E B0 σ K w) {tmps:Array Value} (hf:bT K σ.top w fr tmps) {r:ResultVar} {v:V} (hv:resV E fr σ r=some v):
 ∃c,(qG tmps r).run E.P w= .ok c w/\Rel K σ.top w v c:=by
 cases r with
 |tmp t=>
  simp only[resV,iE] at hv
  subst hv
  exact⟨_,rfl,hf t⟩
 |cell a t=>
  simp only[resV] at hv
  have ha:=hf a
  cases hx:fr.tm a with
  |ref loc s off=>
   rw[hx] at hv ha
   simp only at hv
   obtain⟨c,h1,h2⟩:=vX h (t:=t) ha (v:=v) hv
   simp only[qG]
   generalize tmps.getD a undef=ca at h1 ha
   cases ha with
   |ref _ _ _ hA=>
    refine⟨c,?_,h2⟩
    simpa [Instr.loadAt,Instr.sureAddr,asAddr] using h1
  |_=>rw[hx] at hv;simp at hv
theorem CP (h:ay E B0 σ K w) {tmps:Array Value} (hf:bT K σ.top w fr tmps):∀(rs:List ResultVar) (vs:List V),rs.mapM (resV E fr σ)=some vs->
 ∃cs:List Value,(rs.mapM (qG tmps)).run E.P w= .ok cs w/\vs.length=cs.length/\
  ∀i,i<vs.length->Rel K σ.top w (vs.getD i undefV) (cs.getD i undef):=by
 intro rs
 induction rs with
 |nil=>intro vs hv;simp at hv;subst hv;exact⟨[],by simp,rfl,fun i hi=>absurd hi (RI i)⟩
 |cons r rs ih=>
  intro vs hv
  simp only[RX,Option.pure_def,Option.bind_eq_bind,iP,iE] at hv
  obtain⟨v,h1,vs',h2,rfl⟩:=hv
  obtain⟨c,g1,g2⟩:=K6 h hf h1
  obtain⟨cs,k1,k2,k3⟩:=ih vs' h2
  refine⟨c::cs,?_,by simp[k2],fun i hi=>?_⟩
  ·simp only[RX,Sem.run_bind,g1,Result.andThen_ok,k1,Sem.run_pure]
  ·cases i with
   |zero=>exact g2
   |succ i=>exact k3 i (by simpa using hi)
theorem CQ {fn:Func} {tmps:Array Value} {R:Ending->World->Prop} {B1:Nat} (hB1:B0<=B1) (KD:Nat->Prop):∀(bs:List Nat) (K:Con) (w:World),ay E B0 σ K w->B0<=w.heap.size->bs.Nodup->(∀b∈bs,K.D b/\B1<=b)->(∀b,KD b->K.D b)->(∀b,KD b->b<B1)->
 (∀w1,Step E B0 (fun _=>False) σ {K with D:=KD} w σ {K with D:=KD} w1->LeavesIn Fence.wide 0 E.P fn tmps R [] .returning w1)->LeavesInM Fence.wide 0 E.P fn tmps R (bs.map mark) .returning w:=by
 intro bs
 induction bs with
 |nil=>
  intro K w h _ _ _ hk _ hl
  refine hl w (.refl (h.lu KD (fun b hb=>h.D b (hk b hb))))
 |cons b bs ih=>
  intro K w h hB hnd hbs hk hlt hl
  obtain⟨hb,oF⟩:=hbs b (by simp)
  have hheap:=h.D b hb
  have hput:=ay.oC (σ':=σ) (new:=fun _=>False) (o':=.deferred none) h hB (RG hB1 oF) hheap (fun _ _ _=>by simp) (fun _ _=>by simp)
   (fun l r hl=>by
     obtain⟨_,_,_,_,_,_,hh,_⟩:=h.loop l r hl
     exact⟨hl,fK hh hheap (by simp)⟩) rfl rfl
  have ok1:ay E B0 σ {K with D:=fun x=>K.D x/\x≠b} (w.putObj b (.deferred none)):=by
   have ho:=wQ w b (.deferred none)
   have h0:ay E B0 σ {K with D:=fun _=>False} w:=h.lu _ (fun b hb=>hb.elim)
   have hp:=(ay.oC (σ':=σ) (new:=fun _=>False) (o':=.deferred none) h0 hB (RG hB1 oF) hheap (fun _ _ _=>by simp) (fun _ _=>by simp)
    (fun l r hl=>by
      obtain⟨_,_,_,_,_,_,hh,_⟩:=h.loop l r hl
      exact⟨hl,fK hh hheap (by simp)⟩) rfl rfl (fun _=>False) (fun x hx=>hx.elim) (fun _ h=>h)).2
   exact hp.lu (fun x=>K.D x/\x≠b) (fun x hx=>by
    rw[World.putObj_heap_other hx.2];exact h.D x hx.1)
  refine⟨by simp,.inl ⟨b,w.putObj b (.deferred none),rfl,run_takeDeferred hheap,?_⟩⟩
  refine ih {K with D:=fun x=>K.D x/\x≠b} (w.putObj b (.deferred none)) ok1 (by simpa using hB) (Sl.1 hnd).2
   (fun x hx=>⟨⟨(hbs x (by simp[hx])).1,fun e=>(Sl.1 hnd).1 (e▸hx)⟩,(hbs x (by simp[hx])).2⟩) (fun x hx=>⟨hk x hx,fun e=>by have:=hlt x hx;omega⟩) hlt (fun w1 st=>hl w1 ?_)
  have qF:ay E B0 σ {K with D:=KD} w:=h.lu KD (fun b hb=>h.D b (hk b hb))
  have st0:=(ay.oC (σ':=σ) (new:=fun _=>False) (o':=.deferred none) qF hB (RG hB1 oF) hheap (fun _ _ _=>by simp) (fun _ _=>by simp)
   (fun l r hl=>by
     obtain⟨_,_,_,_,_,_,hh,_⟩:=h.loop l r hl
     exact⟨hl,fK hh hheap (by simp)⟩) rfl rfl KD (fun x hx=>⟨hx,fun e=>by have h1:x<B1:=hlt x hx;omega⟩) (fun _ h=>h)).1
  exact st0.trans st
theorem K7 (n:Nat) (hS:jG E (evl E n).code):nZ E (kR E (evl E n)):=by
 intro f args d σ v σ' h
 simp only[kR,iP] at h
 obtain⟨fn,hfn,c,hc,h⟩:=h
 split at h
 ·rename_i hok
  simp only[iP] at h
  obtain⟨⟨e,aB,σ1⟩,hcode,h⟩:=h
  have hne:e= .normal\/e= .ret:=by
   cases e with
   |normal=>exact .inl rfl
   |ret=>exact .inr rfl
   |exit i=>simp at h
  have h':(fn.results.toList.mapM (resV E aB σ1)).map (fun vs=>(match vs with| [v]=>v|vs=>.tup vs,σ1))=some (v,σ'):=by
   rcases hne with rfl|rfl<;>exact h
  simp only[RF,iR] at h'
  obtain⟨vs,hvs,hv,rfl⟩:=h'
  obtain⟨hle,hwp⟩:=hS _ _ _ _ _ _ hcode
  refine⟨hle,⟨fn,c,hfn,hc⟩,fun ro B0 K w cargs hs hB hA hr=>?_⟩
  have hsz:cargs.size=args.length:=hr.1.symm
  have hst:St E B0 σ K w {d:=d,om:=E.om f,tm:=fun i=>args.getD i undefV} {tmps:=cargs++Array.replicate (fn.ntmps-cargs.size) undef,defers:=[]} fn.ntmps ⟨[],w.heap.size,false⟩:=by
   refine⟨hs,hB,fun t=>?_,by simp;omega,⟨[],rfl,List.nodup_nil,(fun b hb=>by cases hb),fun _=>rfl⟩,hA,mF _⟩
   show Rel K σ.top w (args.getD t undefV) _
   by_cases ht:t<args.length
   ·have e1:(cargs++Array.replicate (fn.ntmps-cargs.size) undef).getD t undef=cargs.getD t undef:=by
     simp only[SN]
     rw[Array.getElem?_append_left (by omega)]
    rw[e1];exact hr.2 t ht
   ·have e1:(cargs++Array.replicate (fn.ntmps-cargs.size) undef).getD t undef=undef:=by
     simp only[SN]
     rw[Array.getElem?_append_right (by omega),Array.getElem?_replicate]
     split<;>rfl
    have e2:args.getD t undefV=undefV:=by simp[List.getD,List.getElem?_eq_none (Nat.le_of_not_lt ht)]
    rw[e1,e2];exact .undef _ _ _
  have hwp':=hwp none B0 K w _ fn.ntmps ⟨[],w.heap.size,false⟩ hst hok.2 (.inl ⟨rfl,rfl⟩)
  have qH:CallsIn Fence.wide 0 E.P f cargs w (iA E B0 σ K w v σ1):=by
   refine callsIn_of_wp_marks hfn hc trivial (wpIn_mono hwp' ?_)
   rintro x a' w' ⟨hx,K',hs',st'⟩
   have hleave:LeavesInM Fence.wide 0 E.P fn a'.tmps (iA E B0 σ K w v σ1) a'.defers .returning w':=by
    obtain⟨bs,d1,d2,d3,_⟩:=hs'.df
    rw[d1,SB]
    refine CQ (B1:=w.heap.size) hB K.D bs K' w' hs'.ok hs'.hB d2 d3 st'.D (fun b hb=>lt_of_heap (hs.D b hb)) (fun w1 iG=>?_)
    have mM:=iG.ok
    have hf2:bT {K' with D:=K.D} σ1.top w1 aB a'.tmps:=by
     have e1:Ext K' σ1.top w' {K' with D:=K.D} σ1.top w1:=(oz K' σ1.top w' K.D).trans iG.ext
     exact hs'.fr.ext e1
    obtain⟨cs,k1,k2,k3⟩:=CP mM hf2 fn.results.toList vs hvs
    have hrun:(results fn a'.tmps).run E.P w1= .ok (if h:cs.toArray.size=1 then cs.toArray[0] else .tuple cs.toArray) w1:=by
     have hres:results fn a'.tmps=(do let vs<-fn.results.mapM (qG a'.tmps);pure (if h:vs.size=1 then vs[0] else .tuple vs)):=rfl
     rw[hres,Array.mapM_eq_mapM_toList]
     simp only[Sem.run_bind,Sem.run_map,k1,Result.andThen_ok,Sem.run_pure]
    have kZ:Step E B0 (newer σ σ1) σ K w σ1 {K' with D:=K.D} w1:=
     ⟨mM,st'.ext.trans ((oz K' σ1.top w' K.D).trans iG.ext),st'.below.trans iG.below,fun _ h=>h,st'.A,st'.nI,st'.gZ⟩
    refine⟨_,hrun,{K' with D:=K.D},?_,mM,hs'.st,kZ⟩
    rw[<-hv]
    cases vs with
    |nil=>
     have:cs=[]:=by simpa using k2.symm
     subst this
     exact .tup [] #[] rfl (fun i hi=>absurd hi (RI i))
    |cons v1 vs=>
     cases cs with
     |nil=>simp at k2
     |cons c1 cs=>
      cases vs with
      |nil=>
       have:cs=[]:=by simpa using k2.symm
       subst this
       have:=k3 0 (by simp)
       simpa using this
      |cons v2 vs=>
       have hsz2:¬((c1::cs).toArray.size=1):=by
        simp only[List.length_cons,Nat.add_right_cancel_iff] at k2
        rw[List.size_toArray,List.length_cons]
        omega
       rw[dif_neg hsz2]
       refine .tup _ _ (by simpa using k2) (fun i hi=>?_)
       have:=k3 i hi
       simpa [SN,List.getD] using this
   rcases hne with rfl|rfl<;>cases x<;>simp only[dx] at hx<;>exact hleave
  exact qH
 ·simp at h
theorem evl_sound (hE:EnvOK E):∀n,Sound E (evl E n):=by
 have all:∀n m,m<=n->Sound E (evl E m):=by
  intro n
  induction n with
  |zero=>
   intro m hm
   obtain rfl:m=0:=by omega
   exact⟨(fun _ _ _ _ _ _ h=>by cases h),(fun _ _ _ _ _ _ h=>by cases h)⟩
  |succ n ih=>
   intro m hm
   by_cases hmn:m<=n
   ·exact ih m hmn
   ·obtain rfl:m=n+1:=by omega
    exact⟨fun c fr σ e fr' σ' h=>xL hE n ih c fr σ e fr' σ' h,K7 n (ih n (mF _)).code⟩
 exact fun n=>all n n (mF _)
theorem K8 (hE:EnvOK E) {n:Nat} {f:FuncId} {args:List V} {v:V} (h:callPure E (evl E n) f args=some v):PureOK E f args v:=callPure_sound hE (evl_sound hE n).call h
end
end Aq
end
section
namespace Aq
open Go
section
variable {E:Env}
def eD (S T:bG):Prop:=(∀c fr σ r,S.code c fr σ=some r->T.code c fr σ=some r)/\∀f args d σ r,S.call f args d σ=some r->T.call f args d σ=some r
variable {S T:bG}
theorem xM (h:eD S T) {f:FuncId} {args:List V} {v:V} (hc:callPure E S f args=some v):callPure E T f args=some v:=by
 unfold callPure at hc⊢
 cases hg:E.summ f with
 |some g=>simp only[hg] at hc⊢;exact hc
 |none=>
  simp only[hg,iP] at hc⊢
  obtain⟨x,h1,h2⟩:=hc
  exact⟨x,h.2 _ _ _ _ _ h1,h2⟩
theorem CS (h:eD S T) {l:Nat} {args:List V} {σ:Sig} {r:V×Sig} (hc:jh S l args σ=some r):jh T l args σ=some r:=by
 unfold jh at hc⊢
 simp only[iP] at hc⊢
 obtain⟨r0,hl,hc⟩:=hc
 refine⟨r0,hl,?_⟩
 split at hc
 ·rename_i hst
  rw[if_pos hst]
  simp only[iP] at hc⊢
  obtain⟨⟨e1,aB,σ1⟩,j5,hc⟩:=hc
  refine⟨(e1,aB,σ1),h.1 _ _ _ _ j5,?_⟩
  cases e1 with
  |normal=>
   simp only[iP] at hc⊢
   obtain⟨r1,hl1,hc⟩:=hc
   refine⟨r1,hl1,?_⟩
   split at hc
   ·rename_i jH
    rw[if_pos jH]
    simp only[iP] at hc⊢
    obtain⟨x,hb,y,hy,hc⟩:=hc
    exact⟨x,h.1 _ _ _ _ hb,y,hy,hc⟩
   ·simp at hc
  |exit i=>simp at hc
  |ret=>simp at hc
 ·simp at hc
theorem CU (h:eD S T) {d:Nat} {σ:Sig} {fv:V} {args:List V} {r:V×Sig} (hc:dh E S d σ fv args=some r):dh E T d σ fv args=some r:=by
 unfold dh at hc⊢
 split at hc
 ·split at hc
  ·rename_i hi;simp only[hi,if_true];exact h.2 _ _ _ _ _ hc
  ·rename_i hi
   simp only[iP] at hc
   obtain⟨as,h1,v,h2,h3⟩:=hc
   simp only[hi,h1,Option.bind_some,xM h h2]
   exact h3
 ·exact CS h hc
 ·simp at hc
theorem K9 (h:eD S T) {σ:Sig} {st:Nat} {fv:V} {args:List V} {r:V×Sig} (hc:fZ E S σ st fv args=some r):fZ E T σ st fv args=some r:=by
 unfold fZ at hc⊢
 split at hc
 ·split at hc
  ·rename_i hi
   simp only[iP] at hc
   obtain⟨as,h1,v,h2,h3⟩:=hc
   simp only[hi,if_true,h1,Option.bind_some,h.2 _ _ _ _ _ h2]
   exact h3
  ·cases hc
 ·cases hc
theorem xO (h:eD S T) {fr:Fr} {σ:Sig} {st:Nat} {o:Oper} {r:V×Fr×Sig} (hc:opC E S fr σ st o=some r):opC E T fr σ st o=some r:=by
 unfold opC at hc⊢
 split at hc
 ·rename_i c ho
  simp only[ho] at hc⊢
  split at hc
  ·exact hc
  ·rename_i f hf
   split at hc
   ·rename_i aX
    simp only[aX,if_true]
    simp only[RF] at hc⊢
    obtain⟨x,h1,h2⟩:=hc
    exact⟨x,K9 h h1,h2⟩
   rename_i aX
   simp only[aX,if_false,RH]
   simp only[RF] at hc⊢
   obtain⟨x,h1,h2⟩:=hc
   exact⟨x,CU h h1,h2⟩
  ·simp at hc
 ·simp at hc
 ·exact hc
theorem qI (h:eD S T) (all:List Oper):∀(os:List Oper) (st:Nat) (fr:Fr) (σ:Sig) (r:Fr×Sig),opsE E S all st os fr σ=some r->opsE E T all st os fr σ=some r:=by
 intro os
 induction os with
 |nil=>intro st fr σ r hc;exact hc
 |cons o os ih=>
  intro st fr σ r hc
  simp only[opsE,iP] at hc⊢
  obtain⟨t,h1,h2⟩:=hc
  refine⟨t,h1,?_⟩
  cases t with
  |true=>
   simp only[if_true,iP] at h2⊢
   obtain⟨x,h3,h4⟩:=h2
   exact⟨x,xO h h3,ih _ _ _ _ h4⟩
  |false=>
   simp only[RH,if_false] at h2⊢
   exact ih _ _ _ _ h2
theorem tT (h:eD S T) (all:List Oper):∀(os:List Oper) (st:Nat) (fr:Fr) (σ:Sig) (r:List Foot×Fr×Sig),eX E S all st os fr σ=some r->eX E T all st os fr σ=some r:=by
 intro os
 induction os with
 |nil=>intro st fr σ r hc;exact hc
 |cons o os ih=>
  intro st fr σ r hc
  simp only[eX,iP] at hc⊢
  obtain⟨t,h1,h2⟩:=hc
  refine⟨t,h1,?_⟩
  cases t with
  |true=>
   simp only[if_true,iP,RF] at h2⊢
   obtain⟨x,h3,y,h4,h5⟩:=h2
   exact⟨x,xO h h3,y,ih _ _ _ _ h4,h5⟩
  |false=>
   simp only[RH,if_false,RF] at h2⊢
   obtain⟨y,h4,h5⟩:=h2
   exact⟨y,ih _ _ _ _ h4,h5⟩
theorem La (h:eD S T) {ops:List Oper} {base i:Nat} {fr:Fr} {σ:Sig} {r:Fr×Sig} (hc:dn E S ops base i fr σ=some r):dn E T ops base i fr σ=some r:=by
 unfold dn at hc⊢
 split at hc
 ·exact hc
 ·simp only[iP] at hc⊢
  obtain⟨t,h1,h2⟩:=hc
  refine⟨t,h1,?_⟩
  cases t with
  |true=>
   simp only[if_true,RF] at h2⊢
   obtain⟨x,h3,h4⟩:=h2
   exact⟨x,xO h h3,h4⟩
  |false=>simpa using h2
theorem Lb (h:eD S T) {ms:List Nat} {ops:List Oper} {base:Nat} {x y:Fr×Sig} (hf:Free E S ms ops base x y):Free E T ms ops base x y:=by
 obtain⟨s,T',W,h0,hn,qy,hloc,hr⟩:=hf
 refine⟨s,T',W,h0,hn,qy,fun i hi x hx=>?_,hr⟩
 obtain⟨y,h1,h2⟩:=hloc i hi x hx
 exact⟨y,La h h1,h2⟩
theorem mO (h:eD S T):∀(c:Code) (fr:Fr) (σ:Sig) (r:Ex×Fr×Sig),aO E S c fr σ=some r->aO E T c fr σ=some r:=by
 intro c
 induction c with
 |region id ops dr=>
  intro fr σ r hc
  simp only[aO] at hc⊢
  split at hc
  ·rename_i hd
   simp only[hd,if_true,iP] at hc⊢
   obtain⟨x,h1,h2⟩:=hc
   refine⟨x,tT h _ _ _ _ _ _ h1,?_⟩
   split at h2
   ·rename_i hp;rw[if_pos hp];exact h2
   ·rename_i hp
    rw[if_neg hp]
    unfold vF at h2⊢
    split at h2
    ·rename_i hf
     rw[if_pos ⟨hf.1,Lb h hf.2⟩];exact h2
    ·cases h2
  ·rename_i hd
   simp only[hd,RH,if_false,RF] at hc⊢
   obtain⟨x,h1,h2⟩:=hc
   exact⟨x,qI h _ _ _ _ _ _ h1,h2⟩
 |seq a b iha ihb=>
  intro fr σ r hc
  simp only[aO,iP] at hc⊢
  obtain⟨⟨e,aB,σ1⟩,h1,h2⟩:=hc
  refine⟨(e,aB,σ1),iha _ _ _ h1,?_⟩
  cases e with
  |normal=>exact ihb _ _ _ h2
  |exit i=>exact h2
  |ret=>exact h2
 |cond c a b iha ihb=>
  intro fr σ r hc
  simp only[aO,iP] at hc⊢
  obtain⟨t,h1,h2⟩:=hc
  refine⟨t,h1,?_⟩
  cases t with
  |true=>simp only[if_true] at h2⊢;exact iha _ _ _ h2
  |false=>simp only[RH,if_false] at h2⊢;exact ihb _ _ _ h2
 |block id c ih=>
  intro fr σ r hc
  simp only[aO,RF] at hc⊢
  obtain⟨x,h1,h2⟩:=hc
  exact⟨x,ih _ _ _ h1,h2⟩
 |loop c ih=>
  intro fr σ r hc
  simp only[aO,iP] at hc⊢
  obtain⟨⟨e,aB,σ1⟩,h1,h2⟩:=hc
  refine⟨(e,aB,σ1),ih _ _ _ h1,?_⟩
  cases e with
  |normal=>exact h.1 _ _ _ _ h2
  |exit i=>exact h2
  |ret=>exact h2
 |rangeFunc f ps a b iha ihb=>
  intro fr σ r hc
  simp only[aO] at hc⊢
  split at hc
  ·rename_i hf
   rw[if_pos hf]
   simp only[iP] at hc⊢
   obtain⟨x,h1,h2⟩:=hc
   exact⟨x,CU h h1,h2⟩
  ·simp at hc
 |scope c ih=>intro fr σ r hc;simp only[aO] at hc⊢;exact ih _ _ _ hc
 |_=>intro fr σ r hc;simpa [aO] using hc
theorem Lc (h:eD S T) {f:FuncId} {args:List V} {d:Nat} {σ:Sig} {r:V×Sig} (hc:kR E S f args d σ=some r):kR E T f args d σ=some r:=by
 simp only[kR,iP] at hc⊢
 obtain⟨fn,h1,c,h2,h3⟩:=hc
 refine⟨fn,h1,c,h2,?_⟩
 split at h3
 ·rename_i hok
  rw[if_pos hok]
  simp only[iP] at h3⊢
  obtain⟨x,h4,h5⟩:=h3
  exact⟨x,h.1 _ _ _ _ h4,h5⟩
 ·simp at h3
theorem Ld:∀n,eD (evl E n) (evl E (n+1)):=by
 intro n
 induction n with
 |zero=>exact⟨(fun _ _ _ _ h=>by cases h),(fun _ _ _ _ _ h=>by cases h)⟩
 |succ n ih=>exact⟨fun c fr σ r h=>mO ih c fr σ r h,fun f args d σ r h=>Lc ih h⟩
theorem eD.refl (S:bG):eD S S:=⟨fun _ _ _ _ h=>h,fun _ _ _ _ _ h=>h⟩
theorem eD.trans {S T U:bG} (h:eD S T) (g:eD T U):eD S U:=⟨fun _ _ _ _ x=>g.1 _ _ _ _ (h.1 _ _ _ _ x),fun _ _ _ _ _ x=>g.2 _ _ _ _ _ (h.2 _ _ _ _ _ x)⟩
theorem dY {n m:Nat} (h:n<=m):eD (evl E n) (evl E m):=by
 induction m with
 |zero=>obtain rfl:n=0:=by omega
        exact .refl _
 |succ m ih=>
  by_cases e:n=m+1
  ·subst e;exact .refl _
  ·exact(ih (by omega)).trans (Ld m)
end
section
variable (E:Env)
def OW (all:List Oper) (st:Nat) (os:List Oper) (fr:Fr) (σ:Sig) (Q:Fr->Sig->Prop):Prop:=
 ∃n fr' σ',opsE E (evl E n) all st os fr σ=some (fr',σ')/\Q fr' σ'
def aN (ms:List Nat) (all:List Oper) (st:Nat) (os:List Oper) (fr:Fr) (σ:Sig) (fs:List Foot) (Q:Fr->Sig->Prop):Prop:=
 ∃n fs' fr' σ',eX E (evl E n) all st os fr σ=some (fs',fr',σ')/\pairsOK ms (fs++fs')=true/\Q fr' σ'
def CW (c:Code) (fr:Fr) (σ:Sig) (Q:Ex->Fr->Sig->Prop):Prop:=
 ∃n e fr' σ',aO E (evl E n) c fr σ=some (e,fr',σ')/\Q e fr' σ'
def Pure (f:FuncId) (args:List V) (v:V):Prop:=∃n,callPure E (evl E n) f args=some v
def Imp (f:FuncId) (args:List V) (d:Nat) (σ:Sig) (Q:V->Sig->Prop):Prop:=∃n v σ',(evl E n).call f args d σ=some (v,σ')/\Q v σ'
end
section
variable {E:Env} {fr:Fr} {σ:Sig}
theorem Pure.ok (hE:EnvOK E) {f:FuncId} {args:List V} {v:V} (h:Pure E f args v):PureOK E f args v:=h.elim fun _ h=>K8 hE h
theorem OW.mono {all:List Oper} {st:Nat} {os:List Oper} {Q Q':Fr->Sig->Prop} (h:OW E all st os fr σ Q) (hq:∀fr σ,Q fr σ->Q' fr σ):OW E all st os fr σ Q':=
 let ⟨n,fr',σ',h1,h2⟩:=h;⟨n,fr',σ',h1,hq _ _ h2⟩
theorem CW.mono {c:Code} {Q Q':Ex->Fr->Sig->Prop} (h:CW E c fr σ Q) (hq:∀e fr σ,Q e fr σ->Q' e fr σ):CW E c fr σ Q':=
 let ⟨n,e,fr',σ',h1,h2⟩:=h;⟨n,e,fr',σ',h1,hq _ _ _ h2⟩
theorem OW.nil {all:List Oper} {st:Nat} {Q:Fr->Sig->Prop} (h:Q fr σ):OW E all st [] fr σ Q:=⟨0,fr,σ,rfl,h⟩
theorem OW.op {all:List Oper} {st:Nat} {o:Oper} {os:List Oper} {v:V} {σ1:Sig} {Q:Fr->Sig->Prop} (hw:aT all fr o=some true) (hop:∀S,opC E S fr σ st o=some (v,fr,σ1))
 (h:OW E all (st+1) os (fr.put o.dst v) σ1 Q):OW E all st (o::os) fr σ Q:=by
 obtain⟨n,fr',σ',h1,h2⟩:=h
 exact⟨n,fr',σ',by simp only[opsE,hw,Option.bind_some,if_true,hop,h1],h2⟩
theorem OW.skip {all:List Oper} {st:Nat} {o:Oper} {os:List Oper} {Q:Fr->Sig->Prop} (hw:aT all fr o=some false) (h:OW E all (st+1) os (fr.put o.dst undefV) σ Q):OW E all st (o::os) fr σ Q:=by
 obtain⟨n,fr',σ',h1,h2⟩:=h
 exact⟨n,fr',σ',by simp only[opsE,hw,Option.bind_some,RH,if_false,h1],h2⟩
theorem CV {d:Nat} {g:FuncId} {a b args as:List V} {v:V} {n:Nat} (hi:E.imp g=false) (has:(a++args++b).mapM (closeV 20 σ)=some as) (hp:callPure E (evl E n) g as=some v)
 (hc:((a++args++b).all (fun x=>pclean (er x))||flat v)=true):dh E (evl E n) d σ (.fn (.func g) a b) args=some (v,σ):=by
 unfold dh
 simp only[hi,RH,if_false,has,Option.bind_some,hp,hc,if_true]
theorem tV {o:Oper} {f:Operand} {g:FuncId} {a b:List V} (hf:fr.ev E f= .fn (.func g) a b) (h:∀d,o.dst=some d->E.own g d=false):dL E fr o f=false:=by
 unfold dL
 rw[hf]
 cases hd:o.dst with
 |none=>rfl
 |some d=>exact h d hd
def lC (E:Env) (f:FuncId) (as:List V) (sz:Nat) (l:List V):Prop:=∃n v σ1,(evl E n).call f as 1 Sig.init=some (v,σ1)/\∀st σ,(∃c,(c= .nil\/c= .full)/\fV σ st σ1 v=some (.lst c l,σ))\/fV σ st σ1 v=some (.lst (.own sz st) l,σ.aL st l.length)
theorem lC.of {f:FuncId} {as:List V} {sz:Nat} {l:List V} {n:Nat} {c:Cap} {σ1:Sig} (h:(evl E n).call f as 1 Sig.init=some (.lst c l,σ1)) (hp:pcleanL l=true) (hc:c= .nil\/c= .full\/∃s,c= .own sz s/\σ1.top s=l.length):lC E f as sz l:=by
 refine⟨n,_,σ1,h,fun st σ=>?_⟩
 rcases hc with rfl|rfl| ⟨s,rfl,ht⟩
 ·exact .inl ⟨.nil,.inl rfl,by unfold fV;dsimp only;rw[if_pos hp]⟩
 ·exact .inl ⟨.full,.inr rfl,by unfold fV;dsimp only;rw[if_pos hp]⟩
 ·exact .inr (by unfold fV;dsimp only;rw[if_pos hp,if_pos ht])
theorem OW.own {all:List Oper} {st:Nat} {o:Oper} {os:List Oper} {Q:Fr->Sig->Prop} {c:Call} {f:Operand} {g:FuncId} {a b as l:List V} {d sz:Nat} (hw:aT all fr o=some true) (ho:o.op= .call c) (bf:c.callee= .value f)
 (hf:fr.ev E f= .fn (.func g) a b) (hd:o.dst=some d) (hown:E.own g d=true) (has:gW (E.ownN g) σ (a++c.args.toList.map (fr.ev E)++b)=some as) (hp:lC E g as sz l)
 (hc:(a++c.args.toList.map (fr.ev E)++b).all (fun x=>pclean (er x))=true)
 (h1:∀c,c= .nil\/c= .full->OW E all (st+1) os (fr.put o.dst (.lst c l)) σ Q) (h2:OW E all (st+1) os (fr.put o.dst (.lst (.own sz st) l)) (σ.aL st l.length) Q):OW E all st (o::os) fr σ Q:=by
 obtain⟨m,v0,σ1,hm,hcp⟩:=hp
 have aX:dL E fr o f=true:=by unfold dL;rw[hf,hd];exact hown
 have go:∀(v:V) (σ2:Sig),fV σ st σ1 v0=some (v,σ2)->OW E all (st+1) os (fr.put o.dst v) σ2 Q->OW E all st (o::os) fr σ Q:=by
  rintro v σ2 hr ⟨n,fr',σ',g1,g2⟩
  have hm':=(dY (SY n m)).2 _ _ _ _ _ hm
  have g1':=qI (dY (Tc n m)) _ _ _ _ _ _ g1
  refine⟨max n m,fr',σ',?_,g2⟩
  have hov:fZ E (evl E (max n m)) σ st (.fn (.func g) a b) (c.args.toList.map (fr.ev E))=some (v,σ2):=by
   unfold fZ
   dsimp only
   rw[if_pos hc,has,Option.bind_some,hm',Option.bind_some]
   exact hr
  simp only[opsE,hw,Option.bind_some,if_true,opC,ho,bf,aX]
  rw[hf,hov]
  simp only[Option.map_some,Option.bind_some,g1']
 rcases hcp st σ with ⟨c,hc,hr⟩|hr
 ·exact go _ _ hr (h1 c hc)
 ·exact go _ _ hr h2
theorem OW.call {all:List Oper} {st:Nat} {o:Oper} {os:List Oper} {v:V} {Q:Fr->Sig->Prop} {c:Call} {f:Operand} {g:FuncId} {a b as:List V} (hw:aT all fr o=some true) (ho:o.op= .call c) (bf:c.callee= .value f)
 (hf:fr.ev E f= .fn (.func g) a b) (hi:E.imp g=false) (has:(a++c.args.toList.map (fr.ev E)++b).mapM (closeV 20 σ)=some as) (hp:Pure E g as v)
 (hc:((a++c.args.toList.map (fr.ev E)++b).all (fun x=>pclean (er x))||flat v)=true) (h:OW E all (st+1) os (fr.put o.dst v) σ Q) (aX:∀d,o.dst=some d->E.own g d=false:=by intros;rfl):OW E all st (o::os) fr σ Q:=by
 obtain⟨n,fr',σ',h1,h2⟩:=h
 obtain⟨m,hm⟩:=hp
 have hm':=xM (dY (SY n m)) hm
 have h1':=qI (dY (Tc n m)) _ _ _ _ _ _ h1
 refine⟨max n m,fr',σ',?_,h2⟩
 simp only[opsE,hw,Option.bind_some,if_true,opC,ho,bf,tV hf aX,RH,if_false,hf,CV hi has hm' hc,Option.map_some,h1']
theorem OW.callI {all:List Oper} {st:Nat} {o:Oper} {os:List Oper} {Q:Fr->Sig->Prop} {c:Call} {f:Operand} {g:FuncId} {a b:List V} (hw:aT all fr o=some true) (ho:o.op= .call c) (bf:c.callee= .value f)
 (hf:fr.ev E f= .fn (.func g) a b) (hi:E.imp g=true) (hp:Imp E g (a++c.args.toList.map (fr.ev E)++b) (fr.d+1) σ (fun v σ1=>OW E all (st+1) os (fr.put o.dst v) σ1 Q)) (aX:∀d,o.dst=some d->E.own g d=false:=by intros;rfl):OW E all st (o::os) fr σ Q:=by
 obtain⟨m,v,σ1,hm,n,fr',σ',h1,h2⟩:=hp
 have hm':=(dY (SY n m)).2 _ _ _ _ _ hm
 have h1':=qI (dY (Tc n m)) _ _ _ _ _ _ h1
 refine⟨max n m,fr',σ',?_,h2⟩
 have:dh E (evl E (max n m)) fr.d σ (.fn (.func g) a b) (c.args.toList.map (fr.ev E))=some (v,σ1):=by
  unfold dh;simp only[hi,if_true];exact hm'
 simp only[opsE,hw,Option.bind_some,if_true,opC,ho,bf,tV hf aX,RH,if_false,hf,this,Option.map_some,h1']
theorem aN.nil {ms:List Nat} {all:List Oper} {st:Nat} {fs:List Foot} {Q:Fr->Sig->Prop} (hp:pairsOK ms fs=true) (h:Q fr σ):aN E ms all st [] fr σ fs Q:=⟨0,[],fr,σ,rfl,by simpa using hp,h⟩
theorem aN.op {ms:List Nat} {all:List Oper} {st:Nat} {o:Oper} {os:List Oper} {v:V} {σ1:Sig} {fs:List Foot} {Q:Fr->Sig->Prop} (hw:aT all fr o=some true) (hop:∀S,opC E S fr σ st o=some (v,fr,σ1))
 (h:aN E ms all (st+1) os (fr.put o.dst v) σ1 (fs++[bq E all fr o true]) Q):aN E ms all st (o::os) fr σ fs Q:=by
 obtain⟨n,fs',fr',σ',h1,h2,h3⟩:=h
 exact⟨n,bq E all fr o true::fs',fr',σ',by simp only[eX,hw,Option.bind_some,if_true,hop,h1,Option.map_some],by simpa using h2,h3⟩
theorem aN.skip {ms:List Nat} {all:List Oper} {st:Nat} {o:Oper} {os:List Oper} {fs:List Foot} {Q:Fr->Sig->Prop} (hw:aT all fr o=some false)
 (h:aN E ms all (st+1) os (fr.put o.dst undefV) σ (fs++[bq E all fr o false]) Q):aN E ms all st (o::os) fr σ fs Q:=by
 obtain⟨n,fs',fr',σ',h1,h2,h3⟩:=h
 exact⟨n,bq E all fr o false::fs',fr',σ',by simp only[eX,hw,Option.bind_some,RH,if_false,h1,Option.map_some],by simpa using h2,h3⟩
theorem aN.call {ms:List Nat} {all:List Oper} {st:Nat} {o:Oper} {os:List Oper} {v:V} {fs:List Foot} {Q:Fr->Sig->Prop} {c:Call} {f:Operand} {g:FuncId} {a b as:List V} (hw:aT all fr o=some true) (ho:o.op= .call c)
 (bf:c.callee= .value f) (hf:fr.ev E f= .fn (.func g) a b) (hi:E.imp g=false) (has:(a++c.args.toList.map (fr.ev E)++b).mapM (closeV 20 σ)=some as) (hp:Pure E g as v)
 (hc:((a++c.args.toList.map (fr.ev E)++b).all (fun x=>pclean (er x))||flat v)=true) (h:aN E ms all (st+1) os (fr.put o.dst v) σ (fs++[bq E all fr o true]) Q) (aX:∀d,o.dst=some d->E.own g d=false:=by intros;rfl):aN E ms all st (o::os) fr σ fs Q:=by
 obtain⟨n,fs',fr',σ',h1,h2,h3⟩:=h
 obtain⟨m,hm⟩:=hp
 have hm':=xM (dY (SY n m)) hm
 have h1':=tT (dY (Tc n m)) _ _ _ _ _ _ h1
 refine⟨max n m,bq E all fr o true::fs',fr',σ',?_,by simpa using h2,h3⟩
 simp only[eX,hw,Option.bind_some,if_true,opC,ho,bf,tV hf aX,RH,if_false,hf,CV hi has hm' hc,Option.map_some,h1']
theorem aN.own {ms:List Nat} {all:List Oper} {st:Nat} {o:Oper} {os:List Oper} {fs:List Foot} {Q:Fr->Sig->Prop} {c:Call} {f:Operand} {g:FuncId} {a b as l:List V} {d sz:Nat} (hw:aT all fr o=some true) (ho:o.op= .call c) (bf:c.callee= .value f)
 (hf:fr.ev E f= .fn (.func g) a b) (hd:o.dst=some d) (hown:E.own g d=true) (has:gW (E.ownN g) σ (a++c.args.toList.map (fr.ev E)++b)=some as) (hp:lC E g as sz l)
 (hc:(a++c.args.toList.map (fr.ev E)++b).all (fun x=>pclean (er x))=true)
 (h1:∀c,c= .nil\/c= .full->aN E ms all (st+1) os (fr.put o.dst (.lst c l)) σ (fs++[bq E all fr o true]) Q) (h2:aN E ms all (st+1) os (fr.put o.dst (.lst (.own sz st) l)) (σ.aL st l.length) (fs++[bq E all fr o true]) Q):aN E ms all st (o::os) fr σ fs Q:=by
 obtain⟨m,v0,σ1,hm,hcp⟩:=hp
 have aX:dL E fr o f=true:=by unfold dL;rw[hf,hd];exact hown
 have go:∀(v:V) (σ2:Sig),fV σ st σ1 v0=some (v,σ2)->aN E ms all (st+1) os (fr.put o.dst v) σ2 (fs++[bq E all fr o true]) Q->aN E ms all st (o::os) fr σ fs Q:=by
  rintro v σ2 hr ⟨n,fs',fr',σ',g1,g2,g3⟩
  have hm':=(dY (SY n m)).2 _ _ _ _ _ hm
  have g1':=tT (dY (Tc n m)) _ _ _ _ _ _ g1
  refine⟨max n m,bq E all fr o true::fs',fr',σ',?_,by simpa using g2,g3⟩
  have hov:fZ E (evl E (max n m)) σ st (.fn (.func g) a b) (c.args.toList.map (fr.ev E))=some (v,σ2):=by
   unfold fZ
   dsimp only
   rw[if_pos hc,has,Option.bind_some,hm',Option.bind_some]
   exact hr
  simp only[eX,hw,Option.bind_some,if_true,opC,ho,bf,aX]
  rw[hf,hov]
  simp only[Option.map_some,Option.bind_some,g1']
 rcases hcp st σ with ⟨c,hc,hr⟩|hr
 ·exact go _ _ hr (h1 c hc)
 ·exact go _ _ hr h2
theorem aN.callI {ms:List Nat} {all:List Oper} {st:Nat} {o:Oper} {os:List Oper} {fs:List Foot} {Q:Fr->Sig->Prop} {c:Call} {f:Operand} {g:FuncId} {a b:List V} (hw:aT all fr o=some true) (ho:o.op= .call c)
 (bf:c.callee= .value f) (hf:fr.ev E f= .fn (.func g) a b) (hi:E.imp g=true)
 (hp:Imp E g (a++c.args.toList.map (fr.ev E)++b) (fr.d+1) σ (fun v σ1=>aN E ms all (st+1) os (fr.put o.dst v) σ1 (fs++[bq E all fr o true]) Q)) (aX:∀d,o.dst=some d->E.own g d=false:=by intros;rfl):aN E ms all st (o::os) fr σ fs Q:=by
 obtain⟨m,v,σ1,hm,n,fs',fr',σ',h1,h2,h3⟩:=hp
 have hm':=(dY (SY n m)).2 _ _ _ _ _ hm
 have h1':=tT (dY (Tc n m)) _ _ _ _ _ _ h1
 refine⟨max n m,bq E all fr o true::fs',fr',σ',?_,by simpa using h2,h3⟩
 have:dh E (evl E (max n m)) fr.d σ (.fn (.func g) a b) (c.args.toList.map (fr.ev E))=some (v,σ1):=by
  unfold dh;simp only[hi,if_true];exact hm'
 simp only[eX,hw,Option.bind_some,if_true,opC,ho,bf,tV hf aX,RH,if_false,hf,this,Option.map_some,h1']
end
def Sig.bump (σ:Sig) (k:Nat):Sig:={σ with next:=σ.next+k}
section
variable {E:Env} {fr:Fr} {σ:Sig}
theorem CW.region {id:Nat} {ops:Array Oper} {Q:Ex->Fr->Sig->Prop} (h:OW E ops.toList σ.next ops.toList fr (σ.bump ops.toList.length) (fun fr σ=>Q .normal fr σ)):CW E (.region id ops false) fr σ Q:=by
 obtain⟨n,fr',σ',h1,h2⟩:=h
 exact⟨n,.normal,fr',σ',by simp only[aO,RH,if_false];rw[show opsE E (evl E n) ops.toList σ.next ops.toList fr {σ with next:=σ.next+ops.toList.length}=some (fr',σ') from h1];rfl,h2⟩
theorem CW.draw {id:Nat} {ops:Array Oper} {Q:Ex->Fr->Sig->Prop} (he:edgesOK ops.toList=true)
 (h:aN E (preM ops.toList) ops.toList σ.next ops.toList fr (σ.bump ops.toList.length) [] (fun fr σ=>Q .normal fr σ)):CW E (.region id ops true) fr σ Q:=by
 obtain⟨n,fs,fr',σ',h1,h2,h3⟩:=h
 refine⟨n,.normal,fr',σ',?_,h3⟩
 simp only[aO,if_true]
 rw[show eX E (evl E n) ops.toList σ.next ops.toList fr {σ with next:=σ.next+ops.toList.length}=some (fs,fr',σ') from h1]
 simp only[Option.bind_some,he,Bool.true_and]
 rw[if_pos (by simpa using h2)]
def SeqQ (E:Env) (b:Code) (Q:Ex->Fr->Sig->Prop) (e:Ex) (fr:Fr) (σ:Sig):Prop:=match e with
 |.normal=>CW E b fr σ Q
 |e=>Q e fr σ
theorem CW.seq {a b:Code} {Q:Ex->Fr->Sig->Prop} (h:CW E a fr σ (SeqQ E b Q)):CW E (.seq a b) fr σ Q:=by
 obtain⟨n,e,aB,σ1,h1,h2⟩:=h
 cases e with
 |normal=>
  obtain⟨m,e,fr',σ',h3,h4⟩:=h2
  refine⟨max n m,e,fr',σ',?_,h4⟩
  simp only[aO,mO (dY (Tc n m)) _ _ _ _ h1,Option.bind_some,mO (dY (SY n m)) _ _ _ _ h3]
 |exit i=>exact⟨n,.exit i,aB,σ1,by simp only[aO,h1,Option.bind_some],h2⟩
 |ret=>exact⟨n,.ret,aB,σ1,by simp only[aO,h1,Option.bind_some],h2⟩
theorem CW.skip {Q:Ex->Fr->Sig->Prop} (h:Q .normal fr σ):CW E .skip fr σ Q:=⟨0,.normal,fr,σ,rfl,h⟩
theorem CW.ret {Q:Ex->Fr->Sig->Prop} (h:Q .ret fr σ):CW E .ret fr σ Q:=⟨0,.ret,fr,σ,rfl,h⟩
theorem CW.exit {i:Nat} {Q:Ex->Fr->Sig->Prop} (h:Q (.exit i) fr σ):CW E (.exit i) fr σ Q:=⟨0,.exit i,fr,σ,rfl,h⟩
theorem CW.cond {c:Operand} {a b:Code} {t:Bool} {Q:Ex->Fr->Sig->Prop} (hc:fr.ev E c= .bool t) (ht:t=true->CW E a fr σ Q) (hf:t=false->CW E b fr σ Q):CW E (.cond c a b) fr σ Q:=by
 cases t with
 |true=>
  obtain⟨n,e,fr',σ',h1,h2⟩:=ht rfl
  exact⟨n,e,fr',σ',by simp only[aO,hc,fA,Option.bind_some,if_true,h1],h2⟩
 |false=>
  obtain⟨n,e,fr',σ',h1,h2⟩:=hf rfl
  exact⟨n,e,fr',σ',by simp only[aO,hc,fA,Option.bind_some,RH,if_false,h1],h2⟩
def BlkQ (id:Nat) (Q:Ex->Fr->Sig->Prop) (e:Ex) (fr:Fr) (σ:Sig):Prop:=match e with
 |.exit i=>if i=id then Q .normal fr σ else Q (.exit i) fr σ
 |e=>Q e fr σ
theorem CW.block {id:Nat} {c:Code} {Q:Ex->Fr->Sig->Prop} (h:CW E c fr σ (BlkQ id Q)):CW E (.block id c) fr σ Q:=by
 obtain⟨n,e,fr',σ',h1,h2⟩:=h
 cases e with
 |normal=>exact⟨n,.normal,fr',σ',by simp only[aO,h1,Option.map_some],h2⟩
 |ret=>exact⟨n,.ret,fr',σ',by simp only[aO,h1,Option.map_some],h2⟩
 |exit i=>
  simp only[BlkQ] at h2
  split at h2
  ·rename_i hi
   exact⟨n,.normal,fr',σ',by simp only[aO,h1,Option.map_some,if_pos hi],h2⟩
  ·rename_i hi
   exact⟨n,.exit i,fr',σ',by simp only[aO,h1,Option.map_some,if_neg hi],h2⟩
theorem CW.scope {c:Code} {Q:Ex->Fr->Sig->Prop} (h:CW E c fr σ Q):CW E (.scope c) fr σ Q:=by
 obtain⟨n,e,fr',σ',h1,h2⟩:=h
 exact⟨n,e,fr',σ',by simp only[aO,h1],h2⟩
theorem CW.label {l:Nat} {Q:Ex->Fr->Sig->Prop} (h:Q .normal fr σ):CW E (.label l) fr σ Q:=⟨0,.normal,fr,σ,by simp only[aO],h⟩
def LoopQ (E:Env) (c:Code) (Q:Ex->Fr->Sig->Prop) (e:Ex) (fr:Fr) (σ:Sig):Prop:=match e with
 |.normal=>CW E (.loop c) fr σ Q
 |e=>Q e fr σ
theorem CW.loop {c:Code} {Q:Ex->Fr->Sig->Prop} (h:CW E c fr σ (LoopQ E c Q)):CW E (.loop c) fr σ Q:=by
 obtain⟨n,e,aB,σ1,h1,h2⟩:=h
 cases e with
 |normal=>
  obtain⟨m,e,fr',σ',h3,h4⟩:=h2
  refine⟨max n m+1,e,fr',σ',?_,h4⟩
  simp only[aO,mO (dY (show n<=max n m+1 by omega)) _ _ _ _ h1,Option.bind_some]
  exact mO (dY (SY n m)) _ _ _ _ h3
 |exit i=>exact⟨n,.exit i,aB,σ1,by simp only[aO,h1,Option.bind_some],h2⟩
 |ret=>exact⟨n,.ret,aB,σ1,by simp only[aO,h1,Option.bind_some],h2⟩
def RetQ (E:Env) (rs:List ResultVar) (R:V->Sig->Prop) (e:Ex) (fr:Fr) (σ:Sig):Prop:=match e with
 |.exit _=>False
 |_=>∃vs,rs.mapM (resV E fr σ)=some vs/\R (match vs with| [v]=>v|vs=>.tup vs) σ
theorem Imp.of {f:FuncId} {args:List V} {d:Nat} {fn:Func} {c:Code} {R:V->Sig->Prop} (hf:E.P.funcs[f]? =some fn) (hb:fn.body=some c) (hok:(decide (args.length<=fn.ntmps)&& aP fn.ntmps c)=true)
 (h:CW E c {d:=d,om:=E.om f,tm:=fun i=>args.getD i undefV} σ (RetQ E fn.results.toList R)):Imp E f args d σ R:=by
 obtain⟨n,e,fr',σ',h1,h2⟩:=h
 have hok':args.length<=fn.ntmps/\aP fn.ntmps c=true:=by simpa using hok
 have key:∀vs,fn.results.toList.mapM (resV E fr' σ')=some vs->(e= .normal\/e= .ret)->(evl E (n+2)).call f args d σ=some ((match vs with| [v]=>v|vs=>.tup vs),σ'):=by
  intro vs hvs he
  show kR E (evl E (n+1)) f args d σ=_
  have h3:(evl E (n+1)).code c {d:=d,om:=E.om f,tm:=fun i=>args.getD i undefV} σ=some (e,fr',σ'):=h1
  simp only[kR,hf,hb,Option.bind_some,if_pos hok',h3]
  rcases he with rfl|rfl<;>simp only[hvs,Option.map_some]<;>rcases vs with _| ⟨x,_| ⟨y,l⟩⟩<;>rfl
 cases e with
 |normal=>obtain⟨vs,h3,h4⟩:=h2;exact⟨n+2,_,σ',key vs h3 (.inl rfl),h4⟩
 |ret=>obtain⟨vs,h3,h4⟩:=h2;exact⟨n+2,_,σ',key vs h3 (.inr rfl),h4⟩
 |exit i=>exact h2.elim
theorem Pure.of {f:FuncId} {args:List V} {v:V} {fn:Func} {c:Code} (hs:E.summ f=none) (hf:E.P.funcs[f]? =some fn) (hb:fn.body=some c) (hok:(decide (args.length<=fn.ntmps)&& aP fn.ntmps c)=true)
 (h:CW E c {d:=1,om:=E.om f,tm:=fun i=>args.getD i undefV} Sig.init (RetQ E fn.results.toList (fun v0 σ=>closeV 20 σ v0=some v))):Pure E f args v:=by
 obtain⟨n,v0,σ',h1,h2⟩:=Imp.of hf hb hok h
 exact⟨n,by simp only[callPure,hs,h1,Option.bind_some,h2]⟩
theorem put_some (fr:Fr) (d:Nat) (v:V):fr.put (some d) v=fr.set d v:=rfl
theorem Le (fr:Fr) (v:V):fr.put none v=fr:=rfl
theorem CX (fr:Fr) (d:Nat) (v:V):(fr.set d v).tm d=v:=by simp[Fr.set,upd]
theorem set_ne (fr:Fr) {d t:Nat} (v:V) (h:(t==d)=false):(fr.set d v).tm t=fr.tm t:=by
 have h':¬t=d:=by simpa using h
 simp[Fr.set,upd,h']
theorem set_d (fr:Fr) (d:Nat) (v:V):(fr.set d v).d=fr.d:=rfl
theorem Lf (fr:Fr) (d:Nat) (v:V):(fr.set d v).om=fr.om:=rfl
theorem oG (fr:Fr) (t:Nat):fr.ev E (.tmp t)=fr.tm t:=rfl
theorem CY (fr:Fr) (v:Value):fr.ev E (.const v)=(ofValue v).getD (.raw v):=rfl
theorem CZ (fr:Fr) (f:FuncId):fr.ev E (.func f)= .fn (.func f) [] []:=rfl
theorem Lg (σ:Sig) (k:Nat):(σ.bump k).next=σ.next+k:=rfl
theorem Lh (σ:Sig) (l:Aq.Loc) (s:Nat) (o:AObj):(σ.setObj l s o).next=σ.next:=rfl
theorem Li (σ:Sig) (s n:Nat):(σ.aL s n).next=σ.next:=rfl
theorem oH (σ:Sig) (s n:Nat):(σ.aL s n).top s=n:=by simp[Sig.aL,upd]
theorem qJ (σ:Sig) {s t:Nat} (n:Nat) (h:t≠s):(σ.aL s n).top t=σ.top t:=by simp[Sig.aL,upd,h]
theorem Lj (σ:Sig) (k:Nat):(σ.bump k).top=σ.top:=rfl
theorem Ll (σ:Sig) (l:Aq.Loc) (s:Nat) (o:AObj):(σ.setObj l s o).top=σ.top:=rfl
theorem C8 {l l':Aq.Loc} (h:gX l l'=false):¬l=l':=by
 rintro rfl
 simp[gX] at h
theorem xP (a b c d:Nat):gX (a,b) (c,d)=(b==d&& a==c):=rfl
theorem cells_eq (σ:Sig) (l:Aq.Loc) (s:Nat) (cs:List V):(σ.setObj l s (.cells cs)).cellsAt l s=some cs:=by simp[Sig.setObj,Sig.cellsAt,upd]
theorem Da (σ:Sig) {l l':Aq.Loc} (s s':Nat) (o:AObj) (h:gX l l'=false):(σ.setObj l' s' o).cellsAt l s=σ.cellsAt l s:=by
 have h':=C8 h
 simp[Sig.setObj,Sig.cellsAt,upd,h']
theorem Lm (σ:Sig) (k:Nat) (l:Aq.Loc) (s:Nat):(σ.bump k).cellsAt l s=σ.cellsAt l s:=rfl
theorem Lp (σ:Sig) (t n:Nat) (l:Aq.Loc) (s:Nat):(σ.aL t n).cellsAt l s=σ.cellsAt l s:=rfl
theorem map_eq (σ:Sig) (l:Aq.Loc) (s:Nat) (ks vs:List V):(σ.setObj l s (.map ks vs)).bD l s=some (ks,vs):=by simp[Sig.setObj,Sig.bD,upd]
theorem Db (σ:Sig) {l l':Aq.Loc} (s s':Nat) (o:AObj) (h:gX l l'=false):(σ.setObj l' s' o).bD l s=σ.bD l s:=by
 have h':=C8 h
 simp[Sig.setObj,Sig.bD,upd,h']
theorem Lr (σ:Sig) (k:Nat) (l:Aq.Loc) (s:Nat):(σ.bump k).bD l s=σ.bD l s:=rfl
theorem Ls (σ:Sig) (t n:Nat) (l:Aq.Loc) (s:Nat):(σ.aL t n).bD l s=σ.bD l s:=rfl
theorem Lu {a b c d:Nat} (h:b≠d):((a,b):Aq.Loc)≠(c,d):=fun e=>h (by cases e;rfl)
end
end Aq
end
