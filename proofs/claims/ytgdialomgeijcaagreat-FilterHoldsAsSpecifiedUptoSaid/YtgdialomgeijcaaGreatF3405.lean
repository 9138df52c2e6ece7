/- Part of the proof of a law. -/
import Derived.Test.YtgdialomgeijcaaGreatF3404
set_option linter.all false
set_option linter.unusedSimpArgs false
set_option linter.unusedSectionVars false
section
namespace Aq
open Go Go.RowKit
section
variable {E:Env} {S:dW}
theorem Zf (all:List Oper) (base:Nat):∀(os:List Oper) (k:Nat) (fr:Fr) (σ:ah) (fs:List bA) (pW:Fr) (σN:ah),(∀j,os[j]? =all[k+j]?)→
 jQ E S all (base+k) os fr σ=some (fs,pW,σN)→fs.length=os.length∧∃s:Nat→Fr×ah,s k=(fr,σ)∧s (k+os.length)=(pW,σN)∧
  ∀i,k≤i→i<k+os.length→gL E S all base i (s i).1 (s i).2=some (s (i+1))∧∃o wt,all[i]? =some o∧bS all (s i).1 o=some wt∧fs[i-k]? =some (dA E all (s i).1 o wt):=by
 intro os
 induction os with
 |nil=>
  intro k fr σ fs pW σN _ h
  simp only[jQ,Option.some.injEq,Prod.mk.injEq] at h
  obtain⟨rfl,rfl,rfl⟩:=h
  exact⟨rfl,fun _=>(fr,σ),rfl,rfl,fun i h1 h2=>by simp at h2;omega⟩
 |cons o os ih=>
  intro k fr σ fs pW σN hall h
  have h0:all[k]? =some o:=by simpa using (hall 0).symm
  have Zg:∀j,os[j]? =all[k+1+j]? :=fun j=>by have:=hall (j+1);simpa [Nat.add_assoc,Nat.add_comm 1 j] using this
  simp only[jQ,Option.bind_eq_some_iff] at h
  obtain⟨wt,hwt,h⟩:=h
  have main:∀(aP:Fr) (σ1:ah) (fs':List bA),gL E S all base k fr σ=some (aP,σ1)→jQ E S all (base+(k+1)) os aP σ1=some (fs',pW,σN)→fs=dA E all fr o wt::fs'→
   fs.length=(o::os).length∧∃s:Nat→Fr×ah,s k=(fr,σ)∧s (k+(o::os).length)=(pW,σN)∧
   ∀i,k≤i→i<k+(o::os).length→gL E S all base i (s i).1 (s i).2=some (s (i+1))∧∃o wt,all[i]? =some o∧bS all (s i).1 o=some wt∧fs[i-k]? =some (dA E all (s i).1 o wt):=by
   intro aP σ1 fs' hstep hrec hfs
   obtain⟨hlen,s,hs1,hs2,hs3⟩:=ih (k+1) aP σ1 fs' pW σN Zg hrec
   refine⟨by rw[hfs];simp[hlen],fun i=>if i=k then (fr,σ) else s i,by simp, ?_,fun i h1 h2=> ?_⟩
   ·have:¬(k+(o::os).length=k):=by simp
    simp only[this,if_false]
    rw[show k+(o::os).length=k+1+os.length by simp;omega]
    exact hs2
   ·by_cases hik:i=k
    ·subst hik
     have:¬(i+1=i):=by omega
     simp only[if_true,this,if_false]
     rw[hs1]
     exact⟨hstep,o,wt,h0,hwt,by rw[hfs];simp⟩
    ·have:¬(i+1=k):=by omega
     simp only[hik,this,if_false]
     obtain⟨g1,o',Zh,g2,g3,g4⟩:=hs3 i (by omega) (by simp at h2;omega)
     refine⟨g1,o',Zh,g2,g3, ?_⟩
     rw[hfs,show i-k=(i-(k+1))+1 by omega]
     simpa using g4
  cases wt with
  |true=>
   simp only[if_true,Option.bind_eq_some_iff,Option.map_eq_some_iff,Prod.mk.injEq] at h
   obtain⟨⟨v,bZ,σ2⟩,hop,⟨fs',r⟩,hrec,hfs,hr⟩:=h
   refine main _ _ fs' ?_ (by rw[←hr];exact hrec) hfs.symm
   simp only[gL,h0,hwt,Option.bind_some,if_true,hop,Option.map_some]
  |false=>
   simp only[Bool.false_eq_true,if_false,Option.map_eq_some_iff,Prod.mk.injEq] at h
   obtain⟨⟨fs',r⟩,hrec,hfs,hr⟩:=h
   refine main _ _ fs' ?_ (by rw[←hr];exact hrec) hfs.symm
   simp only[gL,h0,hwt,Option.bind_some,Bool.false_eq_true,if_false]
theorem JR (ops:List Oper) (base:Nat):∀(l:List Nat) (x:Fr×ah),Ca (fun i x=>gL E S ops base i x.1 x.2) l x=opsL E S ops base l x.1 x.2
 | [],x=>rfl
 |i::l,x=>by
  simp only[Ca,opsL]
  cases gL E S ops base i x.1 x.2 with
  |none=>rfl
  |some y=>exact JR ops base l y
def oI (acc:List Nat) (o:Oper):Nat:=o.after.toList.foldl (fun s e=>if Region.binds .any e then s|||2^e.on|||acc.getD e.on 0 else s) 0
theorem Zi:∀(ops:List Oper) (acc:List Nat),ops.foldl (fun acc o=>acc++[oI acc o]) acc=acc++(ops.foldl (fun acc o=>acc++[oI acc o]) acc).drop acc.length∧
 (ops.foldl (fun acc o=>acc++[oI acc o]) acc).length=acc.length+ops.length∧
 ∀i o,ops[i]? =some o→(ops.foldl (fun acc o=>acc++[oI acc o]) acc).getD (acc.length+i) 0=oI ((ops.foldl (fun acc o=>acc++[oI acc o]) acc).take (acc.length+i)) o:=by
 intro ops
 induction ops with
 |nil=>intro acc;simp
 |cons a ops ih=>
  intro acc
  obtain⟨h1,h2,h3⟩:=ih (acc++[oI acc a])
  simp only[List.foldl_cons]
  generalize hR:ops.foldl (fun acc o=>acc++[oI acc o]) (acc++[oI acc a])=R at h1 h2 h3⊢
  have hpre:R.take acc.length=acc:=by
   rw[h1]
   simp
  refine⟨?_,by rw[h2];simp;omega,fun i o ho=> ?_⟩
  ·conv=>lhs;rw[←List.take_append_drop acc.length R,hpre]
  ·cases i with
   |zero=>
    simp at ho
    subst ho
    rw[Nat.add_zero,hpre,h1]
    simp
   |succ i=>
    have:=h3 i o (by simpa using ho)
    simpa [Nat.add_assoc,Nat.add_comm 1 i] using this
theorem Zj {acc:List Nat} {o:Oper} {j:Nat} (h:(oI acc o).testBit j=true):∃e∈o.after.toList,Region.binds .any e=true∧(j=e.on∨(acc.getD e.on 0).testBit j=true):=by
 unfold oI at h
 generalize hl:o.after.toList=l at h
 clear hl
 have gen:∀(l:List Edge) (s:Nat),(l.foldl (fun s e=>if Region.binds .any e then s|||2^e.on|||acc.getD e.on 0 else s) s).testBit j=true→
  s.testBit j=true∨∃e∈l,Region.binds .any e=true∧(j=e.on∨(acc.getD e.on 0).testBit j=true):=by
  intro l
  induction l with
  |nil=>intro s h;exact .inl h
  |cons e l ih=>
   intro s h
   simp only[List.foldl_cons] at h
   rcases ih _ h with h1| ⟨e',he',hb,hj⟩
   ·split at h1
    ·rename_i hb
     simp only[Nat.testBit_or,Bool.or_eq_true] at h1
     rcases h1 with (h1|h1)|h1
     ·exact .inl h1
     ·exact .inr ⟨e,by simp,hb,.inl (by
       rw[Nat.testBit_two_pow] at h1
       have:e.on=j:=by simpa using h1
       exact this.symm)⟩
     ·exact .inr ⟨e,by simp,hb,.inr h1⟩
    ·exact .inl h1
   ·exact .inr ⟨e',by simp[he'],hb,hj⟩
 rcases gen l 0 h with h1|h1
 ·simp at h1
 ·exact h1
theorem Zk {ops:List Oper} (jm:ko ops=true) {i j:Nat} {o:Oper} (ho:ops[i]? =some o) (h:((kP ops).getD i 0).testBit j=true):
 ∃e∈o.after.toList,Region.binds .any e=true∧e.on<i∧(j=e.on∨((kP ops).getD e.on 0).testBit j=true):=by
 have hp:kP ops=ops.foldl (fun acc o=>acc++[oI acc o]) []:=rfl
 obtain⟨_,_,h3⟩:=Zi ops []
 have:=h3 i o ho
 simp only[List.length_nil,Nat.zero_add] at this
 rw[hp,this] at h
 obtain⟨e,he,hb,hj⟩:=Zj h
 have hlt:e.on<i:=by
  have hi:i<ops.length:=by
   rcases Nat.lt_or_ge i ops.length with h|h
   ·exact h
   ·rw[List.getElem?_eq_none h] at ho;cases ho
  simp only[ko,List.all_eq_true] at jm
  have h1:=jm i (by simpa using hi)
  rw[ho] at h1
  simp only[List.all_eq_true] at h1
  simpa [hb] using h1 e he
 refine⟨e,he,hb,hlt,hj.imp id (fun hj=> ?_)⟩
 rw[hp]
 have e1:∀(l:List Nat) (a b:Nat),a<b→(l.take b).getD a 0=l.getD a 0:=fun l a b hab=>by simp[List.getD,List.getElem?_take,hab]
 rw[e1 _ _ _ hlt] at hj
 exact hj
theorem JU {ops:Array Oper} (jm:ko ops.toList=true) {md:Region.Mode} {l:List Nat} (hl:tK md ops [] l):
 ∀(i:Nat) (l1 l2:List Nat),l=l1++i::l2→∀j,((kP ops.toList).getD i 0).testBit j=true→j∈l1:=by
 intro i
 induction i using Nat.strongRecOn with
 |_ i ih=>
  intro l1 l2 JV j hj
  have hi:i<ops.size:=(hl.mem i (by rw[JV];simp)).1
  have hoi:ops[i]? =some ops[i]:=by simp[hi]
  obtain⟨e,he,hb,hlt,JW⟩:=Zk jm (o:=ops[i]) (by simpa using hoi) hj
  have hon:e.on∈l1:=by
   rcases hl.ord l1 i l2 JV ops[i] hoi e he (Y1 md hb) with h|h
   ·cases h
   ·exact h
  rcases JW with rfl|JW
  ·exact hon
  ·obtain⟨a,b,rfl⟩:=List.append_of_mem hon
   have:=ih e.on hlt a (b++i::l2) (by rw[JV];simp) j JW
   exact List.mem_append_left _ this
theorem Zl {ops:Array Oper} {base:Nat} {fr pW:Fr} {σ σN:ah} {fs:List bA} (hF:jQ E S ops.toList base ops.toList fr σ=some (fs,pW,σN)) (jm:ko ops.toList=true)
 (hP:sP (kP ops.toList) fs=true) {md:Region.Mode} {l:List Nat} (hl:tK md ops [] l):opsL E S ops.toList base l fr σ=some (pW,σN):=by
 obtain⟨hlen,s,hs0,hsn,hs⟩:=Zf ops.toList base ops.toList 0 fr σ fs pW σN (fun j=>by simp) (by simpa using hF)
 have hn:ops.toList.length=ops.size:=by simp
 rw[Nat.zero_add,hn] at hsn
 have hfs:∀i,i<ops.size→∃o wt,ops.toList[i]? =some o∧bS ops.toList (s i).1 o=some wt∧fs.getD i dV=dA E ops.toList (s i).1 o wt∧gL E S ops.toList base i (s i).1 (s i).2=some (s (i+1)):=by
  intro i hi
  obtain⟨g1,o,wt,g2,g3,g4⟩:=hs i (Nat.zero_le _) (by omega)
  exact⟨o,wt,g2,g3,by simp only[Nat.sub_zero] at g4;simp[List.getD,g4],g1⟩
 have hself:∀i,i<ops.size→∀k,¬(fs.getD i dV).W k→Ag k (s i) (s (i+1)):=by
  intro i hi k hk
  obtain⟨o,wt,g1,g2,g3,g4⟩:=hfs i hi
  rw[g3] at hk
  obtain⟨_,_,_,_,h4⟩:=Qd g1 g2 g4 (s i) (fun k _=>.refl k _)
  exact h4 k hk
 have hap:∀i j,i<ops.size→j<i→((kP ops.toList).getD i 0).testBit j=true∨((∀k,¬((fs.getD i dV).W k∧(fs.getD j dV).T k))∧∀k,¬((fs.getD j dV).W k∧(fs.getD i dV).T k)):=by
  intro i j hi hj
  simp only[sP,List.all_eq_true] at hP
  have:=hP i (by simp;omega) j (by simpa using hj)
  simp only[Bool.or_eq_true] at this
  refine this.imp id (fun h=> ?_)
  simp only[IC,Bool.and_eq_true,Bool.not_eq_true'] at h
  exact⟨Qb h.1,Qb h.2⟩
 have key:=PO (X:=Fr×ah) (Key:=Key) ops.size (fun i x=>gL E S ops.toList base i x.1 x.2) Ag Ag.refl (fun k x y z=>Ag.trans) s
  (fun i=>(fs.getD i dV).T) (fun i=>(fs.getD i dV).W) (fun i k=>bA.P7)
  (fun i hi x hx=>by
    obtain⟨o,wt,g1,g2,g3,g4⟩:=hfs i hi
    obtain⟨y,h1,h2,h3,_⟩:=Qd g1 g2 g4 x (fun k hk=>hx k (by rw[g3];exact hk))
    exact⟨y,h1,fun k hk=>h2 k (by rw[←g3];exact hk),fun k hk=>h3 k (by rw[←g3];exact hk)⟩)
  hself (fun j i=>((kP ops.toList).getD i 0).testBit j=true) hap (fun k x y=>Ag.symm)
  l [] (fr,σ) hl.nodup hl.mem hl.all (fun l1 i l2 h j hj=>.inr (JU jm hl i l1 l2 h j hj)) (fun i hi=>by cases hi)
  (by
    intro k m
    induction m with
    |zero=>intro _ _;rw[hs0];exact .refl _ _
    |succ m ih=>
     intro hm hj
     refine Ag.trans (Ag.symm (hself m (by omega) k (fun hw=> ?_))) (ih (by omega) (fun j hjn hw=>⟨(fun h=>by cases h),(fun h=>by have:=(hj j hjn hw).2 (by omega);cases this)⟩))
     have:=(hj m (by omega) hw).2 (by omega)
     cases this)
 obtain⟨y,h1,h2⟩:=key
 rw[JR] at h1
 have:=Ag.all h2
 rw[hsn] at this
 rw[h1,←this]
theorem Zm {ops:Array Oper} {base:Nat} {x y:Fr×ah} (hF:Free E S (kP ops.toList) ops.toList base x y) (jm:ko ops.toList=true) {md:Region.Mode} {l:List Nat} (hl:tK md ops [] l):
 opsL E S ops.toList base l x.1 x.2=some y:=by
 obtain⟨s,T,W,h0,hn,Cb,hloc,hself,hap⟩:=hF
 have hsz:ops.toList.length=ops.size:=by simp
 rw[hsz] at hn hloc hself hap
 obtain⟨z,h1,h2⟩:=PO (X:=Fr×ah) (Key:=Key) ops.size (fun i x=>gL E S ops.toList base i x.1 x.2) Ag Ag.refl (fun k x y z=>Ag.trans) s T W Cb
  hloc hself (fun j i=>((kP ops.toList).getD i 0).testBit j=true) hap (fun k x y=>Ag.symm)
  l [] x hl.nodup hl.mem hl.all (fun l1 i l2 h j hj=>.inr (JU jm hl i l1 l2 h j hj)) (fun i hi=>by cases hi)
  (by
    intro k m
    induction m with
    |zero=>intro _ _;rw[h0];exact .refl _ _
    |succ m ih=>
     intro hm hj
     refine Ag.trans (Ag.symm (hself m (by omega) k (fun hw=> ?_))) (ih (by omega) (fun j hjn hw=>⟨(fun h=>by cases h),(fun h=>by have:=(hj j hjn hw).2 (by omega);cases this)⟩))
     have:=(hj m (by omega) hw).2 (by omega)
     cases this)
 rw[JR] at h1
 have:=Ag.all h2
 rw[hn] at this
 rw[h1,←this]
end
section
variable {E:Env} {S:dW} {B0:Nat} {σ σ':ah} {K K':aF} {w w':World} {fr fr':Fr} {a:Act} {n:Nat}
theorem Zn (hE:fT E) (hS:Sound E S) {id:Nat} {ops:Array Oper} {dr:Bool} {e:Ex} (h:bN E S (.region id ops dr) fr σ=some (e,fr',σ')):jF E (.region id ops dr) fr σ e fr' σ':=by
 have fin:∀(l:List Nat),opsL E S ops.toList σ.next l fr {σ with next:=σ.next+ops.toList.length}=some (fr',σ')→l.Nodup→(∀i∈l,i<ops.size)→∀ro B0 K w a n ds Q,St E B0 σ K w fr a n ds→bO n (.region id ops dr)=true→
  (∀x a' w',sU E B0 n ds σ K w .normal fr' σ' x a' w'→Q x a' w')→wpOpsIn (FW ro) 0 E.P ops Q l a w:=by
  intro l hl hnd hlt ro B0 K w a n ds Q hs hok hq
  have hnx:=uU hS _ _ _ _ _ hl
  simp only at hnx
  have hs':St E B0 {σ with next:=σ.next+ops.toList.length} K w fr a n ds:=⟨wO hs.ok _,hs.hB,hs.fr,hs.sz,hs.df,fun s h=>Nat.lt_of_lt_of_le (hs.st s h) (Nat.le_add_right _ _),hs.hD⟩
  refine JG hE hS ops σ.next hok ro _ l fr _ K w a hl hnd hlt hs' (by simp) (fun i _ hA=>by have:=hs.st _ hA;omega) (fun a' K' w' hs2 st=>hq _ _ _ ?_)
  refine⟨trivial,K',hs2, ?_⟩
  have st':Step E B0 (newer σ σ') {σ with next:=σ.next+ops.toList.length} K w σ' K' w':=st.mono (fun s hs=>by
   rcases hs with h|h
   ·exact⟨h.1,by simp at hnx;omega⟩
   ·refine⟨Nat.le_trans (Nat.le_add_right _ _) h.1,h.2⟩)
  exact⟨st'.ok,st'.ext,st'.below,st'.D,st'.A,st'.nI,st'.nk⟩
 simp only[bN] at h
 split at h
 ·rename_i hdr
  simp only[Option.bind_eq_some_iff] at h
  obtain⟨⟨fs,aP,σ1⟩,hF,h⟩:=h
  have hall:aP=fr'∧σ1=σ'∧e= .normal∧ko ops.toList=true∧∀md l,tK md ops [] l→opsL E S ops.toList σ.next l fr {σ with next:=σ.next+ops.toList.length}=some (fr',σ'):=by
   split at h
   ·rename_i ze
    simp only[Option.some.injEq,Prod.mk.injEq] at h
    obtain⟨rfl,rfl,rfl⟩:=h
    simp only[Bool.and_eq_true] at ze
    exact⟨rfl,rfl,rfl,ze.1,fun md l hl=>Zl hF ze.1 ze.2 hl⟩
   ·unfold IE at h
    split at h
    ·rename_i hfree
     simp only[Option.some.injEq,Prod.mk.injEq] at h
     obtain⟨rfl,rfl,rfl⟩:=h
     exact⟨rfl,rfl,rfl,hfree.1,fun md l hl=>Zm hfree.2 hfree.1 hl⟩
    ·cases h
  obtain⟨rfl,rfl,rfl,ze,Fe⟩:=hall
  have hany:∀t,∃md,tK md ops [] (Region.schedule (E.P.follows .mixedOrders) ops t):=fun t=>Qa hE.mixed _ ze t
  have hdo:∀t,opsL E S ops.toList σ.next (Region.schedule (E.P.follows .mixedOrders) ops t) fr {σ with next:=σ.next+ops.toList.length}=some (aP,σ1):=fun t=>by
   obtain⟨md,hl⟩:=hany t
   exact Fe md _ hl
  have hnx:=uU hS _ _ _ _ _ (hdo 0)
  simp only at hnx
  refine⟨Nat.le_trans (Nat.le_add_right _ _) hnx,fun ro B0 K w a n ds hs hok _=> ?_⟩
  rw[hdr]
  refine wpIn_region_draw (fun t=> ?_)
  obtain⟨md,hl⟩:=hany t
  have hst:=Step.same (new:=newer σ σ) hs.ok (w':={w with drawn:=w.drawn+1}) rfl rfl rfl rfl
  have hs1:St E B0 σ K {w with drawn:=w.drawn+1} fr a n ds:=⟨hst.ok,hs.hB,hs.fr.ext hst.ext,hs.sz,hs.df,hs.st,hs.hD⟩
  refine fin _ (hdo t) hl.nodup (fun i hi=>(hl.mem i hi).1) ro B0 K _ a n ds _ hs1 (by rw[hdr];exact hok) ?_
  rintro x a' w' ⟨h1,K',h2,h3⟩
  exact⟨h1,K',h2,hst.widen h3 (Nat.le_refl _) (Nat.le_trans (Nat.le_add_right _ _) hnx)⟩
 ·rename_i hdr
  have hdr':dr=false:=by simpa using hdr
  simp only[Option.map_eq_some_iff,Prod.mk.injEq] at h
  obtain⟨⟨aP,σ1⟩,hF,rfl,rfl,rfl⟩:=h
  rw[YD] at hF
  have hnx:=uU hS _ _ _ _ _ hF
  simp only at hnx
  refine⟨Nat.le_trans (Nat.le_add_right _ _) hnx,fun ro B0 K w a n ds hs hok _=> ?_⟩
  rw[hdr']
  exact wpIn_region (fin _ hF List.nodup_range (fun i hi=>by simpa using hi) ro B0 K w a n ds _ hs (by rw[hdr'];exact hok) (fun _ _ _ h=>h))
end
end Aq
end
section
namespace Aq
open Go Go.RowKit
section
variable {E:Env} {S:dW} {K K':aF} {w w':World} {σ σ':ah} {B0:Nat}
theorem zf (K:aF) (T:Nat→Nat) (w:World) (D':Nat→Prop):Ext K T w {K with D:=D'} T w:=
 ⟨fun _ h=>⟨h,rfl,rfl,rfl⟩,fun _ _=>.inl ⟨rfl,rfl,rfl,rfl⟩,fun _ _ h=>⟨h,rfl⟩,fun _ h=>⟨h,rfl⟩⟩
theorem aM.uW (h:aM E B0 σ K w) (D':Nat→Prop) (hD:∀b,D' b→w.heap[b]? =some (.deferred (some []))):aM E B0 σ {K with D:=D'} w:=by
 have e:=zf K σ.top w D'
 refine⟨fun loc s ob hs=> ?_,h.own,h.I,h.IM,fun l r hl=> ?_,fun g cs hg=>(h.glob g cs hg).ext e,h.rb,hD⟩
 ·obtain⟨a1,a2,a3⟩:=h.obj loc s ob hs
  exact⟨a1,a2.ext e a1 (fun _=>rfl),a3⟩
 ·obtain⟨a1,a2⟩:=h.loop l r hl
  exact⟨a1,a2.ext e a1 rfl rfl⟩
theorem aM.zh (h:aM E B0 σ K w) (hB:B0≤w.heap.size) {new:Nat→Prop} {b:Nat} {o o':Obj} (hb0:B0≤b) (hb:w.heap[b]? =some o) (hc:∀vals t f,o≠ .cells vals t f) (hm:∀es aZ,o≠ .map es aZ)
 (Zo:∀l r,σ'.loops l=some r→σ.loops l=some r∧K.lp l≠b) (h1:σ'.obj=σ.obj) (h2:σ'.top=σ.top) (D':Nat→Prop) (hD:∀x,D' x→K.D x∧x≠b) (Zp:∀x,K.D x→D' x):
 Step E B0 new σ K w σ' {K with D:=D'} (w.putObj b o')∧aM E B0 σ' {K with D:=D'} (w.putObj b o'):=by
 have hlt:=lt_of_heap hb
 have ho:=Jw w b o'
 have hcell:∀b' i v,w.cell? (at_ b' i)=some v→b'≠b:=fun b' i v hv e=>by
  subst e
  have:∃vals t f,o= .cells vals t f:=by
   simp only[World.cell?,hb] at hv
   cases o<;>simp at hv
   exact⟨_,_,_,rfl⟩
  obtain⟨vals,t,f,rfl⟩:=this
  exact hc _ _ _ rfl
 have e:Ext K σ.top w {K with D:=D'} σ'.top (w.putObj b o'):=by
  rw[h2]
  refine⟨fun _ h=>⟨h,rfl,rfl,rfl⟩,fun _ _=>.inl ⟨rfl,rfl,rfl,rfl⟩,fun b' i hi=>⟨hi, ?_⟩,fun b' hi=>⟨hi, ?_⟩⟩
  ·obtain⟨⟨v,hv⟩,_⟩:=h.I b' i hi
   exact cell_of_heap (ho.block b' (hcell b' i v hv) (lt_of_cell hv))
  ·obtain⟨⟨es,aZ,hv⟩,_⟩:=h.IM b' hi
   exact ho.block b' (kR hv hb (fun e=>hm _ _ e.symm)) (lt_of_heap hv)
 have ok:aM E B0 σ' {K with D:=D'} (w.putObj b o'):=by
  refine h.upd (σ':=σ') ho e (fun _ _=>rfl) (fun r hr'=>⟨by simpa using hlt,hb0⟩) ?_ ?_ ?_ ?_ ?_ ?_
  ·intro loc s ob hs
   rw[h1] at hs
   refine .inl ⟨hs,fun iD e'=> ?_⟩
   obtain⟨_,a2,_⟩:=h.obj loc s ob hs
   cases ob with
   |cells cs=>
    obtain⟨_,vals,t,g1,_⟩:=a2.2 (by cases cs with|nil=>exact iD.elim|cons _ _=>simp)
    rw[e',hb] at g1
    exact hc _ _ _ (Option.some.inj g1)
   |map ks vs=>
    obtain⟨_,es,aZ,g1,_⟩:=a2
    rw[e',hb] at g1
    exact hm _ _ (Option.some.inj g1)
  ·intro s hs hlt'
   refine .inl ⟨hs,rfl,rfl,rfl,fun e'=> ?_⟩
   obtain⟨_,⟨v,hv⟩,_⟩:=(h.own s hs hlt').2.2 (K.lo s) (Nat.le_refl _) hlt'
   exact hcell _ _ _ hv e'
  ·intro b' i hi
   obtain⟨⟨v,hv⟩,_⟩:=h.I b' i hi
   exact .inl ⟨hi,hcell b' i v hv⟩
  ·intro b' hi
   obtain⟨⟨es,aZ,hv⟩,_⟩:=h.IM b' hi
   exact .inl ⟨hi,kR hv hb (fun e=>hm _ _ e.symm)⟩
  ·intro l r hl
   exact .inl (Zo l r hl)
  ·intro b' hd
   exact .inl (hD b' hd)
 exact⟨⟨ok,e,ho.below hb0 hB,Zp,fun _ h=>.inl h,fun _ _ h=>.inl h,fun _ h=>.inl h⟩,ok⟩
theorem Step.Qf (h:aM E B0 σ K w) (hB:B0≤w.heap.size) {new:Nat→Prop}:
 Step E B0 new σ K w σ {K with D:=fun b=>K.D b∨b=w.heap.size} (w.alloc (.deferred (some []))):=by
 have ho:=wG w (.deferred (some []))
 have e:Ext K σ.top w {K with D:=fun b=>K.D b∨b=w.heap.size} σ.top (w.alloc (.deferred (some []))):=by
  refine⟨fun _ h=>⟨h,rfl,rfl,rfl⟩,fun _ _=>.inl ⟨rfl,rfl,rfl,rfl⟩,fun b' i hi=>⟨hi, ?_⟩,fun b' hi=>⟨hi, ?_⟩⟩
  ·obtain⟨⟨v,hv⟩,_⟩:=h.I b' i hi
   rw[hv];exact EI hv
  ·obtain⟨⟨es,aZ,hv⟩,_⟩:=h.IM b' hi
   exact heap_alloc_old (lt_of_heap hv)
 refine⟨?_,e,ho.below hB hB,fun _ h=>.inl h,fun _ h=>.inl h,fun _ _ h=>.inl h,fun _ h=>.inl h⟩
 refine h.upd (σ':=σ) ho e (fun _ _=>rfl) (fun r hr'=>⟨by simp,hB⟩) ?_ ?_ ?_ ?_ ?_ ?_
 ·intro loc s ob hs
  refine .inl ⟨hs,fun hr=> ?_⟩
  have:=(h.rb _ _ ((h.obj _ _ _ hs).2.2 hr)).1
  omega
 ·intro s hs hlt'
  have:=(h.rb _ _ (h.own s hs hlt').2.1).1
  exact .inl ⟨hs,rfl,rfl,rfl,by omega⟩
 ·intro b' i hi
  obtain⟨⟨v,hv⟩,_⟩:=h.I b' i hi
  exact .inl ⟨hi,Nat.ne_of_lt (lt_of_cell hv)⟩
 ·intro b' hi
  obtain⟨⟨es,aZ,hv⟩,_⟩:=h.IM b' hi
  exact .inl ⟨hi,Nat.ne_of_lt (lt_of_heap hv)⟩
 ·intro l r hl
  have:=(h.rb _ _ (h.loop l r hl).2.2.1).1
  exact .inl ⟨hl,by omega⟩
 ·intro b' hd
  rcases hd with hd|rfl
  ·exact .inl ⟨hd,Nat.ne_of_lt (lt_of_heap (h.D b' hd))⟩
  ·exact .inr ⟨rfl,heap_alloc_new _ _⟩
def aF.wT (K:aF) (st b:Nat):aF:=
 {K with A:=fun s=>K.A s∨s=st,lo:=upd K.lo st 0,hi:=upd K.hi st 0,lp:=upd K.lp st b,ρ:=upd K.ρ b (some (.loop st))}
theorem Step.Qg (h:aM E B0 σ K w) (hB:B0≤w.heap.size) (hst:¬K.A σ.next) {fr:Fr} {tmps:Array Value} {ps:List Nat} {bB body:Code} {fn:FuncId} {D:Nat} (hf:fG K σ.top w fr tmps)
 (hok1:bO tmps.size bB=true) (hok2:bO tmps.size body=true) (hps:∀p∈ps,p<tmps.size) (hn1:eu bB=true) (hn2:eu body=true):
 Step E B0 (· =σ.next) σ K w ({σ with next:=σ.next+1}.dG σ.next {st:=0,pend:=none,fr:=fr,ps:=ps,bB:=bB,body:=body}) (K.wT σ.next w.heap.size)
  (w.alloc (.loop {state:=.ready,pending:=none,fn:=fn,tmps:=tmps,params:=ps.toArray,assign:=bB,body:=body,defers:=D})):=by
 generalize hrec:({state:=.ready,pending:=none,fn:=fn,tmps:=tmps,params:=ps.toArray,assign:=bB,body:=body,defers:=D}:Go.Loop)=rec
 have ho:=wG w (.loop rec)
 have hne:∀s,K.A s→s≠σ.next:=fun s hs e=>hst (e▸hs)
 have e:Ext K σ.top w (K.wT σ.next w.heap.size) σ.top (w.alloc (.loop rec)):=by
  refine⟨fun s hs=>⟨.inl hs,rfl,upd_ne _ _ (hne s hs),rfl⟩,fun s hs=>.inl ⟨rfl,rfl,upd_ne _ _ (hne s hs),upd_ne _ _ (hne s hs)⟩,fun b' i hi=>⟨hi, ?_⟩,fun b' hi=>⟨hi, ?_⟩⟩
  ·obtain⟨⟨v,hv⟩,_⟩:=h.I b' i hi
   rw[hv];exact EI hv
  ·obtain⟨⟨es,aZ,hv⟩,_⟩:=h.IM b' hi
   exact heap_alloc_old (lt_of_heap hv)
 refine⟨?_,e,ho.below hB hB,fun _ h=>h,fun _ h=>h,fun _ _ h=>.inl h,fun _ h=>.inl h⟩
 refine h.upd (σ':=({σ with next:=σ.next+1}.dG σ.next {st:=0,pend:=none,fr:=fr,ps:=ps,bB:=bB,body:=body})) ho e (fun k hk=>upd_ne _ _ hk) (fun r hr'=>⟨by simp,hB⟩) ?_ ?_ ?_ ?_ ?_ ?_
 ·intro loc s ob hs
  have hs':σ.obj loc=some (s,ob):=hs
  refine .inl ⟨hs',fun hr=> ?_⟩
  have:=(h.rb _ _ ((h.obj _ _ _ hs').2.2 hr)).1
  omega
 ·intro s hs hlt'
  have hs':s≠σ.next:=by
   rintro rfl
   simp only[aF.wT,upd_same] at hlt'
   omega
  have hA:K.A s:=hs.resolve_right hs'
  simp only[aF.wT,upd_ne _ _ hs'] at hlt'
  have:=(h.rb _ _ (h.own s hA hlt').2.1).1
  exact .inl ⟨hA,upd_ne _ _ hs',upd_ne _ _ hs',rfl,by omega⟩
 ·intro b' i hi
  obtain⟨⟨v,hv⟩,_⟩:=h.I b' i hi
  exact .inl ⟨hi,Nat.ne_of_lt (lt_of_cell hv)⟩
 ·intro b' hi
  obtain⟨⟨es,aZ,hv⟩,_⟩:=h.IM b' hi
  exact .inl ⟨hi,Nat.ne_of_lt (lt_of_heap hv)⟩
 ·intro l r hl
  by_cases hll:l=σ.next
  ·subst hll
   right
   have hr:r={st:=0,pend:=none,fr:=fr,ps:=ps,bB:=bB,body:=body}:=by
    simpa [ah.dG,upd] using hl.symm
   subst hr
   have hlp:(K.wT σ.next w.heap.size).lp σ.next=w.heap.size:=upd_same _ _ _
   refine⟨.inr rfl,by rw[hlp];exact hB,by rw[hlp];exact upd_same _ _ _,fn,tmps,D, ?_,hf.ext e,hok1,hok2,hps,hn1,hn2⟩
   rw[hlp,heap_alloc_new,←hrec];rfl
  ·left
   have hl1:σ.loops l=some r:=by simpa [ah.dG,upd,hll] using hl
   have:=(h.rb _ _ (h.loop l r hl1).2.2.1).1
   exact⟨hl1,by omega⟩
 ·intro b' hd
  exact .inl ⟨hd,Nat.ne_of_lt (lt_of_heap (h.D b' hd))⟩
theorem Zq (hE:fT E) (hS:Sound E S) {f:Operand} {ps:Array Tmp} {bB body:Code} {fr fr':Fr} {e:Ex} (h:bN E S (.rangeFunc f ps bB body) fr σ=some (e,fr',σ')):jF E (.rangeFunc f ps bB body) fr σ e fr' σ':=by
 simp only[bN] at h
 split at h
 ·rename_i hfun
  simp only[Option.bind_eq_some_iff] at h
  obtain⟨⟨v,σ3⟩,happ,r,hr,h⟩:=h
  split at h
  ·simp at h
  ·rename_i hst
   simp only[Option.some.injEq,Prod.mk.injEq] at h
   obtain⟨he,rfl,rfl⟩:=h
   have hfn:∃g a b,fr.ev E f= .fn (.func g) a b:=by
    generalize fr.ev E f=x at hfun
    unfold yG at hfun
    split at hfun
    ·exact⟨_,_,_,rfl⟩
    ·simp at hfun
   have hnext:σ.next+1≤σ3.next:=by
    obtain⟨g,a,b,hg⟩:=hfn
    rw[hg] at happ
    unfold gK at happ
    dsimp only at happ
    split at happ
    ·exact(hS.call _ _ _ _ _ _ happ).1
    ·simp only[Option.bind_eq_some_iff] at happ
     obtain⟨_,_,_,_,happ⟩:=happ
     split at happ
     ·simp only[Option.some.injEq,Prod.mk.injEq] at happ
      rw[←happ.2];exact Nat.le_refl _
     ·simp at happ
   refine⟨Nat.le_trans (Nat.le_succ _) hnext,fun ro B0 K w a n ds hs hok hnr=> ?_⟩
   have hro:ro=none∧ds.nm=false:=by
    rcases hnr with h|h
    ·exact h
    ·simp[eu] at h
   obtain⟨hro,hnm⟩:=hro
   subst hro
   simp only[bO,Bool.and_eq_true,List.all_eq_true,decide_eq_true_eq] at hok
   obtain⟨⟨⟨⟨hps,hok1⟩,hok2⟩,hn1⟩,hn2⟩:=hok
   refine wpIn_rangeFunc (fun fn _=> ?_)
   have st1:=Step.Qf (new:=newer σ (σ3.jL σ.next)) hs.ok hs.hB
   have hB1:=Nat.le_trans hs.hB st1.below.size
   have hst:¬K.A σ.next:=fun hA=>Nat.lt_irrefl _ (hs.st _ hA)
   have hf1:fG {K with D:=fun b=>K.D b∨b=w.heap.size} σ.top (w.alloc (.deferred (some []))) fr a.tmps:=hs.fr.ext st1.ext
   have st2:=Step.Qg (fn:=fn) (D:=w.heap.size) (ps:=ps.toList) (bB:=bB) (body:=body) st1.ok hB1 hst hf1 (by rw[hs.sz];exact hok1) (by rw[hs.sz];exact hok2) (fun p hp=>by rw[hs.sz];exact hps p hp) hn1 hn2
   have hsz1:(w.alloc (.deferred (some []))).heap.size=w.heap.size+1:=by simp
   generalize hK2:aF.wT {K with D:=fun b=>K.D b∨b=w.heap.size} σ.next (w.alloc (.deferred (some []))).heap.size=K2 at st2
   generalize hw2:(w.alloc (.deferred (some []))).alloc (.loop {state:=.ready,pending:=none,fn:=fn,tmps:=a.tmps,params:=ps.toList.toArray,assign:=bB,body:=body,defers:=w.heap.size})=w2 at st2
   have Fq:K2.lp σ.next=w.heap.size+1:=by rw[←hK2,←hsz1];exact upd_same _ _ _
   have hA2:K2.A σ.next:=by rw[←hK2];exact .inr rfl
   have hf2:fG K2 σ.top w2 fr a.tmps:=hf1.ext st2.ext
   have JX:∀s,K2.A s→s<σ.next+1:=fun s hsA=>by
    rcases st2.A s hsA with h1|h1
    ·exact Nat.lt_succ_of_lt (hs.st s h1)
    ·omega
   have hB2:=Nat.le_trans hB1 st2.below.size
   have hra:RelA K2 σ.top w2 [.fn (.yield σ.next) [] []] #[.func (.yield (w.heap.size+1)) #[] #[]]:=by
    refine⟨rfl,fun i hi=> ?_⟩
    have hi0:i=0:=by simpa using hi
    subst hi0
    have:=Rel.yield (K:=K2) (T:=σ.top) (w:=w2) σ.next hA2
    rw[Fq] at this
    exact this
   obtain⟨_,g,first,cap,hcf,hbody,hcall⟩:=PK hE hS.call st2.ok hB2 JX hfn happ (nu st2.ok hf2 f) hra
   have henter:=run_enterLoop_outer (P:=E.P) (w:=w) fn a.tmps ps bB body
   have JY:(w.alloc (.deferred (some []))).alloc (.loop {state:=.ready,pending:=none,fn:=fn,tmps:=a.tmps,params:=ps,assign:=bB,body:=body,defers:=w.heap.size})=w2:=by
    rw[←hw2]
   rw[JY] at henter
   refine⟨w.heap.size+1,[mark w.heap.size],w2,{target:=.fn (.func g) cap,args:=first++ #[.func (.yield (w.heap.size+1)) #[] #[]]},w2,g,first++ #[.func (.yield (w.heap.size+1)) #[] #[]]++cap,w2,henter, ?_,fun _ _=>trivial, ?_,
    fun hd=>by simp[FW,Fence.wide] at hd, ?_⟩
   ·unfold resolve
    have hargs:(rangeCall f (w.heap.size+1)).args.map a.eval= #[.func (.yield (w.heap.size+1)) #[] #[]]:=by simp[rangeCall,Act.eval]
    rw[hargs]
    simp only[rangeCall,hcf,Deferred.ofValue,Sem.run_pure]
   ·simp only[invoke]
    exact y5 hE hbody _ _
   ·have JZ:CallsIn (FW none) (0-1) E.P g (first++ #[.func (.yield (w.heap.size+1)) #[] #[]]++cap) w2 _:=hcall
    refine JZ.mono ?_
    intro en w3 hp
    cases en with
    |panicked ch=>exact hp.elim
    |outgrown=>exact hp.elim
    |returned cv=>
     obtain⟨K3,r3,wU,hA3,kC⟩:=hp
     obtain⟨aht,hb3,Zr,Zt,Zu,D3,hh3,hf3,_⟩:=wU.loop σ.next r hr
     have tu:K3.lp σ.next=w.heap.size+1:=((kC.ext.A σ.next hA2).2.2.1).trans Fq
     have hend:=run_endLoop (P:=E.P) hh3 (by
      show kr r.st≠ .busy
      unfold kr
      split
      ·simp
      ·simp[hst])
     rw[tu] at hend
     have hB3:=Nat.le_trans hB2 kC.below.size
     have hput:=aM.zh (σ':=σ3.jL σ.next) (new:=newer σ (σ3.jL σ.next)) (o':=.loop {state:=.exhausted,pending:=r.pend.bind kQ,fn:=Zt,tmps:=Zu,params:=r.ps.toArray,assign:=r.bB,body:=r.body,defers:=D3}) wU hB3 hb3 hh3 (fun _ _ _=>by simp) (fun _ _=>by simp)
      (fun l r1 hl=>by
        have hll:l≠σ.next:=by
         rintro rfl
         simp[ah.jL,upd] at hl
        have hl1:σ3.loops l=some r1:=by simpa [ah.jL,upd,hll] using hl
        refine⟨hl1,fun e'=> ?_⟩
        have:=(wU.loop l r1 hl1).2.2.1
        rw[e',Zr] at this
        cases this
        exact hll rfl) rfl rfl K3.D (fun x hx=>⟨hx,kR (wU.D x hx) hh3 (by simp)⟩) (fun _ h=>h)
     have Ck:({K3 with D:=K3.D}:aF)=K3:=rfl
     rw[Ck] at hput
     obtain⟨zi,Fu⟩:=hput
     rw[tu] at zi Fu
     have Zv:(σ3.jL σ.next).next=σ3.next:=rfl
     have l9:=Step.trans (new:=newer σ (σ3.jL σ.next)) st1 ((st2.mono (fun s hs'=>by subst hs';exact⟨Nat.le_refl _,by rw[Zv];omega⟩)).trans ((kC.mono (fun s hs'=>by
      have h1:σ.next+1≤s:=hs'.1
      exact⟨by omega,hs'.2⟩)).trans zi))
     have mk:∀w4,aM E B0 (σ3.jL σ.next) K3 w4→Step E B0 (newer σ (σ3.jL σ.next)) σ K w (σ3.jL σ.next) K3 w4→St E B0 (σ3.jL σ.next) K3 w4 fr {a with defers:=[mark w.heap.size]++a.defers} n ds:=by
      intro w4 Fu l9
      refine⟨Fu,Nat.le_trans hs.hB l9.below.size,hs.fr.ext l9.ext,hs.sz, ?_,hA3,Nat.le_trans hs.hD l9.below.size⟩
      obtain⟨bs,d1,d2,d3,_⟩:=hs.df
      refine⟨w.heap.size::bs,by simp[d1], ?_,fun b hb=> ?_,fun e=>by rw[hnm] at e;cases e⟩
      ·refine List.nodup_cons.2 ⟨fun hm=> ?_,d2⟩
       exact Nat.lt_irrefl _ (lt_of_heap (hs.ok.D _ (d3 _ hm).1))
      ·rcases List.mem_cons.1 hb with rfl|hb
       ·exact⟨kC.D _ (st2.D _ (.inr rfl)),hs.hD⟩
       ·exact⟨l9.D b (d3 b hb).1,(d3 b hb).2⟩
     have hSt:=mk _ Fu l9
     refine⟨_,_,hend, ?_⟩
     cases hp:r.pend with
     |none=>
      rw[hp] at he hSt l9
      simp only[Option.bind_none]
      subst he
      exact⟨trivial,K3,hSt,l9⟩
     |some e1=>
      rw[hp] at he hSt l9
      simp only at he
      subst he
      cases e1 with
      |normal=>exact⟨trivial,K3,hSt,l9⟩
      |exit i=>exact wpIn_exit ⟨rfl,K3,hSt,l9⟩
      |ret=>exact wpIn_ret ⟨trivial,K3,hSt,l9⟩
 ·simp at h
end
end Aq
end
section
namespace Aq
open Go Go.RowKit
theorem exists_least {p:Nat→Prop} (h:∃n,p n):∃n,p n∧∀m,p m→n≤m:=by
 obtain⟨n,hn⟩:=h
 induction n using Nat.strongRecOn with
 |_ n ih=>
  by_cases hm:∃m,m<n∧p m
  ·obtain⟨m,hm1,hm2⟩:=hm
   exact ih m hm1 hm2
  ·exact⟨n,hn,fun m hm'=>Classical.byContradiction fun hlt=>hm ⟨m,by omega,hm'⟩⟩
open Classical in
noncomputable def least (p:Nat→Prop):Nat:=if h:∃n,p n then (exists_least h).choose else 0
theorem Qh {p:Nat→Prop} (h:∃n,p n):p (least p)∧∀m,p m→least p≤m:=by
 unfold least
 rw[dif_pos h]
 exact(exists_least h).choose_spec
theorem Zw {F:Fence} {rm:Nat} {P:Program} {Q:Exit→Act→World→Prop} {a:Act} {w:World} {c:Code} (I:Nat→Act→World→Prop) (n₀:Nat) (h₀:I n₀ a w)
 (round:∀n a w,I n a w→c.wpIn F rm P (Exit.then (fun a' w'=> ∃n',n'<n∧I n' a' w') Q) a w):(Code.loop c).wpIn F rm P Q a w:=by
 refine wpIn_loop (fun a w=> ∃n,I n a w) (fun a w=>least (fun n=>I n a w)) ⟨n₀,h₀⟩ ?_
 intro a w hI
 refine wpIn_mono (round _ a w (Qh hI).1) ?_
 intro e a' w' hq
 cases e with
 |normal=>
  obtain⟨n',hlt,hI'⟩:=hq
  exact show (∃n,I n a' w')∧least (fun n=>I n a' w')<least (fun n=>I n a w) from ⟨⟨n',hI'⟩,Nat.lt_of_le_of_lt ((Qh ⟨n',hI'⟩).2 n' hI') hlt⟩
 |exit id=>exact hq
 |goto l=>exact hq
 |ret=>exact hq
 |panic ch=>exact hq
 |outgrown=>exact hq
section
variable {E:Env}
def Qi (E:Env) (code:Code→Fr→ah→Option (Ex×Fr×ah)) (c:Code):Prop:=∀fr σ e fr' σ',code c fr σ=some (e,fr',σ')→jF E c fr σ e fr' σ'
theorem J2 (hE:fT E) (n:Nat) (hS:∀m,m≤n→Sound E (aX E m)):∀c,Qi E (bN E (aX E n)) c:=by
 intro c
 induction c with
 |skip=>
  intro fr σ e fr' σ' h
  simp only[bN,Option.some.injEq,Prod.mk.injEq] at h
  obtain⟨rfl,rfl,rfl⟩:=h
  exact X5
 |region id ops dr=>
  intro fr σ e fr' σ' h
  exact Zn hE (hS n (Nat.le_refl _)) h
 |seq x y pX ihy=>
  intro fr σ e fr' σ' h
  simp only[bN,Option.bind_eq_some_iff] at h
  obtain⟨⟨e1,aP,σ1⟩,h1,h⟩:=h
  cases e1 with
  |normal=>exact Ya (pX _ _ _ _ _ h1) (ihy _ _ _ _ _ h)
  |exit i=>
   simp only[Option.some.injEq,Prod.mk.injEq] at h
   obtain⟨rfl,rfl,rfl⟩:=h
   exact Pp (by simp) (pX _ _ _ _ _ h1)
  |ret=>
   simp only[Option.some.injEq,Prod.mk.injEq] at h
   obtain⟨rfl,rfl,rfl⟩:=h
   exact Pp (by simp) (pX _ _ _ _ _ h1)
 |cond c x y pX ihy=>
  intro fr σ e fr' σ' h
  simp only[bN,Option.bind_eq_some_iff] at h
  obtain⟨t,ht,h⟩:=h
  refine Yb ht ?_
  cases t
  ·exact ihy _ _ _ _ _ (by simpa using h)
  ·exact pX _ _ _ _ _ (by simpa using h)
 |block id c ih=>
  intro fr σ e fr' σ' h
  simp only[bN,Option.map_eq_some_iff] at h
  obtain⟨⟨e1,aP,σ1⟩,h1,h⟩:=h
  have:=Yc (id:=id) (ih _ _ _ _ _ h1)
  cases e1 with
  |normal=>
   simp only[Prod.mk.injEq] at h
   obtain⟨rfl,rfl,rfl⟩:=h
   exact this
  |ret=>
   simp only[Prod.mk.injEq] at h
   obtain⟨rfl,rfl,rfl⟩:=h
   exact this
  |exit i=>
   simp only[Jp] at this
   simp only at h
   split at h
   ·rename_i hi
    simp only[Prod.mk.injEq] at h
    obtain⟨rfl,rfl,rfl⟩:=h
    rwa[if_pos hi] at this
   ·rename_i hi
    simp only[Prod.mk.injEq] at h
    obtain⟨rfl,rfl,rfl⟩:=h
    rwa[if_neg hi] at this
 |loop c ih=>
  intro fr σ e fr' σ' h
  have hm:(aX E (n+1)).code (.loop c) fr σ=some (e,fr',σ'):=h
  have hbody:∀k,k≤n→Qi E (bN E (aX E k)) c:=by
   intro k hk
   by_cases hkn:k=n
   ·subst hkn;exact ih
   ·intro fr σ e fr' σ' hc
    exact(hS (k+1) (by omega)).code c fr σ e fr' σ' hc
  have hnext:∀(k:Nat) (fr:Fr) (σ:ah),k≤n+1→(aX E k).code (.loop c) fr σ=some (e,fr',σ')→σ.next≤σ'.next:=by
   intro k
   induction k with
   |zero=>intro fr σ _ hh;cases hh
   |succ k ihk=>
    intro fr σ hk hh
    have hh':bN E (aX E k) (.loop c) fr σ=some (e,fr',σ'):=hh
    simp only[bN,Option.bind_eq_some_iff] at hh'
    obtain⟨⟨e1,aP,σ1⟩,h1,h2⟩:=hh'
    have hb:=(hbody k (by omega) _ _ _ _ _ h1).1
    cases e1 with
    |normal=>exact Nat.le_trans hb (ihk aP σ1 (by omega) h2)
    |exit i=>simp only[Option.some.injEq,Prod.mk.injEq] at h2;obtain⟨_,_,rfl⟩:=h2;exact hb
    |ret=>simp only[Option.some.injEq,Prod.mk.injEq] at h2;obtain⟨_,_,rfl⟩:=h2;exact hb
  refine⟨hnext (n+1) fr σ (Nat.le_refl _) hm,fun ro B0 K w a sz ds hs hok hnr=> ?_⟩
  refine Zw (fun m a1 w1=>m≤n+1∧∃aP σ1 K1,(aX E m).code (.loop c) aP σ1=some (e,fr',σ')∧St E B0 σ1 K1 w1 aP a1 sz ds∧Step E B0 (newer σ σ1) σ K w σ1 K1 w1∧σ.next≤σ1.next) (n+1)
   ⟨Nat.le_refl _,fr,σ,K,hm,hs,.refl hs.ok,Nat.le_refl _⟩ ?_
  rintro m a1 w1 ⟨hmn,aP,σ1,K1,hcode,hs1,st1,hle1⟩
  cases m with
  |zero=>cases hcode
  |succ k=>
   have hh':bN E (aX E k) (.loop c) aP σ1=some (e,fr',σ'):=hcode
   simp only[bN,Option.bind_eq_some_iff] at hh'
   obtain⟨⟨e2,bZ,σ2⟩,h1,h2⟩:=hh'
   obtain⟨hle2,hwp⟩:=hbody k (by omega) _ _ _ _ _ h1
   refine wpIn_mono (hwp ro B0 K1 w1 a1 sz ds hs1 hok hnr) ?_
   rintro x a2 w2 ⟨hx,K2,hs2,st2⟩
   cases e2 with
   |normal=>
    cases x<;>simp only[gV] at hx
    exact⟨k,Nat.lt_succ_self k,by omega,bZ,σ2,K2,h2,hs2,st1.widen st2 hle1 hle2,Nat.le_trans hle1 hle2⟩
   |exit i=>
    simp only[Option.some.injEq,Prod.mk.injEq] at h2
    obtain⟨rfl,rfl,rfl⟩:=h2
    cases x<;>simp only[gV] at hx
    exact⟨hx,K2,hs2,st1.widen st2 hle1 hle2⟩
   |ret=>
    simp only[Option.some.injEq,Prod.mk.injEq] at h2
    obtain⟨rfl,rfl,rfl⟩:=h2
    cases x<;>simp only[gV] at hx
    exact⟨trivial,K2,hs2,st1.widen st2 hle1 hle2⟩
 |rangeFunc f ps x y=>intro fr σ e fr' σ' h;exact Zq hE (hS n (Nat.le_refl _)) h
 |exit id=>
  intro fr σ e fr' σ' h
  simp only[bN,Option.some.injEq,Prod.mk.injEq] at h
  obtain⟨rfl,rfl,rfl⟩:=h
  exact X6 id
 |scope c ih=>
  intro fr σ e fr' σ' h
  simp only[bN] at h
  exact X9 (ih _ _ _ _ _ h)
 |label l=>
  intro fr σ e fr' σ' h
  simp only[bN,Option.some.injEq,Prod.mk.injEq] at h
  obtain⟨rfl,rfl,rfl⟩:=h
  exact X8 l
 |goto l=>intro fr σ e fr' σ' h;simp[bN] at h
 |ret=>
  intro fr σ e fr' σ' h
  simp only[bN,Option.some.injEq,Prod.mk.injEq] at h
  obtain⟨rfl,rfl,rfl⟩:=h
  exact X7
 |refuse why=>intro fr σ e fr' σ' h;simp[bN] at h
variable {B0:Nat} {σ:ah} {K:aF} {w:World} {fr:Fr}
def Cm (tmps:Array Value):ResultVar→Sem Value
 |.tmp t=>pure (tmps.getD t undef)
 |.cell a t=>do loadVar t (←asAddr (tmps.getD a undef))
theorem Zx (h:aM E B0 σ K w) {tmps:Array Value} (hf:fG K σ.top w fr tmps) {r:ResultVar} {v:V} (hv:gU E fr σ r=some v):
 ∃c,(Cm tmps r).run E.P w= .ok c w∧Rel K σ.top w v c:=by
 cases r with
 |tmp t=>
  simp only[gU,Option.some.injEq] at hv
  subst hv
  exact⟨_,rfl,hf t⟩
 |cell a t=>
  simp only[gU] at hv
  have ha:=hf a
  cases hx:fr.tm a with
  |ref loc s off=>
   rw[hx] at hv ha
   simp only at hv
   obtain⟨c,h1,h2⟩:=I9 h (t:=t) ha (v:=v) hv
   simp only[Cm]
   generalize tmps.getD a undef=ca at h1 ha
   cases ha with
   |ref _ _ _ hA=>
    refine⟨c, ?_,h2⟩
    simpa [Instr.loadAt,Instr.sureAddr,asAddr] using h1
  |_=>rw[hx] at hv;simp at hv
theorem Qj (h:aM E B0 σ K w) {tmps:Array Value} (hf:fG K σ.top w fr tmps):∀(rs:List ResultVar) (vs:List V),rs.mapM (gU E fr σ)=some vs→
 ∃cs:List Value,(rs.mapM (Cm tmps)).run E.P w= .ok cs w∧vs.length=cs.length∧
  ∀i,i<vs.length→Rel K σ.top w (vs.getD i aA) (cs.getD i undef):=by
 intro rs
 induction rs with
 |nil=>intro vs hv;simp at hv;subst hv;exact⟨[],by simp,rfl,fun i hi=>absurd hi (Nat.not_lt_zero i)⟩
 |cons r rs ih=>
  intro vs hv
  simp only[List.mapM_cons,Option.pure_def,Option.bind_eq_bind,Option.bind_eq_some_iff,Option.some.injEq] at hv
  obtain⟨v,h1,vs',h2,rfl⟩:=hv
  obtain⟨c,g1,g2⟩:=Zx h hf h1
  obtain⟨cs,k1,k2,k3⟩:=ih vs' h2
  refine⟨c::cs, ?_,by simp[k2],fun i hi=> ?_⟩
  ·simp only[List.mapM_cons,Sem.run_bind,g1,Result.andThen_ok,k1,Sem.run_pure]
  ·cases i with
   |zero=>exact g2
   |succ i=>exact k3 i (by simpa using hi)
theorem Qk {fn:Func} {tmps:Array Value} {R:Ending→World→Prop} {B1:Nat} (hB1:B0≤B1) (KD:Nat→Prop):∀(bs:List Nat) (K:aF) (w:World),aM E B0 σ K w→B0≤w.heap.size→bs.Nodup→(∀b∈bs,K.D b∧B1≤b)→(∀b,KD b→K.D b)→(∀b,KD b→b<B1)→
 (∀w1,Step E B0 (fun _=>False) σ {K with D:=KD} w σ {K with D:=KD} w1→LeavesIn Fence.wide 0 E.P fn tmps R [] .returning w1)→LeavesInM Fence.wide 0 E.P fn tmps R (bs.map mark) .returning w:=by
 intro bs
 induction bs with
 |nil=>
  intro K w h _ _ _ hk _ hl
  refine hl w (.refl (h.uW KD (fun b hb=>h.D b (hk b hb))))
 |cons b bs ih=>
  intro K w h hB hnd hbs hk hlt hl
  obtain⟨hb,zk⟩:=hbs b (by simp)
  have hheap:=h.D b hb
  have hput:=aM.zh (σ':=σ) (new:=fun _=>False) (o':=.deferred none) h hB (Nat.le_trans hB1 zk) hheap (fun _ _ _=>by simp) (fun _ _=>by simp)
   (fun l r hl=>by
     obtain⟨_,_,_,_,_,_,hh,_⟩:=h.loop l r hl
     exact⟨hl,kR hh hheap (by simp)⟩) rfl rfl
  have ok1:aM E B0 σ {K with D:=fun x=>K.D x∧x≠b} (w.putObj b (.deferred none)):=by
   have ho:=Jw w b (.deferred none)
   have h0:aM E B0 σ {K with D:=fun _=>False} w:=h.uW _ (fun b hb=>hb.elim)
   have hp:=(aM.zh (σ':=σ) (new:=fun _=>False) (o':=.deferred none) h0 hB (Nat.le_trans hB1 zk) hheap (fun _ _ _=>by simp) (fun _ _=>by simp)
    (fun l r hl=>by
      obtain⟨_,_,_,_,_,_,hh,_⟩:=h.loop l r hl
      exact⟨hl,kR hh hheap (by simp)⟩) rfl rfl (fun _=>False) (fun x hx=>hx.elim) (fun _ h=>h)).2
   exact hp.uW (fun x=>K.D x∧x≠b) (fun x hx=>by
    rw[World.putObj_heap_other hx.2];exact h.D x hx.1)
  refine⟨by simp,.inl ⟨b,w.putObj b (.deferred none),rfl,run_takeDeferred hheap, ?_⟩⟩
  refine ih {K with D:=fun x=>K.D x∧x≠b} (w.putObj b (.deferred none)) ok1 (by simpa using hB) (List.nodup_cons.1 hnd).2
   (fun x hx=>⟨⟨(hbs x (by simp[hx])).1,fun e=>(List.nodup_cons.1 hnd).1 (e▸hx)⟩,(hbs x (by simp[hx])).2⟩) (fun x hx=>⟨hk x hx,fun e=>by have:=hlt x hx;omega⟩) hlt (fun w1 st=>hl w1 ?_)
  have Ck:aM E B0 σ {K with D:=KD} w:=h.uW KD (fun b hb=>h.D b (hk b hb))
  have st0:=(aM.zh (σ':=σ) (new:=fun _=>False) (o':=.deferred none) Ck hB (Nat.le_trans hB1 zk) hheap (fun _ _ _=>by simp) (fun _ _=>by simp)
   (fun l r hl=>by
     obtain⟨_,_,_,_,_,_,hh,_⟩:=h.loop l r hl
     exact⟨hl,kR hh hheap (by simp)⟩) rfl rfl KD (fun x hx=>⟨hx,fun e=>by have h1:x<B1:=hlt x hx;omega⟩) (fun _ h=>h)).1
  exact st0.trans st
theorem Zy (n:Nat) (hS:qQ E (aX E n).code):yZ E (uM E (aX E n)):=by
 intro f args d σ v σ' h
 simp only[uM,Option.bind_eq_some_iff] at h
 obtain⟨fn,hfn,c,hc,h⟩:=h
 split at h
 ·rename_i hok
  simp only[Option.bind_eq_some_iff] at h
  obtain⟨⟨e,aP,σ1⟩,hcode,h⟩:=h
  have hne:e= .normal∨e= .ret:=by
   cases e with
   |normal=>exact .inl rfl
   |ret=>exact .inr rfl
   |exit i=>simp at h
  have h':(fn.results.toList.mapM (gU E aP σ1)).map (fun vs=>(match vs with| [v]=>v|vs=>.aT vs,σ1))=some (v,σ'):=by
   rcases hne with rfl|rfl<;>exact h
  simp only[Option.map_eq_some_iff,Prod.mk.injEq] at h'
  obtain⟨vs,hvs,hv,rfl⟩:=h'
  obtain⟨hle,hwp⟩:=hS _ _ _ _ _ _ hcode
  refine⟨hle,⟨fn,c,hfn,hc⟩,fun ro B0 K w aU hs hB hA hr=> ?_⟩
  have hsz:aU.size=args.length:=hr.1.symm
  have hst:St E B0 σ K w {d:=d,om:=E.om f,tm:=fun i=>args.getD i aA} {tmps:=aU++Array.replicate (fn.ntmps-aU.size) undef,defers:=[]} fn.ntmps ⟨[],w.heap.size,false⟩:=by
   refine⟨hs,hB,fun t=> ?_,by simp;omega,⟨[],rfl,List.nodup_nil,(fun b hb=>by cases hb),fun _=>rfl⟩,hA,Nat.le_refl _⟩
   show Rel K σ.top w (args.getD t aA) _
   by_cases ht:t<args.length
   ·have e1:(aU++Array.replicate (fn.ntmps-aU.size) undef).getD t undef=aU.getD t undef:=by
     simp only[Array.getD_eq_getD_getElem?]
     rw[Array.getElem?_append_left (by omega)]
    rw[e1];exact hr.2 t ht
   ·have e1:(aU++Array.replicate (fn.ntmps-aU.size) undef).getD t undef=undef:=by
     simp only[Array.getD_eq_getD_getElem?]
     rw[Array.getElem?_append_right (by omega),Array.getElem?_replicate]
     split<;>rfl
    have e2:args.getD t aA=aA:=by simp[List.getD,List.getElem?_eq_none (Nat.le_of_not_lt ht)]
    rw[e1,e2];exact .undef _ _ _
  have hwp':=hwp none B0 K w _ fn.ntmps ⟨[],w.heap.size,false⟩ hst hok.2 (.inl ⟨rfl,rfl⟩)
  have Cn:CallsIn Fence.wide 0 E.P f aU w (nD E B0 σ K w v σ1):=by
   refine callsIn_of_wp_marks hfn hc trivial (wpIn_mono hwp' ?_)
   rintro x a' w' ⟨hx,K',hs',st'⟩
   have hleave:LeavesInM Fence.wide 0 E.P fn a'.tmps (nD E B0 σ K w v σ1) a'.defers .returning w':=by
    obtain⟨bs,d1,d2,d3,_⟩:=hs'.df
    rw[d1,List.append_nil]
    refine Qk (B1:=w.heap.size) hB K.D bs K' w' hs'.ok hs'.hB d2 d3 st'.D (fun b hb=>lt_of_heap (hs.D b hb)) (fun w1 nK=> ?_)
    have wV:=nK.ok
    have hf2:fG {K' with D:=K.D} σ1.top w1 aP a'.tmps:=by
     have e1:Ext K' σ1.top w' {K' with D:=K.D} σ1.top w1:=(zf K' σ1.top w' K.D).trans nK.ext
     exact hs'.fr.ext e1
    obtain⟨cs,k1,k2,k3⟩:=Qj wV hf2 fn.results.toList vs hvs
    have hrun:(results fn a'.tmps).run E.P w1= .ok (if h:cs.toArray.size=1 then cs.toArray[0] else .tuple cs.toArray) w1:=by
     have hres:results fn a'.tmps=(do let vs←fn.results.mapM (Cm a'.tmps);pure (if h:vs.size=1 then vs[0] else .tuple vs)):=rfl
     rw[hres,Array.mapM_eq_mapM_toList]
     simp only[Sem.run_bind,Sem.run_map,k1,Result.andThen_ok,Sem.run_pure]
    have uT:Step E B0 (newer σ σ1) σ K w σ1 {K' with D:=K.D} w1:=
     ⟨wV,st'.ext.trans ((zf K' σ1.top w' K.D).trans nK.ext),st'.below.trans nK.below,fun _ h=>h,st'.A,st'.nI,st'.nk⟩
    refine⟨_,hrun,{K' with D:=K.D}, ?_,wV,hs'.st,uT⟩
    rw[←hv]
    cases vs with
    |nil=>
     have:cs=[]:=by simpa using k2.symm
     subst this
     exact .aT [] #[] rfl (fun i hi=>absurd hi (Nat.not_lt_zero i))
    |cons v1 vs=>
     cases cs with
     |nil=>simp at k2
     |cons c1 cs=>
      cases vs with
      |nil=>
       have:cs=[]:=by simpa using k2.symm
       subst this
       have:=k3 0 (by simp)
       simpa using this
      |cons v2 vs=>
       have hsz2:¬((c1::cs).toArray.size=1):=by
        simp only[List.length_cons,Nat.add_right_cancel_iff] at k2
        rw[List.size_toArray,List.length_cons]
        omega
       rw[dif_neg hsz2]
       refine .aT _ _ (by simpa using k2) (fun i hi=> ?_)
       have:=k3 i hi
       simpa [Array.getD_eq_getD_getElem?,List.getD] using this
   rcases hne with rfl|rfl<;>cases x<;>simp only[gV] at hx<;>exact hleave
  exact Cn
 ·simp at h
theorem qW (hE:fT E):∀n,Sound E (aX E n):=by
 have all:∀n m,m≤n→Sound E (aX E m):=by
  intro n
  induction n with
  |zero=>
   intro m hm
   obtain rfl:m=0:=by omega
   exact⟨(fun _ _ _ _ _ _ h=>by cases h),(fun _ _ _ _ _ _ h=>by cases h)⟩
  |succ n ih=>
   intro m hm
   by_cases hmn:m≤n
   ·exact ih m hmn
   ·obtain rfl:m=n+1:=by omega
    exact⟨fun c fr σ e fr' σ' h=>J2 hE n ih c fr σ e fr' σ' h,Zy n (ih n (Nat.le_refl _)).code⟩
 exact fun n=>all n n (Nat.le_refl _)
theorem Zz (hE:fT E) {n:Nat} {f:FuncId} {args:List V} {v:V} (h:lF E (aX E n) f args=some v):jk E f args v:=wL hE (qW hE n).call h
end
end Aq
end
section
namespace Aq
open Go
section
variable {E:Env}
def jH (S T:dW):Prop:=(∀c fr σ r,S.code c fr σ=some r→T.code c fr σ=some r)∧∀f args d σ r,S.call f args d σ=some r→T.call f args d σ=some r
variable {S T:dW}
theorem J3 (h:jH S T) {f:FuncId} {args:List V} {v:V} (hc:lF E S f args=some v):lF E T f args=some v:=by
 unfold lF at hc⊢
 cases hg:E.mY f with
 |some g=>simp only[hg] at hc⊢;exact hc
 |none=>
  simp only[hg,Option.bind_eq_some_iff] at hc⊢
  obtain⟨x,h1,h2⟩:=hc
  exact⟨x,h.2 _ _ _ _ _ h1,h2⟩
theorem Ql (h:jH S T) {l:Nat} {args:List V} {σ:ah} {r:V×ah} (hc:pI S l args σ=some r):pI T l args σ=some r:=by
 unfold pI at hc⊢
 simp only[Option.bind_eq_some_iff] at hc⊢
 obtain⟨r0,hl,hc⟩:=hc
 refine⟨r0,hl, ?_⟩
 split at hc
 ·rename_i hst
  rw[if_pos hst]
  simp only[Option.bind_eq_some_iff] at hc⊢
  obtain⟨⟨e1,aP,σ1⟩,tq,hc⟩:=hc
  refine⟨(e1,aP,σ1),h.1 _ _ _ _ tq, ?_⟩
  cases e1 with
  |normal=>
   simp only[Option.bind_eq_some_iff] at hc⊢
   obtain⟨r1,hl1,hc⟩:=hc
   refine⟨r1,hl1, ?_⟩
   split at hc
   ·rename_i qR
    rw[if_pos qR]
    simp only[Option.bind_eq_some_iff] at hc⊢
    obtain⟨x,hb,y,hy,hc⟩:=hc
    exact⟨x,h.1 _ _ _ _ hb,y,hy,hc⟩
   ·simp at hc
  |exit i=>simp at hc
  |ret=>simp at hc
 ·simp at hc
theorem Qm (h:jH S T) {d:Nat} {σ:ah} {fv:V} {args:List V} {r:V×ah} (hc:gK E S d σ fv args=some r):gK E T d σ fv args=some r:=by
 unfold gK at hc⊢
 split at hc
 ·split at hc
  ·rename_i hi;simp only[hi,if_true];exact h.2 _ _ _ _ _ hc
  ·rename_i hi
   simp only[Option.bind_eq_some_iff] at hc
   obtain⟨as,h1,v,h2,h3⟩:=hc
   simp only[hi,h1,Option.bind_some,J3 h h2]
   exact h3
 ·exact Ql h hc
 ·simp at hc
theorem ZA (h:jH S T) {σ:ah} {st:Nat} {fv:V} {args:List V} {r:V×ah} (hc:lH E S σ st fv args=some r):lH E T σ st fv args=some r:=by
 unfold lH at hc⊢
 split at hc
 ·split at hc
  ·rename_i hi
   simp only[Option.bind_eq_some_iff] at hc
   obtain⟨as,h1,v,h2,h3⟩:=hc
   simp only[hi,if_true,h1,Option.bind_some,h.2 _ _ _ _ _ h2]
   exact h3
  ·cases hc
 ·cases hc
theorem J4 (h:jH S T) {fr:Fr} {σ:ah} {st:Nat} {o:Oper} {r:V×Fr×ah} (hc:opC E S fr σ st o=some r):opC E T fr σ st o=some r:=by
 unfold opC at hc⊢
 split at hc
 ·rename_i c ho
  simp only[ho] at hc⊢
  split at hc
  ·exact hc
  ·rename_i f hf
   split at hc
   ·rename_i cu
    simp only[cu,if_true]
    simp only[Option.map_eq_some_iff] at hc⊢
    obtain⟨x,h1,h2⟩:=hc
    exact⟨x,ZA h h1,h2⟩
   rename_i cu
   simp only[cu,if_false,Bool.false_eq_true]
   simp only[Option.map_eq_some_iff] at hc⊢
   obtain⟨x,h1,h2⟩:=hc
   exact⟨x,Qm h h1,h2⟩
  ·simp at hc
 ·simp at hc
 ·exact hc
theorem Co (h:jH S T) (all:List Oper):∀(os:List Oper) (st:Nat) (fr:Fr) (σ:ah) (r:Fr×ah),opsE E S all st os fr σ=some r→opsE E T all st os fr σ=some r:=by
 intro os
 induction os with
 |nil=>intro st fr σ r hc;exact hc
 |cons o os ih=>
  intro st fr σ r hc
  simp only[opsE,Option.bind_eq_some_iff] at hc⊢
  obtain⟨t,h1,h2⟩:=hc
  refine⟨t,h1, ?_⟩
  cases t with
  |true=>
   simp only[if_true,Option.bind_eq_some_iff] at h2⊢
   obtain⟨x,h3,h4⟩:=h2
   exact⟨x,J4 h h3,ih _ _ _ _ h4⟩
  |false=>
   simp only[Bool.false_eq_true,if_false] at h2⊢
   exact ih _ _ _ _ h2
theorem Fv (h:jH S T) (all:List Oper):∀(os:List Oper) (st:Nat) (fr:Fr) (σ:ah) (r:List bA×Fr×ah),jQ E S all st os fr σ=some r→jQ E T all st os fr σ=some r:=by
 intro os
 induction os with
 |nil=>intro st fr σ r hc;exact hc
 |cons o os ih=>
  intro st fr σ r hc
  simp only[jQ,Option.bind_eq_some_iff] at hc⊢
  obtain⟨t,h1,h2⟩:=hc
  refine⟨t,h1, ?_⟩
  cases t with
  |true=>
   simp only[if_true,Option.bind_eq_some_iff,Option.map_eq_some_iff] at h2⊢
   obtain⟨x,h3,y,h4,h5⟩:=h2
   exact⟨x,J4 h h3,y,ih _ _ _ _ h4,h5⟩
  |false=>
   simp only[Bool.false_eq_true,if_false,Option.map_eq_some_iff] at h2⊢
   obtain⟨y,h4,h5⟩:=h2
   exact⟨y,ih _ _ _ _ h4,h5⟩
theorem ZB (h:jH S T) {ops:List Oper} {base i:Nat} {fr:Fr} {σ:ah} {r:Fr×ah} (hc:gL E S ops base i fr σ=some r):gL E T ops base i fr σ=some r:=by
 unfold gL at hc⊢
 split at hc
 ·exact hc
 ·simp only[Option.bind_eq_some_iff] at hc⊢
  obtain⟨t,h1,h2⟩:=hc
  refine⟨t,h1, ?_⟩
  cases t with
  |true=>
   simp only[if_true,Option.map_eq_some_iff] at h2⊢
   obtain⟨x,h3,h4⟩:=h2
   exact⟨x,J4 h h3,h4⟩
  |false=>simpa using h2
theorem ZC (h:jH S T) {ms:List Nat} {ops:List Oper} {base:Nat} {x y:Fr×ah} (hf:Free E S ms ops base x y):Free E T ms ops base x y:=by
 obtain⟨s,T',W,h0,hn,Cb,hloc,hr⟩:=hf
 refine⟨s,T',W,h0,hn,Cb,fun i hi x hx=> ?_,hr⟩
 obtain⟨y,h1,h2⟩:=hloc i hi x hx
 exact⟨y,ZB h h1,h2⟩
theorem wW (h:jH S T):∀(c:Code) (fr:Fr) (σ:ah) (r:Ex×Fr×ah),bN E S c fr σ=some r→bN E T c fr σ=some r:=by
 intro c
 induction c with
 |region id ops dr=>
  intro fr σ r hc
  simp only[bN] at hc⊢
  split at hc
  ·rename_i hd
   simp only[hd,if_true,Option.bind_eq_some_iff] at hc⊢
   obtain⟨x,h1,h2⟩:=hc
   refine⟨x,Fv h _ _ _ _ _ _ h1, ?_⟩
   split at h2
   ·rename_i hp;rw[if_pos hp];exact h2
   ·rename_i hp
    rw[if_neg hp]
    unfold IE at h2⊢
    split at h2
    ·rename_i hf
     rw[if_pos ⟨hf.1,ZC h hf.2⟩];exact h2
    ·cases h2
  ·rename_i hd
   simp only[hd,Bool.false_eq_true,if_false,Option.map_eq_some_iff] at hc⊢
   obtain⟨x,h1,h2⟩:=hc
   exact⟨x,Co h _ _ _ _ _ _ h1,h2⟩
 |seq a b iha ihb=>
  intro fr σ r hc
  simp only[bN,Option.bind_eq_some_iff] at hc⊢
  obtain⟨⟨e,aP,σ1⟩,h1,h2⟩:=hc
  refine⟨(e,aP,σ1),iha _ _ _ h1, ?_⟩
  cases e with
  |normal=>exact ihb _ _ _ h2
  |exit i=>exact h2
  |ret=>exact h2
 |cond c a b iha ihb=>
  intro fr σ r hc
  simp only[bN,Option.bind_eq_some_iff] at hc⊢
  obtain⟨t,h1,h2⟩:=hc
  refine⟨t,h1, ?_⟩
  cases t with
  |true=>simp only[if_true] at h2⊢;exact iha _ _ _ h2
  |false=>simp only[Bool.false_eq_true,if_false] at h2⊢;exact ihb _ _ _ h2
 |block id c ih=>
  intro fr σ r hc
  simp only[bN,Option.map_eq_some_iff] at hc⊢
  obtain⟨x,h1,h2⟩:=hc
  exact⟨x,ih _ _ _ h1,h2⟩
 |loop c ih=>
  intro fr σ r hc
  simp only[bN,Option.bind_eq_some_iff] at hc⊢
  obtain⟨⟨e,aP,σ1⟩,h1,h2⟩:=hc
  refine⟨(e,aP,σ1),ih _ _ _ h1, ?_⟩
  cases e with
  |normal=>exact h.1 _ _ _ _ h2
  |exit i=>exact h2
  |ret=>exact h2
 |rangeFunc f ps a b iha ihb=>
  intro fr σ r hc
  simp only[bN] at hc⊢
  split at hc
  ·rename_i hf
   rw[if_pos hf]
   simp only[Option.bind_eq_some_iff] at hc⊢
   obtain⟨x,h1,h2⟩:=hc
   exact⟨x,Qm h h1,h2⟩
  ·simp at hc
 |scope c ih=>intro fr σ r hc;simp only[bN] at hc⊢;exact ih _ _ _ hc
 |_=>intro fr σ r hc;simpa [bN] using hc
theorem ZE (h:jH S T) {f:FuncId} {args:List V} {d:Nat} {σ:ah} {r:V×ah} (hc:uM E S f args d σ=some r):uM E T f args d σ=some r:=by
 simp only[uM,Option.bind_eq_some_iff] at hc⊢
 obtain⟨fn,h1,c,h2,h3⟩:=hc
 refine⟨fn,h1,c,h2, ?_⟩
 split at h3
 ·rename_i hok
  rw[if_pos hok]
  simp only[Option.bind_eq_some_iff] at h3⊢
  obtain⟨x,h4,h5⟩:=h3
  exact⟨x,h.1 _ _ _ _ h4,h5⟩
 ·simp at h3
theorem ZF:∀n,jH (aX E n) (aX E (n+1)):=by
 intro n
 induction n with
 |zero=>exact⟨(fun _ _ _ _ h=>by cases h),(fun _ _ _ _ _ h=>by cases h)⟩
 |succ n ih=>exact⟨fun c fr σ r h=>wW ih c fr σ r h,fun f args d σ r h=>ZE ih h⟩
theorem jH.refl (S:dW):jH S S:=⟨fun _ _ _ _ h=>h,fun _ _ _ _ _ h=>h⟩
theorem jH.trans {S T U:dW} (h:jH S T) (g:jH T U):jH S U:=⟨fun _ _ _ _ x=>g.1 _ _ _ _ (h.1 _ _ _ _ x),fun _ _ _ _ _ x=>g.2 _ _ _ _ _ (h.2 _ _ _ _ _ x)⟩
theorem jo {n m:Nat} (h:n≤m):jH (aX E n) (aX E m):=by
 induction m with
 |zero=>obtain rfl:n=0:=by omega
        exact .refl _
 |succ m ih=>
  by_cases e:n=m+1
  ·subst e;exact .refl _
  ·exact(ih (by omega)).trans (ZF m)
end
section
variable (E:Env)
def OW (all:List Oper) (st:Nat) (os:List Oper) (fr:Fr) (σ:ah) (Q:Fr→ah→Prop):Prop:=
 ∃n fr' σ',opsE E (aX E n) all st os fr σ=some (fr',σ')∧Q fr' σ'
def bJ (ms:List Nat) (all:List Oper) (st:Nat) (os:List Oper) (fr:Fr) (σ:ah) (fs:List bA) (Q:Fr→ah→Prop):Prop:=
 ∃n fs' fr' σ',jQ E (aX E n) all st os fr σ=some (fs',fr',σ')∧sP ms (fs++fs')=true∧Q fr' σ'
def CW (c:Code) (fr:Fr) (σ:ah) (Q:Ex→Fr→ah→Prop):Prop:=
 ∃n e fr' σ',bN E (aX E n) c fr σ=some (e,fr',σ')∧Q e fr' σ'
def Pure (f:FuncId) (args:List V) (v:V):Prop:=∃n,lF E (aX E n) f args=some v
def mg (f:FuncId) (args:List V) (d:Nat) (σ:ah) (Q:V→ah→Prop):Prop:=∃n v σ',(aX E n).call f args d σ=some (v,σ')∧Q v σ'
end
section
variable {E:Env} {fr:Fr} {σ:ah}
theorem Pure.ok (hE:fT E) {f:FuncId} {args:List V} {v:V} (h:Pure E f args v):jk E f args v:=h.elim fun _ h=>Zz hE h
theorem OW.mono {all:List Oper} {st:Nat} {os:List Oper} {Q Q':Fr→ah→Prop} (h:OW E all st os fr σ Q) (hq:∀fr σ,Q fr σ→Q' fr σ):OW E all st os fr σ Q':=
 let ⟨n,fr',σ',h1,h2⟩:=h;⟨n,fr',σ',h1,hq _ _ h2⟩
theorem CW.mono {c:Code} {Q Q':Ex→Fr→ah→Prop} (h:CW E c fr σ Q) (hq:∀e fr σ,Q e fr σ→Q' e fr σ):CW E c fr σ Q':=
 let ⟨n,e,fr',σ',h1,h2⟩:=h;⟨n,e,fr',σ',h1,hq _ _ _ h2⟩
theorem OW.nil {all:List Oper} {st:Nat} {Q:Fr→ah→Prop} (h:Q fr σ):OW E all st [] fr σ Q:=⟨0,fr,σ,rfl,h⟩
theorem OW.op {all:List Oper} {st:Nat} {o:Oper} {os:List Oper} {v:V} {σ1:ah} {Q:Fr→ah→Prop} (hw:bS all fr o=some true) (hop:∀S,opC E S fr σ st o=some (v,fr,σ1))
 (h:OW E all (st+1) os (fr.put o.dst v) σ1 Q):OW E all st (o::os) fr σ Q:=by
 obtain⟨n,fr',σ',h1,h2⟩:=h
 exact⟨n,fr',σ',by simp only[opsE,hw,Option.bind_some,if_true,hop,h1],h2⟩
theorem OW.skip {all:List Oper} {st:Nat} {o:Oper} {os:List Oper} {Q:Fr→ah→Prop} (hw:bS all fr o=some false) (h:OW E all (st+1) os (fr.put o.dst aA) σ Q):OW E all st (o::os) fr σ Q:=by
 obtain⟨n,fr',σ',h1,h2⟩:=h
 exact⟨n,fr',σ',by simp only[opsE,hw,Option.bind_some,Bool.false_eq_true,if_false,h1],h2⟩
theorem Qn {d:Nat} {g:FuncId} {a b args as:List V} {v:V} {n:Nat} (hi:E.imp g=false) (has:(a++args++b).mapM (aJ 20 σ)=some as) (hp:lF E (aX E n) g as=some v)
 (hc:((a++args++b).all (fun x=>aD (er x))||flat v)=true):gK E (aX E n) d σ (.fn (.func g) a b) args=some (v,σ):=by
 unfold gK
 simp only[hi,Bool.false_eq_true,if_false,has,Option.bind_some,hp,hc,if_true]
theorem Fw {o:Oper} {f:Operand} {g:FuncId} {a b:List V} (hf:fr.ev E f= .fn (.func g) a b) (h:∀d,o.dst=some d→E.own g d=false):iO E fr o f=false:=by
 unfold iO
 rw[hf]
 cases hd:o.dst with
 |none=>rfl
 |some d=>exact h d hd
def uX (E:Env) (f:FuncId) (as:List V) (sz:Nat) (l:List V):Prop:=∃n v σ1,(aX E n).call f as 1 ah.init=some (v,σ1)∧∀st σ,(∃c,(c= .nil∨c= .full)∧lG σ st σ1 v=some (.aj c l,σ))∨lG σ st σ1 v=some (.aj (.own sz st) l,σ.bE st l.length)
theorem uX.of {f:FuncId} {as:List V} {sz:Nat} {l:List V} {n:Nat} {c:Cap} {σ1:ah} (h:(aX E n).call f as 1 ah.init=some (.aj c l,σ1)) (hp:aY l=true) (hc:c= .nil∨c= .full∨∃s,c= .own sz s∧σ1.top s=l.length):uX E f as sz l:=by
 refine⟨n,_,σ1,h,fun st σ=> ?_⟩
 rcases hc with rfl|rfl| ⟨s,rfl,ht⟩
 ·exact .inl ⟨.nil,.inl rfl,by unfold lG;dsimp only;rw[if_pos hp]⟩
 ·exact .inl ⟨.full,.inr rfl,by unfold lG;dsimp only;rw[if_pos hp]⟩
 ·exact .inr (by unfold lG;dsimp only;rw[if_pos hp,if_pos ht])
theorem OW.own {all:List Oper} {st:Nat} {o:Oper} {os:List Oper} {Q:Fr→ah→Prop} {c:Call} {f:Operand} {g:FuncId} {a b as l:List V} {d sz:Nat} (hw:bS all fr o=some true) (ho:o.op= .call c) (cZ:c.callee= .value f)
 (hf:fr.ev E f= .fn (.func g) a b) (hd:o.dst=some d) (hown:E.own g d=true) (has:mZ (E.wE g) σ (a++c.args.toList.map (fr.ev E)++b)=some as) (hp:uX E g as sz l)
 (hc:(a++c.args.toList.map (fr.ev E)++b).all (fun x=>aD (er x))=true)
 (h1:∀c,c= .nil∨c= .full→OW E all (st+1) os (fr.put o.dst (.aj c l)) σ Q) (h2:OW E all (st+1) os (fr.put o.dst (.aj (.own sz st) l)) (σ.bE st l.length) Q):OW E all st (o::os) fr σ Q:=by
 obtain⟨m,v0,σ1,hm,hcp⟩:=hp
 have cu:iO E fr o f=true:=by unfold iO;rw[hf,hd];exact hown
 have go:∀(v:V) (σ2:ah),lG σ st σ1 v0=some (v,σ2)→OW E all (st+1) os (fr.put o.dst v) σ2 Q→OW E all st (o::os) fr σ Q:=by
  rintro v σ2 hr ⟨n,fr',σ',g1,g2⟩
  have hm':=(jo (Nat.le_max_right n m)).2 _ _ _ _ _ hm
  have g1':=Co (jo (Nat.le_max_left n m)) _ _ _ _ _ _ g1
  refine⟨max n m,fr',σ', ?_,g2⟩
  have hov:lH E (aX E (max n m)) σ st (.fn (.func g) a b) (c.args.toList.map (fr.ev E))=some (v,σ2):=by
   unfold lH
   dsimp only
   rw[if_pos hc,has,Option.bind_some,hm',Option.bind_some]
   exact hr
  simp only[opsE,hw,Option.bind_some,if_true,opC,ho,cZ,cu]
  rw[hf,hov]
  simp only[Option.map_some,Option.bind_some,g1']
 rcases hcp st σ with ⟨c,hc,hr⟩|hr
 ·exact go _ _ hr (h1 c hc)
 ·exact go _ _ hr h2
theorem OW.call {all:List Oper} {st:Nat} {o:Oper} {os:List Oper} {v:V} {Q:Fr→ah→Prop} {c:Call} {f:Operand} {g:FuncId} {a b as:List V} (hw:bS all fr o=some true) (ho:o.op= .call c) (cZ:c.callee= .value f)
 (hf:fr.ev E f= .fn (.func g) a b) (hi:E.imp g=false) (has:(a++c.args.toList.map (fr.ev E)++b).mapM (aJ 20 σ)=some as) (hp:Pure E g as v)
 (hc:((a++c.args.toList.map (fr.ev E)++b).all (fun x=>aD (er x))||flat v)=true) (h:OW E all (st+1) os (fr.put o.dst v) σ Q) (cu:∀d,o.dst=some d→E.own g d=false:=by intros;rfl):OW E all st (o::os) fr σ Q:=by
 obtain⟨n,fr',σ',h1,h2⟩:=h
 obtain⟨m,hm⟩:=hp
 have hm':=J3 (jo (Nat.le_max_right n m)) hm
 have h1':=Co (jo (Nat.le_max_left n m)) _ _ _ _ _ _ h1
 refine⟨max n m,fr',σ', ?_,h2⟩
 simp only[opsE,hw,Option.bind_some,if_true,opC,ho,cZ,Fw hf cu,Bool.false_eq_true,if_false,hf,Qn hi has hm' hc,Option.map_some,h1']
theorem OW.zl {all:List Oper} {st:Nat} {o:Oper} {os:List Oper} {Q:Fr→ah→Prop} {c:Call} {f:Operand} {g:FuncId} {a b:List V} (hw:bS all fr o=some true) (ho:o.op= .call c) (cZ:c.callee= .value f)
 (hf:fr.ev E f= .fn (.func g) a b) (hi:E.imp g=true) (hp:mg E g (a++c.args.toList.map (fr.ev E)++b) (fr.d+1) σ (fun v σ1=>OW E all (st+1) os (fr.put o.dst v) σ1 Q)) (cu:∀d,o.dst=some d→E.own g d=false:=by intros;rfl):OW E all st (o::os) fr σ Q:=by
 obtain⟨m,v,σ1,hm,n,fr',σ',h1,h2⟩:=hp
 have hm':=(jo (Nat.le_max_right n m)).2 _ _ _ _ _ hm
 have h1':=Co (jo (Nat.le_max_left n m)) _ _ _ _ _ _ h1
 refine⟨max n m,fr',σ', ?_,h2⟩
 have:gK E (aX E (max n m)) fr.d σ (.fn (.func g) a b) (c.args.toList.map (fr.ev E))=some (v,σ1):=by
  unfold gK;simp only[hi,if_true];exact hm'
 simp only[opsE,hw,Option.bind_some,if_true,opC,ho,cZ,Fw hf cu,Bool.false_eq_true,if_false,hf,this,Option.map_some,h1']
theorem bJ.nil {ms:List Nat} {all:List Oper} {st:Nat} {fs:List bA} {Q:Fr→ah→Prop} (hp:sP ms fs=true) (h:Q fr σ):bJ E ms all st [] fr σ fs Q:=⟨0,[],fr,σ,rfl,by simpa using hp,h⟩
theorem bJ.op {ms:List Nat} {all:List Oper} {st:Nat} {o:Oper} {os:List Oper} {v:V} {σ1:ah} {fs:List bA} {Q:Fr→ah→Prop} (hw:bS all fr o=some true) (hop:∀S,opC E S fr σ st o=some (v,fr,σ1))
 (h:bJ E ms all (st+1) os (fr.put o.dst v) σ1 (fs++[dA E all fr o true]) Q):bJ E ms all st (o::os) fr σ fs Q:=by
 obtain⟨n,fs',fr',σ',h1,h2,h3⟩:=h
 exact⟨n,dA E all fr o true::fs',fr',σ',by simp only[jQ,hw,Option.bind_some,if_true,hop,h1,Option.map_some],by simpa using h2,h3⟩
theorem bJ.skip {ms:List Nat} {all:List Oper} {st:Nat} {o:Oper} {os:List Oper} {fs:List bA} {Q:Fr→ah→Prop} (hw:bS all fr o=some false)
 (h:bJ E ms all (st+1) os (fr.put o.dst aA) σ (fs++[dA E all fr o false]) Q):bJ E ms all st (o::os) fr σ fs Q:=by
 obtain⟨n,fs',fr',σ',h1,h2,h3⟩:=h
 exact⟨n,dA E all fr o false::fs',fr',σ',by simp only[jQ,hw,Option.bind_some,Bool.false_eq_true,if_false,h1,Option.map_some],by simpa using h2,h3⟩
theorem bJ.call {ms:List Nat} {all:List Oper} {st:Nat} {o:Oper} {os:List Oper} {v:V} {fs:List bA} {Q:Fr→ah→Prop} {c:Call} {f:Operand} {g:FuncId} {a b as:List V} (hw:bS all fr o=some true) (ho:o.op= .call c)
 (cZ:c.callee= .value f) (hf:fr.ev E f= .fn (.func g) a b) (hi:E.imp g=false) (has:(a++c.args.toList.map (fr.ev E)++b).mapM (aJ 20 σ)=some as) (hp:Pure E g as v)
 (hc:((a++c.args.toList.map (fr.ev E)++b).all (fun x=>aD (er x))||flat v)=true) (h:bJ E ms all (st+1) os (fr.put o.dst v) σ (fs++[dA E all fr o true]) Q) (cu:∀d,o.dst=some d→E.own g d=false:=by intros;rfl):bJ E ms all st (o::os) fr σ fs Q:=by
 obtain⟨n,fs',fr',σ',h1,h2,h3⟩:=h
 obtain⟨m,hm⟩:=hp
 have hm':=J3 (jo (Nat.le_max_right n m)) hm
 have h1':=Fv (jo (Nat.le_max_left n m)) _ _ _ _ _ _ h1
 refine⟨max n m,dA E all fr o true::fs',fr',σ', ?_,by simpa using h2,h3⟩
 simp only[jQ,hw,Option.bind_some,if_true,opC,ho,cZ,Fw hf cu,Bool.false_eq_true,if_false,hf,Qn hi has hm' hc,Option.map_some,h1']
theorem bJ.own {ms:List Nat} {all:List Oper} {st:Nat} {o:Oper} {os:List Oper} {fs:List bA} {Q:Fr→ah→Prop} {c:Call} {f:Operand} {g:FuncId} {a b as l:List V} {d sz:Nat} (hw:bS all fr o=some true) (ho:o.op= .call c) (cZ:c.callee= .value f)
 (hf:fr.ev E f= .fn (.func g) a b) (hd:o.dst=some d) (hown:E.own g d=true) (has:mZ (E.wE g) σ (a++c.args.toList.map (fr.ev E)++b)=some as) (hp:uX E g as sz l)
 (hc:(a++c.args.toList.map (fr.ev E)++b).all (fun x=>aD (er x))=true)
 (h1:∀c,c= .nil∨c= .full→bJ E ms all (st+1) os (fr.put o.dst (.aj c l)) σ (fs++[dA E all fr o true]) Q) (h2:bJ E ms all (st+1) os (fr.put o.dst (.aj (.own sz st) l)) (σ.bE st l.length) (fs++[dA E all fr o true]) Q):bJ E ms all st (o::os) fr σ fs Q:=by
 obtain⟨m,v0,σ1,hm,hcp⟩:=hp
 have cu:iO E fr o f=true:=by unfold iO;rw[hf,hd];exact hown
 have go:∀(v:V) (σ2:ah),lG σ st σ1 v0=some (v,σ2)→bJ E ms all (st+1) os (fr.put o.dst v) σ2 (fs++[dA E all fr o true]) Q→bJ E ms all st (o::os) fr σ fs Q:=by
  rintro v σ2 hr ⟨n,fs',fr',σ',g1,g2,g3⟩
  have hm':=(jo (Nat.le_max_right n m)).2 _ _ _ _ _ hm
  have g1':=Fv (jo (Nat.le_max_left n m)) _ _ _ _ _ _ g1
  refine⟨max n m,dA E all fr o true::fs',fr',σ', ?_,by simpa using g2,g3⟩
  have hov:lH E (aX E (max n m)) σ st (.fn (.func g) a b) (c.args.toList.map (fr.ev E))=some (v,σ2):=by
   unfold lH
   dsimp only
   rw[if_pos hc,has,Option.bind_some,hm',Option.bind_some]
   exact hr
  simp only[jQ,hw,Option.bind_some,if_true,opC,ho,cZ,cu]
  rw[hf,hov]
  simp only[Option.map_some,Option.bind_some,g1']
 rcases hcp st σ with ⟨c,hc,hr⟩|hr
 ·exact go _ _ hr (h1 c hc)
 ·exact go _ _ hr h2
theorem bJ.zl {ms:List Nat} {all:List Oper} {st:Nat} {o:Oper} {os:List Oper} {fs:List bA} {Q:Fr→ah→Prop} {c:Call} {f:Operand} {g:FuncId} {a b:List V} (hw:bS all fr o=some true) (ho:o.op= .call c)
 (cZ:c.callee= .value f) (hf:fr.ev E f= .fn (.func g) a b) (hi:E.imp g=true)
 (hp:mg E g (a++c.args.toList.map (fr.ev E)++b) (fr.d+1) σ (fun v σ1=>bJ E ms all (st+1) os (fr.put o.dst v) σ1 (fs++[dA E all fr o true]) Q)) (cu:∀d,o.dst=some d→E.own g d=false:=by intros;rfl):bJ E ms all st (o::os) fr σ fs Q:=by
 obtain⟨m,v,σ1,hm,n,fs',fr',σ',h1,h2,h3⟩:=hp
 have hm':=(jo (Nat.le_max_right n m)).2 _ _ _ _ _ hm
 have h1':=Fv (jo (Nat.le_max_left n m)) _ _ _ _ _ _ h1
 refine⟨max n m,dA E all fr o true::fs',fr',σ', ?_,by simpa using h2,h3⟩
 have:gK E (aX E (max n m)) fr.d σ (.fn (.func g) a b) (c.args.toList.map (fr.ev E))=some (v,σ1):=by
  unfold gK;simp only[hi,if_true];exact hm'
 simp only[jQ,hw,Option.bind_some,if_true,opC,ho,cZ,Fw hf cu,Bool.false_eq_true,if_false,hf,this,Option.map_some,h1']
end
def ah.bump (σ:ah) (k:Nat):ah:={σ with next:=σ.next+k}
section
variable {E:Env} {fr:Fr} {σ:ah}
theorem CW.region {id:Nat} {ops:Array Oper} {Q:Ex→Fr→ah→Prop} (h:OW E ops.toList σ.next ops.toList fr (σ.bump ops.toList.length) (fun fr σ=>Q .normal fr σ)):CW E (.region id ops false) fr σ Q:=by
 obtain⟨n,fr',σ',h1,h2⟩:=h
 exact⟨n,.normal,fr',σ',by simp only[bN,Bool.false_eq_true,if_false];rw[show opsE E (aX E n) ops.toList σ.next ops.toList fr {σ with next:=σ.next+ops.toList.length}=some (fr',σ') from h1];rfl,h2⟩
theorem CW.draw {id:Nat} {ops:Array Oper} {Q:Ex→Fr→ah→Prop} (he:ko ops.toList=true)
 (h:bJ E (kP ops.toList) ops.toList σ.next ops.toList fr (σ.bump ops.toList.length) [] (fun fr σ=>Q .normal fr σ)):CW E (.region id ops true) fr σ Q:=by
 obtain⟨n,fs,fr',σ',h1,h2,h3⟩:=h
 refine⟨n,.normal,fr',σ', ?_,h3⟩
 simp only[bN,if_true]
 rw[show jQ E (aX E n) ops.toList σ.next ops.toList fr {σ with next:=σ.next+ops.toList.length}=some (fs,fr',σ') from h1]
 simp only[Option.bind_some,he,Bool.true_and]
 rw[if_pos (by simpa using h2)]
def gF (E:Env) (b:Code) (Q:Ex→Fr→ah→Prop) (e:Ex) (fr:Fr) (σ:ah):Prop:=match e with
 |.normal=>CW E b fr σ Q
 |e=>Q e fr σ
theorem CW.seq {a b:Code} {Q:Ex→Fr→ah→Prop} (h:CW E a fr σ (gF E b Q)):CW E (.seq a b) fr σ Q:=by
 obtain⟨n,e,aP,σ1,h1,h2⟩:=h
 cases e with
 |normal=>
  obtain⟨m,e,fr',σ',h3,h4⟩:=h2
  refine⟨max n m,e,fr',σ', ?_,h4⟩
  simp only[bN,wW (jo (Nat.le_max_left n m)) _ _ _ _ h1,Option.bind_some,wW (jo (Nat.le_max_right n m)) _ _ _ _ h3]
 |exit i=>exact⟨n,.exit i,aP,σ1,by simp only[bN,h1,Option.bind_some],h2⟩
 |ret=>exact⟨n,.ret,aP,σ1,by simp only[bN,h1,Option.bind_some],h2⟩
theorem CW.skip {Q:Ex→Fr→ah→Prop} (h:Q .normal fr σ):CW E .skip fr σ Q:=⟨0,.normal,fr,σ,rfl,h⟩
theorem CW.ret {Q:Ex→Fr→ah→Prop} (h:Q .ret fr σ):CW E .ret fr σ Q:=⟨0,.ret,fr,σ,rfl,h⟩
theorem CW.exit {i:Nat} {Q:Ex→Fr→ah→Prop} (h:Q (.exit i) fr σ):CW E (.exit i) fr σ Q:=⟨0,.exit i,fr,σ,rfl,h⟩
theorem CW.cond {c:Operand} {a b:Code} {t:Bool} {Q:Ex→Fr→ah→Prop} (hc:fr.ev E c= .bool t) (ht:t=true→CW E a fr σ Q) (hf:t=false→CW E b fr σ Q):CW E (.cond c a b) fr σ Q:=by
 cases t with
 |true=>
  obtain⟨n,e,fr',σ',h1,h2⟩:=ht rfl
  exact⟨n,e,fr',σ',by simp only[bN,hc,j6,Option.bind_some,if_true,h1],h2⟩
 |false=>
  obtain⟨n,e,fr',σ',h1,h2⟩:=hf rfl
  exact⟨n,e,fr',σ',by simp only[bN,hc,j6,Option.bind_some,Bool.false_eq_true,if_false,h1],h2⟩
def mh (id:Nat) (Q:Ex→Fr→ah→Prop) (e:Ex) (fr:Fr) (σ:ah):Prop:=match e with
 |.exit i=>if i=id then Q .normal fr σ else Q (.exit i) fr σ
 |e=>Q e fr σ
theorem CW.block {id:Nat} {c:Code} {Q:Ex→Fr→ah→Prop} (h:CW E c fr σ (mh id Q)):CW E (.block id c) fr σ Q:=by
 obtain⟨n,e,fr',σ',h1,h2⟩:=h
 cases e with
 |normal=>exact⟨n,.normal,fr',σ',by simp only[bN,h1,Option.map_some],h2⟩
 |ret=>exact⟨n,.ret,fr',σ',by simp only[bN,h1,Option.map_some],h2⟩
 |exit i=>
  simp only[mh] at h2
  split at h2
  ·rename_i hi
   exact⟨n,.normal,fr',σ',by simp only[bN,h1,Option.map_some,if_pos hi],h2⟩
  ·rename_i hi
   exact⟨n,.exit i,fr',σ',by simp only[bN,h1,Option.map_some,if_neg hi],h2⟩
theorem CW.scope {c:Code} {Q:Ex→Fr→ah→Prop} (h:CW E c fr σ Q):CW E (.scope c) fr σ Q:=by
 obtain⟨n,e,fr',σ',h1,h2⟩:=h
 exact⟨n,e,fr',σ',by simp only[bN,h1],h2⟩
theorem CW.label {l:Nat} {Q:Ex→Fr→ah→Prop} (h:Q .normal fr σ):CW E (.label l) fr σ Q:=⟨0,.normal,fr,σ,by simp only[bN],h⟩
def pY (E:Env) (c:Code) (Q:Ex→Fr→ah→Prop) (e:Ex) (fr:Fr) (σ:ah):Prop:=match e with
 |.normal=>CW E (.loop c) fr σ Q
 |e=>Q e fr σ
theorem CW.loop {c:Code} {Q:Ex→Fr→ah→Prop} (h:CW E c fr σ (pY E c Q)):CW E (.loop c) fr σ Q:=by
 obtain⟨n,e,aP,σ1,h1,h2⟩:=h
 cases e with
 |normal=>
  obtain⟨m,e,fr',σ',h3,h4⟩:=h2
  refine⟨max n m+1,e,fr',σ', ?_,h4⟩
  simp only[bN,wW (jo (show n≤max n m+1 by omega)) _ _ _ _ h1,Option.bind_some]
  exact wW (jo (Nat.le_max_right n m)) _ _ _ _ h3
 |exit i=>exact⟨n,.exit i,aP,σ1,by simp only[bN,h1,Option.bind_some],h2⟩
 |ret=>exact⟨n,.ret,aP,σ1,by simp only[bN,h1,Option.bind_some],h2⟩
def qX (E:Env) (rs:List ResultVar) (R:V→ah→Prop) (e:Ex) (fr:Fr) (σ:ah):Prop:=match e with
 |.exit _=>False
 |_=> ∃vs,rs.mapM (gU E fr σ)=some vs∧R (match vs with| [v]=>v|vs=>.aT vs) σ
theorem mg.of {f:FuncId} {args:List V} {d:Nat} {fn:Func} {c:Code} {R:V→ah→Prop} (hf:E.P.funcs[f]? =some fn) (hb:fn.body=some c) (hok:(decide (args.length≤fn.ntmps)&& bO fn.ntmps c)=true)
 (h:CW E c {d:=d,om:=E.om f,tm:=fun i=>args.getD i aA} σ (qX E fn.results.toList R)):mg E f args d σ R:=by
 obtain⟨n,e,fr',σ',h1,h2⟩:=h
 have hok':args.length≤fn.ntmps∧bO fn.ntmps c=true:=by simpa using hok
 have key:∀vs,fn.results.toList.mapM (gU E fr' σ')=some vs→(e= .normal∨e= .ret)→(aX E (n+2)).call f args d σ=some ((match vs with| [v]=>v|vs=>.aT vs),σ'):=by
  intro vs hvs he
  show uM E (aX E (n+1)) f args d σ=_
  have h3:(aX E (n+1)).code c {d:=d,om:=E.om f,tm:=fun i=>args.getD i aA} σ=some (e,fr',σ'):=h1
  simp only[uM,hf,hb,Option.bind_some,if_pos hok',h3]
  rcases he with rfl|rfl<;>simp only[hvs,Option.map_some]<;>rcases vs with _| ⟨x,_| ⟨y,l⟩⟩<;>rfl
 cases e with
 |normal=>obtain⟨vs,h3,h4⟩:=h2;exact⟨n+2,_,σ',key vs h3 (.inl rfl),h4⟩
 |ret=>obtain⟨vs,h3,h4⟩:=h2;exact⟨n+2,_,σ',key vs h3 (.inr rfl),h4⟩
 |exit i=>exact h2.elim
theorem Pure.of {f:FuncId} {args:List V} {v:V} {fn:Func} {c:Code} (hs:E.mY f=none) (hf:E.P.funcs[f]? =some fn) (hb:fn.body=some c) (hok:(decide (args.length≤fn.ntmps)&& bO fn.ntmps c)=true)
 (h:CW E c {d:=1,om:=E.om f,tm:=fun i=>args.getD i aA} ah.init (qX E fn.results.toList (fun v0 σ=>aJ 20 σ v0=some v))):Pure E f args v:=by
 obtain⟨n,v0,σ',h1,h2⟩:=mg.of hf hb hok h
 exact⟨n,by simp only[lF,hs,h1,Option.bind_some,h2]⟩
theorem Cq (fr:Fr) (d:Nat) (v:V):fr.put (some d) v=fr.set d v:=rfl
theorem ZG (fr:Fr) (v:V):fr.put none v=fr:=rfl
theorem Qo (fr:Fr) (d:Nat) (v:V):(fr.set d v).tm d=v:=by simp[Fr.set,upd]
theorem tL (fr:Fr) {d t:Nat} (v:V) (h:(t==d)=false):(fr.set d v).tm t=fr.tm t:=by
 have h':¬t=d:=by simpa using h
 simp[Fr.set,upd,h']
theorem tN (fr:Fr) (d:Nat) (v:V):(fr.set d v).d=fr.d:=rfl
theorem ZH (fr:Fr) (d:Nat) (v:V):(fr.set d v).om=fr.om:=rfl
theorem zm (fr:Fr) (t:Nat):fr.ev E (.tmp t)=fr.tm t:=rfl
theorem Qp (fr:Fr) (v:Value):fr.ev E (.const v)=(ofValue v).getD (.raw v):=rfl
theorem Qq (fr:Fr) (f:FuncId):fr.ev E (.func f)= .fn (.func f) [] []:=rfl
theorem ZI (σ:ah) (k:Nat):(σ.bump k).next=σ.next+k:=rfl
theorem ZJ (σ:ah) (l:Aq.Loc) (s:Nat) (o:eO):(σ.setObj l s o).next=σ.next:=rfl
theorem ZK (σ:ah) (s n:Nat):(σ.bE s n).next=σ.next:=rfl
theorem zn (σ:ah) (s n:Nat):(σ.bE s n).top s=n:=by simp[ah.bE,upd]
theorem Cr (σ:ah) {s t:Nat} (n:Nat) (h:t≠s):(σ.bE s n).top t=σ.top t:=by simp[ah.bE,upd,h]
theorem ZL (σ:ah) (k:Nat):(σ.bump k).top=σ.top:=rfl
theorem ZM (σ:ah) (l:Aq.Loc) (s:Nat) (o:eO):(σ.setObj l s o).top=σ.top:=rfl
theorem Qr {l l':Aq.Loc} (h:ng l l'=false):¬l=l':=by
 rintro rfl
 simp[ng] at h
theorem J5 (a b c d:Nat):ng (a,b) (c,d)=(b==d&& a==c):=rfl
theorem p8 (σ:ah) (l:Aq.Loc) (s:Nat) (cs:List V):(σ.setObj l s (.cells cs)).bD l s=some cs:=by simp[ah.setObj,ah.bD,upd]
theorem Qs (σ:ah) {l l':Aq.Loc} (s s':Nat) (o:eO) (h:ng l l'=false):(σ.setObj l' s' o).bD l s=σ.bD l s:=by
 have h':=Qr h
 simp[ah.setObj,ah.bD,upd,h']
theorem ZN (σ:ah) (k:Nat) (l:Aq.Loc) (s:Nat):(σ.bump k).bD l s=σ.bD l s:=rfl
theorem ZO (σ:ah) (t n:Nat) (l:Aq.Loc) (s:Nat):(σ.bE t n).bD l s=σ.bD l s:=rfl
theorem map_eq (σ:ah) (l:Aq.Loc) (s:Nat) (ks vs:List V):(σ.setObj l s (.map ks vs)).dU l s=some (ks,vs):=by simp[ah.setObj,ah.dU,upd]
theorem Qt (σ:ah) {l l':Aq.Loc} (s s':Nat) (o:eO) (h:ng l l'=false):(σ.setObj l' s' o).dU l s=σ.dU l s:=by
 have h':=Qr h
 simp[ah.setObj,ah.dU,upd,h']
theorem ZP (σ:ah) (k:Nat) (l:Aq.Loc) (s:Nat):(σ.bump k).dU l s=σ.dU l s:=rfl
theorem ZQ (σ:ah) (t n:Nat) (l:Aq.Loc) (s:Nat):(σ.bE t n).dU l s=σ.dU l s:=rfl
theorem ZR {a b c d:Nat} (h:b≠d):((a,b):Aq.Loc)≠(c,d):=fun e=>h (by cases e;rfl)
end
end Aq
end
