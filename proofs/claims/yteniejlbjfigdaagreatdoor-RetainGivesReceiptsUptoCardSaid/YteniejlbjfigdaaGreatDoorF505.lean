import Derived.Test.YteniejlbjfigdaaGreatDoorF504
set_option linter.all false
section
namespace aR
open Go Go.RowKit
section
variable {E:Env}{S:iN}
theorem aoA (all:List Oper)(base:Nat):∀(os:List Oper)(k:Nat)(fr:Fr)(Z:ah)(fs:List dJ)(xW:Fr)(xX:ah),(∀j,os[j]? =all[k+j]?)->
 l5 E S all (base+k) os fr Z=some (fs,xW,xX)->fs.length=os.length/\∃s:Nat->Fr×ah,s k=(fr,Z)/\s (k+os.length)=(xW,xX)/\
  ∀i,k<=i->i<k+os.length->jc E S all base i (s i).1 (s i).2=some (s (i+1))/\∃o wt,all[i]? =some o/\fD all (s i).1 o=some wt/\fs[i-k]? =some (dW E all (s i).1 o wt):=by
 intro os;induction os with
 |nil=>intro k fr Z fs xW xX _ h;simp only[l5,iE,aS] at h;obtain⟨rfl,rfl,rfl⟩:=h;exact⟨rfl,fun _=>(fr,Z),rfl,rfl,fun i h1 h2=>KP⟩
 |cons o os ih=>
  intro k fr Z fs xW xX hall h;have h0:all[k]? =some o:=by simpa using (hall 0).symm
  have aoB:∀j,os[j]? =all[k+1+j]? :=fun j=>by have:=hall (j+1);simpa [oG,Nat.add_comm 1 j] using this
  simp only[l5,iR] at h;obtain⟨wt,hwt,h⟩:=h;have main:∀(bJ:Fr)(Z1:ah)(fs':List dJ),jc E S all base k fr Z=some (bJ,Z1)->l5 E S all (base+(k+1)) os bJ Z1=some (fs',xW,xX)->fs=dW E all fr o wt::fs'->
   fs.length=(o::os).length/\∃s:Nat->Fr×ah,s k=(fr,Z)/\s (k+(o::os).length)=(xW,xX)/\
   ∀i,k<=i->i<k+(o::os).length->jc E S all base i (s i).1 (s i).2=some (s (i+1))/\∃o wt,all[i]? =some o/\fD all (s i).1 o=some wt/\fs[i-k]? =some (dW E all (s i).1 o wt):=by
   intro bJ Z1 fs' hstep hrec hfs;obtain⟨hlen,s,hs1,hs2,hs3⟩:=ih (k+1) bJ Z1 fs' xW xX aoB hrec;refine⟨by rw[hfs];simp[hlen],fun i=>if i=k then (fr,Z) else s i,aB,?_,fun i h1 h2=>?_⟩
   .have:¬(k+(o::os).length=k):=aB;simp only[this,if_false];rw[show k+(o::os).length=k+1+os.length by simp;omega];exact hs2
   .by_cases hik:i=k
    .subst hik;have:¬(i+1=i):=RS;simp only[if_true,this,if_false];rw[hs1];exact⟨hstep,o,wt,h0,hwt,by rw[hfs];simp⟩
    .have:¬(i+1=k):=RS;simp only[hik,this,if_false];obtain⟨g1,o',aoC,g2,g3,g4⟩:=hs3 i RS KP;refine⟨g1,o',aoC,g2,g3,?_⟩;rw[hfs,show i-k=(i-(k+1))+1 by omega];simpa using g4
  cases wt with
  |true=>simp only[if_true,iR,aW,aS] at h;obtain⟨⟨v,iW,Z2⟩,hop,⟨fs',r⟩,hrec,hfs,hr⟩:=h;refine main _ _ fs' ?_ (by rw[<-hr];exact hrec) hfs.symm;simp only[jc,h0,hwt,Option.bind_some,if_true,hop,Option.map_some]
  |false=>simp only[bZ,if_false,aW,aS] at h;obtain⟨⟨fs',r⟩,hrec,hfs,hr⟩:=h;refine main _ _ fs' ?_ (by rw[<-hr];exact hrec) hfs.symm;simp only[jc,h0,hwt,Option.bind_some,bZ,if_false]
theorem VW (ops:List Oper)(base:Nat):∀(l:List Nat)(x:Fr×ah),Lv (fun i x=>jc E S ops base i x.1 x.2) l x=opsL E S ops base l x.1 x.2
 | [],x=>rfl|i::l,x=>by
  simp only[Lv,opsL];cases jc E S ops base i x.1 x.2 with
  |none=>rfl|some y=>exact VW ops base l y
def wK (acc:List Nat)(o:Oper):Nat:=o.after.toList.foldl (fun s e=>if Region.binds .any e then s|||2^e.on|||acc.getD e.on 0 else s) 0
theorem aoD:∀(ops:List Oper)(acc:List Nat),ops.foldl (fun acc o=>acc++[wK acc o]) acc=acc++(ops.foldl (fun acc o=>acc++[wK acc o]) acc).drop acc.length/\ (ops.foldl (fun acc o=>acc++[wK acc o]) acc).length=acc.length+ops.length/\
 ∀i o,ops[i]? =some o->(ops.foldl (fun acc o=>acc++[wK acc o]) acc).getD (acc.length+i) 0=wK ((ops.foldl (fun acc o=>acc++[wK acc o]) acc).take (acc.length+i)) o:=by
 intro ops;induction ops with
 |nil=>intro acc;simp|cons a ops ih=>
  intro acc;obtain⟨h1,h2,h3⟩:=ih (acc++[wK acc a]);simp only[List.foldl_cons];generalize hR:ops.foldl (fun acc o=>acc++[wK acc o]) (acc++[wK acc a])=R at h1 h2 h3⊢;have hpre:R.take acc.length=acc:=by rw[h1];simp
  refine⟨?_,by rw[h2];simp;omega,fun i o ho=>?_⟩
  .conv=>lhs;rw[<-qz acc.length R,hpre]
  .cases i with
   |zero=>simp at ho;subst ho;rw[Nat.add_zero,hpre,h1];simp|succ i=>have:=h3 i o (by simpa using ho);simpa [oG,Nat.add_comm 1 i] using this
theorem aoE {acc:List Nat}{o:Oper}{j:Nat}(h:(wK acc o).testBit j=true):∃e∈o.after.toList,Region.binds .any e=true/\(j=e.on\/(acc.getD e.on 0).testBit j=true):=by
 unfold wK at h;generalize hl:o.after.toList=l at h;clear hl;have gen:∀(l:List Edge)(s:Nat),(l.foldl (fun s e=>if Region.binds .any e then s|||2^e.on|||acc.getD e.on 0 else s) s).testBit j=true->
  s.testBit j=true\/∃e∈l,Region.binds .any e=true/\(j=e.on\/(acc.getD e.on 0).testBit j=true):=by
  intro l;induction l with
  |nil=>intro s h;exact .inl h|cons e l ih=>
   intro s h;simp only[List.foldl_cons] at h;rcases ih _ h with h1| ⟨e',he',hb,hj⟩
   .split at h1
    .rename_i hb;simp only[Nat.testBit_or,xJ] at h1;rcases h1 with (h1|h1)|h1
     .exact .inl h1
     .exact .inr ⟨e,aB,hb,.inl (by rw[Nat.testBit_two_pow] at h1;have:e.on=j:=Bz;exact this.symm)⟩
     .exact .inr ⟨e,aB,hb,.inr h1⟩
    .exact .inl h1
   .exact .inr ⟨e',by simp[he'],hb,hj⟩
 rcases gen l 0 h with h1|h1
 .simp at h1
 .exact h1
theorem aoF {ops:List Oper}(sj:qc ops=true){i j:Nat}{o:Oper}(ho:ops[i]? =some o)(h:((nK ops).getD i 0).testBit j=true):
 ∃e∈o.after.toList,Region.binds .any e=true/\e.on<i/\(j=e.on\/((nK ops).getD e.on 0).testBit j=true):=by
 have hp:nK ops=ops.foldl (fun acc o=>acc++[wK acc o]) []:=rfl;obtain⟨_,_,h3⟩:=aoD ops [];have:=h3 i o ho;simp only[List.length_nil,nX] at this;rw[hp,this] at h;obtain⟨e,he,hb,hj⟩:=aoE h;have hlt:e.on<i:=by
  have hi:i<ops.length:=by
   rcases Nat.lt_or_ge i ops.length with h|h
   .exact h
   .rw[List.getElem?_eq_none h] at ho;cases ho
  simp only[qc,kU] at sj;have h1:=sj i jH;rw[ho] at h1;simp only[kU] at h1;simpa [hb] using h1 e he
 refine⟨e,he,hb,hlt,hj.imp id (fun hj=>?_)⟩;rw[hp];have e1:∀(l:List Nat)(a b:Nat),a<b->(l.take b).getD a 0=l.getD a 0:=fun l a b hab=>by simp[List.getD,List.getElem?_take,hab]
 rw[e1 _ _ _ hlt] at hj;exact hj
theorem ae8 {ops:Array Oper}(sj:qc ops.toList=true){md:Region.Mode}{l:List Nat}(hl:Cb md ops [] l):
 ∀(i:Nat)(l1 l2:List Nat),l=l1++i::l2->∀j,((nK ops.toList).getD i 0).testBit j=true->j∈l1:=by
 intro i;induction i using Nat.strongRecOn with
 |_ i ih=>
  intro l1 l2 VX j hj;have hi:i<ops.size:=(hl.mem i (by rw[VX];simp)).1;have hoi:ops[i]? =some ops[i]:=by simp[hi]
  obtain⟨e,he,hb,hlt,VY⟩:=aoF sj (o:=ops[i]) (by simpa using hoi) hj;have hon:e.on∈l1:=by
   rcases hl.ord l1 i l2 VX ops[i] hoi e he (aoo md hb) with h|h
   .cases h
   .exact h
  rcases VY with rfl|VY
  .exact hon
  .obtain⟨a,b,rfl⟩:=List.append_of_mem hon;have:=ih e.on hlt a (b++i::l2) (by rw[VX];simp) j VY;exact Ef _ this
theorem aoG {ops:Array Oper}{base:Nat}{fr xW:Fr}{Z xX:ah}{fs:List dJ}(hF:l5 E S ops.toList base ops.toList fr Z=some (fs,xW,xX))(sj:qc ops.toList=true)(hP:Ak (nK ops.toList) fs=true){md:Region.Mode}{l:List Nat}(hl:Cb md ops [] l):opsL E S ops.toList base l fr Z=some (xW,xX):=by
 obtain⟨hlen,s,hs0,hsn,hs⟩:=aoA ops.toList base ops.toList 0 fr Z fs xW xX (fun j=>aB) (by simpa using hF);have hn:ops.toList.length=ops.size:=aB
 rw[nX,hn] at hsn;have hfs:∀i,i<ops.size->∃o wt,ops.toList[i]? =some o/\fD ops.toList (s i).1 o=some wt/\fs.getD i gB=dW E ops.toList (s i).1 o wt/\jc E S ops.toList base i (s i).1 (s i).2=some (s (i+1)):=by intro i hi;obtain⟨g1,o,wt,g2,g3,g4⟩:=hs i (qA _) RS;exact⟨o,wt,g2,g3,by simp only[Nat.sub_zero] at g4;simp[List.getD,g4],g1⟩
 have hself:∀i,i<ops.size->∀k,¬(fs.getD i gB).W k->dZ k (s i) (s (i+1)):=by intro i hi k hk;obtain⟨o,wt,g1,g2,g3,g4⟩:=hfs i hi;rw[g3] at hk;obtain⟨_,_,_,_,h4⟩:=G7 g1 g2 g4 (s i) (fun k _=>.refl k _);exact h4 k hk
 have hap:∀i j,i<ops.size->j<i->((nK ops.toList).getD i 0).testBit j=true\/((∀k,¬((fs.getD i gB).W k/\(fs.getD j gB).T k))/\∀k,¬((fs.getD j gB).W k/\(fs.getD i gB).T k)):=by intro i j hi hj;simp only[Ak,kU] at hP;have:=hP i dP j tC;simp only[xJ] at this;refine this.imp id (fun h=>?_);simp only[UO,aZ,xK] at h;exact⟨ae3 h.1,ae3 h.2⟩
 have key:=aeR (X:=Fr×ah) (Key:=Key) ops.size (fun i x=>jc E S ops.toList base i x.1 x.2) dZ dZ.refl (fun k x y z=>dZ.trans) s
  (fun i=>(fs.getD i gB).T) (fun i=>(fs.getD i gB).W) (fun i k=>dJ.QE)
  (fun i hi x hx=>by obtain⟨o,wt,g1,g2,g3,g4⟩:=hfs i hi;obtain⟨y,h1,h2,h3,_⟩:=G7 g1 g2 g4 x (fun k hk=>hx k (by rw[g3];exact hk));exact⟨y,h1,fun k hk=>h2 k (by rw[<-g3];exact hk),fun k hk=>h3 k (by rw[<-g3];exact hk)⟩)
  hself (fun j i=>((nK ops.toList).getD i 0).testBit j=true) hap (fun k x y=>dZ.symm)
  l [] (fr,Z) hl.nodup hl.mem hl.all (fun l1 i l2 h j hj=>.inr (ae8 sj hl i l1 l2 h j hj)) (fun i hi=>by cases hi)
  (by
    intro k m;induction m with
    |zero=>intro _ _;rw[hs0];exact .refl _ _|succ m ih=>intro hm hj;refine dZ.trans (dZ.symm (hself m RS k (fun hw=>?_))) (ih RS (fun j hjn hw=>⟨(fun h=>bU),(fun h=>by have:=(hj j hjn hw).2 RS;cases this)⟩));have:=(hj m RS hw).2 RS;cases this)
 obtain⟨y,h1,h2⟩:=key;rw[VW] at h1;have:=dZ.all h2;rw[hsn] at this;rw[h1,<-this]
theorem aoH {ops:Array Oper}{base:Nat}{x y:Fr×ah}(hF:Free E S (nK ops.toList) ops.toList base x y)(sj:qc ops.toList=true){md:Region.Mode}{l:List Nat}(hl:Cb md ops [] l):
 opsL E S ops.toList base l x.1 x.2=some y:=by
 obtain⟨s,T,W,h0,hn,Ez,hloc,hself,hap⟩:=hF;have hsz:ops.toList.length=ops.size:=aB
 rw[hsz] at hn hloc hself hap;obtain⟨z,h1,h2⟩:=aeR (X:=Fr×ah) (Key:=Key) ops.size (fun i x=>jc E S ops.toList base i x.1 x.2) dZ dZ.refl (fun k x y z=>dZ.trans) s T W Ez
  hloc hself (fun j i=>((nK ops.toList).getD i 0).testBit j=true) hap (fun k x y=>dZ.symm)
  l [] x hl.nodup hl.mem hl.all (fun l1 i l2 h j hj=>.inr (ae8 sj hl i l1 l2 h j hj)) (fun i hi=>by cases hi)
  (by
    intro k m;induction m with
    |zero=>intro _ _;rw[h0];exact .refl _ _|succ m ih=>intro hm hj;refine dZ.trans (dZ.symm (hself m RS k (fun hw=>?_))) (ih RS (fun j hjn hw=>⟨(fun h=>bU),(fun h=>by have:=(hj j hjn hw).2 RS;cases this)⟩));have:=(hj m RS hw).2 RS;cases this)
 rw[VW] at h1;have:=dZ.all h2;rw[hn] at this;rw[h1,<-this]
end
section
variable {E:Env}{S:iN}{B0:Nat}{Z Z':ah}{K K':bq}{w w':World}{fr fr':Fr}{a:Act}{n:Nat}
theorem aoI (hE:qg E)(hS:Sound E S){id:Nat}{ops:Array Oper}{dr:Bool}{e:Ex}(h:dX E S (.region id ops dr) fr Z=some (e,fr',Z')):qd E (.region id ops dr) fr Z e fr' Z':=by
 have fin:∀(l:List Nat),opsL E S ops.toList Z.next l fr {Z with next:=Z.next+ops.toList.length}=some (fr',Z')->l.Nodup->(∀i∈l,i<ops.size)->∀ro B0 K w a n ds Q,St E B0 Z K w fr a n ds->iD n (.region id ops dr)=true->
  (∀x a' w',Ew E B0 n ds Z K w .normal fr' Z' x a' w'->Q x a' w')->wpOpsIn (oF ro) 0 E.P ops Q l a w:=by
  intro l hl hnd hlt ro B0 K w a n ds Q hs hok hq;have hnx:=Lu hS _ _ _ _ _ hl;simp only at hnx;have hs':St E B0 {Z with next:=Z.next+ops.toList.length} K w fr a n ds:=⟨aeP hs.ok _,hs.hB,hs.fr,hs.sz,hs.df,fun s h=>lW (hs.st s h) (lD _ _),hs.hD⟩;refine aeQ hE hS ops Z.next hok ro _ l fr _ K w a hl hnd hlt hs' aB (fun i _ hA=>by have:=hs.st _ hA;omega) (fun a' K' w' hs2 st=>hq _ _ _ ?_);refine⟨trivial,K',hs2,?_⟩;have st':Step E B0 (newer Z Z') {Z with next:=Z.next+ops.toList.length} K w Z' K' w':=st.mono (fun s hs=>by
   rcases hs with h|h
   .exact⟨h.1,by simp at hnx;omega⟩
   .refine⟨eO (lD _ _) h.1,h.2⟩)
  exact⟨st'.ok,st'.ext,st'.below,st'.D,st'.A,st'.y8,st'.y9⟩
 simp only[dX] at h;split at h
 .rename_i hdr;simp only[iR] at h;obtain⟨⟨fs,bJ,Z1⟩,hF,h⟩:=h;have hall:bJ=fr'/\Z1=Z'/\e= .normal/\qc ops.toList=true/\∀md l,Cb md ops [] l->opsL E S ops.toList Z.next l fr {Z with next:=Z.next+ops.toList.length}=some (fr',Z'):=by
   split at h
   .rename_i G8;simp only[iE,aS] at h;obtain⟨rfl,rfl,rfl⟩:=h;simp only[aZ] at G8;exact⟨rfl,rfl,rfl,G8.1,fun md l hl=>aoG hF G8.1 G8.2 hl⟩
   .unfold KZ at h;split at h
    .rename_i hfree;simp only[iE,aS] at h;obtain⟨rfl,rfl,rfl⟩:=h;exact⟨rfl,rfl,rfl,hfree.1,fun md l hl=>aoH hfree.2 hfree.1 hl⟩
    .cases h
  obtain⟨rfl,rfl,rfl,G8,QB⟩:=hall;have hany:∀t,∃md,Cb md ops [] (Region.schedule (E.P.follows .mixedOrders) ops t):=fun t=>aon hE.mixed _ G8 t;have hdo:∀t,opsL E S ops.toList Z.next (Region.schedule (E.P.follows .mixedOrders) ops t) fr {Z with next:=Z.next+ops.toList.length}=some (bJ,Z1):=fun t=>by obtain⟨md,hl⟩:=hany t;exact QB md _ hl
  have hnx:=Lu hS _ _ _ _ _ (hdo 0);simp only at hnx;refine⟨eO (lD _ _) hnx,fun ro B0 K w a n ds hs hok _=>?_⟩;rw[hdr];refine wpIn_region_draw (fun t=>?_);obtain⟨md,hl⟩:=hany t;have hst:=Step.same (new:=newer Z Z) hs.ok (w':={w with drawn:=w.drawn+1}) rfl rfl rfl rfl;have hs1:St E B0 Z K {w with drawn:=w.drawn+1} fr a n ds:=⟨hst.ok,hs.hB,hs.fr.ext hst.ext,hs.sz,hs.df,hs.st,hs.hD⟩;refine fin _ (hdo t) hl.nodup (fun i hi=>(hl.mem i hi).1) ro B0 K _ a n ds _ hs1 (by rw[hdr];exact hok) ?_;rintro x a' w' ⟨h1,K',h2,h3⟩;exact⟨h1,K',h2,hst.widen h3 (mF _) (eO (lD _ _) hnx)⟩
 .rename_i hdr;have hdr':dr=false:=by simpa using hdr
  simp only[aW,aS] at h;obtain⟨⟨bJ,Z1⟩,hF,rfl,rfl,rfl⟩:=h;rw[anY] at hF;have hnx:=Lu hS _ _ _ _ _ hF;simp only at hnx;refine⟨eO (lD _ _) hnx,fun ro B0 K w a n ds hs hok _=>?_⟩;rw[hdr'];exact wpIn_region (fin _ hF List.nodup_range (fun i hi=>jH) ro B0 K w a n ds _ hs (by rw[hdr'];exact hok) (fun _ _ _ h=>h))
end
section
variable {E:Env}{S:iN}{K K':bq}{w w':World}{Z Z':ah}{B0:Nat}
theorem VZ (K:bq)(T:Nat->Nat)(w:World)(D':Nat->Prop):Ext K T w {K with D:=D'} T w:=
 ⟨fun _ h=>⟨h,rfl,rfl,rfl⟩,fun _ _=>.inl ⟨rfl,rfl,rfl,rfl⟩,fun _ _ h=>⟨h,rfl⟩,fun _ h=>⟨h,rfl⟩⟩
theorem bG.QK (h:bG E B0 Z K w)(D':Nat->Prop)(hD:∀b,D' b->w.heap[b]? =some (.deferred (some []))):bG E B0 Z {K with D:=D'} w:=by
 have e:=VZ K Z.top w D';refine⟨fun loc s ob hs=>?_,h.own,h.I,h.IM,fun l r hl=>?_,fun g cs hg=>(h.glob g cs hg).ext e,h.rb,hD⟩
 .obtain⟨a1,a2,a3⟩:=h.obj loc s ob hs;exact⟨a1,a2.ext e a1 (fun _=>rfl),a3⟩
 .obtain⟨a1,a2⟩:=h.loop l r hl;exact⟨a1,a2.ext e a1 rfl rfl⟩
theorem bG.QL (h:bG E B0 Z K w)(hB:B0<=w.heap.size){new:Nat->Prop}{b:Nat}{o o':Obj}(hb0:B0<=b)(hb:w.heap[b]? =some o)(hc:∀vals t f,o≠ .cells vals t f)(hm:∀es dL,o≠ .map es dL)(aoJ:∀l r,Z'.loops l=some r->Z.loops l=some r/\K.lp l≠b)(h1:Z'.obj=Z.obj)(h2:Z'.top=Z.top)(D':Nat->Prop)(hD:∀x,D' x->K.D x/\x≠b)(aoK:∀x,K.D x->D' x):
 Step E B0 new Z K w Z' {K with D:=D'} (w.putObj b o')/\bG E B0 Z' {K with D:=D'} (w.putObj b o'):=by
 have hlt:=lt_of_heap hb;have ho:=VE w b o';have hcell:∀b' i v,w.cell? (at_ b' i)=some v->b'≠b:=fun b' i v hv e=>by
  subst e;have:∃vals t f,o= .cells vals t f:=by simp only[World.cell?,hb] at hv;cases o<;>simp at hv;exact⟨_,_,_,rfl⟩
  obtain⟨vals,t,f,rfl⟩:=this;exact hc _ _ _ rfl
 have e:Ext K Z.top w {K with D:=D'} Z'.top (w.putObj b o'):=by
  rw[h2];refine⟨fun _ h=>⟨h,rfl,rfl,rfl⟩,fun _ _=>.inl ⟨rfl,rfl,rfl,rfl⟩,fun b' i hi=>⟨hi,?_⟩,fun b' hi=>⟨hi,?_⟩⟩
  .obtain⟨⟨v,hv⟩,_⟩:=h.I b' i hi;exact cell_of_heap (ho.block b' (hcell b' i v hv) (lt_of_cell hv))
  .obtain⟨⟨es,dL,hv⟩,_⟩:=h.IM b' hi;exact ho.block b' (tO hv hb (fun e=>hm _ _ e.symm)) (lt_of_heap hv)
 have ok:bG E B0 Z' {K with D:=D'} (w.putObj b o'):=by
  refine h.upd (Z':=Z') ho e (fun _ _=>rfl) (fun r hr'=>⟨by simpa using hlt,hb0⟩) ?_ ?_ ?_ ?_ ?_ ?_
  .intro loc s ob hs;rw[h1] at hs;refine .inl ⟨hs,fun mX e'=>?_⟩;obtain⟨_,a2,_⟩:=h.obj loc s ob hs;cases ob with
   |cells cs=>obtain⟨_,vals,t,g1,_⟩:=a2.2 (by cases cs with|nil=>exact mX.elim|cons _ _=>simp);rw[e',hb] at g1;exact hc _ _ _ (jW g1)
   |map ks vs=>obtain⟨_,es,dL,g1,_⟩:=a2;rw[e',hb] at g1;exact hm _ _ (jW g1)
  .intro s hs hlt';refine .inl ⟨hs,rfl,rfl,rfl,fun e'=>?_⟩;obtain⟨_,⟨v,hv⟩,_⟩:=(h.own s hs hlt').2.2 (K.lo s) (mF _) hlt';exact hcell _ _ _ hv e'
  .intro b' i hi;obtain⟨⟨v,hv⟩,_⟩:=h.I b' i hi;exact .inl ⟨hi,hcell b' i v hv⟩
  .intro b' hi;obtain⟨⟨es,dL,hv⟩,_⟩:=h.IM b' hi;exact .inl ⟨hi,tO hv hb (fun e=>hm _ _ e.symm)⟩
  .intro l r hl;exact .inl (aoJ l r hl)
  .intro b' hd;exact .inl (hD b' hd)
 exact⟨⟨ok,e,ho.below hb0 hB,aoK,fun _ h=>.inl h,fun _ _ h=>.inl h,fun _ h=>.inl h⟩,ok⟩
theorem Step.aoL (h:bG E B0 Z K w)(hB:B0<=w.heap.size){new:Nat->Prop}:
 Step E B0 new Z K w Z {K with D:=fun b=>K.D b\/b=w.heap.size} (w.alloc (.deferred (some []))):=by
 have ho:=Es w (.deferred (some []));have e:Ext K Z.top w {K with D:=fun b=>K.D b\/b=w.heap.size} Z.top (w.alloc (.deferred (some []))):=by
  refine⟨fun _ h=>⟨h,rfl,rfl,rfl⟩,fun _ _=>.inl ⟨rfl,rfl,rfl,rfl⟩,fun b' i hi=>⟨hi,?_⟩,fun b' hi=>⟨hi,?_⟩⟩
  .obtain⟨⟨v,hv⟩,_⟩:=h.I b' i hi;rw[hv];exact Qh hv
  .obtain⟨⟨es,dL,hv⟩,_⟩:=h.IM b' hi;exact heap_alloc_old (lt_of_heap hv)
 refine⟨?_,e,ho.below hB hB,fun _ h=>.inl h,fun _ h=>.inl h,fun _ _ h=>.inl h,fun _ h=>.inl h⟩;refine h.upd (Z':=Z) ho e (fun _ _=>rfl) (fun r hr'=>⟨aB,hB⟩) ?_ ?_ ?_ ?_ ?_ ?_
 .intro loc s ob hs;refine .inl ⟨hs,fun hr=>?_⟩;have:=(h.rb _ _ ((h.obj _ _ _ hs).2.2 hr)).1;omega
 .intro s hs hlt';have:=(h.rb _ _ (h.own s hs hlt').2.1).1;exact .inl ⟨hs,rfl,rfl,rfl,RS⟩
 .intro b' i hi;obtain⟨⟨v,hv⟩,_⟩:=h.I b' i hi;exact .inl ⟨hi,pE (lt_of_cell hv)⟩
 .intro b' hi;obtain⟨⟨es,dL,hv⟩,_⟩:=h.IM b' hi;exact .inl ⟨hi,pE (lt_of_heap hv)⟩
 .intro l r hl;have:=(h.rb _ _ (h.loop l r hl).2.2.1).1;exact .inl ⟨hl,RS⟩
 .intro b' hd;rcases hd with hd|rfl
  .exact .inl ⟨hd,pE (lt_of_heap (h.D b' hd))⟩
  .exact .inr ⟨rfl,heap_alloc_new _ _⟩
def bq.G9 (K:bq)(st b:Nat):bq:=
 {K with A:=fun s=>K.A s\/s=st,lo:=upd K.lo st 0,hi:=upd K.hi st 0,lp:=upd K.lp st b,C:=upd K.C b (some (.loop st))}
theorem Step.aoM (h:bG E B0 Z K w)(hB:B0<=w.heap.size)(hst:¬K.A Z.next){fr:Fr}{tmps:Array Value}{ps:List Nat}{gq body:Code}{fn:FuncId}{D:Nat}(hf:l6 K Z.top w fr tmps)(hok1:iD tmps.size gq=true)(hok2:iD tmps.size body=true)(hps:∀p∈ps,p<tmps.size)(hn1:j4 gq=true)(hn2:j4 body=true):
 Step E B0 (· =Z.next) Z K w ({Z with next:=Z.next+1}.mR Z.next {st:=0,pend:=none,fr:=fr,ps:=ps,gq:=gq,body:=body}) (K.G9 Z.next w.heap.size)
  (w.alloc (.loop {state:=.ready,pending:=none,fn:=fn,tmps:=tmps,params:=ps.toArray,assign:=gq,body:=body,defers:=D})):=by
 generalize hrec:({state:=.ready,pending:=none,fn:=fn,tmps:=tmps,params:=ps.toArray,assign:=gq,body:=body,defers:=D}:Go.Loop)=rec;have ho:=Es w (.loop rec);have hne:∀s,K.A s->s≠Z.next:=fun s hs e=>hst (e▸hs);have e:Ext K Z.top w (K.G9 Z.next w.heap.size) Z.top (w.alloc (.loop rec)):=by
  refine⟨fun s hs=>⟨.inl hs,rfl,upd_ne _ _ (hne s hs),rfl⟩,fun s hs=>.inl ⟨rfl,rfl,upd_ne _ _ (hne s hs),upd_ne _ _ (hne s hs)⟩,fun b' i hi=>⟨hi,?_⟩,fun b' hi=>⟨hi,?_⟩⟩
  .obtain⟨⟨v,hv⟩,_⟩:=h.I b' i hi;rw[hv];exact Qh hv
  .obtain⟨⟨es,dL,hv⟩,_⟩:=h.IM b' hi;exact heap_alloc_old (lt_of_heap hv)
 refine⟨?_,e,ho.below hB hB,fun _ h=>h,fun _ h=>h,fun _ _ h=>.inl h,fun _ h=>.inl h⟩;refine h.upd (Z':=({Z with next:=Z.next+1}.mR Z.next {st:=0,pend:=none,fr:=fr,ps:=ps,gq:=gq,body:=body})) ho e (fun k hk=>upd_ne _ _ hk) (fun r hr'=>⟨aB,hB⟩) ?_ ?_ ?_ ?_ ?_ ?_
 .intro loc s ob hs;have hs':Z.obj loc=some (s,ob):=hs;refine .inl ⟨hs',fun hr=>?_⟩;have:=(h.rb _ _ ((h.obj _ _ _ hs').2.2 hr)).1;omega
 .intro s hs hlt';have hs':s≠Z.next:=by rintro rfl;simp only[bq.G9,upd_same] at hlt';omega
  have hA:K.A s:=hs.resolve_right hs';simp only[bq.G9,upd_ne _ _ hs'] at hlt';have:=(h.rb _ _ (h.own s hA hlt').2.1).1;exact .inl ⟨hA,upd_ne _ _ hs',upd_ne _ _ hs',rfl,RS⟩
 .intro b' i hi;obtain⟨⟨v,hv⟩,_⟩:=h.I b' i hi;exact .inl ⟨hi,pE (lt_of_cell hv)⟩
 .intro b' hi;obtain⟨⟨es,dL,hv⟩,_⟩:=h.IM b' hi;exact .inl ⟨hi,pE (lt_of_heap hv)⟩
 .intro l r hl;by_cases hll:l=Z.next
  .subst hll;right;have hr:r={st:=0,pend:=none,fr:=fr,ps:=ps,gq:=gq,body:=body}:=by simpa [ah.mR,upd] using hl.symm
   subst hr;have hlp:(K.G9 Z.next w.heap.size).lp Z.next=w.heap.size:=upd_same _ _ _;refine⟨.inr rfl,by rw[hlp];exact hB,by rw[hlp];exact upd_same _ _ _,fn,tmps,D,?_,hf.ext e,hok1,hok2,hps,hn1,hn2⟩;rw[hlp,heap_alloc_new,<-hrec];rfl
  .left;have hl1:Z.loops l=some r:=by simpa [ah.mR,upd,hll] using hl
   have:=(h.rb _ _ (h.loop l r hl1).2.2.1).1;exact⟨hl1,RS⟩
 .intro b' hd;exact .inl ⟨hd,pE (lt_of_heap (h.D b' hd))⟩
theorem aoN (hE:qg E)(hS:Sound E S){f:Operand}{ps:Array Tmp}{gq body:Code}{fr fr':Fr}{e:Ex}(h:dX E S (.rangeFunc f ps gq body) fr Z=some (e,fr',Z')):qd E (.rangeFunc f ps gq body) fr Z e fr' Z':=by
 simp only[dX] at h;split at h
 .rename_i hfun;simp only[iR] at h;obtain⟨⟨v,Z3⟩,happ,r,hr,h⟩:=h;split at h
  .simp at h
  .rename_i hst;simp only[iE,aS] at h;obtain⟨he,rfl,rfl⟩:=h;have hfn:∃g a b,fr.ev E f= .fn (.func g) a b:=by
    generalize fr.ev E f=x at hfun;unfold UQ at hfun;split at hfun
    .exact⟨_,_,_,rfl⟩
    .simp at hfun
   have hnext:Z.next+1<=Z3.next:=by
    obtain⟨g,a,b,hg⟩:=hfn;rw[hg] at happ;unfold jI at happ;dsimp only at happ;split at happ
    .exact(hS.call _ _ _ _ _ _ happ).1
    .simp only[iR] at happ;obtain⟨_,_,_,_,happ⟩:=happ;split at happ
     .simp only[iE,aS] at happ;rw[<-happ.2];exact mF _
     .simp at happ
   refine⟨eO (jY _) hnext,fun ro B0 K w a n ds hs hok hnr=>?_⟩;have hro:ro=none/\ds.nm=false:=by
    rcases hnr with h|h
    .exact h
    .simp[j4] at h
   obtain⟨hro,hnm⟩:=hro;subst hro;simp only[iD,aZ,kU,decide_eq_true_eq] at hok;obtain⟨⟨⟨⟨hps,hok1⟩,hok2⟩,hn1⟩,hn2⟩:=hok;refine wpIn_rangeFunc (fun fn _=>?_);have st1:=Step.aoL (new:=newer Z (Z3.uV Z.next)) hs.ok hs.hB;have hB1:=eO hs.hB st1.below.size;have hst:¬K.A Z.next:=fun hA=>Nat.lt_irrefl _ (hs.st _ hA);have hf1:l6 {K with D:=fun b=>K.D b\/b=w.heap.size} Z.top (w.alloc (.deferred (some []))) fr a.tmps:=hs.fr.ext st1.ext;have st2:=Step.aoM (fn:=fn) (D:=w.heap.size) (ps:=ps.toList) (gq:=gq) (body:=body) st1.ok hB1 hst hf1 (by rw[hs.sz];exact hok1) (by rw[hs.sz];exact hok2) (fun p hp=>by rw[hs.sz];exact hps p hp) hn1 hn2;have hsz1:(w.alloc (.deferred (some []))).heap.size=w.heap.size+1:=aB
   generalize hK2:bq.G9 {K with D:=fun b=>K.D b\/b=w.heap.size} Z.next (w.alloc (.deferred (some []))).heap.size=K2 at st2;generalize hw2:(w.alloc (.deferred (some []))).alloc (.loop {state:=.ready,pending:=none,fn:=fn,tmps:=a.tmps,params:=ps.toList.toArray,assign:=gq,body:=body,defers:=w.heap.size})=w2 at st2;have ae9:K2.lp Z.next=w.heap.size+1:=by rw[<-hK2,<-hsz1];exact upd_same _ _ _
   have hA2:K2.A Z.next:=by rw[<-hK2];exact .inr rfl
   have hf2:l6 K2 Z.top w2 fr a.tmps:=hf1.ext st2.ext;have aoO:∀s,K2.A s->s<Z.next+1:=fun s hsA=>by
    rcases st2.A s hsA with h1|h1
    .exact Nat.lt_succ_of_lt (hs.st s h1)
    .omega
   have hB2:=eO hB1 st2.below.size;have hra:RelA K2 Z.top w2 [.fn (.yield Z.next) [] []] #[.func (.yield (w.heap.size+1)) #[] #[]]:=by refine⟨rfl,fun i hi=>?_⟩;have hi0:i=0:=jH;subst hi0;have:=Rel.yield (K:=K2) (T:=Z.top) (w:=w2) Z.next hA2;rw[ae9] at this;exact this
   obtain⟨_,g,first,cap,hcf,hbody,hcall⟩:=aeL hE hS.call st2.ok hB2 aoO hfn happ (Al st2.ok hf2 f) hra;have henter:=run_enterLoop_outer (P:=E.P) (w:=w) fn a.tmps ps gq body;have aoP:(w.alloc (.deferred (some []))).alloc (.loop {state:=.ready,pending:=none,fn:=fn,tmps:=a.tmps,params:=ps,assign:=gq,body:=body,defers:=w.heap.size})=w2:=by rw[<-hw2]
   rw[aoP] at henter;refine⟨w.heap.size+1,[mark w.heap.size],w2,{target:=.fn (.func g) cap,args:=first++ #[.func (.yield (w.heap.size+1)) #[] #[]]},w2,g,first++ #[.func (.yield (w.heap.size+1)) #[] #[]]++cap,w2,henter,?_,fun _ _=>trivial,?_,
    fun hd=>PV,?_⟩
   .unfold resolve;have hargs:(rangeCall f (w.heap.size+1)).args.map a.eval= #[.func (.yield (w.heap.size+1)) #[] #[]]:=(by simp[rangeCall,Act.eval]);rw[hargs];simp only[rangeCall,hcf,Deferred.ofValue,Sem.run_pure]
   .simp only[invoke];exact QA hE hbody _ _
   .have aoQ:CallsIn (oF none) (0-1) E.P g (first++ #[.func (.yield (w.heap.size+1)) #[] #[]]++cap) w2 _:=hcall;refine aoQ.mono ?_;intro en w3 hp;cases en with
    |panicked ch=>exact hp.elim|outgrown=>exact hp.elim|returned cv=>
     obtain⟨wL,r3,QM,hA3,QN⟩:=hp;obtain⟨aAT,hb3,aoR,aoS,aoT,D3,hh3,hf3,_⟩:=QM.loop Z.next r hr;have GV:wL.lp Z.next=w.heap.size+1:=((QN.ext.A Z.next hA2).2.2.1).trans ae9;have hend:=run_endLoop (P:=E.P) hh3 (by
      show tN r.st≠ .busy;unfold tN;split
      .simp
      .simp[hst])
     rw[GV] at hend;have hB3:=eO hB2 QN.below.size;have hput:=bG.QL (Z':=Z3.uV Z.next) (new:=newer Z (Z3.uV Z.next)) (o':=.loop {state:=.exhausted,pending:=r.pend.bind u7,fn:=aoS,tmps:=aoT,params:=r.ps.toArray,assign:=r.gq,body:=r.body,defers:=D3}) QM hB3 hb3 hh3 (fun _ _ _=>aB) (fun _ _=>aB)
      (fun l r1 hl=>by have hll:l≠Z.next:=(by rintro rfl;simp[ah.uV,upd] at hl);have hl1:Z3.loops l=some r1:=(by simpa [ah.uV,upd,hll] using hl);refine⟨hl1,fun e'=>?_⟩;have:=(QM.loop l r1 hl1).2.2.1;rw[e',aoR] at this;cases this;exact hll rfl) rfl rfl wL.D (fun x hx=>⟨hx,tO (QM.D x hx) hh3 aB⟩) (fun _ h=>h)
     have V3:({wL with D:=wL.D}:bq)=wL:=rfl;rw[V3] at hput;obtain⟨afa,QO⟩:=hput;rw[GV] at afa QO;have aoU:(Z3.uV Z.next).next=Z3.next:=rfl;have rD:=Step.trans (new:=newer Z (Z3.uV Z.next)) st1 ((st2.mono (fun s hs'=>by subst hs';exact⟨mF _,by rw[aoU];omega⟩)).trans ((QN.mono (fun s hs'=>by have h1:Z.next+1<=s:=hs'.1;exact⟨RS,hs'.2⟩)).trans afa));have mk:∀w4,bG E B0 (Z3.uV Z.next) wL w4->Step E B0 (newer Z (Z3.uV Z.next)) Z K w (Z3.uV Z.next) wL w4->St E B0 (Z3.uV Z.next) wL w4 fr {a with defers:=[mark w.heap.size]++a.defers} n ds:=by
      intro w4 QO rD;refine⟨QO,eO hs.hB rD.below.size,hs.fr.ext rD.ext,hs.sz,?_,hA3,eO hs.hD rD.below.size⟩;obtain⟨bs,d1,d2,d3,_⟩:=hs.df;refine⟨w.heap.size::bs,by simp[d1],?_,fun b hb=>?_,fun e=>by rw[hnm] at e;cases e⟩
      .refine Af.2 ⟨fun hm=>?_,d2⟩;exact Nat.lt_irrefl _ (lt_of_heap (hs.ok.D _ (d3 _ hm).1))
      .rcases iC.1 hb with rfl|hb
       .exact⟨QN.D _ (st2.D _ (.inr rfl)),hs.hD⟩
       .exact⟨rD.D b (d3 b hb).1,(d3 b hb).2⟩
     have hSt:=mk _ QO rD;refine⟨_,_,hend,?_⟩;cases hp:r.pend with
     |none=>rw[hp] at he hSt rD;simp only[Option.bind_none];subst he;exact⟨trivial,wL,hSt,rD⟩|some e1=>
      rw[hp] at he hSt rD;simp only at he;subst he;cases e1 with
      |normal=>exact⟨trivial,wL,hSt,rD⟩|exit i=>exact wpIn_exit ⟨rfl,wL,hSt,rD⟩|ret=>exact wpIn_ret ⟨trivial,wL,hSt,rD⟩
 .simp at h
end
theorem exists_least {p:Nat->Prop}(h:∃n,p n):∃n,p n/\∀m,p m->n<=m:=by
 obtain⟨n,hn⟩:=h;induction n using Nat.strongRecOn with
 |_ n ih=>
  by_cases hm:∃m,m<n/\p m
  .obtain⟨m,hm1,hm2⟩:=hm;exact ih m hm1 hm2
  .exact⟨n,hn,fun m hm'=>Classical.byContradiction fun hlt=>hm ⟨m,RS,hm'⟩⟩
open Classical in
noncomputable def least (p:Nat->Prop):Nat:=if h:∃n,p n then (exists_least h).choose else 0
theorem afb {p:Nat->Prop}(h:∃n,p n):p (least p)/\∀m,p m->least p<=m:=by unfold least;rw[dif_pos h];exact(exists_least h).choose_spec
theorem aoV {F:Fence}{rm:Nat}{P:Program}{Q:Exit->Act->World->Prop}{a:Act}{w:World}{c:Code}(I:Nat->Act->World->Prop)(n₀:Nat)(h₀:I n₀ a w)(round:∀n a w,I n a w->c.wpIn F rm P (Exit.then (fun a' w'=>∃n',n'<n/\I n' a' w') Q) a w):(Code.loop c).wpIn F rm P Q a w:=by
 refine wpIn_loop (fun a w=>∃n,I n a w) (fun a w=>least (fun n=>I n a w)) ⟨n₀,h₀⟩ ?_;intro a w hI;refine wpIn_mono (round _ a w (afb hI).1) ?_;intro e a' w' hq;cases e with
 |normal=>obtain⟨n',hlt,hI'⟩:=hq;exact show (∃n,I n a' w')/\least (fun n=>I n a' w')<least (fun n=>I n a w) from ⟨⟨n',hI'⟩,Nat.lt_of_le_of_lt ((afb ⟨n',hI'⟩).2 n' hI') hlt⟩
 |exit id=>exact hq|goto l=>exact hq|ret=>exact hq|panic ch=>exact hq|outgrown=>exact hq
section
variable {E:Env}
def afc (E:Env)(code:Code->Fr->ah->Option (Ex×Fr×ah))(c:Code):Prop:=∀fr Z e fr' Z',code c fr Z=some (e,fr',Z')->qd E c fr Z e fr' Z'
theorem aoW (hE:qg E)(n:Nat)(hS:∀m,m<=n->Sound E (bH E m)):∀c,afc E (dX E (bH E n)) c:=by
 intro c;induction c with
 |skip=>intro fr Z e fr' Z' h;simp only[dX,iE,aS] at h;obtain⟨rfl,rfl,rfl⟩:=h;exact anf
 |region id ops dr=>intro fr Z e fr' Z' h;exact aoI hE (hS n (mF _)) h|seq x y LG ihy=>
  intro fr Z e fr' Z' h;simp only[dX,iR] at h;obtain⟨⟨e1,bJ,Z1⟩,h1,h⟩:=h;cases e1 with
  |normal=>exact ank (LG _ _ _ _ _ h1) (ihy _ _ _ _ _ h)|exit i=>simp only[iE,aS] at h;obtain⟨rfl,rfl,rfl⟩:=h;exact aey aB (LG _ _ _ _ _ h1)
  |ret=>simp only[iE,aS] at h;obtain⟨rfl,rfl,rfl⟩:=h;exact aey aB (LG _ _ _ _ _ h1)
 |cond c x y LG ihy=>
  intro fr Z e fr' Z' h;simp only[dX,iR] at h;obtain⟨t,ht,h⟩:=h;refine anl ht ?_;cases t
  .exact ihy _ _ _ _ _ yP
  .exact LG _ _ _ _ _ yP
 |block id c ih=>
  intro fr Z e fr' Z' h;simp only[dX,aW] at h;obtain⟨⟨e1,bJ,Z1⟩,h1,h⟩:=h;have:=anm (id:=id) (ih _ _ _ _ _ h1);cases e1 with
  |normal=>simp only[aS] at h;obtain⟨rfl,rfl,rfl⟩:=h;exact this
  |ret=>simp only[aS] at h;obtain⟨rfl,rfl,rfl⟩:=h;exact this
  |exit i=>
   simp only[Vw] at this;simp only at h;split at h
   .rename_i hi;simp only[aS] at h;obtain⟨rfl,rfl,rfl⟩:=h
    rwa[if_pos hi] at this
   .rename_i hi;simp only[aS] at h;obtain⟨rfl,rfl,rfl⟩:=h
    rwa[if_neg hi] at this
 |loop c ih=>
  intro fr Z e fr' Z' h;have hm:(bH E (n+1)).code (.loop c) fr Z=some (e,fr',Z'):=h;have hbody:∀k,k<=n->afc E (dX E (bH E k)) c:=by
   intro k hk;by_cases hkn:k=n
   .subst hkn;exact ih
   .intro fr Z e fr' Z' hc;exact(hS (k+1) RS).code c fr Z e fr' Z' hc
  have hnext:∀(k:Nat)(fr:Fr)(Z:ah),k<=n+1->(bH E k).code (.loop c) fr Z=some (e,fr',Z')->Z.next<=Z'.next:=by
   intro k;induction k with
   |zero=>intro fr Z _ hh;cases hh|succ k ihk=>
    intro fr Z hk hh;have hh':dX E (bH E k) (.loop c) fr Z=some (e,fr',Z'):=hh;simp only[dX,iR] at hh';obtain⟨⟨e1,bJ,Z1⟩,h1,h2⟩:=hh';have hb:=(hbody k RS _ _ _ _ _ h1).1;cases e1 with
    |normal=>exact eO hb (ihk bJ Z1 RS h2)|exit i=>simp only[iE,aS] at h2;obtain⟨_,_,rfl⟩:=h2;exact hb
    |ret=>simp only[iE,aS] at h2;obtain⟨_,_,rfl⟩:=h2;exact hb
  refine⟨hnext (n+1) fr Z (mF _) hm,fun ro B0 K w a sz ds hs hok hnr=>?_⟩;refine aoV (fun m a1 w1=>m<=n+1/\∃bJ Z1 K1,(bH E m).code (.loop c) bJ Z1=some (e,fr',Z')/\St E B0 Z1 K1 w1 bJ a1 sz ds/\Step E B0 (newer Z Z1) Z K w Z1 K1 w1/\Z.next<=Z1.next) (n+1)
   ⟨mF _,fr,Z,K,hm,hs,.refl hs.ok,mF _⟩ ?_
  rintro m a1 w1 ⟨hmn,bJ,Z1,K1,hcode,hs1,st1,hle1⟩;cases m with
  |zero=>cases hcode|succ k=>
   have hh':dX E (bH E k) (.loop c) bJ Z1=some (e,fr',Z'):=hcode;simp only[dX,iR] at hh';obtain⟨⟨e2,iW,Z2⟩,h1,h2⟩:=hh';obtain⟨hle2,hwp⟩:=hbody k RS _ _ _ _ _ h1;refine wpIn_mono (hwp ro B0 K1 w1 a1 sz ds hs1 hok hnr) ?_;rintro x a2 w2 ⟨hx,K2,hs2,st2⟩;cases e2 with
   |normal=>
    cases x<;>simp only[mY] at hx;exact⟨k,Eh k,RS,iW,Z2,K2,h2,hs2,st1.widen st2 hle1 hle2,eO hle1 hle2⟩
   |exit i=>simp only[iE,aS] at h2;obtain⟨rfl,rfl,rfl⟩:=h2;cases x<;>simp only[mY] at hx;exact⟨hx,K2,hs2,st1.widen st2 hle1 hle2⟩
   |ret=>simp only[iE,aS] at h2;obtain⟨rfl,rfl,rfl⟩:=h2;cases x<;>simp only[mY] at hx;exact⟨trivial,K2,hs2,st1.widen st2 hle1 hle2⟩
 |rangeFunc f ps x y=>intro fr Z e fr' Z' h;exact aoN hE (hS n (mF _)) h|exit id=>intro fr Z e fr' Z' h;simp only[dX,iE,aS] at h;obtain⟨rfl,rfl,rfl⟩:=h;exact ang id
 |scope c ih=>intro fr Z e fr' Z' h;simp only[dX] at h;exact anj (ih _ _ _ _ _ h)|label l=>intro fr Z e fr' Z' h;simp only[dX,iE,aS] at h;obtain⟨rfl,rfl,rfl⟩:=h;exact ani l
 |goto l=>intro fr Z e fr' Z' h;simp[dX] at h|ret=>intro fr Z e fr' Z' h;simp only[dX,iE,aS] at h;obtain⟨rfl,rfl,rfl⟩:=h;exact anh
 |refuse why=>intro fr Z e fr' Z' h;simp[dX] at h
variable {B0:Nat}{Z:ah}{K:bq}{w:World}{fr:Fr}
def LH (tmps:Array Value):ResultVar->Sem Value
 |.tmp t=>pure (tmps.getD t undef)|.cell a t=>do loadVar t (<-asAddr (tmps.getD a undef))
theorem aoX (h:bG E B0 Z K w){tmps:Array Value}(hf:l6 K Z.top w fr tmps){r:ResultVar}{v:V}(hv:jo E fr Z r=some v):
 ∃c,(LH tmps r).run E.P w= .ok c w/\Rel K Z.top w v c:=by
 cases r with
 |tmp t=>simp only[jo,iE] at hv;subst hv;exact⟨_,rfl,hf t⟩|cell a t=>
  simp only[jo] at hv;have ha:=hf a;cases hx:fr.tm a with
  |ref loc s off=>
   rw[hx] at hv ha;simp only at hv;obtain⟨c,h1,h2⟩:=Vg h (t:=t) ha (v:=v) hv;simp only[LH];generalize tmps.getD a undef=ca at h1 ha;cases ha with
   |ref _ _ _ hA=>refine⟨c,?_,h2⟩;simpa [Instr.loadAt,Instr.sureAddr,asAddr] using h1
  |_=>rw[hx] at hv;simp at hv
theorem afd (h:bG E B0 Z K w){tmps:Array Value}(hf:l6 K Z.top w fr tmps):∀(rs:List ResultVar)(vs:List V),rs.mapM (jo E fr Z)=some vs->
 ∃cs:List Value,(rs.mapM (LH tmps)).run E.P w= .ok cs w/\vs.length=cs.length/\
  ∀i,i<vs.length->Rel K Z.top w (vs.getD i aJ) (cs.getD i undef):=by
 intro rs;induction rs with
 |nil=>intro vs hv;simp at hv;subst hv;exact⟨[],aB,rfl,fun i hi=>absurd hi (fZ i)⟩
 |cons r rs ih=>
  intro vs hv;simp only[iG,Option.pure_def,Option.bind_eq_bind,iR,iE] at hv;obtain⟨v,h1,vs',h2,rfl⟩:=hv;obtain⟨c,g1,g2⟩:=aoX h hf h1;obtain⟨cs,k1,k2,k3⟩:=ih vs' h2;refine⟨c::cs,?_,by simp[k2],fun i hi=>?_⟩
  .simp only[iG,Sem.run_bind,g1,Result.andThen_ok,k1,Sem.run_pure]
  .cases i with
   |zero=>exact g2|succ i=>exact k3 i jH
theorem aoY {fn:Func}{tmps:Array Value}{R:Ending->World->Prop}{B1:Nat}(hB1:B0<=B1)(Cc:Nat->Prop):∀(bs:List Nat)(K:bq)(w:World),bG E B0 Z K w->B0<=w.heap.size->bs.Nodup->(∀b∈bs,K.D b/\B1<=b)->(∀b,Cc b->K.D b)->(∀b,Cc b->b<B1)->(∀w1,Step E B0 (fun _=>False) Z {K with D:=Cc} w Z {K with D:=Cc} w1->LeavesIn Fence.wide 0 E.P fn tmps R [] .returning w1)->LeavesInM Fence.wide 0 E.P fn tmps R (bs.map mark) .returning w:=by
 intro bs;induction bs with
 |nil=>intro K w h _ _ _ hk _ hl;refine hl w (.refl (h.QK Cc (fun b hb=>h.D b (hk b hb))))
 |cons b bs ih=>
  intro K w h hB hnd hbs hk hlt hl;obtain⟨hb,LJ⟩:=hbs b aB;have hheap:=h.D b hb;have hput:=bG.QL (Z':=Z) (new:=fun _=>False) (o':=.deferred none) h hB (eO hB1 LJ) hheap (fun _ _ _=>aB) (fun _ _=>aB)
   (fun l r hl=>by obtain⟨_,_,_,_,_,_,hh,_⟩:=h.loop l r hl;exact⟨hl,tO hh hheap aB⟩) rfl rfl
  have ok1:bG E B0 Z {K with D:=fun x=>K.D x/\x≠b} (w.putObj b (.deferred none)):=by
   have ho:=VE w b (.deferred none);have h0:bG E B0 Z {K with D:=fun _=>False} w:=h.QK _ (fun b hb=>hb.elim);have hp:=(bG.QL (Z':=Z) (new:=fun _=>False) (o':=.deferred none) h0 hB (eO hB1 LJ) hheap (fun _ _ _=>aB) (fun _ _=>aB)
    (fun l r hl=>by obtain⟨_,_,_,_,_,_,hh,_⟩:=h.loop l r hl;exact⟨hl,tO hh hheap aB⟩) rfl rfl (fun _=>False) (fun x hx=>hx.elim) (fun _ h=>h)).2
   exact hp.QK (fun x=>K.D x/\x≠b) (fun x hx=>by rw[World.putObj_heap_other hx.2];exact h.D x hx.1)
  refine⟨aB,.inl ⟨b,w.putObj b (.deferred none),rfl,run_takeDeferred hheap,?_⟩⟩;refine ih {K with D:=fun x=>K.D x/\x≠b} (w.putObj b (.deferred none)) ok1 (by simpa using hB) (Af.1 hnd).2
   (fun x hx=>⟨⟨(hbs x (by simp[hx])).1,fun e=>(Af.1 hnd).1 (e▸hx)⟩,(hbs x (by simp[hx])).2⟩) (fun x hx=>⟨hk x hx,fun e=>by have:=hlt x hx;omega⟩) hlt (fun w1 st=>hl w1 ?_)
  have V3:bG E B0 Z {K with D:=Cc} w:=h.QK Cc (fun b hb=>h.D b (hk b hb));have st0:=(bG.QL (Z':=Z) (new:=fun _=>False) (o':=.deferred none) V3 hB (eO hB1 LJ) hheap (fun _ _ _=>aB) (fun _ _=>aB)
   (fun l r hl=>by obtain⟨_,_,_,_,_,_,hh,_⟩:=h.loop l r hl;exact⟨hl,tO hh hheap aB⟩) rfl rfl Cc (fun x hx=>⟨hx,fun e=>by have h1:x<B1:=hlt x hx;omega⟩) (fun _ h=>h)).1
  exact st0.trans st
theorem aoZ (n:Nat)(hS:GN E (bH E n).code):Ey E (qF E (bH E n)):=by
 intro f args d Z v Z' h;simp only[qF,iR] at h;obtain⟨fn,hfn,c,hc,h⟩:=h;split at h
 .rename_i hok;simp only[iR] at h;obtain⟨⟨e,bJ,Z1⟩,hcode,h⟩:=h;have hne:e= .normal\/e= .ret:=by
   cases e with
   |normal=>exact .inl rfl|ret=>exact .inr rfl|exit i=>simp at h
  have h':(fn.results.toList.mapM (jo E bJ Z1)).map (fun vs=>(match vs with| [v]=>v|vs=>.bK vs,Z1))=some (v,Z'):=by rcases hne with rfl|rfl<;>exact h
  simp only[aW,aS] at h';obtain⟨vs,hvs,hv,rfl⟩:=h';obtain⟨hle,hwp⟩:=hS _ _ _ _ _ _ hcode;refine⟨hle,⟨fn,c,hfn,hc⟩,fun ro B0 K w dU hs hB hA hr=>?_⟩;have hsz:dU.size=args.length:=hr.1.symm;have hst:St E B0 Z K w {d:=d,aj:=E.aj f,tm:=fun i=>args.getD i aJ} {tmps:=dU++Array.replicate (fn.ntmps-dU.size) undef,defers:=[]} fn.ntmps ⟨[],w.heap.size,false⟩:=by
   refine⟨hs,hB,fun t=>?_,dP,⟨[],rfl,List.nodup_nil,(fun b hb=>by cases hb),fun _=>rfl⟩,hA,mF _⟩;show Rel K Z.top w (args.getD t aJ) _;by_cases ht:t<args.length
   .have e1:(dU++Array.replicate (fn.ntmps-dU.size) undef).getD t undef=dU.getD t undef:=(by simp only[yR];rw[Array.getElem?_append_left RS]);rw[e1];exact hr.2 t ht
   .have e1:(dU++Array.replicate (fn.ntmps-dU.size) undef).getD t undef=undef:=(by simp only[yR];rw[Array.getElem?_append_right RS,Array.getElem?_replicate];split<;>rfl);have e2:args.getD t aJ=aJ:=(by simp[List.getD,List.getElem?_eq_none (Nat.le_of_not_lt ht)]);rw[e1,e2];exact .undef _ _ _
  have hwp':=hwp none B0 K w _ fn.ntmps ⟨[],w.heap.size,false⟩ hst hok.2 (.inl ⟨rfl,rfl⟩);have V4:CallsIn Fence.wide 0 E.P f dU w (wJ E B0 Z K w v Z1):=by
   refine callsIn_of_wp_marks hfn hc trivial (wpIn_mono hwp' ?_);rintro x a' w' ⟨hx,K',hs',st'⟩;have hleave:LeavesInM Fence.wide 0 E.P fn a'.tmps (wJ E B0 Z K w v Z1) a'.defers .returning w':=by
    obtain⟨bs,d1,d2,d3,_⟩:=hs'.df;rw[d1,iV];refine aoY (B1:=w.heap.size) hB K.D bs K' w' hs'.ok hs'.hB d2 d3 st'.D (fun b hb=>lt_of_heap (hs.D b hb)) (fun w1 QS=>?_);have He:=QS.ok;have hf2:l6 {K' with D:=K.D} Z1.top w1 bJ a'.tmps:=(by have e1:Ext K' Z1.top w' {K' with D:=K.D} Z1.top w1:=(VZ K' Z1.top w' K.D).trans QS.ext;exact hs'.fr.ext e1);obtain⟨cs,k1,k2,k3⟩:=afd He hf2 fn.results.toList vs hvs;have hrun:(results fn a'.tmps).run E.P w1= .ok (if h:cs.toArray.size=1 then cs.toArray[0] else .tuple cs.toArray) w1:=(by have hres:results fn a'.tmps=(do let vs<-fn.results.mapM (LH a'.tmps);pure (if h:vs.size=1 then vs[0] else .tuple vs)):=rfl;rw[hres,Array.mapM_eq_mapM_toList];simp only[Sem.run_bind,Sem.run_map,k1,Result.andThen_ok,Sem.run_pure]);have Qy:Step E B0 (newer Z Z1) Z K w Z1 {K' with D:=K.D} w1:=
     ⟨He,st'.ext.trans ((VZ K' Z1.top w' K.D).trans QS.ext),st'.below.trans QS.below,fun _ h=>h,st'.A,st'.y8,st'.y9⟩
    refine⟨_,hrun,{K' with D:=K.D},?_,He,hs'.st,Qy⟩;rw[<-hv];cases vs with
    |nil=>have:cs=[]:=P5;subst this;exact .bK [] #[] rfl (fun i hi=>absurd hi (fZ i))
    |cons v1 vs=>
     cases cs with
     |nil=>simp at k2|cons c1 cs=>
      cases vs with
      |nil=>have:cs=[]:=P5;subst this;have:=k3 0 aB;simpa using this|cons v2 vs=>have hsz2:¬((c1::cs).toArray.size=1):=(by simp only[List.length_cons,Nat.add_right_cancel_iff] at k2;rw[List.size_toArray,List.length_cons];omega);rw[dif_neg hsz2];refine .bK _ _ (by simpa using k2) (fun i hi=>?_);have:=k3 i hi;simpa [yR,List.getD] using this
   rcases hne with rfl|rfl<;>cases x<;>simp only[mY] at hx<;>exact hleave
  exact V4
 .simp at h
theorem QT (hE:qg E):∀n,Sound E (bH E n):=by
 have all:∀n m,m<=n->Sound E (bH E m):=by
  intro n;induction n with
  |zero=>
   intro m hm;obtain rfl:m=0:=RS
   exact⟨(fun _ _ _ _ _ _ h=>bU),(fun _ _ _ _ _ _ h=>bU)⟩
  |succ n ih=>
   intro m hm;by_cases hmn:m<=n
   .exact ih m hmn
   .obtain rfl:m=n+1:=RS;exact⟨fun c fr Z e fr' Z' h=>aoW hE n ih c fr Z e fr' Z' h,aoZ n (ih n (mF _)).code⟩
 exact fun n=>all n n (mF _)
theorem ao0 (hE:qg E){n:Nat}{f:FuncId}{args:List V}{v:V}(h:lZ E (bH E n) f args=some v):tX E f args v:=aeB hE (QT hE n).call h
end
end aR
end
section
namespace aR
open Go
section
variable {E:Env}
def jw (S T:iN):Prop:=(∀c fr Z r,S.code c fr Z=some r->T.code c fr Z=some r)/\∀f args d Z r,S.call f args d Z=some r->T.call f args d Z=some r
variable {S T:iN}
theorem Ce (h:jw S T){f:FuncId}{args:List V}{v:V}(hc:lZ E S f args=some v):lZ E T f args=some v:=by
 unfold lZ at hc⊢;cases hg:E.mV f with
 |some g=>simp only[hg] at hc⊢;exact hc|none=>simp only[hg,iR] at hc⊢;obtain⟨x,h1,h2⟩:=hc;exact⟨x,h.2 _ _ _ _ _ h1,h2⟩
theorem V5 (h:jw S T){l:Nat}{args:List V}{Z:ah}{r:V×ah}(hc:xQ S l args Z=some r):xQ T l args Z=some r:=by
 unfold xQ at hc⊢;simp only[iR] at hc⊢;obtain⟨r0,hl,hc⟩:=hc;refine⟨r0,hl,?_⟩;split at hc
 .rename_i hst;rw[if_pos hst];simp only[iR] at hc⊢;obtain⟨⟨e1,bJ,Z1⟩,Lj,hc⟩:=hc;refine⟨(e1,bJ,Z1),h.1 _ _ _ _ Lj,?_⟩;cases e1 with
  |normal=>
   simp only[iR] at hc⊢;obtain⟨r1,hl1,hc⟩:=hc;refine⟨r1,hl1,?_⟩;split at hc
   .rename_i GU;rw[if_pos GU];simp only[iR] at hc⊢;obtain⟨x,hb,y,hy,hc⟩:=hc;exact⟨x,h.1 _ _ _ _ hb,y,hy,hc⟩
   .simp at hc
  |exit i=>simp at hc|ret=>simp at hc
 .simp at hc
theorem afe (h:jw S T){d:Nat}{Z:ah}{fv:V}{args:List V}{r:V×ah}(hc:jI E S d Z fv args=some r):jI E T d Z fv args=some r:=by
 unfold jI at hc⊢;split at hc
 .split at hc
  .rename_i hi;simp only[hi,if_true];exact h.2 _ _ _ _ _ hc
  .rename_i hi;simp only[iR] at hc;obtain⟨cB,h1,v,h2,h3⟩:=hc;simp only[hi,h1,Option.bind_some,Ce h h2];exact h3
 .exact V5 h hc
 .simp at hc
theorem aff (h:jw S T){Z:ah}{st:Nat}{fv:V}{args:List V}{r:V×ah}(hc:qE E S Z st fv args=some r):qE E T Z st fv args=some r:=by
 unfold qE at hc⊢;split at hc
 .split at hc
  .rename_i hi;simp only[iR] at hc;obtain⟨cB,h1,v,h2,h3⟩:=hc;simp only[hi,if_true,h1,Option.bind_some,h.2 _ _ _ _ _ h2];exact h3
  .cases hc
 .cases hc
theorem V6 (h:jw S T){fr:Fr}{Z:ah}{st:Nat}{o:Oper}{r:V×Fr×ah}(hc:opC E S fr Z st o=some r):opC E T fr Z st o=some r:=by
 unfold opC at hc⊢;split at hc
 .rename_i c ho;simp only[ho] at hc⊢;split at hc
  .exact hc
  .rename_i f hf;split at hc
   .rename_i eP;simp only[eP,if_true];simp only[aW] at hc⊢;obtain⟨x,h1,h2⟩:=hc;exact⟨x,aff h h1,h2⟩
   rename_i eP;simp only[eP,if_false,bZ];simp only[aW] at hc⊢;obtain⟨x,h1,h2⟩:=hc;exact⟨x,afe h h1,h2⟩
  .simp at hc
 .simp at hc
 .exact hc
theorem LK (h:jw S T)(all:List Oper):∀(os:List Oper)(st:Nat)(fr:Fr)(Z:ah)(r:Fr×ah),opsE E S all st os fr Z=some r->opsE E T all st os fr Z=some r:=by
 intro os;induction os with
 |nil=>intro st fr Z r hc;exact hc|cons o os ih=>
  intro st fr Z r hc;simp only[opsE,iR] at hc⊢;obtain⟨t,h1,h2⟩:=hc;refine⟨t,h1,?_⟩;cases t with
  |true=>simp only[if_true,iR] at h2⊢;obtain⟨x,h3,h4⟩:=h2;exact⟨x,V6 h h3,ih _ _ _ _ h4⟩
  |false=>simp only[bZ,if_false] at h2⊢;exact ih _ _ _ _ h2
theorem QU (h:jw S T)(all:List Oper):∀(os:List Oper)(st:Nat)(fr:Fr)(Z:ah)(r:List dJ×Fr×ah),l5 E S all st os fr Z=some r->l5 E T all st os fr Z=some r:=by
 intro os;induction os with
 |nil=>intro st fr Z r hc;exact hc|cons o os ih=>
  intro st fr Z r hc;simp only[l5,iR] at hc⊢;obtain⟨t,h1,h2⟩:=hc;refine⟨t,h1,?_⟩;cases t with
  |true=>simp only[if_true,iR,aW] at h2⊢;obtain⟨x,h3,y,h4,h5⟩:=h2;exact⟨x,V6 h h3,y,ih _ _ _ _ h4,h5⟩
  |false=>simp only[bZ,if_false,aW] at h2⊢;obtain⟨y,h4,h5⟩:=h2;exact⟨y,ih _ _ _ _ h4,h5⟩
theorem LM (h:jw S T){ops:List Oper}{base i:Nat}{fr:Fr}{Z:ah}{r:Fr×ah}(hc:jc E S ops base i fr Z=some r):jc E T ops base i fr Z=some r:=by
 unfold jc at hc⊢;split at hc
 .exact hc
 .simp only[iR] at hc⊢;obtain⟨t,h1,h2⟩:=hc;refine⟨t,h1,?_⟩;cases t with
  |true=>simp only[if_true,aW] at h2⊢;obtain⟨x,h3,h4⟩:=h2;exact⟨x,V6 h h3,h4⟩
  |false=>simpa using h2
theorem ao1 (h:jw S T){ms:List Nat}{ops:List Oper}{base:Nat}{x y:Fr×ah}(hf:Free E S ms ops base x y):Free E T ms ops base x y:=by obtain⟨s,T',W,h0,hn,Ez,hloc,hr⟩:=hf;refine⟨s,T',W,h0,hn,Ez,fun i hi x hx=>?_,hr⟩;obtain⟨y,h1,h2⟩:=hloc i hi x hx;exact⟨y,LM h h1,h2⟩
theorem zf (h:jw S T):∀(c:Code)(fr:Fr)(Z:ah)(r:Ex×Fr×ah),dX E S c fr Z=some r->dX E T c fr Z=some r:=by
 intro c;induction c with
 |region id ops dr=>
  intro fr Z r hc;simp only[dX] at hc⊢;split at hc
  .rename_i hd;simp only[hd,if_true,iR] at hc⊢;obtain⟨x,h1,h2⟩:=hc;refine⟨x,QU h _ _ _ _ _ _ h1,?_⟩;split at h2
   .rename_i hp;rw[if_pos hp];exact h2
   .rename_i hp;rw[if_neg hp];unfold KZ at h2⊢;split at h2
    .rename_i hf;rw[if_pos ⟨hf.1,ao1 h hf.2⟩];exact h2
    .cases h2
  .rename_i hd;simp only[hd,bZ,if_false,aW] at hc⊢;obtain⟨x,h1,h2⟩:=hc;exact⟨x,LK h _ _ _ _ _ _ h1,h2⟩
 |seq a b iha ihb=>
  intro fr Z r hc;simp only[dX,iR] at hc⊢;obtain⟨⟨e,bJ,Z1⟩,h1,h2⟩:=hc;refine⟨(e,bJ,Z1),iha _ _ _ h1,?_⟩;cases e with
  |normal=>exact ihb _ _ _ h2|exit i=>exact h2|ret=>exact h2
 |cond c a b iha ihb=>
  intro fr Z r hc;simp only[dX,iR] at hc⊢;obtain⟨t,h1,h2⟩:=hc;refine⟨t,h1,?_⟩;cases t with
  |true=>simp only[if_true] at h2⊢;exact iha _ _ _ h2|false=>simp only[bZ,if_false] at h2⊢;exact ihb _ _ _ h2
 |block id c ih=>intro fr Z r hc;simp only[dX,aW] at hc⊢;obtain⟨x,h1,h2⟩:=hc;exact⟨x,ih _ _ _ h1,h2⟩
 |loop c ih=>
  intro fr Z r hc;simp only[dX,iR] at hc⊢;obtain⟨⟨e,bJ,Z1⟩,h1,h2⟩:=hc;refine⟨(e,bJ,Z1),ih _ _ _ h1,?_⟩;cases e with
  |normal=>exact h.1 _ _ _ _ h2|exit i=>exact h2|ret=>exact h2
 |rangeFunc f ps a b iha ihb=>
  intro fr Z r hc;simp only[dX] at hc⊢;split at hc
  .rename_i hf;rw[if_pos hf];simp only[iR] at hc⊢;obtain⟨x,h1,h2⟩:=hc;exact⟨x,afe h h1,h2⟩
  .simp at hc
 |scope c ih=>intro fr Z r hc;simp only[dX] at hc⊢;exact ih _ _ _ hc|_=>intro fr Z r hc;simpa [dX] using hc
theorem afg (h:jw S T){f:FuncId}{args:List V}{d:Nat}{Z:ah}{r:V×ah}(hc:qF E S f args d Z=some r):qF E T f args d Z=some r:=by
 simp only[qF,iR] at hc⊢;obtain⟨fn,h1,c,h2,h3⟩:=hc;refine⟨fn,h1,c,h2,?_⟩;split at h3
 .rename_i hok;rw[if_pos hok];simp only[iR] at h3⊢;obtain⟨x,h4,h5⟩:=h3;exact⟨x,h.1 _ _ _ _ h4,h5⟩
 .simp at h3
theorem ao2:∀n,jw (bH E n) (bH E (n+1)):=by
 intro n;induction n with
 |zero=>exact⟨(fun _ _ _ _ h=>bU),(fun _ _ _ _ _ h=>bU)⟩
 |succ n ih=>exact⟨fun c fr Z r h=>zf ih c fr Z r h,fun f args d Z r h=>afg ih h⟩
theorem jw.refl (S:iN):jw S S:=⟨fun _ _ _ _ h=>h,fun _ _ _ _ _ h=>h⟩
theorem jw.trans {S T U:iN}(h:jw S T)(g:jw T U):jw S U:=⟨fun _ _ _ _ x=>g.1 _ _ _ _ (h.1 _ _ _ _ x),fun _ _ _ _ _ x=>g.2 _ _ _ _ _ (h.2 _ _ _ _ _ x)⟩
theorem jk {n m:Nat}(h:n<=m):jw (bH E n) (bH E m):=by
 induction m with
 |zero=>obtain rfl:n=0:=RS
        exact .refl _
 |succ m ih=>
  by_cases e:n=m+1
  .subst e;exact .refl _
  .exact(ih RS).trans (ao2 m)
end
section
variable (E:Env)
def av (all:List Oper)(st:Nat)(os:List Oper)(fr:Fr)(Z:ah)(Q:Fr->ah->Prop):Prop:=
 ∃n fr' Z',opsE E (bH E n) all st os fr Z=some (fr',Z')/\Q fr' Z'
def dn (ms:List Nat)(all:List Oper)(st:Nat)(os:List Oper)(fr:Fr)(Z:ah)(fs:List dJ)(Q:Fr->ah->Prop):Prop:=
 ∃n fs' fr' Z',l5 E (bH E n) all st os fr Z=some (fs',fr',Z')/\Ak ms (fs++fs')=true/\Q fr' Z'
def aD (c:Code)(fr:Fr)(Z:ah)(Q:Ex->Fr->ah->Prop):Prop:=
 ∃n e fr' Z',dX E (bH E n) c fr Z=some (e,fr',Z')/\Q e fr' Z'
def Pure (f:FuncId)(args:List V)(v:V):Prop:=∃n,lZ E (bH E n) f args=some v
def jd (f:FuncId)(args:List V)(d:Nat)(Z:ah)(Q:V->ah->Prop):Prop:=∃n v Z',(bH E n).call f args d Z=some (v,Z')/\Q v Z'
end
section
variable {E:Env}{fr:Fr}{Z:ah}
theorem Pure.ok (hE:qg E){f:FuncId}{args:List V}{v:V}(h:Pure E f args v):tX E f args v:=h.elim fun _ h=>ao0 hE h
theorem av.mono {all:List Oper}{st:Nat}{os:List Oper}{Q Q':Fr->ah->Prop}(h:av E all st os fr Z Q)(hq:∀fr Z,Q fr Z->Q' fr Z):av E all st os fr Z Q':=
 let ⟨n,fr',Z',h1,h2⟩:=h;⟨n,fr',Z',h1,hq _ _ h2⟩
theorem aD.mono {c:Code}{Q Q':Ex->Fr->ah->Prop}(h:aD E c fr Z Q)(hq:∀e fr Z,Q e fr Z->Q' e fr Z):aD E c fr Z Q':=
 let ⟨n,e,fr',Z',h1,h2⟩:=h;⟨n,e,fr',Z',h1,hq _ _ _ h2⟩
theorem av.nil {all:List Oper}{st:Nat}{Q:Fr->ah->Prop}(h:Q fr Z):av E all st [] fr Z Q:=⟨0,fr,Z,rfl,h⟩
theorem av.op {all:List Oper}{st:Nat}{o:Oper}{os:List Oper}{v:V}{Z1:ah}{Q:Fr->ah->Prop}(hw:fD all fr o=some true)(hop:∀S,opC E S fr Z st o=some (v,fr,Z1))(h:av E all (st+1) os (fr.put o.dst v) Z1 Q):av E all st (o::os) fr Z Q:=by
 obtain⟨n,fr',Z',h1,h2⟩:=h;exact⟨n,fr',Z',by simp only[opsE,hw,Option.bind_some,if_true,hop,h1],h2⟩
theorem av.skip {all:List Oper}{st:Nat}{o:Oper}{os:List Oper}{Q:Fr->ah->Prop}(hw:fD all fr o=some false)(h:av E all (st+1) os (fr.put o.dst aJ) Z Q):av E all st (o::os) fr Z Q:=by obtain⟨n,fr',Z',h1,h2⟩:=h;exact⟨n,fr',Z',by simp only[opsE,hw,Option.bind_some,bZ,if_false,h1],h2⟩
theorem V7 {d:Nat}{g:FuncId}{a b args cB:List V}{v:V}{n:Nat}(hi:E.imp g=false)(has:(a++args++b).mapM (bg 20 Z)=some cB)(hp:lZ E (bH E n) g cB=some v)(hc:((a++args++b).all (fun x=>aQ (er x))||flat v)=true):jI E (bH E n) d Z (.fn (.func g) a b) args=some (v,Z):=by
 unfold jI;simp only[hi,bZ,if_false,has,Option.bind_some,hp,hc,if_true]
theorem zh {o:Oper}{f:Operand}{g:FuncId}{a b:List V}(hf:fr.ev E f= .fn (.func g) a b)(h:∀d,o.dst=some d->E.own g d=false):kX E fr o f=false:=by
 unfold kX;rw[hf];cases hd:o.dst with
 |none=>rfl|some d=>exact h d hd
def oI (E:Env)(f:FuncId)(cB:List V)(sz:Nat)(l:List V):Prop:=∃n v Z1,(bH E n).call f cB 1 ah.init=some (v,Z1)/\∀st Z,(∃c,(c= .nil\/c= .full)/\q9 Z st Z1 v=some (.ak c l,Z))\/q9 Z st Z1 v=some (.ak (.own sz st) l,Z.dY st l.length)
theorem oI.of {f:FuncId}{cB:List V}{sz:Nat}{l:List V}{n:Nat}{c:Cap}{Z1:ah}(h:(bH E n).call f cB 1 ah.init=some (.ak c l,Z1))(hp:bQ l=true)(hc:c= .nil\/c= .full\/∃s,c= .own sz s/\Z1.top s=l.length):oI E f cB sz l:=by
 refine⟨n,_,Z1,h,fun st Z=>?_⟩;rcases hc with rfl|rfl| ⟨s,rfl,ht⟩
 .exact .inl ⟨.nil,.inl rfl,by unfold q9;dsimp only;rw[if_pos hp]⟩
 .exact .inl ⟨.full,.inr rfl,by unfold q9;dsimp only;rw[if_pos hp]⟩
 .exact .inr (by unfold q9;dsimp only;rw[if_pos hp,if_pos ht])
theorem av.own {all:List Oper}{st:Nat}{o:Oper}{os:List Oper}{Q:Fr->ah->Prop}{c:Call}{f:Operand}{g:FuncId}{a b cB l:List V}{d sz:Nat}(hw:fD all fr o=some true)(ho:o.op= .call c)(fO:c.callee= .value f)(hf:fr.ev E f= .fn (.func g) a b)(hd:o.dst=some d)(hown:E.own g d=true)(has:u6 (E.y5 g) Z (a++c.args.toList.map (fr.ev E)++b)=some cB)(hp:oI E g cB sz l)(hc:(a++c.args.toList.map (fr.ev E)++b).all (fun x=>aQ (er x))=true)(h1:∀c,c= .nil\/c= .full->av E all (st+1) os (fr.put o.dst (.ak c l)) Z Q)(h2:av E all (st+1) os (fr.put o.dst (.ak (.own sz st) l)) (Z.dY st l.length) Q):av E all st (o::os) fr Z Q:=by
 obtain⟨m,v0,Z1,hm,hcp⟩:=hp;have eP:kX E fr o f=true:=by unfold kX;rw[hf,hd];exact hown
 have go:∀(v:V)(Z2:ah),q9 Z st Z1 v0=some (v,Z2)->av E all (st+1) os (fr.put o.dst v) Z2 Q->av E all st (o::os) fr Z Q:=by
  rintro v Z2 hr ⟨n,fr',Z',g1,g2⟩;have hm':=(jk (pY n m)).2 _ _ _ _ _ hm;have g1':=LK (jk (qY n m)) _ _ _ _ _ _ g1;refine⟨max n m,fr',Z',?_,g2⟩;have hov:qE E (bH E (max n m)) Z st (.fn (.func g) a b) (c.args.toList.map (fr.ev E))=some (v,Z2):=by unfold qE;dsimp only;rw[if_pos hc,has,Option.bind_some,hm',Option.bind_some];exact hr
  simp only[opsE,hw,Option.bind_some,if_true,opC,ho,fO,eP];rw[hf,hov];simp only[Option.map_some,Option.bind_some,g1']
 rcases hcp st Z with ⟨c,hc,hr⟩|hr
 .exact go _ _ hr (h1 c hc)
 .exact go _ _ hr h2
theorem av.call {all:List Oper}{st:Nat}{o:Oper}{os:List Oper}{v:V}{Q:Fr->ah->Prop}{c:Call}{f:Operand}{g:FuncId}{a b cB:List V}(hw:fD all fr o=some true)(ho:o.op= .call c)(fO:c.callee= .value f)(hf:fr.ev E f= .fn (.func g) a b)(hi:E.imp g=false)(has:(a++c.args.toList.map (fr.ev E)++b).mapM (bg 20 Z)=some cB)(hp:Pure E g cB v)(hc:((a++c.args.toList.map (fr.ev E)++b).all (fun x=>aQ (er x))||flat v)=true)(h:av E all (st+1) os (fr.put o.dst v) Z Q)(eP:∀d,o.dst=some d->E.own g d=false:=by intros;rfl):av E all st (o::os) fr Z Q:=by
 obtain⟨n,fr',Z',h1,h2⟩:=h;obtain⟨m,hm⟩:=hp;have hm':=Ce (jk (pY n m)) hm;have h1':=LK (jk (qY n m)) _ _ _ _ _ _ h1;refine⟨max n m,fr',Z',?_,h2⟩;simp only[opsE,hw,Option.bind_some,if_true,opC,ho,fO,zh hf eP,bZ,if_false,hf,V7 hi has hm' hc,Option.map_some,h1']
theorem av.Aq {all:List Oper}{st:Nat}{o:Oper}{os:List Oper}{Q:Fr->ah->Prop}{c:Call}{f:Operand}{g:FuncId}{a b:List V}(hw:fD all fr o=some true)(ho:o.op= .call c)(fO:c.callee= .value f)(hf:fr.ev E f= .fn (.func g) a b)(hi:E.imp g=true)(hp:jd E g (a++c.args.toList.map (fr.ev E)++b) (fr.d+1) Z (fun v Z1=>av E all (st+1) os (fr.put o.dst v) Z1 Q))(eP:∀d,o.dst=some d->E.own g d=false:=by intros;rfl):av E all st (o::os) fr Z Q:=by
 obtain⟨m,v,Z1,hm,n,fr',Z',h1,h2⟩:=hp;have hm':=(jk (pY n m)).2 _ _ _ _ _ hm;have h1':=LK (jk (qY n m)) _ _ _ _ _ _ h1;refine⟨max n m,fr',Z',?_,h2⟩;have:jI E (bH E (max n m)) fr.d Z (.fn (.func g) a b) (c.args.toList.map (fr.ev E))=some (v,Z1):=by unfold jI;simp only[hi,if_true];exact hm'
 simp only[opsE,hw,Option.bind_some,if_true,opC,ho,fO,zh hf eP,bZ,if_false,hf,this,Option.map_some,h1']
theorem dn.nil {ms:List Nat}{all:List Oper}{st:Nat}{fs:List dJ}{Q:Fr->ah->Prop}(hp:Ak ms fs=true)(h:Q fr Z):dn E ms all st [] fr Z fs Q:=⟨0,[],fr,Z,rfl,by simpa using hp,h⟩
theorem dn.op {ms:List Nat}{all:List Oper}{st:Nat}{o:Oper}{os:List Oper}{v:V}{Z1:ah}{fs:List dJ}{Q:Fr->ah->Prop}(hw:fD all fr o=some true)(hop:∀S,opC E S fr Z st o=some (v,fr,Z1))(h:dn E ms all (st+1) os (fr.put o.dst v) Z1 (fs++[dW E all fr o true]) Q):dn E ms all st (o::os) fr Z fs Q:=by
 obtain⟨n,fs',fr',Z',h1,h2,h3⟩:=h;exact⟨n,dW E all fr o true::fs',fr',Z',by simp only[l5,hw,Option.bind_some,if_true,hop,h1,Option.map_some],rV,h3⟩
theorem dn.skip {ms:List Nat}{all:List Oper}{st:Nat}{o:Oper}{os:List Oper}{fs:List dJ}{Q:Fr->ah->Prop}(hw:fD all fr o=some false)(h:dn E ms all (st+1) os (fr.put o.dst aJ) Z (fs++[dW E all fr o false]) Q):dn E ms all st (o::os) fr Z fs Q:=by
 obtain⟨n,fs',fr',Z',h1,h2,h3⟩:=h;exact⟨n,dW E all fr o false::fs',fr',Z',by simp only[l5,hw,Option.bind_some,bZ,if_false,h1,Option.map_some],rV,h3⟩
theorem dn.call {ms:List Nat}{all:List Oper}{st:Nat}{o:Oper}{os:List Oper}{v:V}{fs:List dJ}{Q:Fr->ah->Prop}{c:Call}{f:Operand}{g:FuncId}{a b cB:List V}(hw:fD all fr o=some true)(ho:o.op= .call c)(fO:c.callee= .value f)(hf:fr.ev E f= .fn (.func g) a b)(hi:E.imp g=false)(has:(a++c.args.toList.map (fr.ev E)++b).mapM (bg 20 Z)=some cB)(hp:Pure E g cB v)(hc:((a++c.args.toList.map (fr.ev E)++b).all (fun x=>aQ (er x))||flat v)=true)(h:dn E ms all (st+1) os (fr.put o.dst v) Z (fs++[dW E all fr o true]) Q)(eP:∀d,o.dst=some d->E.own g d=false:=by intros;rfl):dn E ms all st (o::os) fr Z fs Q:=by
 obtain⟨n,fs',fr',Z',h1,h2,h3⟩:=h;obtain⟨m,hm⟩:=hp;have hm':=Ce (jk (pY n m)) hm;have h1':=QU (jk (qY n m)) _ _ _ _ _ _ h1;refine⟨max n m,dW E all fr o true::fs',fr',Z',?_,rV,h3⟩;simp only[l5,hw,Option.bind_some,if_true,opC,ho,fO,zh hf eP,bZ,if_false,hf,V7 hi has hm' hc,Option.map_some,h1']
theorem dn.own {ms:List Nat}{all:List Oper}{st:Nat}{o:Oper}{os:List Oper}{fs:List dJ}{Q:Fr->ah->Prop}{c:Call}{f:Operand}{g:FuncId}{a b cB l:List V}{d sz:Nat}(hw:fD all fr o=some true)(ho:o.op= .call c)(fO:c.callee= .value f)(hf:fr.ev E f= .fn (.func g) a b)(hd:o.dst=some d)(hown:E.own g d=true)(has:u6 (E.y5 g) Z (a++c.args.toList.map (fr.ev E)++b)=some cB)(hp:oI E g cB sz l)(hc:(a++c.args.toList.map (fr.ev E)++b).all (fun x=>aQ (er x))=true)(h1:∀c,c= .nil\/c= .full->dn E ms all (st+1) os (fr.put o.dst (.ak c l)) Z (fs++[dW E all fr o true]) Q)(h2:dn E ms all (st+1) os (fr.put o.dst (.ak (.own sz st) l)) (Z.dY st l.length) (fs++[dW E all fr o true]) Q):dn E ms all st (o::os) fr Z fs Q:=by
 obtain⟨m,v0,Z1,hm,hcp⟩:=hp;have eP:kX E fr o f=true:=by unfold kX;rw[hf,hd];exact hown
 have go:∀(v:V)(Z2:ah),q9 Z st Z1 v0=some (v,Z2)->dn E ms all (st+1) os (fr.put o.dst v) Z2 (fs++[dW E all fr o true]) Q->dn E ms all st (o::os) fr Z fs Q:=by
  rintro v Z2 hr ⟨n,fs',fr',Z',g1,g2,g3⟩;have hm':=(jk (pY n m)).2 _ _ _ _ _ hm;have g1':=QU (jk (qY n m)) _ _ _ _ _ _ g1;refine⟨max n m,dW E all fr o true::fs',fr',Z',?_,by simpa using g2,g3⟩;have hov:qE E (bH E (max n m)) Z st (.fn (.func g) a b) (c.args.toList.map (fr.ev E))=some (v,Z2):=by unfold qE;dsimp only;rw[if_pos hc,has,Option.bind_some,hm',Option.bind_some];exact hr
  simp only[l5,hw,Option.bind_some,if_true,opC,ho,fO,eP];rw[hf,hov];simp only[Option.map_some,Option.bind_some,g1']
 rcases hcp st Z with ⟨c,hc,hr⟩|hr
 .exact go _ _ hr (h1 c hc)
 .exact go _ _ hr h2
theorem dn.Aq {ms:List Nat}{all:List Oper}{st:Nat}{o:Oper}{os:List Oper}{fs:List dJ}{Q:Fr->ah->Prop}{c:Call}{f:Operand}{g:FuncId}{a b:List V}(hw:fD all fr o=some true)(ho:o.op= .call c)(fO:c.callee= .value f)(hf:fr.ev E f= .fn (.func g) a b)(hi:E.imp g=true)(hp:jd E g (a++c.args.toList.map (fr.ev E)++b) (fr.d+1) Z (fun v Z1=>dn E ms all (st+1) os (fr.put o.dst v) Z1 (fs++[dW E all fr o true]) Q))(eP:∀d,o.dst=some d->E.own g d=false:=by intros;rfl):dn E ms all st (o::os) fr Z fs Q:=by
 obtain⟨m,v,Z1,hm,n,fs',fr',Z',h1,h2,h3⟩:=hp;have hm':=(jk (pY n m)).2 _ _ _ _ _ hm;have h1':=QU (jk (qY n m)) _ _ _ _ _ _ h1;refine⟨max n m,dW E all fr o true::fs',fr',Z',?_,rV,h3⟩;have:jI E (bH E (max n m)) fr.d Z (.fn (.func g) a b) (c.args.toList.map (fr.ev E))=some (v,Z1):=by unfold jI;simp only[hi,if_true];exact hm'
 simp only[l5,hw,Option.bind_some,if_true,opC,ho,fO,zh hf eP,bZ,if_false,hf,this,Option.map_some,h1']
end
def ah.bump (Z:ah)(k:Nat):ah:={Z with next:=Z.next+k}
section
variable {E:Env}{fr:Fr}{Z:ah}
theorem aD.region {id:Nat}{ops:Array Oper}{Q:Ex->Fr->ah->Prop}(h:av E ops.toList Z.next ops.toList fr (Z.bump ops.toList.length) (fun fr Z=>Q .normal fr Z)):aD E (.region id ops false) fr Z Q:=by obtain⟨n,fr',Z',h1,h2⟩:=h;exact⟨n,.normal,fr',Z',by simp only[dX,bZ,if_false];rw[show opsE E (bH E n) ops.toList Z.next ops.toList fr {Z with next:=Z.next+ops.toList.length}=some (fr',Z') from h1];rfl,h2⟩
theorem aD.draw {id:Nat}{ops:Array Oper}{Q:Ex->Fr->ah->Prop}(he:qc ops.toList=true)(h:dn E (nK ops.toList) ops.toList Z.next ops.toList fr (Z.bump ops.toList.length) [] (fun fr Z=>Q .normal fr Z)):aD E (.region id ops true) fr Z Q:=by
 obtain⟨n,fs,fr',Z',h1,h2,h3⟩:=h;refine⟨n,.normal,fr',Z',?_,h3⟩;simp only[dX,if_true];rw[show l5 E (bH E n) ops.toList Z.next ops.toList fr {Z with next:=Z.next+ops.toList.length}=some (fs,fr',Z') from h1];simp only[Option.bind_some,he,Bool.true_and];rw[if_pos rV]
def dG (E:Env)(b:Code)(Q:Ex->Fr->ah->Prop)(e:Ex)(fr:Fr)(Z:ah):Prop:=match e with
 |.normal=>aD E b fr Z Q|e=>Q e fr Z
theorem aD.seq {a b:Code}{Q:Ex->Fr->ah->Prop}(h:aD E a fr Z (dG E b Q)):aD E (.seq a b) fr Z Q:=by
 obtain⟨n,e,bJ,Z1,h1,h2⟩:=h;cases e with
 |normal=>obtain⟨m,e,fr',Z',h3,h4⟩:=h2;refine⟨max n m,e,fr',Z',?_,h4⟩;simp only[dX,zf (jk (qY n m)) _ _ _ _ h1,Option.bind_some,zf (jk (pY n m)) _ _ _ _ h3]
 |exit i=>exact⟨n,.exit i,bJ,Z1,PO,h2⟩|ret=>exact⟨n,.ret,bJ,Z1,PO,h2⟩
theorem aD.skip {Q:Ex->Fr->ah->Prop}(h:Q .normal fr Z):aD E .skip fr Z Q:=⟨0,.normal,fr,Z,rfl,h⟩
theorem aD.ret {Q:Ex->Fr->ah->Prop}(h:Q .ret fr Z):aD E .ret fr Z Q:=⟨0,.ret,fr,Z,rfl,h⟩
theorem aD.exit {i:Nat}{Q:Ex->Fr->ah->Prop}(h:Q (.exit i) fr Z):aD E (.exit i) fr Z Q:=⟨0,.exit i,fr,Z,rfl,h⟩
theorem aD.cond {c:Operand}{a b:Code}{t:Bool}{Q:Ex->Fr->ah->Prop}(hc:fr.ev E c= .bool t)(ht:t=true->aD E a fr Z Q)(hf:t=false->aD E b fr Z Q):aD E (.cond c a b) fr Z Q:=by
 cases t with
 |true=>obtain⟨n,e,fr',Z',h1,h2⟩:=ht rfl;exact⟨n,e,fr',Z',by simp only[dX,hc,xO,Option.bind_some,if_true,h1],h2⟩
 |false=>obtain⟨n,e,fr',Z',h1,h2⟩:=hf rfl;exact⟨n,e,fr',Z',by simp only[dX,hc,xO,Option.bind_some,bZ,if_false,h1],h2⟩
def V8 (id:Nat)(Q:Ex->Fr->ah->Prop)(e:Ex)(fr:Fr)(Z:ah):Prop:=match e with
 |.exit i=>if i=id then Q .normal fr Z else Q (.exit i) fr Z|e=>Q e fr Z
theorem aD.block {id:Nat}{c:Code}{Q:Ex->Fr->ah->Prop}(h:aD E c fr Z (V8 id Q)):aD E (.block id c) fr Z Q:=by
 obtain⟨n,e,fr',Z',h1,h2⟩:=h;cases e with
 |normal=>exact⟨n,.normal,fr',Z',by simp only[dX,h1,Option.map_some],h2⟩|ret=>exact⟨n,.ret,fr',Z',by simp only[dX,h1,Option.map_some],h2⟩|exit i=>
  simp only[V8] at h2;split at h2
  .rename_i hi;exact⟨n,.normal,fr',Z',by simp only[dX,h1,Option.map_some,if_pos hi],h2⟩
  .rename_i hi;exact⟨n,.exit i,fr',Z',by simp only[dX,h1,Option.map_some,if_neg hi],h2⟩
theorem aD.scope {c:Code}{Q:Ex->Fr->ah->Prop}(h:aD E c fr Z Q):aD E (.scope c) fr Z Q:=by obtain⟨n,e,fr',Z',h1,h2⟩:=h;exact⟨n,e,fr',Z',by simp only[dX,h1],h2⟩
theorem aD.label {l:Nat}{Q:Ex->Fr->ah->Prop}(h:Q .normal fr Z):aD E (.label l) fr Z Q:=⟨0,.normal,fr,Z,by simp only[dX],h⟩
def ao3 (E:Env)(c:Code)(Q:Ex->Fr->ah->Prop)(e:Ex)(fr:Fr)(Z:ah):Prop:=match e with
 |.normal=>aD E (.loop c) fr Z Q|e=>Q e fr Z
theorem aD.loop {c:Code}{Q:Ex->Fr->ah->Prop}(h:aD E c fr Z (ao3 E c Q)):aD E (.loop c) fr Z Q:=by
 obtain⟨n,e,bJ,Z1,h1,h2⟩:=h;cases e with
 |normal=>obtain⟨m,e,fr',Z',h3,h4⟩:=h2;refine⟨max n m+1,e,fr',Z',?_,h4⟩;simp only[dX,zf (jk (show n<=max n m+1 by omega)) _ _ _ _ h1,Option.bind_some];exact zf (jk (pY n m)) _ _ _ _ h3
 |exit i=>exact⟨n,.exit i,bJ,Z1,PO,h2⟩|ret=>exact⟨n,.ret,bJ,Z1,PO,h2⟩
def pJ (E:Env)(rs:List ResultVar)(R:V->ah->Prop)(e:Ex)(fr:Fr)(Z:ah):Prop:=match e with
 |.exit _=>False|_=>∃vs,rs.mapM (jo E fr Z)=some vs/\R (match vs with| [v]=>v|vs=>.bK vs) Z
theorem jd.of {f:FuncId}{args:List V}{d:Nat}{fn:Func}{c:Code}{R:V->ah->Prop}(hf:E.P.funcs[f]? =some fn)(hb:fn.body=some c)(hok:(decide (args.length<=fn.ntmps)&& iD fn.ntmps c)=true)(h:aD E c {d:=d,aj:=E.aj f,tm:=fun i=>args.getD i aJ} Z (pJ E fn.results.toList R)):jd E f args d Z R:=by
 obtain⟨n,e,fr',Z',h1,h2⟩:=h;have hok':args.length<=fn.ntmps/\iD fn.ntmps c=true:=by simpa using hok
 have key:∀vs,fn.results.toList.mapM (jo E fr' Z')=some vs->(e= .normal\/e= .ret)->(bH E (n+2)).call f args d Z=some ((match vs with| [v]=>v|vs=>.bK vs),Z'):=by intro vs hvs he;show qF E (bH E (n+1)) f args d Z=_;have h3:(bH E (n+1)).code c {d:=d,aj:=E.aj f,tm:=fun i=>args.getD i aJ} Z=some (e,fr',Z'):=h1;simp only[qF,hf,hb,Option.bind_some,if_pos hok',h3];rcases he with rfl|rfl<;>simp only[hvs,Option.map_some]<;>rcases vs with _| ⟨x,_| ⟨y,l⟩⟩<;>rfl
 cases e with
 |normal=>obtain⟨vs,h3,h4⟩:=h2;exact⟨n+2,_,Z',key vs h3 (.inl rfl),h4⟩
 |ret=>obtain⟨vs,h3,h4⟩:=h2;exact⟨n+2,_,Z',key vs h3 (.inr rfl),h4⟩
 |exit i=>exact h2.elim
theorem Pure.of {f:FuncId}{args:List V}{v:V}{fn:Func}{c:Code}(hs:E.mV f=none)(hf:E.P.funcs[f]? =some fn)(hb:fn.body=some c)(hok:(decide (args.length<=fn.ntmps)&& iD fn.ntmps c)=true)(h:aD E c {d:=1,aj:=E.aj f,tm:=fun i=>args.getD i aJ} ah.init (pJ E fn.results.toList (fun v0 Z=>bg 20 Z v0=some v))):Pure E f args v:=by
 obtain⟨n,v0,Z',h1,h2⟩:=jd.of hf hb hok h;exact⟨n,by simp only[lZ,hs,h1,Option.bind_some,h2]⟩
theorem Cg (fr:Fr)(d:Nat)(v:V):fr.put (some d) v=fr.set d v:=rfl
theorem QV (fr:Fr)(v:V):fr.put none v=fr:=rfl
theorem afh (fr:Fr)(d:Nat)(v:V):(fr.set d v).tm d=v:=by simp[Fr.set,upd]
theorem LP (fr:Fr){d t:Nat}(v:V)(h:(t==d)=false):(fr.set d v).tm t=fr.tm t:=by
 have h':¬t=d:=yP
 simp[Fr.set,upd,h']
theorem EB (fr:Fr)(d:Nat)(v:V):(fr.set d v).d=fr.d:=rfl
theorem ao4 (fr:Fr)(d:Nat)(v:V):(fr.set d v).aj=fr.aj:=rfl
theorem Hf (fr:Fr)(t:Nat):fr.ev E (.tmp t)=fr.tm t:=rfl
theorem afi (fr:Fr)(v:Value):fr.ev E (.const v)=(ofValue v).getD (.raw v):=rfl
theorem afj (fr:Fr)(f:FuncId):fr.ev E (.func f)= .fn (.func f) [] []:=rfl
theorem ao5 (Z:ah)(k:Nat):(Z.bump k).next=Z.next+k:=rfl
theorem ao6 (Z:ah)(l:aR.Loc)(s:Nat)(o:jZ):(Z.setObj l s o).next=Z.next:=rfl
theorem ao7 (Z:ah)(s n:Nat):(Z.dY s n).next=Z.next:=rfl
theorem LQ (Z:ah)(s n:Nat):(Z.dY s n).top s=n:=by simp[ah.dY,upd]
theorem QW (Z:ah){s t:Nat}(n:Nat)(h:t≠s):(Z.dY s n).top t=Z.top t:=by simp[ah.dY,upd,h]
theorem ao8 (Z:ah)(k:Nat):(Z.bump k).top=Z.top:=rfl
theorem ao9 (Z:ah)(l:aR.Loc)(s:Nat)(o:jZ):(Z.setObj l s o).top=Z.top:=rfl
theorem afk {l l':aR.Loc}(h:ru l l'=false):¬l=l':=by rintro rfl;simp[ru] at h
theorem V9 (a b c d:Nat):ru (a,b) (c,d)=(b==d&& a==c):=rfl
theorem su (Z:ah)(l:aR.Loc)(s:Nat)(cs:List V):(Z.setObj l s (.cells cs)).dK l s=some cs:=by simp[ah.setObj,ah.dK,upd]
theorem EC (Z:ah){l l':aR.Loc}(s s':Nat)(o:jZ)(h:ru l l'=false):(Z.setObj l' s' o).dK l s=Z.dK l s:=by have h':=afk h;simp[ah.setObj,ah.dK,upd,h']
theorem LU (Z:ah)(k:Nat)(l:aR.Loc)(s:Nat):(Z.bump k).dK l s=Z.dK l s:=rfl
theorem apa (Z:ah)(t n:Nat)(l:aR.Loc)(s:Nat):(Z.dY t n).dK l s=Z.dK l s:=rfl
theorem map_eq (Z:ah)(l:aR.Loc)(s:Nat)(ks vs:List V):(Z.setObj l s (.map ks vs)).jh l s=some (ks,vs):=by simp[ah.setObj,ah.jh,upd]
theorem afl (Z:ah){l l':aR.Loc}(s s':Nat)(o:jZ)(h:ru l l'=false):(Z.setObj l' s' o).jh l s=Z.jh l s:=by have h':=afk h;simp[ah.setObj,ah.jh,upd,h']
theorem apb (Z:ah)(k:Nat)(l:aR.Loc)(s:Nat):(Z.bump k).jh l s=Z.jh l s:=rfl
theorem apc (Z:ah)(t n:Nat)(l:aR.Loc)(s:Nat):(Z.dY t n).jh l s=Z.jh l s:=rfl
theorem rE {a b c d:Nat}(h:b≠d):((a,b):aR.Loc)≠(c,d):=fun e=>h (by cases e;rfl)
end
end aR
end
