/- Part of the proof of a law. -/
import Derived.Test.YtdcnajadcbedkaaGreatDoorS803
set_option linter.all false
set_option linter.unusedSimpArgs false
set_option linter.unusedSectionVars false
section
namespace Aq
open Go Go.RowKit
section
variable {E:Env} {S:iK} {K K':aN} {T T':Nat→Nat} {w w':World} {σ σ':ah} {B0:Nat}
theorem Nc {n:Nat} {x y:V} (hp:aF x=true) (h:aM n σ x=some y):y=x:=by
 cases n with
 |zero=>simp[aM] at h
 |succ n=>
  unfold aM at h
  simp only[hp,if_true,Option.some.injEq] at h
  exact h.symm
theorem U0 {f:V→Option V} {l r:List V} (h:l.mapM f=some r) (g:V→V) (hf:∀i (hi:i<l.length) y,f l[i]=some y→y=g l[i]):r=l.map g:=by
 obtain⟨h1,h2⟩:=mapM_some h
 refine List.ext_getElem (by simp[h1]) (fun i hi hi'=> ?_)
 obtain⟨h3,h4⟩:=h2 i (by omega)
 simp only[List.getElem_map]
 exact hf i (by omega) _ h4
theorem BQ {l:List V} (h:aR l=true) {i:Nat} (hi:i<l.length):aF l[i]=true:=by
 have:=ou h i hi
 rwa[iq hi] at this
theorem U1 {n:Nat} {c:Cap} {l:List V} {y:V} (hp:aR l=true) (h:aM n σ (.aj c l)=some y):y= .aj .sh l:=by
 cases n with
 |zero=>simp[aM] at h
 |succ n=>
  unfold aM at h
  split at h
  ·rename_i hc
   simp only[Option.some.injEq] at h
   subst h
   cases c<;>simp only[aF,Bool.false_eq_true] at hc
   rfl
  ·simp only[Option.map_eq_some_iff] at h
   obtain⟨r,hr,rfl⟩:=h
   have:=U0 hr id (fun i hi y hy=>Nc (BQ hp hi) hy)
   rw[this,List.map_id]
theorem adb {x:V} (hp:aF x=true):eO x=x:=by
 cases x with
 |aj c l=>cases c<;>simp only[aF,Bool.false_eq_true] at hp;rfl
 |_=>rfl
theorem ade {n:Nat} {x y:V} (hp:aF (eO x)=true) (h:aM n σ x=some y):y=eO x:=by
 cases x with
 |aj c l=>exact U1 (by simpa [eO,aF] using hp) h
 |_=>exact Nc hp h
theorem U2 {n:Nat} {x y:V} (hp:aF (er x)=true) (h:aM n σ x=some y):y=er x:=by
 cases x with
 |aj c l=>exact U1 (by simpa [er,aF] using hp) h
 |agg cs=>
  have hp':aR (cs.map eO)=true:=by simpa [er,aF] using hp
  have hpi:∀i (hi:i<cs.length),aF (eO cs[i])=true:=fun i hi=>by
   have:=BQ hp' (i:=i) (by simpa using hi)
   simpa using this
  cases n with
  |zero=>simp[aM] at h
  |succ n=>
   unfold aM at h
   split at h
   ·rename_i hc
    simp only[Option.some.injEq] at h
    subst h
    have hc':aR cs=true:=by simpa [aF] using hc
    show V.agg cs=V.agg (cs.map eO)
    congr 1
    refine List.ext_getElem (by simp) (fun i hi hi'=> ?_)
    simp only[List.getElem_map]
    exact(adb (BQ hc' hi)).symm
   ·simp only[Option.map_eq_some_iff] at h
    obtain⟨r,hr,rfl⟩:=h
    show V.agg r=V.agg (cs.map eO)
    rw[U0 hr eO (fun i hi y hy=>ade (hpi i hi) hy)]
 |_=>exact Nc hp h
theorem GL {a b:List V} {ca cb:Array Value} (h:RelA K T w a ca) (g:RelA K T w b cb):RelA K T w (a++b) (ca++cb):=by
 obtain⟨h1,h2⟩:=h
 obtain⟨g1,g2⟩:=g
 refine⟨by simp[h1,g1],fun i hi=> ?_⟩
 have hi':i<a.length+b.length:=by simpa using hi
 by_cases hlt:i<a.length
 ·have e1:(a++b).getD i aC=a.getD i aC:=by simp[List.getD,List.getElem?_append_left hlt]
  have e2:(ca++cb).getD i undef=ca.getD i undef:=by
   simp only[Array.getD_eq_getD_getElem?]
   rw[Array.getElem?_append_left (by omega)]
  rw[e1,e2];exact h2 i hlt
 ·have e1:(a++b).getD i aC=b.getD (i-a.length) aC:=by simp[List.getD,List.getElem?_append_right (Nat.le_of_not_lt hlt)]
  have e2:(ca++cb).getD i undef=cb.getD (i-a.length) undef:=by
   simp only[Array.getD_eq_getD_getElem?]
   rw[Array.getElem?_append_right (by omega),←h1]
  rw[e1,e2];exact g2 _ (by omega)
theorem U3 {l r:List V} {cl:Array Value} {n:Nat} {K2:aN} {T2:Nat→Nat} (h:RelA K T w l cl) (hm:l.mapM (aM n σ)=some r)
 (hx:∀x y c,x∈l→Rel K T w x c→aM n σ x=some y→Rel K2 T2 w y c):RelA K2 T2 w r cl:=by
 obtain⟨h1,h2⟩:=h
 obtain⟨m1,m2⟩:=mapM_some hm
 refine⟨by omega,fun i hi=> ?_⟩
 obtain⟨h3,h4⟩:=m2 i (by omega)
 have:=h2 i (by omega)
 rw[iq (show i<l.length by omega)] at this
 rw[iq h3]
 exact hx _ _ _ (List.getElem_mem _) this h4
theorem adf {b:Bool} {l r:List V} (h:su b σ l=some r):l.length=r.length∧∀i (hi:i<l.length),∃(h':i<r.length),(l[i]= .aj .nil []∧r[i]= .aj .nil [])∨aM 20 σ l[i]=some r[i]:=by
 unfold su at h
 split at h
 ·split at h
  ·rename_i l
   obtain⟨l',hm,rfl⟩:=Option.map_eq_some_iff.1 h
   obtain⟨m1,m2⟩:=mapM_some hm
   refine⟨by simp[m1],fun i hi=> ?_⟩
   cases i with
   |zero=>exact⟨by simp,.inl ⟨rfl,rfl⟩⟩
   |succ i=>
    obtain⟨h1,h2⟩:=m2 i (by simpa using hi)
    exact⟨by simpa using h1,.inr (by simpa using h2)⟩
  ·cases h
 ·obtain⟨m1,m2⟩:=mapM_some h
  exact⟨m1,fun i hi=>by obtain⟨h1,h2⟩:=m2 i hi;exact⟨h1,.inr h2⟩⟩
theorem adg {b:Bool} {l r:List V} {cl:Array Value} {K2:aN} {T2:Nat→Nat} (h:RelA K T w l cl) (hm:su b σ l=some r)
 (hx:∀x y c,x∈l→Rel K T w x c→(x= .aj .nil []∧y= .aj .nil [])∨aM 20 σ x=some y→Rel K2 T2 w y c):RelA K2 T2 w r cl:=by
 obtain⟨h1,h2⟩:=h
 obtain⟨m1,m2⟩:=adf hm
 refine⟨by omega,fun i hi=> ?_⟩
 obtain⟨h3,h4⟩:=m2 i (by omega)
 have:=h2 i (by omega)
 rw[iq (show i<l.length by omega)] at this
 rw[iq h3]
 exact hx _ _ _ (List.getElem_mem _) this h4
theorem U4 (hE:kQ E) (h:aS E B0 σ K w):GA E K.I K.IM w:=
 ⟨fun b o hi=>(h.I b o hi).1,fun b hi=>(h.IM b hi).1,fun g cs hg=>(h.glob g cs hg).pure (by simpa [aF] using hE.flat g cs hg) (fun _ _ h=>⟨h,rfl⟩) (fun _ h=>⟨h,rfl⟩)⟩
theorem adh (hE:kQ E) (h:aS E B0 σ K w):GA E (fun b o=> ∃v,w.cell? (at_ b o)=some v) (fun b=> ∃es bE,w.heap[b]? =some (.map es bE)) w:=
 ⟨fun _ _ hi=>hi,fun _ hi=>hi,fun g cs hg=>(h.glob g cs hg).pure (by simpa [aF] using hE.flat g cs hg) (fun b o hi=>⟨(h.I b o hi).1,rfl⟩) (fun b hi=>⟨(h.IM b hi).1,rfl⟩)⟩
theorem U5 (hE:kQ E) (hS:BO E S.call) (h:aS E B0 σ K w) (hB:B0≤w.heap.size) (hA:∀s,K.A s→s<σ.next) {d:Nat} {fv:V} {cf:Value} {args:List V} {cu:Array Value} {v:V}
 (hfn:∃f a b,fv= .fn (.func f) a b) (hv:gH E S d σ fv args=some (v,σ')) (rf:Rel K σ.top w fv cf) (ra:RelA K σ.top w args cu):
 σ.next≤σ'.next∧∃f first cap,cf= .func (.func f) first cap∧uJ E f∧CallsIn Fence.wide 0 E.P f (first++cu++cap) w (uI E B0 σ K w v σ'):=by
 obtain⟨f,a,b,rfl⟩:=hfn
 unfold gH at hv
 ·dsimp only at hv
  cases rf with
  |fn _ _ _ av bv ha hb Nf Ng=>
  have BR:RelA K σ.top w (a++args++b) (av++cu++bv):=GL (GL ⟨ha,Nf⟩ ra) ⟨hb,Ng⟩
  split at hv
  ·obtain⟨h1,h2,h3⟩:=hS _ _ _ _ _ _ hv
   exact⟨h1,f,av,bv,rfl,h2,h3 none B0 K w _ h hB hA BR⟩
  ·simp only[Option.bind_eq_some_iff] at hv
   obtain⟨as,has,r,hr,hv⟩:=hv
   split at hv
   ·rename_i hcl
    simp only[Option.some.injEq,Prod.mk.injEq] at hv
    obtain⟨rfl,rfl⟩:=hv
    obtain⟨p1,p2⟩:=UR hE hS hr
    refine⟨Nat.le_refl _,f,av,bv,rfl,p1, ?_⟩
    simp only[Bool.or_eq_true,List.all_eq_true] at hcl
    rcases hcl with hcl|hcl
    ·have BS:RelA (aN.lend K.I K.IM) (fun _=>0) w as (av++cu++bv):=by
      refine U3 BR has (fun x y c hx jU hxy=> ?_)
      have hp:=hcl x hx
      rw[U2 hp hxy]
      exact(Uh jU).pure hp (fun _ _ h=>⟨h,rfl⟩) (fun _ h=>⟨h,rfl⟩)
     refine(p2 _ _ w _ (U4 hE h) BS).mono ?_
     intro e w' hp
     cases e with
     |returned c=>
      obtain⟨hb',hr'⟩:=hp
      have st:=Step.grow (new:=newer σ σ) h hB hb'
      exact⟨_,hr'.GD (fun _ _ h=>⟨h,rfl⟩) (fun _ h=>⟨h,rfl⟩),st.ok,hA,st⟩
     |panicked ch=>exact hp.elim
     |outgrown=>exact hp.elim
    ·have BS:RelA (aN.lend (fun b o=> ∃v,w.cell? (at_ b o)=some v) (fun b=> ∃es bE,w.heap[b]? =some (.map es bE))) (fun _=>0) w as (av++cu++bv):=by
      refine U3 BR has (fun x y c hx jU hxy=> ?_)
      exact(UL (T':=fun _=>0) h 20 x y c jU hxy).GD (fun _ _ h=>⟨h.2,rfl⟩) (fun _ h=>⟨h.2,rfl⟩)
     refine(p2 _ _ w _ (adh hE h) BS).mono ?_
     intro e w' hp
     cases e with
     |returned c=>
      obtain⟨hb',hr'⟩:=hp
      have st:=Step.grow (new:=newer σ σ) h hB hb'
      exact⟨_,hr'.flat hcl,st.ok,hA,st⟩
     |panicked ch=>exact hp.elim
     |outgrown=>exact hp.elim
   ·simp at hv
theorem adi (h:aS E B0 σ K w) (hB:B0≤w.heap.size) {st:Nat} (hst:¬K.A st) {σ1:ah} {K1:aN} {v0 v:V} {c:Value} (hv:o8 σ st σ1 v0=some (v,σ')) (r1:Rel K1 σ1.top w' v0 c) (s1:aS E w.heap.size σ1 K1 w') (hb:Below w.heap.size w w')
 (hI:∀b o,K1.I b o→K.I b o∨w.heap.size≤b) (Mi:∀b,K1.IM b→K.IM b∨w.heap.size≤b):∃K',Rel K' σ'.top w' v c∧Step E B0 (· =st) σ K w σ' K' w':=by
 have GN:∀b o,K1.I b o→Aq.grow K.I w.heap.size w' b o:=fun b o hi=>⟨hI b o hi,(s1.I b o hi).1⟩
 have U6:∀b,K1.IM b→qA K.IM w.heap.size w' b:=fun b hi=>⟨Mi b hi,(s1.IM b hi).1⟩
 unfold o8 at hv
 split at hv
 ·rename_i cp l
  split at hv
  ·rename_i hp
   cases cp with
   |nil=>
    cases hv
    refine⟨_, ?_,Step.grow h hB hb⟩
    cases r1 with
    |dF _ a ha hc=>exact .dF .nil a ha trivial
    |aj _ _ b o n cap val hle hn hcell hrel hc=>exact hc.elim
   |full=>
    cases hv
    refine⟨_, ?_,Step.grow h hB hb⟩
    cases r1 with
    |dF _ a ha hc=>exact .dF .full a (fun h=>by cases h) trivial
    |aj _ _ b o n cap val hle hn hcell hrel hc=>
     exact .aj .full l b o n cap val hle hn (fun i j hi hj=>⟨(hcell i j hi hj).1,GN _ _ (hcell i j hi hj).2⟩)
      (fun i j hi hj=>(hrel i j hi hj).pure (M7 (ou hp i hi) (by rw[hn i hi];exact hj)) (fun b o hi=>⟨GN b o hi,rfl⟩) (fun b hi=>⟨U6 b hi,rfl⟩)) hc
   |own n s=>
    dsimp only at hv
    split at hv
    ·rename_i htop
     cases hv
     have hown:K1.A s→K1.lo s<K1.hi s→w.heap.size≤K1.ob s∧∀o,K1.lo s≤o→o<K1.hi s→(∃v,w'.cell? (at_ (K1.ob s) o)=some v)∧w'.frozen? (at_ (K1.ob s) o)=false:=fun ha hl=>by
      obtain⟨a1,a2,a3⟩:=s1.own s ha hl
      exact⟨a1,fun o h1 h2=>(a3 o h1 h2).2⟩
     have hnot:K1.A s→∀b o,K1.I b o→¬(b=K1.ob s∧K1.lo s≤o∧o<K1.hi s):=by
      rintro ha b o hi ⟨rfl,h2,h3⟩
      exact((s1.own s ha (by omega)).2.2 o h2 h3).1 hi
     have hA:K1.A s:=by
      cases r1 with
      |dF _ a ha hc=>exact hc.1
      |aj _ _ b o n' cap val hle hn hcell hrel hc=>exact hc.2.1
     refine⟨_, ?_,Step.kC h hB hst hb (hown hA)⟩
     have t1:(σ.bV st l.length).top st=l.length:=upd_same _ _ _
     have q1:(K.kC w.heap.size w' st (K1.ob s) (K1.lo s) (K1.hi s)).ob st=K1.ob s:=upd_same _ _ _
     have q2:(K.kC w.heap.size w' st (K1.ob s) (K1.lo s) (K1.hi s)).lo st=K1.lo s:=upd_same _ _ _
     have q3:(K.kC w.heap.size w' st (K1.ob s) (K1.lo s) (K1.hi s)).hi st=K1.hi s:=upd_same _ _ _
     cases r1 with
     |dF _ a ha hc=>
      refine .dF _ a (fun h=>by cases h) ⟨.inr rfl,fun _=> ?_⟩
      rw[q2,q3]
      exact hc.2 htop
     |aj _ _ b o n' cap val hle hn hcell hrel hc=>
      refine .aj _ l b o n' cap val hle hn (fun i j hi hj=>⟨(hcell i j hi hj).1,GN _ _ (hcell i j hi hj).2,hnot hA _ _ (hcell i j hi hj).2⟩)
       (fun i j hi hj=>(hrel i j hi hj).pure (M7 (ou hp i hi) (by rw[hn i hi];exact hj)) (fun b o hi=>⟨⟨GN b o hi,hnot hA b o hi⟩,rfl⟩) (fun b hi=>⟨U6 b hi,rfl⟩)) ?_
      refine⟨hc.1,.inr rfl,by rw[t1];exact Nat.le_refl _,fun _=> ?_⟩
      rw[q1,q2,q3]
      exact hc.2.2.2 htop.symm
    ·cases hv
   |sh=>cases hv
  ·cases hv
 ·rename_i loc s off len cap aU ag
  split at hv
  ·rename_i h0
   obtain⟨rfl,rfl⟩:=h0
   obtain⟨cs,hcs,hv⟩:=Option.bind_eq_some_iff.1 hv
   cases hv
   have fin:∀cB:Nat,K1.A s→cB*aU≤K1.sz s→∃K',Rel K' (σ.bV st 0).top w' (.aj (.own aU st) []) (.slice (some (at_ (K1.blk s) 0)) 0 cB)∧Step E B0 (· =st) σ K w (σ.bV st 0) K' w':=by
    intro cB hA hsz
    obtain⟨g1,_,_⟩:=s1.qw hcs
    obtain⟨a1,a2,a3⟩:=s1.obj _ _ _ g1
    refine⟨K.kC w.heap.size w' st (K1.blk s) 0 (cB*aU), ?_,Step.kC h hB hst hb (fun hlt=> ?_)⟩
    ·have t1:(σ.bV st 0).top st=0:=upd_same _ _ _
     refine .aj _ [] (K1.blk s) 0 aU cB (fun _ _=>undef) (Nat.zero_le _) (fun i hi=>absurd hi (Nat.not_lt_zero i)) (fun i j hi=>absurd hi (Nat.not_lt_zero i)) (fun i j hi=>absurd hi (Nat.not_lt_zero i)) ?_
     refine⟨rfl,.inr rfl,Nat.zero_le _,fun _=>⟨upd_same _ _ _, ?_, ?_⟩⟩
     ·show upd K.lo st 0 st=_;rw[upd_same];simp
     ·show upd K.hi st (cB*aU) st=_;rw[upd_same];simp
    ·have hne:cs≠[]:=by
      rintro rfl
      have:=a2.1 rfl
      omega
     obtain⟨b1,vals,t,b2,b3,b4,b5⟩:=a2.2 hne
     refine⟨b1,fun o h1 h2=>⟨⟨vals[o]'(by omega), ?_⟩, ?_⟩⟩
     ·simp[World.cell?,b2]
     ·unfold World.frozen?
      simp only[b2]
      simp
   cases r1 with
   |vw _ _ _ _ _ _ _ cB hA hc hle hsz=>
    exact fin cB hA (by simpa using hsz)
   |jT _ _ _ _ hA=>
    refine⟨K.kC w.heap.size w' st 0 0 0, ?_,Step.kC h hB hst hb (fun hlt=>absurd hlt (Nat.lt_irrefl _))⟩
    refine .dF _ none (fun h=>by cases h) ⟨.inr rfl,fun _=> ?_⟩
    show upd K.hi st 0 st=upd K.lo st 0 st
    rw[upd_same,upd_same]
  ·cases hv
 ·cases hv
theorem U7 {st:Nat} {σ1:ah} {v0 v:V} (hv:o8 σ st σ1 v0=some (v,σ')):σ'.next=σ.next:=by
 by_cases hvw:∃loc s off len cap aU ag,v0= .vw loc s off len cap aU ag
 ·obtain⟨loc,s,off,len,cap,aU,ag,rfl⟩:=hvw
  unfold o8 at hv
  dsimp only at hv
  split at hv
  ·obtain⟨_,_,hv⟩:=Option.bind_eq_some_iff.1 hv
   cases hv;rfl
  ·cases hv
 cases v0<;>first| (cases hv;done)|exact absurd ⟨_,_,_,_,_,_,_,rfl⟩ hvw|skip
 rename_i cp l
 have hv':(if aR l=true then (match cp with
  |.nil=>some (V.aj .nil l,σ)
  |.full=>some (.aj .full l,σ)
  |.own n s=>if σ1.top s=l.length then some (.aj (.own n st) l,σ.bV st l.length) else none
  |.sh=>none) else none)=some (v,σ'):=hv
 split at hv'
 ·cases cp with
  |nil=>cases hv';rfl
  |full=>cases hv';rfl
  |own n s=>dsimp only at hv';split at hv'<;>cases hv';rfl
  |sh=>cases hv'
 ·cases hv'
theorem adj (hE:kQ E) (hS:BO E S.call) (h:aS E B0 σ K w) (hB:B0≤w.heap.size) {st:Nat} (hst:¬K.A st) {fv:V} {cf:Value} {args:List V} {cu:Array Value} {v:V}
 (hv:o9 E S σ st fv args=some (v,σ')) (rf:Rel K σ.top w fv cf) (ra:RelA K σ.top w args cu):
 σ'.next=σ.next∧∃f first cap,cf= .func (.func f) first cap∧uJ E f∧CallsIn Fence.wide 0 E.P f (first++cu++cap) w (fun e w'=> ∃c K',e= .returned c∧Rel K' σ'.top w' v c∧Step E B0 (· =st) σ K w σ' K' w'):=by
 unfold o9 at hv
 split at hv
 ·rename_i f a b
  split at hv
  ·rename_i hcl
   simp only[Option.bind_eq_some_iff] at hv
   obtain⟨as,has,⟨v0,σ1⟩,hr,hv⟩:=hv
   cases rf with
   |fn _ _ _ av bv ha hb Nf Ng=>
   have BR:RelA K σ.top w (a++args++b) (av++cu++bv):=GL (GL ⟨ha,Nf⟩ ra) ⟨hb,Ng⟩
   obtain⟨_,p1,p2⟩:=hS _ _ _ _ _ _ hr
   have hnext:=U7 hv
   refine⟨hnext,f,av,bv,rfl,p1, ?_⟩
   simp only[List.all_eq_true] at hcl
   have BS:RelA (aN.lend K.I K.IM) ah.init.top w as (av++cu++bv):=by
    refine adg BR has (fun x y c hx jU hxy=> ?_)
    rcases hxy with ⟨rfl,rfl⟩|hxy
    ·cases jU with
     |dF _ a ha hc=>exact .dF .nil a ha trivial
     |aj _ _ b o n cap val hle hn hcell hrel hc=>exact hc.elim
    have hp:=hcl x hx
    rw[U2 hp hxy]
    exact(Uh jU).pure hp (fun _ _ h=>⟨h,rfl⟩) (fun _ h=>⟨h,rfl⟩)
   refine(p2 none w.heap.size (aN.lend K.I K.IM) w _ (UQ (U4 hE h)) (Nat.le_refl _) (fun s hs=>hs.elim) BS).mono ?_
   intro e w' hp
   cases e with
   |returned c=>
    obtain⟨K1,r1,s1,_,st1⟩:=hp
    obtain⟨K',g1,g2⟩:=adi h hB hst hv r1 s1 st1.below st1.nI st1.uw
    exact⟨c,K',rfl,g1,g2⟩
   |panicked ch=>exact hp.elim
   |outgrown=>exact hp.elim
  ·cases hv
 ·cases hv
theorem Nh (hE:kQ E) {f:FuncId} (hb:uJ E f) (args:Array Value) (w:World):(callFunc f args).run E.P w= .ok (.enter f args) w:=by
 obtain⟨fn,c,hf,hc⟩:=hb
 have hn:=hE.name f fn hf
 simp[callFunc,hf,hc,hn]
theorem adk (hE:kQ E) (hS:Sound E S) {fr fr':Fr} {a:Act} {n:Nat} {ds:yA} (hs:St E B0 σ K w fr a n ds) {st:Nat} (hst:¬K.A st) {o:Oper} {v:V}
 (hop:opC E S fr σ st o=some (v,fr',σ')):fr'=fr∧σ.next≤σ'.next∧(∀next Q ro,(∀c w' K',Rel K' σ'.top w' v c→Step E B0 (fun s=>s=st∨newer σ σ' s) σ K w σ' K' w'→next (a.put o.dst c) w')→
   o.wpIn (FW ro) 0 E.P a w next Q):=by
 have hdone:∀{v σ'},pE E B0 (· =st) σ K w (execOp a.eval o) v σ'→(∀c,o.op≠ .defer c)→∀next Q ro,(∀c w' K',Rel K' σ'.top w' v c→Step E B0 (fun s=>s=st∨newer σ σ' s) σ K w σ' K' w'→next (a.put o.dst c) w')→
  o.wpIn (FW ro) 0 E.P a w next Q:=fun hd ho next Q ro hn=>acS ho hd (fun c w' K' hr hst=>hn c w' K' hr (hst.mono (fun _ h=>.inl h)))
 unfold opC at hop
 split at hop
 ·rename_i c hc
  have hnd:∀d,o.op≠ .defer d:=fun d hd=>by rw[hc] at hd;cases hd
  split at hop
  ·rename_i b hb
   simp only[Option.map_eq_some_iff,Prod.mk.injEq] at hop
   obtain⟨⟨v1,σ1⟩,hv,rfl,rfl,rfl⟩:=hop
   have hsame:=UJ hv
   refine⟨rfl,by rw[hsame.1];exact Nat.le_refl _,hdone ?_ hnd⟩
   have hargs:=yx hs.ok hs.fr c.args
   have hex:execOp a.eval o=builtin b c.argTypes o.type (c.args.map fun|.const _=>true|_=>false) (c.args.map a.eval):=by
    unfold execOp
    simp only[hc]
    unfold resolve
    simp only[hb]
    rfl
   rw[hex]
   exact acK hs.ok hs.hB hst hargs hv
  ·rename_i f hf
   split at hop
   ·simp only[Option.map_eq_some_iff,Prod.mk.injEq] at hop
    obtain⟨⟨v1,σ1⟩,hv,rfl,rfl,rfl⟩:=hop
    obtain⟨hn1,g,first,cap,hcf,hbody,hcall⟩:=adj hE hS.call hs.ok hs.hB hst hv (uz hs.ok hs.fr f) (yx hs.ok hs.fr c.args)
    refine⟨rfl,by rw[hn1];exact Nat.le_refl _,fun next Q ro hn=>⟨fun _ _=>trivial, ?_⟩⟩
    rw[Gz _ _ hnd]
    have hex:(execOp a.eval o).run E.P w= .ok (.enter g (first++c.args.map a.eval++cap)) w:=by
     unfold execOp
     simp only[hc]
     unfold resolve
     simp only[hf,hcf,Deferred.ofValue,Sem.run_bind,Sem.run_pure,Result.andThen_ok,invoke]
     exact Nh hE hbody _ _
    rw[hex,Oper.uponIn_enter]
    refine⟨fun hd=>by simp[FW,Fence.wide] at hd, ?_⟩
    have h2:CallsIn (FW ro) (0-1) E.P g (first++c.args.map a.eval++cap) w (fun e w'=> ∃c K',e= .returned c∧Rel K' σ1.top w' v1 c∧Step E B0 (· =st) σ K w σ1 K' w'):=hcall
    refine h2.mono ?_
    intro e w' hp
    obtain⟨cv,K',rfl,r1,st1⟩:=hp
    exact hn cv w' K' r1 (st1.mono (fun _ h=>.inl h))
   simp only[Option.map_eq_some_iff,Prod.mk.injEq] at hop
   obtain⟨⟨v1,σ1⟩,hv,rfl,rfl,rfl⟩:=hop
   have hcases:(∃g a b,fr.ev E f= .fn (.func g) a b)∨∃l,fr.ev E f= .fn (.yield l) [] []:=by
    unfold gH at hv
    split at hv
    ·rename_i g a b he;exact .inl ⟨g,a,b,he⟩
    ·rename_i l he;exact .inr ⟨l,he⟩
    ·simp at hv
   rcases hcases with hfn| ⟨l,hy⟩
   rotate_left
   ·have hv':qm S l (c.args.toList.map (fr.ev E)) σ=some (v1,σ1):=by rw[hy] at hv;exact hv
    obtain⟨hn1,fn,tmps,dB,body,Na,adl⟩:=ac0 hS.code hs.ok hs.hB hs.st hv' (yx hs.ok hs.fr c.args)
    have hcf:a.eval f= .func (.yield (K.lp l)) #[] #[]:=by
     have:=uz hs.ok hs.fr f
     rw[hy] at this
     generalize a.eval f=cf at this
     cases this;rfl
    refine⟨rfl,hn1,fun next Q ro hn=>⟨fun _ _=>trivial, ?_⟩⟩
    rw[Gz _ _ hnd]
    have hex:(execOp a.eval o).run E.P w= .ok (.round (K.lp l) fn tmps dB body) w:=by
     unfold execOp
     simp only[hc]
     unfold resolve
     simp only[hf,hcf,Deferred.ofValue,Sem.run_bind,Sem.run_pure,Result.andThen_ok,invoke]
     simpa using Na
    rw[hex,Oper.uponIn_round]
    refine⟨fun hd=>by simp[FW,Fence.wide] at hd, ?_⟩
    have h2:RoundIn (FW ro) (0-1) E.P (K.lp l) fn tmps dB body w (uI E B0 σ K w v1 σ1):=adl
    refine h2.mono ?_
    intro e w' hp
    cases e with
    |returned cv=>
     obtain⟨K',r1,_,_,st1⟩:=hp
     exact hn cv w' K' r1 (st1.mono (fun _ h=>.inr h))
    |panicked ch=>exact hp.elim
    |outgrown=>exact hp.elim
   obtain⟨hn1,g,first,cap,hcf,hbody,hcall⟩:=U5 hE hS.call hs.ok hs.hB hs.st hfn hv (uz hs.ok hs.fr f) (yx hs.ok hs.fr c.args)
   refine⟨rfl,hn1,fun next Q ro hn=>⟨fun _ _=>trivial, ?_⟩⟩
   rw[Gz _ _ hnd]
   have hex:(execOp a.eval o).run E.P w= .ok (.enter g (first++c.args.map a.eval++cap)) w:=by
    unfold execOp
    simp only[hc]
    unfold resolve
    simp only[hf,hcf,Deferred.ofValue,Sem.run_bind,Sem.run_pure,Result.andThen_ok,invoke]
    exact Nh hE hbody _ _
   rw[hex,Oper.uponIn_enter]
   refine⟨fun hd=>by simp[FW,Fence.wide] at hd, ?_⟩
   have h2:CallsIn (FW ro) (0-1) E.P g (first++c.args.map a.eval++cap) w (uI E B0 σ K w v1 σ1):=hcall
   refine h2.mono ?_
   intro e w' hp
   cases e with
   |returned cv=>
    obtain⟨K',r1,_,_,st1⟩:=hp
    exact hn cv w' K' r1 (st1.mono (fun _ h=>.inr h))
   |panicked ch=>exact hp.elim
   |outgrown=>exact hp.elim
  ·simp at hop
 ·simp at hop
 ·rename_i hnc hnd
  simp only[Option.map_eq_some_iff,Prod.mk.injEq] at hop
  obtain⟨⟨v1,σ1⟩,hv,rfl,rfl,rfl⟩:=hop
  have hsame:=UK hv
  exact⟨rfl,by rw[hsame.1];exact Nat.le_refl _,hdone (acJ hs.ok hs.hB hs.fr hst hv) hnd⟩
end
end Aq
end
section
namespace Aq
open Go Go.RowKit
section
variable (E:Env) (S:iK)
def opsL (ops:List Oper) (base:Nat):List Nat→Fr→ah→Option (Fr×ah)
 | [],fr,σ=>some (fr,σ)
 |i::l,fr,σ=>(iT E S ops base i fr σ).bind fun (fr,σ)=>opsL ops base l fr σ
theorem adn (all:List Oper) (base:Nat):∀(os:List Oper) (k:Nat) (fr:Fr) (σ:ah),(∀j,os[j]? =all[k+j]?)→
 opsE E S all (base+k) os fr σ=opsL E S all base (List.range' k os.length) fr σ:=by
 intro os
 induction os with
 |nil=>intro k fr σ _;rfl
 |cons o os ih=>
  intro k fr σ h
  have h0:all[k]? =some o:=by simpa using (h 0).symm
  have ih':=fun fr σ=>ih (k+1) fr σ (fun j=>by have:=h (j+1);simpa [Nat.add_assoc,Nat.add_comm 1 j] using this)
  simp only[List.length_cons,List.range'_succ,opsL,iT,h0,opsE]
  cases hwt:dL all fr o with
  |none=>rfl
  |some t=>
  simp only[Option.bind_some]
  split
  ·cases hop:opC E S fr σ (base+k) o with
   |none=>rfl
   |some r=>
    obtain⟨v,bQ,σ1⟩:=r
    exact ih' _ _
  ·exact ih' _ _
theorem ado (ops:Array Oper) (base:Nat) (fr:Fr) (σ:ah):opsE E S ops.toList base ops.toList fr σ=opsL E S ops.toList base (List.range ops.size) fr σ:=by
 have:=adn E S ops.toList base ops.toList 0 fr σ (fun j=>by simp)
 rw[Nat.add_zero] at this
 rw[this,List.range_eq_range',Array.length_toList]
end
section
variable {E:Env} {S:iK} {K K':aN} {w w':World} {σ σ':ah} {B0:Nat} {fr fr':Fr} {a:Act} {n:Nat} {ds:yA}
theorem adp (hf:jq K σ.top w fr a.tmps) (ops:Array Oper) (o:Oper) (hsz:Bu a.tmps.size ops.toList=true) {t:Bool} (hv:dL ops.toList fr o=some t):
 Region.wanted o (yielded ops a.tmps)=t:=by
 unfold Region.wanted
 unfold dL at hv
 cases hg:o.guard with
 |none=>rw[hg] at hv;exact Option.some.inj hv
 |some g=>
  obtain⟨j,want⟩:=g
  rw[hg] at hv
  simp only at hv⊢
  cases hd:(ops.toList[j]?).bind (·.dst) with
  |none=>
   have hd':(ops[j]?).bind (·.dst)=none:=by simpa using hd
   simp only[hd,Option.some.injEq] at hv
   simp only[yielded,hd',←hv]
   rfl
  |some t=>
   have hd':(ops[j]?).bind (·.dst)=some t:=by simpa using hd
   have ht:t<a.tmps.size:=by
    cases ho:ops[j]? with
    |none=>simp[ho] at hd'
    |some o'=>
     have hm:o'∈ops.toList:=by simpa using Array.mem_of_getElem? ho
     simp only[Bu,List.all_eq_true] at hsz
     have h1:=hsz o' hm
     have h2:o'.dst=some t:=by simpa [ho] using hd'
     rw[h2] at h1
     simpa using h1
   have hr:=hf t
   have hget:a.tmps[t]? =some (a.tmps.getD t undef):=by simp[Array.getD,ht]
   simp only[hd] at hv
   simp only[yielded,hd',Option.bind_some,hget]
   generalize a.tmps.getD t undef=c at hr
   generalize fr.tm t=x at hr hv
   cases hr<;>simp only[Option.some.injEq,reduceCtorEq] at hv<;>first|exact hv| (rw[←hv];rfl)
theorem adq (h:aS E B0 σ K w) (k:Nat):aS E B0 {σ with next:=k} K w:=⟨h.obj,h.own,h.I,h.IM,h.loop,h.glob,h.rb,h.D⟩
theorem adr (hS:Sound E S) {st:Nat} {o:Oper} {v:V} (hop:opC E S fr σ st o=some (v,fr',σ')):fr'=fr∧σ.next≤σ'.next:=by
 unfold opC at hop
 split at hop
 ·split at hop
  ·simp only[Option.map_eq_some_iff,Prod.mk.injEq] at hop
   obtain⟨⟨v1,σ1⟩,hv,rfl,rfl,rfl⟩:=hop
   exact⟨rfl,by rw[(UJ hv).1];exact Nat.le_refl _⟩
  ·split at hop
   ·simp only[Option.map_eq_some_iff,Prod.mk.injEq] at hop
    obtain⟨⟨v1,σ1⟩,hv,rfl,rfl,rfl⟩:=hop
    refine⟨rfl, ?_⟩
    unfold o9 at hv
    split at hv
    ·split at hv
     ·simp only[Option.bind_eq_some_iff] at hv
      obtain⟨_,_,_,_,hv⟩:=hv
      rw[U7 hv];exact Nat.le_refl _
     ·cases hv
    ·cases hv
   simp only[Option.map_eq_some_iff,Prod.mk.injEq] at hop
   obtain⟨⟨v1,σ1⟩,hv,rfl,rfl,rfl⟩:=hop
   refine⟨rfl, ?_⟩
   unfold gH at hv
   split at hv
   ·split at hv
    ·exact(hS.call _ _ _ _ _ _ hv).1
    ·simp only[Option.bind_eq_some_iff] at hv
     obtain⟨_,_,_,_,hv⟩:=hv
     split at hv
     ·simp only[Option.some.injEq,Prod.mk.injEq] at hv
      rw[hv.2];exact Nat.le_refl _
     ·simp at hv
   ·exact ada hS.code hv
   ·simp at hv
  ·simp at hop
 ·simp at hop
 ·simp only[Option.map_eq_some_iff,Prod.mk.injEq] at hop
  obtain⟨⟨v1,σ1⟩,hv,rfl,rfl,rfl⟩:=hop
  exact⟨rfl,by rw[(UK hv).1];exact Nat.le_refl _⟩
theorem GQ (hS:Sound E S) (ops:List Oper) (base:Nat):∀(l:List Nat) (fr:Fr) (σ:ah),opsL E S ops base l fr σ=some (fr',σ')→σ.next≤σ'.next:=by
 intro l
 induction l with
 |nil=>
  intro fr σ h
  simp only[opsL,Option.some.injEq,Prod.mk.injEq] at h
  rw[h.2];exact Nat.le_refl _
 |cons i l ih=>
  intro fr σ h
  simp only[opsL,Option.bind_eq_some_iff] at h
  obtain⟨⟨bQ,σ1⟩,hs,h⟩:=h
  refine Nat.le_trans ?_ (ih _ _ h)
  unfold iT at hs
  split at hs
  ·simp only[Option.some.injEq,Prod.mk.injEq] at hs;rw[hs.2];exact Nat.le_refl _
  ·simp only[Option.bind_eq_some_iff] at hs
   obtain⟨t,_,hs⟩:=hs
   split at hs
   ·simp only[Option.map_eq_some_iff,Prod.mk.injEq] at hs
    obtain⟨⟨v,d9,σ2⟩,hop,rfl,rfl⟩:=hs
    exact(adr hS hop).2
   ·simp only[Option.some.injEq,Prod.mk.injEq] at hs;rw[hs.2];exact Nat.le_refl _
theorem ads (hE:kQ E) (hS:Sound E S) (ops:Array Oper) (base:Nat) (hops:Bu n ops.toList=true) (ro:Option Nat) (Q:Exit→Act→World→Prop):
 ∀(l:List Nat) (fr:Fr) (σ:ah) (K:aN) (w:World) (a:Act),opsL E S ops.toList base l fr σ=some (fr',σ')→l.Nodup→(∀i∈l,i<ops.size)→St E B0 σ K w fr a n ds→base+ops.size≤σ.next→(∀i∈l,¬K.A (base+i))→
  (∀a' K' w',St E B0 σ' K' w' fr' a' n ds→Step E B0 (fun s=>(base≤s∧s<base+ops.size)∨newer σ σ' s) σ K w σ' K' w'→Q .normal a' w')→wpOpsIn (FW ro) 0 E.P ops Q l a w:=by
 intro l
 induction l with
 |nil=>
  intro fr σ K w a hl _ _ hs _ _ hq
  simp only[opsL,Option.some.injEq,Prod.mk.injEq] at hl
  obtain⟨rfl,rfl⟩:=hl
  exact hq a K w hs (.refl hs.ok)
 |cons i l ih=>
  intro fr σ K w a hl hnd hlt hs hbase Ni hq
  simp only[opsL,Option.bind_eq_some_iff] at hl
  obtain⟨⟨bQ,σ1⟩,hstep,hl⟩:=hl
  have hil:i∉l:=(List.nodup_cons.1 hnd).1
  have hi:i<ops.size:=hlt i (by simp)
  have hoi:ops[i]? =some ops[i]:=by simp[hi]
  have adt:ops.toList[i]? =some ops[i]:=by simpa using hoi
  simp only[iT,adt,Option.bind_eq_some_iff] at hstep
  obtain⟨t,hwv,hstep⟩:=hstep
  have hw:=adp hs.fr ops ops[i] (by rw[hs.sz];exact hops) hwv
  have hdst:∀t,ops[i].dst=some t→t<n:=by
   intro t ht
   simp only[Bu,List.all_eq_true] at hops
   have:=hops ops[i] (by simp)
   rw[ht] at this
   simpa using this
  unfold wpOpsIn
  simp only[hoi,hw]
  split at hstep
  ·rename_i hwt
   simp only[Option.map_eq_some_iff,Prod.mk.injEq] at hstep
   obtain⟨⟨v,d9,σ2⟩,hop,rfl,rfl⟩:=hstep
   obtain⟨rfl,hnx,hwp⟩:=adk hE hS hs (Ni i (by simp)) hop
   dsimp only at hl
   simp only[hwt,if_true]
   have hA1:∀{K1:aN} {w1:World},Step E B0 (fun s=>s=base+i∨newer σ σ2 s) σ K w σ2 K1 w1→(∀s,K1.A s→s<σ2.next)∧∀j∈l,¬K1.A (base+j):=by
    intro K1 w1 st
    refine⟨fun s hsA=> ?_,fun j hj hAj=> ?_⟩
    ·rcases st.A s hsA with h1|h1|h1
     ·have:=hs.st s h1;omega
     ·omega
     ·exact h1.2
    ·have hji:j≠i:=fun e=>hil (e▸hj)
     rcases st.A _ hAj with h1|h1|h1
     ·exact Ni j (by simp[hj]) h1
     ·omega
     ·have:=hlt j (by simp[hj])
      have:=h1.1
      omega
   refine hwp _ _ ro (fun c w1 K1 hr st=> ?_)
   ·obtain⟨hA2,hA3⟩:=hA1 st
    have hs1:St E B0 σ2 K1 w1 (d9.put ops[i].dst v) (a.put ops[i].dst c) n ds:=hs.put st hr hdst hA2
    refine(ih _ _ K1 w1 _ hl (List.nodup_cons.1 hnd).2 (fun j hj=>hlt j (by simp[hj])) hs1 (by omega) hA3) (fun a' K' w' hs' st'=>hq a' K' w' hs' ?_)
    refine(st.mono ?_).trans (st'.mono ?_)
    ·intro s h1
     rcases h1 with h1|h1
     ·exact .inl ⟨by omega,by omega⟩
     ·exact .inr ⟨h1.1,Nat.lt_of_lt_of_le h1.2 (GQ hS _ _ _ _ _ hl)⟩
    ·intro s h1
     rcases h1 with h1|h1
     ·exact .inl h1
     ·exact .inr ⟨Nat.le_trans hnx h1.1,h1.2⟩
  ·rename_i hwt
   simp only[Option.some.injEq,Prod.mk.injEq] at hstep
   obtain⟨rfl,rfl⟩:=hstep
   have hs1:St E B0 σ K w (fr.put ops[i].dst aC) (a.put ops[i].dst undef) n ds:=hs.put (new:=fun _=>False) (.refl hs.ok) (.undef _ _ _) hdst hs.st
   have:=ih _ _ K w _ hl (List.nodup_cons.1 hnd).2 (fun j hj=>hlt j (by simp[hj])) hs1 hbase (fun j hj=>Ni j (by simp[hj]))
   simp only[hwt]
   exact⟨fun _ _=>trivial,this hq⟩
end
end Aq
end
section
namespace Aq
open Go
section
variable {X Key:Type}
def BU (step:Nat→X→Option X):List Nat→X→Option X
 | [],x=>some x
 |i::l,x=>(step i x).bind (BU step l)
theorem U8 (n:Nat) (step:Nat→X→Option X) (Ag:Key→X→X→Prop) (hrefl:∀k x,Ag k x x) (Nj:∀k x y z,Ag k x y→Ag k y z→Ag k x z)
 (s:Nat→X) (T W:Nat→Key→Prop) (wz:∀i k,W i k→T i k)
 (hloc:∀i,i<n→∀x,(∀k,T i k→Ag k (s i) x)→∃y,step i x=some y∧(∀k,W i k→Ag k (s (i+1)) y)∧(∀k,¬W i k→Ag k x y))
 (hself:∀i,i<n→∀k,¬W i k→Ag k (s i) (s (i+1)))
 (pre:Nat→Nat→Prop) (hap:∀i j,i<n→j<i→pre j i∨((∀k,¬(W i k∧T j k))∧∀k,¬(W j k∧T i k)))
 (adv:∀k x y,Ag k x y→Ag k y x):
 ∀(l done:List Nat) (x:X),l.Nodup→(∀i∈l,i<n∧i∉done)→(∀i,i<n→i∈done∨i∈l)→
  (∀l1 i l2,l=l1++i::l2→∀j,pre j i→j∈done∨j∈l1)→(∀i∈done,∀j,pre j i→j∈done)→
  (∀k m,m≤n→(∀j,j<n→W j k→(j∈done↔j<m))→Ag k (s m) x)→∃y,BU step l x=some y∧∀k,Ag k (s n) y:=by
 have adw:∀k a b,a≤b→b≤n→(∀j,a≤j→j<b→¬W j k)→Ag k (s a) (s b):=by
  intro k a b hab hbn hw
  induction b with
  |zero=>obtain rfl:a=0:=by omega
         exact hrefl _ _
  |succ b ih=>
   by_cases e:a=b+1
   ·subst e;exact hrefl _ _
   ·exact Nj _ _ _ _ (ih (by omega) (by omega) (fun j h1 h2=>hw j h1 (by omega))) (hself b (by omega) k (hw b (by omega) (by omega)))
 intro l
 induction l with
 |nil=>
  intro done x _ _ hall _ _ hinv
  exact⟨x,rfl,fun k=>hinv k n (Nat.le_refl _) (fun j hj _=>⟨fun _=>hj,fun _=>by rcases hall j hj with h|h;exact h;cases h⟩)⟩
 |cons i l ih=>
  intro done x hnd hmem hall GR hclosed hinv
  obtain⟨hin,Nk⟩:=hmem i (by simp)
  have hil:i∉l:=(List.nodup_cons.1 hnd).1
  have hpre:∀j,pre j i→j∈done:=fun j hj=>by
   rcases GR [] i l rfl j hj with h|h
   ·exact h
   ·cases h
  have adx:∀k,T i k→Ag k (s i) x:=by
   intro k hk
   refine hinv k i (by omega) (fun j hj hw=>⟨fun hjd=> ?_,fun hji=> ?_⟩)
   ·rcases Nat.lt_trichotomy j i with h|h|h
    ·exact h
    ·subst h;exact absurd hjd Nk
    ·rcases hap j i hj h with hp| ⟨h1,_⟩
     ·exact absurd (hclosed j hjd i hp) Nk
     ·exact absurd ⟨hw,hk⟩ (h1 k)
   ·rcases hap i j hin hji with hp| ⟨_,h2⟩
    ·exact hpre j hp
    ·exact absurd ⟨hw,hk⟩ (h2 k)
  obtain⟨y,hy,hyw,hyn⟩:=hloc i hin x adx
  have adz:∀k m,m≤n→(∀j,j<n→W j k→(j∈i::done↔j<m))→Ag k (s m) y:=by
   intro k m hm hj
   by_cases hw:W i k
   ·have him:i<m:=(hj i hin hw).1 (by simp)
    have h1:Ag k (s (i+1)) (s m):=by
     refine adw k (i+1) m him hm (fun j h1 h2 BX=> ?_)
     have hjd:j∈done:=by
      have:=(hj j (by omega) BX).2 h2
      rcases List.mem_cons.1 this with e|e
      ·omega
      ·exact e
     rcases hap j i (by omega) (by omega) with hp| ⟨h3,_⟩
     ·exact absurd (hclosed j hjd i hp) Nk
     ·exact h3 k ⟨BX,wz i k hw⟩
    exact Nj _ _ _ _ (adv _ _ _ h1) (hyw k hw)
   ·refine Nj _ _ _ _ (hinv k m hm (fun j hjn BX=> ?_)) (hyn k hw)
    have hji:j≠i:=fun e=>hw (e▸BX)
    rw[←hj j hjn BX]
    simp[hji]
  obtain⟨z,hz,hzn⟩:=ih (i::done) y (List.nodup_cons.1 hnd).2
   (fun j hj=>⟨(hmem j (by simp[hj])).1,fun h=>by
     rcases List.mem_cons.1 h with e|e
     ·exact hil (e▸hj)
     ·exact(hmem j (by simp[hj])).2 e⟩)
   (fun j hj=>by
     rcases hall j hj with h|h
     ·exact .inl (by simp[h])
     ·rcases List.mem_cons.1 h with e|e
      ·exact .inl (by simp[e])
      ·exact .inr e)
   (fun l1 j l2 hl k hk=>by
     rcases GR (i::l1) j l2 (by rw[hl];rfl) k hk with h|h
     ·exact .inl (by simp[h])
     ·rcases List.mem_cons.1 h with e|e
      ·exact .inl (by simp[e])
      ·exact .inr e)
   (fun j hj k hk=>by
     rcases List.mem_cons.1 hj with e|e
     ·subst e;simp[hpre k hk]
     ·simp[hclosed j e k hk])
   adz
  exact⟨z,by simp[BU,hy,hz],hzn⟩
end
end Aq
end
section
namespace Aq
open Go
section
variable {E:Env} {S:iK} {fr fr':Fr} {σ σ':ah}
theorem adA {st:Nat} {o:Oper} (h:∀x∈o.op.operands.toList,fr'.ev E x=fr.ev E x) (hd:fr'.d=fr.d) (bg:fr'.om=fr.om):aX E fr' σ st o=aX E fr σ st o:=by
 cases ho:o.op
 all_goals
  rw[ho] at h
  unfold aX
  simp only[ho]
 all_goals try (simp only[hd];done)
 case move x=>simp only[h x (show x∈[x] from List.mem_singleton.2 rfl),hd]
 case assign x=>simp only[h x (show x∈[x] from List.mem_singleton.2 rfl),hd]
 case pick c x y=>simp only[h c (show c∈[c,x,y] from List.mem_cons_self),h x (show x∈[c,x,y] from List.mem_cons_of_mem _ List.mem_cons_self),h y (show y∈[c,x,y] from List.mem_cons_of_mem _ (List.mem_cons_of_mem _ List.mem_cons_self)),hd]
 case box t x=>simp only[h x (show x∈[x] from List.mem_singleton.2 rfl),hd]
 case load t x=>simp only[h x (show x∈[x] from List.mem_singleton.2 rfl),hd]
 case nilCheck x=>simp only[h x (show x∈[x] from List.mem_singleton.2 rfl),hd]
 case unOp u t x=>simp only[h x (show x∈[x] from List.mem_singleton.2 rfl),hd]
 case convert t u x=>simp only[h x (show x∈[x] from List.mem_singleton.2 rfl),hd]
 case sliceToArrayPointer t x=>simp only[h x (show x∈[x] from List.mem_singleton.2 rfl),hd]
 case makeInterface t x=>simp only[h x (show x∈[x] from List.mem_singleton.2 rfl),hd]
 case fieldAddr t x f=>simp only[h x (show x∈[x] from List.mem_singleton.2 rfl),hd]
 case field t x f=>simp only[h x (show x∈[x] from List.mem_singleton.2 rfl),hd]
 case extract x f=>simp only[h x (show x∈[x] from List.mem_singleton.2 rfl),hd]
 case store t x y=>simp only[h x (show x∈[x,y] from List.mem_cons_self),h y (show y∈[x,y] from List.mem_cons_of_mem _ List.mem_cons_self),hd,bg]
 case binOp b t x y u=>simp only[h x (show x∈[x,y] from List.mem_cons_self),h y (show y∈[x,y] from List.mem_cons_of_mem _ List.mem_cons_self),hd,bg]
 case makeSlice t x y=>simp only[h x (show x∈[x,y] from List.mem_cons_self),h y (show y∈[x,y] from List.mem_cons_of_mem _ List.mem_cons_self),hd,bg]
 case indexAddr t x y=>simp only[h x (show x∈[x,y] from List.mem_cons_self),h y (show y∈[x,y] from List.mem_cons_of_mem _ List.mem_cons_self),hd,bg]
 case index t x y=>simp only[h x (show x∈[x,y] from List.mem_cons_self),h y (show y∈[x,y] from List.mem_cons_of_mem _ List.mem_cons_self),hd,bg]
 case lookup t x y ok=>simp only[h x (show x∈[x,y] from List.mem_cons_self),h y (show y∈[x,y] from List.mem_cons_of_mem _ List.mem_cons_self),hd,bg]
 case mapUpdate t x y z=>simp only[h x (show x∈[x,y,z] from List.mem_cons_self),h y (show y∈[x,y,z] from List.mem_cons_of_mem _ List.mem_cons_self),h z (show z∈[x,y,z] from List.mem_cons_of_mem _ (List.mem_cons_of_mem _ List.mem_cons_self)),hd]
 case insert t x y z=>simp only[h x (show x∈[x,y,z] from List.mem_cons_self),h y (show y∈[x,y,z] from List.mem_cons_of_mem _ List.mem_cons_self),h z (show z∈[x,y,z] from List.mem_cons_of_mem _ (List.mem_cons_of_mem _ List.mem_cons_self)),hd]
 case build t parts=>
  have:(parts.toList.map fun (i,x)=>(i,fr'.ev E x))=parts.toList.map fun (i,x)=>(i,fr.ev E x):=by
   refine List.map_congr_left (fun p hp=> ?_)
   show (p.1,fr'.ev E p.2)=(p.1,fr.ev E p.2)
   rw[h p.2 (show p.2∈parts.toList.map (·.2) from List.mem_map.2 ⟨p,hp,rfl⟩)]
  simp only[this]
 case buildSlice t len parts=>
  have:(parts.toList.map fun (i,x)=>(i,fr'.ev E x))=parts.toList.map fun (i,x)=>(i,fr.ev E x):=by
   refine List.map_congr_left (fun p hp=> ?_)
   show (p.1,fr'.ev E p.2)=(p.1,fr.ev E p.2)
   rw[h p.2 (show p.2∈parts.toList.map (·.2) from List.mem_map.2 ⟨p,hp,rfl⟩)]
  simp only[this]
 case makeFunc fn a b=>
  have h1:a.toList.map (fr'.ev E)=a.toList.map (fr.ev E):=List.map_congr_left (fun x hx=>h x (show x∈(a++b).toList by simp at hx⊢;exact .inl hx))
  have h2:b.toList.map (fr'.ev E)=b.toList.map (fr.ev E):=List.map_congr_left (fun x hx=>h x (show x∈(a++b).toList by simp at hx⊢;exact .inr hx))
  cases fn<;>first|rfl|simp only[h1,h2]
 case makeMap t r=>cases r<;>simp only[hd]
 case slice t x lo hi mx=>
  have h0:∀y,y=x∨lo=some y∨hi=some y∨mx=some y→fr'.ev E y=fr.ev E y:=fun y hy=>h y (show y∈(#[x]++lo.toArray++hi.toArray++mx.toArray).toList by
   rcases hy with rfl|rfl|rfl|rfl<;>simp)
  have hx:fr'.ev E x=fr.ev E x:=h0 x (.inl rfl)
  have h1:fQ E fr' lo=fQ E fr lo:=by
   cases lo with
   |none=>rfl
   |some y=>simp only[fQ];rw[h0 y (by simp)]
  have h2:fQ E fr' hi=fQ E fr hi:=by
   cases hi with
   |none=>rfl
   |some y=>simp only[fQ];rw[h0 y (by simp)]
  have h3:fQ E fr' mx=fQ E fr mx:=by
   cases mx with
   |none=>rfl
   |some y=>simp only[fQ];rw[h0 y (by simp)]
  simp only[hx,h1,h2,h3]
theorem adB {st:Nat} {o:Oper} (h:∀x∈o.op.operands.toList,fr'.ev E x=fr.ev E x) (hd:fr'.d=fr.d) (bg:fr'.om=fr.om):
 opC E S fr' σ st o=(opC E S fr σ st o).map fun (v,_,σ1)=>(v,fr',σ1):=by
 cases ho:o.op
 case call c=>
  have h:∀x∈c.operands.toList,fr'.ev E x=fr.ev E x:=by rw[ho] at h;exact h
  unfold opC
  simp only[ho]
  have hargs:c.args.toList.map (fr'.ev E)=c.args.toList.map (fr.ev E):=List.map_congr_left (fun x hx=>h x (by simp[Call.operands] at hx⊢;exact .inr hx))
  split
  ·simp only[hargs,hd,bg]
   cases lQ E fr.om (o.dst.map fun t=>(fr.d,t)) σ st _ c.argTypes (c.args.toList.map (fr.ev E))<;>rfl
  ·rename_i f hc
   have hf:fr'.ev E f=fr.ev E f:=h f (by simp[Call.operands,hc])
   have dM:jR E fr' o f=jR E fr o f:=by unfold jR;rw[hf]
   simp only[hargs,hd,hf,dM]
   cases jR E fr o f
   ·cases gH E S fr.d σ (fr.ev E f) (c.args.toList.map (fr.ev E))<;>rfl
   ·cases o9 E S σ st (fr.ev E f) (c.args.toList.map (fr.ev E))<;>rfl
  ·rfl
 case defer=>unfold opC;simp only[ho];rfl
 all_goals
  have:=adA (σ:=σ) (st:=st) h hd bg
  unfold opC
  simp only[ho]
  rw[this]
  cases aX E fr σ st o<;>rfl
theorem BZ {loc:Loc} {s:Nat} (h:σ'.obj loc=σ.obj loc):σ'.bO loc s=σ.bO loc s:=by simp only[ah.bO,h]
theorem Nl {loc:Loc} {s:Nat} (h:σ'.obj loc=σ.obj loc):σ'.eD loc s=σ.eD loc s:=by simp only[ah.eD,h]
def fG (σ σ':ah) (k:Key):Prop:=match k with
 |.obj l=>σ'.obj l=σ.obj l
 |.top=>σ'.top=σ.top
 |_=>True
def Reads (σ σ':ah) (r r':Option (V×ah)):Prop:=∀v σ1,r=some (v,σ1)→σ1=σ∧r'=some (v,σ')
theorem mE {v:V}:Reads σ σ' (some (v,σ)) (some (v,σ')):=fun v σ1 h=>by
 simp only[Option.some.injEq,Prod.mk.injEq] at h
 exact⟨h.2.symm,by rw[h.1]⟩
theorem lu {α:Type} {r:Option α} (f:α→V):Reads σ σ' (r.map fun v=>(f v,σ)) (r.map fun v=>(f v,σ')):=by
 cases r with
 |none=>intro v σ1 h;cases h
 |some x=>exact mE
theorem ow {r:Option (V×ah)}:Reads σ σ' none r:=fun _ _ h=>by cases h
theorem uM {α:Type} {r:Option α} {f g:α→Option (V×ah)} (h:∀x,Reads σ σ' (f x) (g x)):Reads σ σ' (r.bind f) (r.bind g):=by
 cases r with
 |none=>exact ow
 |some x=>exact h x
theorem GU {c:Prop} [Decidable c] {r r' s s':Option (V×ah)} (h1:Reads σ σ' r r') (h2:Reads σ σ' s s'):Reads σ σ' (if c then r else s) (if c then r' else s'):=by
 split<;>assumption
theorem adC {src dst:TypeId} {x:V} (h:∀k∈fT x,fG σ σ' k):rY E.P σ' src dst x=rY E.P σ src dst x:=by
 unfold rY
 generalize E.P.underlying src=u1
 generalize E.P.underlying dst=u2
 cases u1 with
 |none=>cases x<;>cases u2<;>rfl
 |some d1=>
  cases u2 with
  |none=>cases x<;>cases d1<;>rfl
  |some d2=>
   cases x with
   |vw loc s off len cap aU ag=>
    have h1:σ'.obj loc=σ.obj loc:=h (.obj loc) (by simp[fT])
    cases d2<;>cases d1<;>first|rfl|simp only[BZ h1]
   |_=>cases d2<;>first|rfl| (cases d1<;>rfl)
theorem adD {t:TypeId} {x:V} {lo hi mx:Option V} (h:∀k∈fT x,fG σ σ' k):ko E.P σ' t x lo hi mx=ko E.P σ t x lo hi mx:=by
 unfold ko
 generalize E.P.underlying t=u1
 cases u1 with
 |none=>cases x<;>rfl
 |some d1=>
  cases x with
  |ref loc s off=>
   have h1:σ'.obj loc=σ.obj loc:=h (.obj loc) (by simp[fT])
   cases d1<;>first|rfl|simp only[BZ h1]
  |_=>cases d1<;>rfl
theorem adE {t:TypeId} {x k:V} {ok:Bool} (h:∀k∈fT x,fG σ σ' k):qO E.P σ' t x k ok=qO E.P σ t x k ok:=by
 unfold qO
 cases x with
 |bN loc s=>
  have h1:σ'.obj loc=σ.obj loc:=h (.obj loc) (by simp[fT])
  simp only[Nl h1]
 |_=>rfl
theorem adF {t:TypeId} {x:V} (h:∀k∈fT x,fG σ σ' k):lg E σ' t x=lg E σ t x:=by
 unfold lg
 generalize E.P.underlying t=u1
 cases u1 with
 |none=>cases x<;>rfl
 |some d1=>
  cases x with
  |bN loc s=>
   have h1:σ'.obj loc=σ.obj loc:=h (.obj loc) (by simp[fT])
   cases d1<;>first|rfl|simp only[Nl h1]
  |_=>cases d1<;>rfl
theorem adG {ag:Bool} {sz:Nat} {z x:V} (h:∀k∈fT x,fG σ σ' k):jo σ' ag sz z x=jo σ ag sz z x:=by
 unfold jo
 cases x with
 |vw loc s off len cap aU ag=>
  have h1:σ'.obj loc=σ.obj loc:=h (.obj loc) (by simp[fT])
  simp only[BZ h1]
 |_=>rfl
def Local (W:Key→Prop) (σ σ':ah) (r r':Option (V×ah)):Prop:=
 ∀v σ1,r=some (v,σ1)→∃qC,r'=some (v,qC)∧qz σ σ1∧qz σ' qC∧(∀k,W k→fG σ1 qC k)∧(∀k,¬W k→fG σ σ1 k)∧∀k,¬W k→fG σ' qC k
theorem fG.refl (σ:ah) (k:Key):fG σ σ k:=by cases k<;>simp[fG]
theorem fG.chain {σ1 qC:ah} {k:Key} (h:fG σ σ' k) (h1:fG σ σ1 k) (h2:fG σ' qC k):fG σ1 qC k:=by
 cases k with
 |obj l=>exact Eq.trans (show qC.obj l=σ'.obj l from h2) (Eq.trans (show σ'.obj l=σ.obj l from h) (show σ1.obj l=σ.obj l from h1).symm)
 |top=>exact Eq.trans (show qC.top=σ'.top from h2) (Eq.trans (show σ'.top=σ.top from h) (show σ1.top=σ.top from h1).symm)
 |slot t=>trivial
 |rest=>trivial
 |nx=>trivial
theorem Reads.local {r r':Option (V×ah)} (h:Reads σ σ' r r'):Local (fun k=>k∈([]:List Key)) σ σ' r r':=fun v σ1 hr=>by
 obtain⟨h1,h2⟩:=h v σ1 hr
 subst h1
 exact⟨σ',h2,.refl _,.refl _,fun k hk=>absurd hk (List.not_mem_nil),fun k _=>.refl _ _,fun k _=>.refl _ _⟩
theorem Local.mono {W W':Key→Prop} {r r':Option (V×ah)} (h:Local W σ σ' r r') (hW:∀k,W k→W' k) (hT:∀k,W' k→fG σ σ' k):Local W' σ σ' r r':=fun v σ1 hr=>by
 obtain⟨qC,h1,h2,h3,h4,h5,h6⟩:=h v σ1 hr
 refine⟨qC,h1,h2,h3,fun k hk=> ?_,fun k hk=>h5 k (fun hw=>hk (hW k hw)),fun k hk=>h6 k (fun hw=>hk (hW k hw))⟩
 by_cases hw:W k
 ·exact h4 k hw
 ·exact(hT k hk).chain (h5 k hw) (h6 k hw)
theorem U9 {loc:Loc} {st:Nat} {ob:fE} {k:Key} (hk:k∉[Key.obj loc]):fG σ (σ.setObj loc st ob) k:=by
 cases k with
 |obj l=>
  have:l≠loc:=fun e=>hk (by simp[e])
  show upd σ.obj loc _ l=σ.obj l
  simp[upd,this]
 |top=>rfl
 |slot t=>trivial
 |rest=>trivial
 |nx=>trivial
theorem Va {s n:Nat} {k:Key} (hk:k∉[Key.top]):fG σ (σ.bV s n) k:=by
 cases k with
 |obj l=>rfl
 |top=>exact absurd (by simp) hk
 |slot t=>trivial
 |rest=>trivial
 |nx=>trivial
theorem yC {loc:Loc} {st:Nat} {ob:fE} {v:V}:Local (fun k=>k∈[Key.obj loc]) σ σ' (some (v,σ.setObj loc st ob)) (some (v,σ'.setObj loc st ob)):=fun v1 σ1 h=>by
 simp only[Option.some.injEq,Prod.mk.injEq] at h
 obtain⟨rfl,rfl⟩:=h
 refine⟨_,rfl,⟨rfl,rfl⟩,⟨rfl,rfl⟩,fun k hk=> ?_,fun k hk=>U9 hk,fun k hk=>U9 hk⟩
 obtain rfl:k= .obj loc:=by simpa using hk
 show upd σ'.obj loc _ loc=upd σ.obj loc _ loc
 simp[upd]
theorem eF {W:Key→Prop} {r:Option (V×ah)}:Local W σ σ' none r:=fun _ _ h=>by cases h
theorem kD {W:Key→Prop} {α:Type} {r:Option α} {f g:α→Option (V×ah)} (h:∀x,Local W σ σ' (f x) (g x)):Local W σ σ' (r.bind f) (r.bind g):=by
 cases r with
 |none=>exact eF
 |some x=>exact h x
theorem sG {W:Key→Prop} {c:Prop} [Decidable c] {r r' s s':Option (V×ah)} (h1:Local W σ σ' r r') (h2:Local W σ σ' s s'):Local W σ σ' (if c then r else s) (if c then r' else s'):=by
 split<;>assumption
theorem GV (ht:σ'.top=σ.top) {s n:Nat} {v:V}:Local (fun k=>k∈[Key.top]) σ σ' (some (v,σ.bV s n)) (some (v,σ'.bV s n)):=fun v1 σ1 h=>by
 simp only[Option.some.injEq,Prod.mk.injEq] at h
 obtain⟨rfl,rfl⟩:=h
 refine⟨_,rfl,⟨rfl,rfl⟩,⟨rfl,rfl⟩,fun k hk=> ?_,fun k hk=>Va hk,fun k hk=>Va hk⟩
 obtain rfl:k= .top:=by simpa using hk
 show upd σ'.top s n=upd σ.top s n
 rw[ht]
theorem Vb {W:Key→Prop} {α:Type} {r:Option α} {f g:α→V×ah} (h:∀x,Local W σ σ' (some (f x)) (some (g x))):Local W σ σ' (r.map f) (r.map g):=by
 cases r with
 |none=>exact eF
 |some x=>exact h x
theorem Vd {t:TypeId} {m k v:V} (h:∀q∈fT m,fG σ σ' q):
 Local (fun q=>q∈fT m) σ σ' ((nY E.P σ t m k v).map fun σ=>(aC,σ)) ((nY E.P σ' t m k v).map fun σ=>(aC,σ)):=by
 unfold nY
 cases o7 E.P t with
 |none=>exact eF
 |some p=>
  simp only[Option.bind_some]
  split
  ·cases m with
   |bN loc s=>
    have h1:σ'.obj loc=σ.obj loc:=h (.obj loc) (by simp[fT])
    simp only[Nl h1]
    cases σ.eD loc s with
    |none=>exact eF
    |some q=>
     simp only[Option.bind_some,Option.map_map]
     exact Vb (fun x=>yC)
   |_=>exact eF
  ·exact eF
theorem adH {fr:Fr} {st:Nat} {o:Oper} {t:TypeId} {l c:V} (h:∀q∈Key.top::og fr o,fG σ σ' q):
 Local (fun q=>q∈Key.top::og fr o) σ σ' (ql E.P fr.om σ st (o.dst.map fun t=>(fr.d,t)) t l c) (ql E.P fr.om σ' st (o.dst.map fun t=>(fr.d,t)) t l c):=by
 unfold ql
 refine kD (fun e=>kD (fun sz=>kD (fun dz=>kD (fun z=>kD (fun n=>kD (fun m=>sG (sG ?_ ?_) eF))))))
 ·exact(GV (h .top (by simp))).mono (fun k hk=>by simp at hk;simp[hk]) h
 ·cases hd:o.dst with
  |none=>exact eF
  |some d=>
   simp only[Option.map_some,Option.bind_some]
   exact Vb (fun ag=>yC.mono (fun k hk=>by simp at hk;simp[hk,og,hd]) (by simpa [og,hd] using h))
theorem Nn {zeros:Bool} {st:Nat} {loc:Option Loc} {t:TypeId} {x y:V} (hy:∀q∈fT y,fG σ σ' q) (ht:σ'.top=σ.top):
 Local (fun q=>q∈[Key.top]) σ σ' (gy E.P false zeros σ st loc t x y) (gy E.P false zeros σ' st loc t x y):=by
 unfold gy
 refine kD (fun e=>kD (fun sz=>kD (fun dz=>kD (fun ag=>kD (fun z=>sG ?_ eF)))))
 rw[adG hy]
 refine kD (fun ys=>sG ?_ eF)
 cases x with
 |aj c l=>
  simp only
  refine sG ?_ eF
  cases c with
  |own n s=>simp only[ht];exact sG (GV ht) eF
  |nil=>exact GV ht
  |full=>exact GV ht
  |sh=>exact eF
 |vw gB s off len cap aU uG=>simp only[Bool.false_eq_true,false_and,and_false,if_false];exact eF
 |_=>exact eF
theorem GX {om:Bool} {loc:Option Loc} {st:Nat} {b:Builtin} {tys:Array TypeId} {args:List V} (hb:b= .len∨b= .cap∨b= .min∨b= .max) (h:∀x∈args,∀q∈fT x,fG σ σ' q):
 Reads σ σ' (lQ E om loc σ st b tys args) (lQ E om loc σ' st b tys args):=by
 rcases hb with rfl|rfl|rfl|rfl
 ·rcases args with _| ⟨x,_| ⟨y,l⟩⟩
  ·exact ow
  ·refine uM (fun t=> ?_)
   rw[adF (h x (by simp))]
   exact lu _
  ·exact ow
 ·rcases args with _| ⟨x,_| ⟨y,l⟩⟩
  ·exact ow
  ·refine uM (fun t=>uM (fun e=> ?_))
   cases x with
   |aj c l=>cases c<;>first|exact mE|exact ow
   |_=>exact ow
  ·exact ow
 ·rcases args with _| ⟨x,l⟩
  ·exact ow
  ·exact lu _
 ·rcases args with _| ⟨x,l⟩
  ·exact ow
  ·exact lu _
theorem adI {loc:Option Loc} {st:Nat} {tys:Array TypeId} {args:List V} (h:∀x∈args,∀q∈fT x,fG σ σ' q) (ht:σ'.top=σ.top):
 Local (fun q=>q∈[Key.top]) σ σ' (lQ E false loc σ st .append tys args) (lQ E false loc σ' st .append tys args):=by
 rcases args with _| ⟨x,_| ⟨y,_| ⟨z,l⟩⟩⟩
 ·exact eF
 ·exact eF
 ·refine kD (fun t=>kD (fun u=> ?_))
  split
  ·exact Nn (h y (by simp)) ht
  ·exact Nn (h y (by simp)) ht
  ·exact Nn (h y (by simp)) ht
  ·exact eF
 ·exact eF
end
end Aq
end
section
namespace Aq
open Go
section
variable {E:Env} {S:iK} {fr fr':Fr} {σ σ':ah}
theorem adJ {st:Nat} {o:Oper} (hc:∀c,o.op≠ .call c) (hw:(gD E fr o).mh=false) (h:∀k,k∈(gD E fr o).t∨k∈(gD E fr o).w→fG σ σ' k):
 Local (fun k=>k∈(gD E fr o).w) σ σ' (aX E fr σ st o) (aX E fr σ' st o):=by
 cases ho:o.op<;>simp only[gD,ho,dV,reduceCtorEq,Bool.true_eq_false] at hw
 case call c=>exact absurd ho (hc c)
 all_goals
  simp only[gD,ho,lq,kr] at h
  simp only[gD,ho,lq,kr]
  unfold aX
  simp only[ho]
 case move=>exact mE.local
 case assign=>exact mE.local
 case pick=>exact(lu _).local
 case alloc t=>
  cases hd:o.dst with
  |none=>exact eF
  |some d=>simp only[Option.map_some,Option.bind_some,og,hd];exact kD (fun z=>sG yC eF)
 case box t x=>
  by_cases hz:E.qQ t=true
  ·simp only[hz,if_true]
   exact(GU mE ow).local.mono (fun k hk=>by cases hk) (fun k hk=>h k (.inr hk))
  ·simp only[hz,Bool.false_eq_true,if_false]
   cases hd:o.dst with
   |none=>exact eF
   |some d=>simp only[Option.map_some,Option.bind_some,og,hd];exact sG yC eF
 case build t parts=>exact(uM (fun _=>uM (fun _=>lu _))).local
 case buildSlice t len parts=>exact(lu _).local
 case load t a=>
  cases hx:fr.ev E a with
  |ref loc s off=>
   have h1:σ'.obj loc=σ.obj loc:=h (.obj loc) (by simp[hx,fT])
   simp only[BZ h1]
   exact(uM (fun _=>lu _)).local
  |aI cs off=>exact(lu _).local
  |_=>exact eF
 case store t a x=>
  cases hx:fr.ev E a with
  |ref loc s off=>
   have h1:σ'.obj loc=σ.obj loc:=h (.obj loc) (by simp[hx,fT])
   simp only[BZ h1]
   exact kD (fun _=>sG yC eF)
  |_=>exact eF
 case nilCheck x=>
  cases hx:fr.ev E x with
  |ref loc s off=>exact mE.local
  |aI cs off=>exact mE.local
  |fn f a b=>cases f<;>first|exact mE.local|exact eF
  |_=>exact eF
 case binOp=>exact(lu _).local
 case unOp=>exact(lu _).local
 case convert a b x=>rw[adC (fun k hk=>h k (.inl hk))];exact(lu _).local
 case sliceToArrayPointer t x=>
  refine kD (fun p=> ?_)
  cases hx:fr.ev E x with
  |vw loc s off len cap aU ag=>exact(GU mE ow).local
  |aj c l=>exact(GU mE ow).local
  |_=>exact eF
 case makeInterface t x=>
  split
  ·exact eF
  ·exact mE.local
  ·exact eF
 case makeFunc f a b=>cases f<;>first|exact mE.local|exact eF
 case makeMap t r=>
  cases r with
  |some _=>exact eF
  |none=>
   cases hd:o.dst with
   |none=>exact eF
   |some d=>simp only[Option.map_some,og,hd];exact yC
 case makeSlice t l c=>exact adH (fun q hq=>h q (.inr hq))
 case slice t x lo hi mx=>rw[adD (fun k hk=>h k (.inl hk))];exact(lu _).local
 case fieldAddr t x f=>
  refine kD (fun p=> ?_)
  cases hx:fr.ev E x with
  |ref loc s off=>exact mE.local
  |aI cs off=>exact mE.local
  |_=>exact eF
 case field t x f=>
  refine kD (fun p=> ?_)
  cases hx:fr.ev E x with
  |agg cs=>exact(lu _).local
  |_=>exact eF
 case indexAddr=>exact(lu _).local
 case index=>exact(lu _).local
 case lookup t x i ok=>rw[adE (fun k hk=>h k (.inl hk))];exact(lu _).local
 case mapUpdate t m k v=>exact Vd (fun q hq=>h q (.inr hq))
 case insert t m k v=>exact Vd (fun q hq=>h q (.inr hq))
 case extract x i=>
  cases hx:fr.ev E x with
  |bA vs=>exact(lu _).local
  |_=>exact eF
theorem GY {α β:Type} {f g:α→Option β}:∀{l:List α},(∀x∈l,f x=g x)→l.mapM f=l.mapM g
 | [],_=>rfl
 |a::l,h=>by
  simp only[List.mapM_cons]
  rw[h a (by simp),GY (fun x hx=>h x (by simp[hx]))]
theorem Np {n:Nat} {x:V} (hp:aF x=true):aM n σ' x=aM n σ x:=by
 cases n with
 |zero=>rfl
 |succ n=>unfold aM;simp only[hp,if_true]
theorem Ve {l:List V} {x:V} (h:x∈l):∃i,∃hi:i<l.length,x=l[i]:=by
 obtain⟨i,hi,e⟩:=List.mem_iff_getElem.1 h
 exact⟨i,hi,e.symm⟩
theorem Vf {n:Nat} {c:Cap} {l:List V} (hp:aR l=true):aM n σ' (.aj c l)=aM n σ (.aj c l):=by
 cases n with
 |zero=>rfl
 |succ n=>
  unfold aM
  split
  ·rfl
  ·simp only
   rw[GY (fun x hx=> ?_)]
   obtain⟨i,hi,rfl⟩:=Ve hx
   exact Np (BQ hp hi)
theorem adK {n:Nat} {x:V} (hp:aF (eO x)=true):aM n σ' x=aM n σ x:=by
 cases x with
 |aj c l=>exact Vf (by simpa [eO,aF] using hp)
 |_=>exact Np hp
theorem adL {n:Nat} {x:V} (hp:aF (er x)=true):aM n σ' x=aM n σ x:=by
 cases x with
 |aj c l=>exact Vf (by simpa [er,aF] using hp)
 |agg cs=>
  have hp':aR (cs.map eO)=true:=by simpa [er,aF] using hp
  cases n with
  |zero=>rfl
  |succ n=>
   unfold aM
   split
   ·rfl
   ·simp only
    rw[GY (fun x hx=> ?_)]
    obtain⟨i,hi,rfl⟩:=Ve hx
    refine adK ?_
    have:=BQ hp' (i:=i) (by simpa using hi)
    simpa using this
 |_=>exact Np hp
theorem adM {d:Nat} {g:FuncId} {a b args:List V} (hi:E.imp g=false) (hp:(a++args++b).all (fun v=>aF (er v))=true):
 Reads σ σ' (gH E S d σ (.fn (.func g) a b) args) (gH E S d σ' (.fn (.func g) a b) args):=by
 unfold gH
 simp only[hi,Bool.false_eq_true,if_false]
 rw[GY (f:=aM 20 σ') (g:=aM 20 σ) (fun x hx=>adL (by simp only[List.all_eq_true] at hp;exact hp x hx))]
 exact uM (fun as=>uM (fun v=>GU mE ow))
theorem adN {d:Nat} {g:FuncId} {a b args:List V} (hi:E.imp g=false) {v:V} {σ1:ah} (h:gH E S d σ (.fn (.func g) a b) args=some (v,σ1)):σ1=σ:=by
 unfold gH at h
 simp only[hi,Bool.false_eq_true,if_false,Option.bind_eq_some_iff] at h
 obtain⟨_,_,_,_,h⟩:=h
 split at h
 ·simp only[Option.some.injEq,Prod.mk.injEq] at h;exact h.2.symm
 ·simp at h
theorem Ag.refl (k:Key) (x:Fr×ah):Ag k x x:=by cases k<;>simp[Ag]
theorem Ag.symm {k:Key} {x y:Fr×ah} (h:Ag k x y):Ag k y x:=by
 cases k with
 |slot t=>exact Eq.symm h
 |obj l=>exact Eq.symm h
 |top=>exact Eq.symm h
 |rest=>exact⟨h.1.symm,h.2.symm⟩
 |nx=>exact⟨h.1.symm,h.2.symm⟩
theorem Ag.trans {k:Key} {x y z:Fr×ah} (h:Ag k x y) (g:Ag k y z):Ag k x z:=by
 cases k with
 |slot t=>exact Eq.trans h g
 |obj l=>exact Eq.trans h g
 |top=>exact Eq.trans h g
 |rest=>exact⟨h.1.trans g.1,h.2.trans g.2⟩
 |nx=>exact⟨h.1.trans g.1,h.2.trans g.2⟩
theorem Ag.all {x y:Fr×ah} (h:∀k,Ag k x y):x=y:=by
 obtain⟨⟨d,om,tm⟩,⟨nx,top,obj,lp⟩⟩:=x
 obtain⟨⟨d',om',tm'⟩,⟨nx',top',Ca,Vg⟩⟩:=y
 obtain⟨h1,h2⟩:=h .rest
 obtain⟨h3,h4⟩:=h .nx
 have h5:top=top':=h .top
 have h6:obj=Ca:=funext fun l=>h (.obj l)
 have h7:tm=tm':=funext fun t=>h (.slot t)
 simp only at h1 h2 h3 h4
 subst h1 h2 h3 h4 h5 h6 h7
 rfl
def bP.T (f:bP) (k:Key):Prop:=k= .rest∨k∈f.t∨k∈f.w∨((f.qo=true∨f.mh=true)∧k.state=true)
def bP.W (f:bP) (k:Key):Prop:=k∈f.w∨(f.mh=true∧k.state=true)
theorem bP.Vh {f:bP} {k:Key} (h:f.W k):f.T k:=by
 rcases h with h| ⟨h,h1⟩
 ·exact .inr (.inr (.inl h))
 ·exact .inr (.inr (.inr ⟨.inr h,h1⟩))
end
end Aq
end
section
namespace Aq
open Go
theorem Vi {α:Type} {p q:α→Bool} {a:α}:∀{l:List α},(∀x,q x=true→p x=true)→a∈l→p a=true→q a=false→l.countP q<l.countP p
 | [],_,h,_,_=>by cases h
 |x::l,Nq,hm,hp,hq=>by
  rw[List.countP_cons,List.countP_cons]
  have hle:l.countP q≤l.countP p:=List.countP_mono_left (fun x _ h=>Nq x h)
  rcases List.mem_cons.1 hm with e|e
  ·subst e
   simp only[hp,hq,if_true]
   have:(if false=true then 1 else 0)=0:=rfl
   omega
  ·have:=Vi Nq e hp hq
   by_cases hx:q x=true
   ·have:=Nq x hx
    simp only[hx,this,if_true];omega
   ·have hx':q x=false:=by simpa using hx
    rw[hx']
    have h0:(if false=true then 1 else 0:Nat)=0:=rfl
    rw[h0]
    omega
structure uN (md:Region.Mode) (ops:Array Oper) (done l:List Nat):Prop where
 nodup:l.Nodup
 mem:∀i∈l,i<ops.size∧i∉done
 all:∀i,i<ops.size→i∈done∨i∈l
 ord:∀l1 i l2,l=l1++i::l2→∀o,ops[i]? =some o→∀e∈o.after.toList,Region.binds md e=true→e.on∈done∨e.on∈l1
theorem go_acc (md:Region.Mode) (ops:Array Oper):∀(fuel t:Nat) (listed:Array Bool) (acc:List Nat),
 Region.linearise.go md ops fuel t listed acc=acc.reverse++Region.linearise.go md ops fuel t listed []:=by
 intro fuel
 induction fuel with
 |zero=>intro t listed acc;simp[Region.linearise.go]
 |succ fuel ih=>
  intro t listed acc
  simp only[Region.linearise.go]
  split
  ·rename_i i _
   rw[ih _ _ (i::acc),ih _ _ [i]]
   simp
  ·simp
theorem go_ok (ops:Array Oper) (mG:mo ops.toList=true):∀(fuel t:Nat) (listed:Array Bool) (done:List Nat),
 listed.size=ops.size→(∀i,i<ops.size→(listed.getD i true=true↔i∈done))→(List.range ops.size).countP (fun i=>decide (i∉done))≤fuel→
 uN .any ops done (Region.linearise.go .any ops fuel t listed []):=by
 have Nr:∀(i:Nat) (o:Oper),ops[i]? =some o→∀e∈o.after.toList,Region.binds .any e=true→e.on<i:=by
  intro i o ho e he hb
  have hi:i<ops.size:=by
   rcases Nat.lt_or_ge i ops.size with h|h
   ·exact h
   ·rw[Array.getElem?_eq_none h] at ho;cases ho
  simp only[mo,List.all_eq_true] at mG
  have:=mG i (by simpa using hi)
  have ho':ops.toList[i]? =some o:=by simpa using ho
  rw[ho'] at this
  simp only[List.all_eq_true] at this
  simpa [hb] using this e he
 intro fuel
 induction fuel with
 |zero=>
  intro t listed done hsz hl hf
  refine⟨by simp[Region.linearise.go],by simp[Region.linearise.go],fun i hi=> ?_,fun l1 i l2 h=>by simp[Region.linearise.go] at h⟩
  by_cases hd:i∈done
  ·exact .inl hd
  ·have:0< (List.range ops.size).countP (fun i=>decide (i∉done)):=List.countP_pos_iff.2 ⟨i,by simpa using hi,by simpa using hd⟩
   omega
 |succ fuel ih=>
  intro t listed done hsz hl hf
  simp only[Region.linearise.go]
  generalize hrs:(List.range ops.size).filter (fun i=> !listed.getD i true&& ((ops[i]?).map (·.after.all fun e=> !Region.binds .any e||listed.getD e.on false)).getD false)=rs
  have hmem:∀i,i∈rs↔i<ops.size∧i∉done∧∃o,ops[i]? =some o∧∀e∈o.after.toList,Region.binds .any e=true→e.on∈done:=by
   intro i
   rw[←hrs,List.mem_filter]
   constructor
   ·rintro⟨h1,h2⟩
    have hi:i<ops.size:=by simpa using h1
    simp only[Bool.and_eq_true,Bool.not_eq_true'] at h2
    have hd:i∉done:=fun h=>by have:=(hl i hi).2 h;rw[this] at h2;exact absurd h2.1 (by simp)
    have hoi:ops[i]? =some ops[i]:=by simp[hi]
    refine⟨hi,hd,ops[i],hoi,fun e he hb=> ?_⟩
    have h3:=h2.2
    rw[hoi] at h3
    simp only[Option.map_some,Option.getD_some,Array.all_eq_true'] at h3
    have h4:=h3 e (by simpa using he)
    rw[hb] at h4
    have hon:e.on<ops.size:=Nat.lt_trans (Nr i _ hoi e he hb) hi
    have h5:listed.getD e.on false=true:=by simpa using h4
    refine(hl e.on hon).1 ?_
    simp only[Array.getD,hsz,hon,dif_pos] at h5⊢
    exact h5
   ·rintro⟨hi,hd,o,ho,he⟩
    refine⟨by simpa using hi, ?_⟩
    have h1:listed.getD i true=false:=by
     have:=mt (hl i hi).1 hd
     simpa using this
    simp only[h1,Bool.not_false,Bool.true_and,ho,Option.map_some,Option.getD_some,Array.all_eq_true']
    intro e GZ
    have Vj:e∈o.after.toList:=by simpa using GZ
    cases hb:Region.binds .any e with
    |false=>rfl
    |true=>
     have hon:e.on<ops.size:=Nat.lt_trans (Nr i _ ho e Vj hb) hi
     have:=(hl e.on hon).2 (he e Vj hb)
     simp only[Array.getD,hsz,hon,dif_pos] at this⊢
     show (!true||listed.getInternal e.on _)=true
     rw[this];rfl
  cases hpick:rs[t% rs.length]? with
  |none=>
   have hnil:rs=[]:=by
    cases rs with
    |nil=>rfl
    |cons x xs=>
     have hlt:t% (x::xs).length< (x::xs).length:=Nat.mod_lt _ (by simp)
     rw[List.getElem?_eq_none_iff] at hpick
     omega
   simp only[List.reverse_nil]
   refine⟨by simp,by simp,fun i hi=> ?_,fun l1 i l2 h=>by simp at h⟩
   refine Classical.byContradiction fun hno=> ?_
   have hex:∃i,i<ops.size∧i∉done:=⟨i,hi,fun h=>hno (.inl h)⟩
   have hmin:∀k,(∃i,i≤k∧i<ops.size∧i∉done)→∃i,i<ops.size∧i∉done∧∀j,j<i→j∈done:=by
    intro k
    induction k with
    |zero=>
     rintro⟨i,h0,h1,h2⟩
     obtain rfl:i=0:=by omega
     exact⟨0,h1,h2,fun j hj=>absurd hj (Nat.not_lt_zero j)⟩
    |succ k ihk=>
     rintro⟨i,h0,h1,h2⟩
     by_cases hsm:∃i,i≤k∧i<ops.size∧i∉done
     ·exact ihk hsm
     ·refine⟨i,h1,h2,fun j hj=>Classical.byContradiction fun hjd=>hsm ⟨j,by omega,by omega,hjd⟩⟩
   obtain⟨i0,h1,h2,h3⟩:=hmin i ⟨i,Nat.le_refl _,hi,fun h=>hno (.inl h)⟩
   have:i0∈rs:=(hmem i0).2 ⟨h1,h2,ops[i0],by simp[h1],fun e he hb=>h3 _ (Nr i0 _ (by simp[h1]) e he hb)⟩
   rw[hnil] at this
   cases this
  |some i=>
   simp only
   rw[go_acc,List.reverse_singleton]
   have hi:i∈rs:=List.mem_of_getElem? hpick
   obtain⟨hilt,hid,o,ho,he⟩:=(hmem i).1 hi
   have hrec:=ih (t/rs.length) (listed.setIfInBounds i true) (i::done) (by simpa using hsz) (fun j hj=>by
    by_cases hji:j=i
    ·subst hji
     simp[Array.getD,hsz,hj]
    ·have h1:(listed.setIfInBounds i true).getD j true=listed.getD j true:=by
      simp only[Array.getD,Array.size_setIfInBounds,hsz,hj,dif_pos]
      exact Array.getElem_setIfInBounds_ne (by omega) (Ne.symm hji)
     rw[h1,hl j hj]
     simp[hji]) (by
    have:=Vi (l:=List.range ops.size) (p:=fun j=>decide (j∉done)) (q:=fun j=>decide (j∉i::done)) (a:=i)
     (fun x hx=>by simp at hx⊢;exact hx.2) (by simpa using hilt) (by simpa using hid) (by simp)
    omega)
   refine⟨?_, ?_, ?_, ?_⟩
   ·simp only[List.singleton_append,List.nodup_cons]
    exact⟨fun h=>(hrec.mem i h).2 (by simp),hrec.nodup⟩
   ·intro j hj
    rcases List.mem_cons.1 hj with e|e
    ·subst e;exact⟨hilt,hid⟩
    ·have:=hrec.mem j e
     exact⟨this.1,fun h=>this.2 (by simp[h])⟩
   ·intro j hj
    rcases hrec.all j hj with h|h
    ·rcases List.mem_cons.1 h with e|e
     ·exact .inr (by simp[e])
     ·exact .inl e
    ·exact .inr (by simp[h])
   ·intro l1 j l2 hjl o' ho' e GZ hb
    cases l1 with
    |nil=>
     simp only[List.singleton_append,List.nil_append,List.cons.injEq] at hjl
     obtain⟨rfl,_⟩:=hjl
     rw[ho] at ho'
     cases ho'
     exact .inl (he e GZ hb)
    |cons a l1=>
     simp only[List.singleton_append,List.cons_append,List.cons.injEq] at hjl
     obtain⟨rfl,hjl⟩:=hjl
     rcases hrec.ord l1 j l2 hjl o' ho' e GZ hb with h|h
     ·rcases List.mem_cons.1 h with e'|e'
      ·exact .inr (by simp[e'])
      ·exact .inl e'
     ·exact .inr (by simp[h])
theorem adO (ops:Array Oper) (mG:mo ops.toList=true) (t:Nat):uN .any ops [] (Region.linearise .any ops t):=by
 refine go_ok ops mG ops.size t _ [] (by simp) (fun i hi=> ?_) ?_
 ·simp[hi]
 ·have:=List.countP_le_length (p:=fun i=>decide (i∉([]:List Nat))) (l:=List.range ops.size)
  simpa using this
theorem adP {mixed:Bool} (hm:mixed=true) (ops:Array Oper) (mG:mo ops.toList=true) (t:Nat):∃md,uN md ops [] (Region.schedule mixed ops t):=by
 unfold Region.schedule
 rw[hm,Bool.true_or,if_pos rfl]
 exact⟨_,adO _ mG _⟩
theorem adQ {e:Edge} (md:Region.Mode) (h:Region.binds .any e=true):Region.binds md e=true:=by
 unfold Region.binds at h⊢
 split at h
 ·simp at h
 ·simp at h
 ·rfl
end Aq
end
section
namespace Aq
open Go
section
variable {E:Env} {S:iK} {fr fr':Fr} {σ σ':ah}
theorem Key.eq_iff {a b:Key}:a.eq b=true↔a=b:=by
 cases a<;>cases b<;>simp[Key.eq,nZ]
 rename_i x y
 obtain⟨x1,x2⟩:=x
 obtain⟨y1,y2⟩:=y
 simp
 exact⟨fun h=>⟨h.2,h.1⟩,fun h=>⟨h.2,h.1⟩⟩
theorem Vk {f g:bP} (h:clash f g=false) (k:Key):¬(f.W k∧g.T k):=by
 rintro⟨hw,ht⟩
 simp only[clash,Bool.or_eq_false_iff,List.any_eq_false] at h
 obtain⟨h1,h2⟩:=h
 have hkw:k∈f.w:=by
  rcases hw with h| ⟨h,hs⟩
  ·exact h
  ·rw[h,Bool.true_and] at h1
   simp only[Bool.or_eq_false_iff,List.any_eq_false] at h1
   obtain⟨⟨⟨a1,a2⟩,a3⟩,a4⟩:=h1
   rcases ht with e|e|e| ⟨e,_⟩
   ·subst e;cases hs
   ·exact absurd hs (a3 k e)
   ·exact absurd hs (a4 k e)
   ·rcases e with e|e
    ·rw[a1] at e;cases e
    ·rw[a2] at e;cases e
 have h3:=h2 k hkw
 simp only[Bool.or_eq_true,List.any_eq_true,Bool.and_eq_true,not_or,not_exists,not_and] at h3
 obtain⟨⟨⟨h4,h5⟩,h6⟩,h7⟩:=h3
 rcases ht with h|h|h| ⟨h,hs⟩
 ·exact h4 (Key.eq_iff.2 h)
 ·exact h5 k h (Key.eq_iff.2 rfl)
 ·exact h6 k h (Key.eq_iff.2 rfl)
 ·rcases h with h|h
  ·exact h7 (.inl h) hs
  ·exact h7 (.inr h) hs
theorem adS {st:Nat} {o:Oper} {v:V} (hop:opC E S fr σ st o=some (v,fr',σ')):fr'=fr:=by
 unfold opC at hop
 split at hop
 ·split at hop
  ·simp only[Option.map_eq_some_iff,Prod.mk.injEq] at hop
   obtain⟨_,_,_,rfl,_⟩:=hop;rfl
  ·split at hop
   ·simp only[Option.map_eq_some_iff,Prod.mk.injEq] at hop
    obtain⟨_,_,_,rfl,_⟩:=hop;rfl
   ·simp only[Option.map_eq_some_iff,Prod.mk.injEq] at hop
    obtain⟨_,_,_,rfl,_⟩:=hop;rfl
  ·simp at hop
 ·simp at hop
 ·simp only[Option.map_eq_some_iff,Prod.mk.injEq] at hop
  obtain⟨_,_,_,rfl,_⟩:=hop;rfl
def drop2 (r:Option (V×Fr×ah)):Option (V×ah):=r.map fun (v,_,σ)=>(v,σ)
theorem adT {r:Option (V×Fr×ah)} {v:V} (h:drop2 r=some (v,σ)):∃fr,r=some (v,fr,σ):=by
 simp only[drop2,Option.map_eq_some_iff,Prod.mk.injEq] at h
 obtain⟨⟨v',fr',σ'⟩,h1,rfl,rfl⟩:=h
 exact⟨fr',h1⟩
theorem Ns (r:Option (V×ah)) (fr:Fr):drop2 (r.map fun (v,σ)=>(v,fr,σ))=r:=by
 cases r<;>rfl
theorem adU {st:Nat} {o:Oper} (hw:(gD E fr o).mh=false) (pG:(gD E fr o).qo=true→σ'=σ) (h:∀k,k∈(gD E fr o).t∨k∈(gD E fr o).w→fG σ σ' k):
 Local (fun k=>k∈(gD E fr o).w) σ σ' (drop2 (opC E S fr σ st o)) (drop2 (opC E S fr σ' st o)):=by
 by_cases hc:∃c,o.op= .call c
 ·obtain⟨c,ho⟩:=hc
  unfold opC
  simp only[ho]
  cases eU:c.callee with
  |builtin b=>
   simp only[Ns]
   simp only[gD,ho,eU] at h hw pG
   simp only[gD,ho,eU]
   have hargs:∀(t:List Key),(∀k,k∈(c.args.toList.flatMap fun x=>fT (fr.ev E x))∨k∈t→fG σ σ' k)→∀x∈c.args.toList.map (fr.ev E),∀q∈fT x,fG σ σ' q:=by
    intro t ht x hx q hq
    obtain⟨y,hy,rfl⟩:=List.mem_map.1 hx
    exact ht q (.inl (List.mem_flatMap.2 ⟨y,hy,hq⟩))
   cases b<;>simp only[dV,reduceCtorEq,Bool.true_eq_false] at hw
   case len=>exact(GX (.inl rfl) (hargs [] h)).local
   case cap=>exact(GX (.inr (.inl rfl)) (hargs [] h)).local
   case min=>exact(GX (.inr (.inr (.inl rfl))) (hargs [] h)).local
   case max=>exact(GX (.inr (.inr (.inr rfl))) (hargs [] h)).local
   case append=>
    cases bg:fr.om with
    |true=>rw[bg] at hw;simp at hw
    |false=>
     rw[bg] at h
     simp only[Bool.false_eq_true,if_false] at h⊢
     exact adI (hargs _ h) (h .top (.inr (by simp)))
  |value f=>
   simp only[gD,ho,eU] at h hw pG
   simp only[gD,ho,eU]
   cases dM:jR E fr o f with
   |true=>rw[dM] at hw;simp[dV] at hw
   |false=>
   rw[dM] at h hw pG
   simp only[Bool.false_eq_true,if_false] at h hw pG⊢
   simp only[Ns]
   generalize G5:fr.ev E f=fv at h hw pG⊢
   cases fv with
   |fn g a b=>
    cases g with
    |func g=>
     simp only at h hw pG⊢
     cases hi:E.imp g with
     |true=>rw[hi] at hw;simp[dV] at hw
     |false=>
      rw[hi] at h pG
      simp only[Bool.false_eq_true,if_false] at h pG⊢
      split
      ·rename_i hp
       exact(adM hi hp).local
      ·rename_i hp
       rw[if_neg hp] at pG
       have:=pG rfl
       subst this
       intro v σ1 hr
       have:=adN hi hr
       subst this
       exact⟨σ1,hr,.refl _,.refl _,fun k hk=>.refl _ _,fun k hk=>.refl _ _,fun k hk=>.refl _ _⟩
    |_=>simp[dV] at hw
   |_=>simp[dV] at hw
  |invoke r m=>exact eF
 ·have hc':∀c,o.op≠ .call c:=fun c h=>hc ⟨c,h⟩
  have hd:∀(σ:ah),(∀d,o.op≠ .defer d)→drop2 (opC E S fr σ st o)=aX E fr σ st o:=by
   intro σ hd
   unfold opC
   split
   ·rename_i c hh;exact absurd hh (hc' c)
   ·rename_i c hh;exact absurd hh (hd c)
   ·exact Ns _ _
  by_cases hdf:∃d,o.op= .defer d
  ·obtain⟨d,ho⟩:=hdf
   simp only[gD,ho,dV,Bool.true_eq_false] at hw
  ·have Vl:∀d,o.op≠ .defer d:=fun d h=>hdf ⟨d,h⟩
   rw[hd σ Vl,hd σ' Vl]
   exact adJ hc' hw h
theorem adV {x:V}:Key.nx∉fT x:=by cases x<;>simp[fT]
theorem adW {o:Oper}:Key.nx∉(gD E fr o).w:=by
 have hd:Key.nx∉og fr o:=by unfold og;cases o.dst<;>simp
 unfold gD
 split<;>try simp[lq,kr,dV,hd,adV]
 split<;>try simp[lq,kr,dV]
 all_goals (repeat' split)<;>simp[lq,kr,dV]
theorem adX {ops:List Oper} {o:Oper} {t:Nat} (h:Operand.tmp t∈o.op.operands.toList):Key.slot t∈qp ops o:=by
 refine List.mem_append_left _ (List.mem_filterMap.2 ⟨_,h,rfl⟩)
theorem adY {ops:List Oper} {o:Oper} (h:∀t,Key.slot t∈qp ops o→fr'.tm t=fr.tm t):∀x∈o.op.operands.toList,fr'.ev E x=fr.ev E x:=by
 intro x hx
 cases x with
 |tmp t=>exact h t (adX hx)
 |_=>rfl
theorem adZ {ops:List Oper} {o:Oper} (h:∀t,Key.slot t∈qp ops o→fr'.tm t=fr.tm t):dL ops fr' o=dL ops fr o:=by
 unfold dL
 cases hg:o.guard with
 |none=>rfl
 |some g=>
  obtain⟨j,want⟩:=g
  simp only
  cases hd:(ops[j]?).bind (·.dst) with
  |none=>rfl
  |some t=>
   have:fr'.tm t=fr.tm t:=h t (List.mem_append_right _ (by simp[hg,hd]))
   simp only[this]
theorem wB (fr:Fr) (d:Option Nat) (v:V) (t:Nat):(fr.put d v).tm t=if d=some t then v else fr.tm t:=by
 cases d with
 |none=>simp[Fr.put]
 |some i=>
  show upd fr.tm i v t=_
  by_cases h:t=i
  ·subst h;simp[upd]
  ·have:¬(some i=some t):=fun e=>h (by cases e;rfl)
   simp[upd,h,this]
theorem Cb (fr:Fr) (d:Option Nat) (v:V):(fr.put d v).d=fr.d:=by cases d<;>rfl
theorem Cc (fr:Fr) (d:Option Nat) (v:V):(fr.put d v).om=fr.om:=by cases d<;>rfl
theorem Ce {o:Oper} {t:Nat}:Key.slot t∈ku o↔o.dst=some t:=by
 unfold ku
 cases o.dst with
 |none=>simp
 |some d=>simp only[List.mem_singleton,Key.slot.injEq,Option.some.injEq];exact⟨fun h=>h.symm,fun h=>h.symm⟩
theorem Vm {ops:List Oper} {base i:Nat} {o:Oper} (ho:ops[i]? =some o) {wt:Bool} (hwt:dL ops fr o=some wt) {bQ:Fr} {σ1:ah} (hs:iT E S ops base i fr σ=some (bQ,σ1))
 (x:Fr×ah) (hx:∀k,(eP E ops fr o wt).T k→Ag k (fr,σ) x):
 ∃y:Fr×ah,iT E S ops base i x.1 x.2=some y∧(∀k,(eP E ops fr o wt).W k→Ag k (bQ,σ1) y)∧(∀k,¬(eP E ops fr o wt).W k→Ag k x y)∧
  ∀k,¬(eP E ops fr o wt).W k→Ag k (fr,σ) (bQ,σ1):=by
 obtain⟨fr',σ'⟩:=x
 obtain⟨r1,r2⟩:fr.d=fr'.d∧fr.om=fr'.om:=hx .rest (.inl rfl)
 have hsl:∀t,Key.slot t∈qp ops o→fr'.tm t=fr.tm t:=by
  intro t ht
  refine Eq.symm (hx (.slot t) (.inr (.inl ?_)))
  cases wt
  ·exact ht
  ·exact List.mem_append_left _ ht
 have ad1:dL ops fr' o=some wt:=(adZ hsl).trans hwt
 simp only[iT,ho,hwt,Option.bind_some] at hs
 simp only[iT,ho,ad1,Option.bind_some]
 cases wt with
 |false=>
  simp only[Bool.false_eq_true,if_false,Option.some.injEq,Prod.mk.injEq] at hs⊢
  obtain⟨rfl,rfl⟩:=hs
  have hW:∀k,(eP E ops fr o false).W k↔k∈ku o:=fun k=>by
   refine⟨fun h=> ?_,fun h=>.inl h⟩
   rcases h with h| ⟨h,_⟩
   ·exact h
   ·cases h
  have Vn:∀(f:Fr) (s:ah) k,¬(eP E ops fr o false).W k→Ag k (f,s) (f.put o.dst aC,s):=by
   intro f s k hk
   rw[hW] at hk
   cases k with
   |slot t=>
    show f.tm t=(f.put o.dst aC).tm t
    rw[wB,if_neg (fun e=>hk (Ce.2 e))]
   |obj l=>rfl
   |top=>rfl
   |rest=>exact⟨(Cb _ _ _).symm,(Cc _ _ _).symm⟩
   |nx=>exact⟨rfl,rfl⟩
  refine⟨_,rfl,fun k hk=> ?_,Vn fr' σ',Vn fr σ⟩
  rw[hW] at hk
  cases k with
  |slot t=>
   show (fr.put o.dst aC).tm t=(fr'.put o.dst aC).tm t
   rw[wB,wB,if_pos (Ce.1 hk),if_pos (Ce.1 hk)]
  |obj l=>exfalso;unfold ku at hk;cases hd:o.dst<;>simp[hd] at hk
  |top=>exfalso;unfold ku at hk;cases hd:o.dst<;>simp[hd] at hk
  |rest=>exfalso;unfold ku at hk;cases hd:o.dst<;>simp[hd] at hk
  |nx=>exfalso;unfold ku at hk;cases hd:o.dst<;>simp[hd] at hk
 |true=>
  simp only[if_true,Option.map_eq_some_iff,Prod.mk.injEq] at hs⊢
  obtain⟨⟨v,d9,σ2⟩,hop,rfl,rfl⟩:=hs
  obtain rfl:=adS hop
  have key:∃wC,opC E S fr' σ' (base+i) o=some (v,fr',wC)∧(∀k,(eP E ops d9 o true).W k→Ag k (d9,σ2) (d9,wC))∧
   (∀k,¬(eP E ops d9 o true).W k→Ag k (d9,σ) (d9,σ2)∧Ag k (d9,σ') (d9,wC)):=by
   rw[adB (adY hsl) r1.symm r2.symm]
   have Nt:∀k,(eP E ops d9 o true).T k→fG σ σ' k:=by
    intro k hk
    have:=hx k hk
    cases k with
    |obj l=>exact Eq.symm this
    |top=>exact Eq.symm this
    |slot t=>trivial
    |rest=>trivial
    |nx=>trivial
   cases wD:(gD E d9 o).mh with
   |true=>
    have hst:∀k:Key,k.state=true→fG σ σ' k:=fun k hk=>Nt k (.inr (.inr (.inr ⟨.inr wD,hk⟩)))
    have hσ:σ'=σ:=by
     obtain⟨r3,r4⟩:σ.next=σ'.next∧σ.loops=σ'.loops:=hx .nx (.inr (.inr (.inr ⟨.inr wD,rfl⟩)))
     obtain⟨nx,top,obj,lp⟩:=σ
     obtain⟨nx',top',Ca,Vg⟩:=σ'
     have h1:top'=top:=hst .top rfl
     have h2:Ca=obj:=funext fun l=>hst (.obj l) rfl
     simp only at r3 r4
     subst h1 h2 r3 r4;rfl
    subst hσ
    refine⟨σ2,by rw[hop];rfl,fun k _=>.refl _ _,fun k hk=> ?_⟩
    cases k with
    |slot t=>exact⟨rfl,rfl⟩
    |obj l=>exact absurd (.inr ⟨wD,rfl⟩) hk
    |top=>exact absurd (.inr ⟨wD,rfl⟩) hk
    |rest=>exact⟨⟨rfl,rfl⟩,⟨rfl,rfl⟩⟩
    |nx=>exact absurd (.inr ⟨wD,rfl⟩) hk
   |false=>
    have pG:(gD E d9 o).qo=true→σ'=σ:=by
     intro ht
     have hst:∀k:Key,k.state=true→fG σ σ' k:=fun k hk=>Nt k (.inr (.inr (.inr ⟨.inl ht,hk⟩)))
     obtain⟨r3,r4⟩:σ.next=σ'.next∧σ.loops=σ'.loops:=hx .nx (.inr (.inr (.inr ⟨.inl ht,rfl⟩)))
     obtain⟨nx,top,obj,lp⟩:=σ
     obtain⟨nx',top',Ca,Vg⟩:=σ'
     have h1:top'=top:=hst .top rfl
     have h2:Ca=obj:=funext fun l=>hst (.obj l) rfl
     simp only at r3 r4
     subst h1 h2 r3 r4;rfl
    have hl:=adU (S:=S) (st:=base+i) wD pG (fun k hk=>Nt k (by
     rcases hk with hk|hk
     ·exact .inr (.inl (List.mem_append_right _ hk))
     ·exact .inr (.inr (.inl (List.mem_append_right _ hk)))))
    obtain⟨wC,h1,h2,h3,h4,h5,h6⟩:=hl v σ2 (by rw[hop];rfl)
    obtain⟨fr3,h1'⟩:=adT h1
    have hWw:∀k,(eP E ops d9 o true).W k→k∈ku o∨k∈(gD E d9 o).w:=fun k hk=>by
     rcases hk with h| ⟨h,_⟩
     ·exact List.mem_append.1 h
     ·have:(gD E d9 o).mh=true:=h
      rw[wD] at this;cases this
    have hto:∀{σa σb:ah} {k:Key},fG σa σb k→qz σa σb∨k≠ .nx→Ag k (d9,σa) (d9,σb):=by
     intro σa σb k ha hn
     cases k with
     |slot t=>rfl
     |obj l=>exact Eq.symm ha
     |top=>exact Eq.symm ha
     |rest=>exact⟨rfl,rfl⟩
     |nx=>
      rcases hn with hn|hn
      ·exact⟨hn.1.symm,hn.2.symm⟩
      ·exact absurd rfl hn
    have ad2:Key.nx∉(gD E d9 o).w:=adW
    refine⟨wC,by rw[h1'];rfl,fun k hk=> ?_,fun k hk=> ?_⟩
    ·rcases hWw k hk with h|h
     ·cases k with
      |slot t=>rfl
      |obj l=>exfalso;unfold ku at h;cases hd:o.dst<;>simp[hd] at h
      |top=>exfalso;unfold ku at h;cases hd:o.dst<;>simp[hd] at h
      |rest=>exfalso;unfold ku at h;cases hd:o.dst<;>simp[hd] at h
      |nx=>exfalso;unfold ku at h;cases hd:o.dst<;>simp[hd] at h
     ·exact hto (h4 k h) (.inr (fun e=>ad2 (e▸h)))
    ·have hk':k∉(gD E d9 o).w:=fun h=>hk (.inl (List.mem_append_right _ h))
     exact⟨hto (h5 k hk') (.inl h2),hto (h6 k hk') (.inl h3)⟩
  obtain⟨wC,h1,h2,h3⟩:=key
  refine⟨(fr'.put o.dst v,wC),⟨_,h1,rfl⟩,fun k hk=> ?_,fun k hk=> ?_,fun k hk=> ?_⟩
  ·have hk0:=h2 k hk
   cases k with
   |slot t=>
    show (d9.put o.dst v).tm t=(fr'.put o.dst v).tm t
    rw[wB,wB]
    split
    ·rfl
    ·exact hx (.slot t) (bP.Vh hk)
   |obj l=>exact hk0
   |top=>exact hk0
   |rest=>
    refine⟨?_, ?_⟩
    ·show (d9.put o.dst v).d=(fr'.put o.dst v).d;rw[Cb,Cb];exact r1
    ·show (d9.put o.dst v).om=(fr'.put o.dst v).om;rw[Cc,Cc];exact r2
   |nx=>exact hk0
  ·have hk0:=(h3 k hk).2
   cases k with
   |slot t=>
    show fr'.tm t=(fr'.put o.dst v).tm t
    rw[wB,if_neg (fun e=>hk (.inl (List.mem_append_left _ (Ce.2 e))))]
   |obj l=>exact hk0
   |top=>exact hk0
   |rest=>exact⟨(Cb _ _ _).symm,(Cc _ _ _).symm⟩
   |nx=>exact hk0
  ·have hk0:=(h3 k hk).1
   cases k with
   |slot t=>
    show d9.tm t=(d9.put o.dst v).tm t
    rw[wB,if_neg (fun e=>hk (.inl (List.mem_append_left _ (Ce.2 e))))]
   |obj l=>exact hk0
   |top=>exact hk0
   |rest=>exact⟨(Cb _ _ _).symm,(Cc _ _ _).symm⟩
   |nx=>exact hk0
end
end Aq
end
