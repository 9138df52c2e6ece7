/- Part of the proof of a law. -/
import Derived.Test.YtgdialomgeijcaaGreatF3403
set_option linter.all false
set_option linter.unusedSimpArgs false
set_option linter.unusedSectionVars false
section
namespace Aq
open Go Go.RowKit
section
variable {E:Env} {S:dW} {K K':aF} {T T':Nat→Nat} {w w':World} {σ σ':ah} {B0:Nat}
theorem JD {n:Nat} {x y:V} (hp:aD x=true) (h:aJ n σ x=some y):y=x:=by
 cases n with
 |zero=>simp[aJ] at h
 |succ n=>
  unfold aJ at h
  simp only[hp,if_true,Option.some.injEq] at h
  exact h.symm
theorem Pz {f:V→Option V} {l r:List V} (h:l.mapM f=some r) (g:V→V) (hf:∀i (hi:i<l.length) y,f l[i]=some y→y=g l[i]):r=l.map g:=by
 obtain⟨h1,h2⟩:=mapM_some h
 refine List.ext_getElem (by simp[h1]) (fun i hi hi'=> ?_)
 obtain⟨h3,h4⟩:=h2 i (by omega)
 simp only[List.getElem_map]
 exact hf i (by omega) _ h4
theorem BU {l:List V} (h:aY l=true) {i:Nat} (hi:i<l.length):aD l[i]=true:=by
 have:=nG h i hi
 rwa[fQ hi] at this
theorem PD {n:Nat} {c:Cap} {l:List V} {y:V} (hp:aY l=true) (h:aJ n σ (.aj c l)=some y):y= .aj .sh l:=by
 cases n with
 |zero=>simp[aJ] at h
 |succ n=>
  unfold aJ at h
  split at h
  ·rename_i hc
   simp only[Option.some.injEq] at h
   subst h
   cases c<;>simp only[aD,Bool.false_eq_true] at hc
   rfl
  ·simp only[Option.map_eq_some_iff] at h
   obtain⟨r,hr,rfl⟩:=h
   have:=Pz hr id (fun i hi y hy=>JD (BU hp hi) hy)
   rw[this,List.map_id]
theorem Yv {x:V} (hp:aD x=true):dw x=x:=by
 cases x with
 |aj c l=>cases c<;>simp only[aD,Bool.false_eq_true] at hp;rfl
 |_=>rfl
theorem Yw {n:Nat} {x y:V} (hp:aD (dw x)=true) (h:aJ n σ x=some y):y=dw x:=by
 cases x with
 |aj c l=>exact PD (by simpa [dw,aD] using hp) h
 |_=>exact JD hp h
theorem PE {n:Nat} {x y:V} (hp:aD (er x)=true) (h:aJ n σ x=some y):y=er x:=by
 cases x with
 |aj c l=>exact PD (by simpa [er,aD] using hp) h
 |agg cs=>
  have hp':aY (cs.map dw)=true:=by simpa [er,aD] using hp
  have hpi:∀i (hi:i<cs.length),aD (dw cs[i])=true:=fun i hi=>by
   have:=BU hp' (i:=i) (by simpa using hi)
   simpa using this
  cases n with
  |zero=>simp[aJ] at h
  |succ n=>
   unfold aJ at h
   split at h
   ·rename_i hc
    simp only[Option.some.injEq] at h
    subst h
    have hc':aY cs=true:=by simpa [aD] using hc
    show V.agg cs=V.agg (cs.map dw)
    congr 1
    refine List.ext_getElem (by simp) (fun i hi hi'=> ?_)
    simp only[List.getElem_map]
    exact(Yv (BU hc' hi)).symm
   ·simp only[Option.map_eq_some_iff] at h
    obtain⟨r,hr,rfl⟩:=h
    show V.agg r=V.agg (cs.map dw)
    rw[Pz hr dw (fun i hi y hy=>Yw (hpi i hi) hy)]
 |_=>exact JD hp h
theorem qU {a b:List V} {ca cb:Array Value} (h:RelA K T w a ca) (g:RelA K T w b cb):RelA K T w (a++b) (ca++cb):=by
 obtain⟨h1,h2⟩:=h
 obtain⟨g1,g2⟩:=g
 refine⟨by simp[h1,g1],fun i hi=> ?_⟩
 have hi':i<a.length+b.length:=by simpa using hi
 by_cases hlt:i<a.length
 ·have e1:(a++b).getD i aA=a.getD i aA:=by simp[List.getD,List.getElem?_append_left hlt]
  have e2:(ca++cb).getD i undef=ca.getD i undef:=by
   simp only[Array.getD_eq_getD_getElem?]
   rw[Array.getElem?_append_left (by omega)]
  rw[e1,e2];exact h2 i hlt
 ·have e1:(a++b).getD i aA=b.getD (i-a.length) aA:=by simp[List.getD,List.getElem?_append_right (Nat.le_of_not_lt hlt)]
  have e2:(ca++cb).getD i undef=cb.getD (i-a.length) undef:=by
   simp only[Array.getD_eq_getD_getElem?]
   rw[Array.getElem?_append_right (by omega),←h1]
  rw[e1,e2];exact g2 _ (by omega)
theorem PG {l r:List V} {cl:Array Value} {n:Nat} {K2:aF} {T2:Nat→Nat} (h:RelA K T w l cl) (hm:l.mapM (aJ n σ)=some r)
 (hx:∀x y c,x∈l→Rel K T w x c→aJ n σ x=some y→Rel K2 T2 w y c):RelA K2 T2 w r cl:=by
 obtain⟨h1,h2⟩:=h
 obtain⟨m1,m2⟩:=mapM_some hm
 refine⟨by omega,fun i hi=> ?_⟩
 obtain⟨h3,h4⟩:=m2 i (by omega)
 have:=h2 i (by omega)
 rw[fQ (show i<l.length by omega)] at this
 rw[fQ h3]
 exact hx _ _ _ (List.getElem_mem _) this h4
theorem Yx {b:Bool} {l r:List V} (h:mZ b σ l=some r):l.length=r.length∧∀i (hi:i<l.length),∃(h':i<r.length),(l[i]= .aj .nil []∧r[i]= .aj .nil [])∨aJ 20 σ l[i]=some r[i]:=by
 unfold mZ at h
 split at h
 ·split at h
  ·rename_i l
   obtain⟨l',hm,rfl⟩:=Option.map_eq_some_iff.1 h
   obtain⟨m1,m2⟩:=mapM_some hm
   refine⟨by simp[m1],fun i hi=> ?_⟩
   cases i with
   |zero=>exact⟨by simp,.inl ⟨rfl,rfl⟩⟩
   |succ i=>
    obtain⟨h1,h2⟩:=m2 i (by simpa using hi)
    exact⟨by simpa using h1,.inr (by simpa using h2)⟩
  ·cases h
 ·obtain⟨m1,m2⟩:=mapM_some h
  exact⟨m1,fun i hi=>by obtain⟨h1,h2⟩:=m2 i hi;exact⟨h1,.inr h2⟩⟩
theorem Yy {b:Bool} {l r:List V} {cl:Array Value} {K2:aF} {T2:Nat→Nat} (h:RelA K T w l cl) (hm:mZ b σ l=some r)
 (hx:∀x y c,x∈l→Rel K T w x c→(x= .aj .nil []∧y= .aj .nil [])∨aJ 20 σ x=some y→Rel K2 T2 w y c):RelA K2 T2 w r cl:=by
 obtain⟨h1,h2⟩:=h
 obtain⟨m1,m2⟩:=Yx hm
 refine⟨by omega,fun i hi=> ?_⟩
 obtain⟨h3,h4⟩:=m2 i (by omega)
 have:=h2 i (by omega)
 rw[fQ (show i<l.length by omega)] at this
 rw[fQ h3]
 exact hx _ _ _ (List.getElem_mem _) this h4
theorem PI (hE:fT E) (h:aM E B0 σ K w):E8 E K.I K.IM w:=
 ⟨fun b o hi=>(h.I b o hi).1,fun b hi=>(h.IM b hi).1,fun g cs hg=>(h.glob g cs hg).pure (by simpa [aD] using hE.flat g cs hg) (fun _ _ h=>⟨h,rfl⟩) (fun _ h=>⟨h,rfl⟩)⟩
theorem Yz (hE:fT E) (h:aM E B0 σ K w):E8 E (fun b o=> ∃v,w.cell? (at_ b o)=some v) (fun b=> ∃es aZ,w.heap[b]? =some (.map es aZ)) w:=
 ⟨fun _ _ hi=>hi,fun _ hi=>hi,fun g cs hg=>(h.glob g cs hg).pure (by simpa [aD] using hE.flat g cs hg) (fun b o hi=>⟨(h.I b o hi).1,rfl⟩) (fun b hi=>⟨(h.IM b hi).1,rfl⟩)⟩
theorem PK (hE:fT E) (hS:yZ E S.call) (h:aM E B0 σ K w) (hB:B0≤w.heap.size) (hA:∀s,K.A s→s<σ.next) {d:Nat} {fv:V} {cf:Value} {args:List V} {aU:Array Value} {v:V}
 (hfn:∃f a b,fv= .fn (.func f) a b) (hv:gK E S d σ fv args=some (v,σ')) (rf:Rel K σ.top w fv cf) (ra:RelA K σ.top w args aU):
 σ.next≤σ'.next∧∃f first cap,cf= .func (.func f) first cap∧sV E f∧CallsIn Fence.wide 0 E.P f (first++aU++cap) w (nD E B0 σ K w v σ'):=by
 obtain⟨f,a,b,rfl⟩:=hfn
 unfold gK at hv
 ·dsimp only at hv
  cases rf with
  |fn _ _ _ av bv ha hb tF tH=>
  have tJ:RelA K σ.top w (a++args++b) (av++aU++bv):=qU (qU ⟨ha,tF⟩ ra) ⟨hb,tH⟩
  split at hv
  ·obtain⟨h1,h2,h3⟩:=hS _ _ _ _ _ _ hv
   exact⟨h1,f,av,bv,rfl,h2,h3 none B0 K w _ h hB hA tJ⟩
  ·simp only[Option.bind_eq_some_iff] at hv
   obtain⟨as,has,r,hr,hv⟩:=hv
   split at hv
   ·rename_i hcl
    simp only[Option.some.injEq,Prod.mk.injEq] at hv
    obtain⟨rfl,rfl⟩:=hv
    obtain⟨p1,p2⟩:=wL hE hS hr
    refine⟨Nat.le_refl _,f,av,bv,rfl,p1, ?_⟩
    simp only[Bool.or_eq_true,List.all_eq_true] at hcl
    rcases hcl with hcl|hcl
    ·have BX:RelA (aF.lend K.I K.IM) (fun _=>0) w as (av++aU++bv):=by
      refine PG tJ has (fun x y c hx jl hxy=> ?_)
      have hp:=hcl x hx
      rw[PE hp hxy]
      exact(OU jl).pure hp (fun _ _ h=>⟨h,rfl⟩) (fun _ h=>⟨h,rfl⟩)
     refine(p2 _ _ w _ (PI hE h) BX).mono ?_
     intro e w' hp
     cases e with
     |returned c=>
      obtain⟨hb',hr'⟩:=hp
      have st:=Step.grow (new:=newer σ σ) h hB hb'
      exact⟨_,hr'.BP (fun _ _ h=>⟨h,rfl⟩) (fun _ h=>⟨h,rfl⟩),st.ok,hA,st⟩
     |panicked ch=>exact hp.elim
     |outgrown=>exact hp.elim
    ·have BX:RelA (aF.lend (fun b o=> ∃v,w.cell? (at_ b o)=some v) (fun b=> ∃es aZ,w.heap[b]? =some (.map es aZ))) (fun _=>0) w as (av++aU++bv):=by
      refine PG tJ has (fun x y c hx jl hxy=> ?_)
      exact(Jt (T':=fun _=>0) h 20 x y c jl hxy).BP (fun _ _ h=>⟨h.2,rfl⟩) (fun _ h=>⟨h.2,rfl⟩)
     refine(p2 _ _ w _ (Yz hE h) BX).mono ?_
     intro e w' hp
     cases e with
     |returned c=>
      obtain⟨hb',hr'⟩:=hp
      have st:=Step.grow (new:=newer σ σ) h hB hb'
      exact⟨_,hr'.flat hcl,st.ok,hA,st⟩
     |panicked ch=>exact hp.elim
     |outgrown=>exact hp.elim
   ·simp at hv
theorem YA (h:aM E B0 σ K w) (hB:B0≤w.heap.size) {st:Nat} (hst:¬K.A st) {σ1:ah} {K1:aF} {v0 v:V} {c:Value} (hv:lG σ st σ1 v0=some (v,σ')) (r1:Rel K1 σ1.top w' v0 c) (s1:aM E w.heap.size σ1 K1 w') (hb:Below w.heap.size w w')
 (hI:∀b o,K1.I b o→K.I b o∨w.heap.size≤b) (II:∀b,K1.IM b→K.IM b∨w.heap.size≤b):∃K',Rel K' σ'.top w' v c∧Step E B0 (· =st) σ K w σ' K' w':=by
 have Fb:∀b o,K1.I b o→Aq.grow K.I w.heap.size w' b o:=fun b o hi=>⟨hI b o hi,(s1.I b o hi).1⟩
 have PL:∀b,K1.IM b→pR K.IM w.heap.size w' b:=fun b hi=>⟨II b hi,(s1.IM b hi).1⟩
 unfold lG at hv
 split at hv
 ·rename_i cp l
  split at hv
  ·rename_i hp
   cases cp with
   |nil=>
    cases hv
    refine⟨_, ?_,Step.grow h hB hb⟩
    cases r1 with
    |bY _ a ha hc=>exact .bY .nil a ha trivial
    |aj _ _ b o n cap val hle hn hcell hrel hc=>exact hc.elim
   |full=>
    cases hv
    refine⟨_, ?_,Step.grow h hB hb⟩
    cases r1 with
    |bY _ a ha hc=>exact .bY .full a (fun h=>by cases h) trivial
    |aj _ _ b o n cap val hle hn hcell hrel hc=>
     exact .aj .full l b o n cap val hle hn (fun i j hi hj=>⟨(hcell i j hi hj).1,Fb _ _ (hcell i j hi hj).2⟩)
      (fun i j hi hj=>(hrel i j hi hj).pure (Js (nG hp i hi) (by rw[hn i hi];exact hj)) (fun b o hi=>⟨Fb b o hi,rfl⟩) (fun b hi=>⟨PL b hi,rfl⟩)) hc
   |own n s=>
    dsimp only at hv
    split at hv
    ·rename_i htop
     cases hv
     have hown:K1.A s→K1.lo s<K1.hi s→w.heap.size≤K1.ob s∧∀o,K1.lo s≤o→o<K1.hi s→(∃v,w'.cell? (at_ (K1.ob s) o)=some v)∧w'.frozen? (at_ (K1.ob s) o)=false:=fun ha hl=>by
      obtain⟨a1,a2,a3⟩:=s1.own s ha hl
      exact⟨a1,fun o h1 h2=>(a3 o h1 h2).2⟩
     have hnot:K1.A s→∀b o,K1.I b o→¬(b=K1.ob s∧K1.lo s≤o∧o<K1.hi s):=by
      rintro ha b o hi ⟨rfl,h2,h3⟩
      exact((s1.own s ha (by omega)).2.2 o h2 h3).1 hi
     have hA:K1.A s:=by
      cases r1 with
      |bY _ a ha hc=>exact hc.1
      |aj _ _ b o n' cap val hle hn hcell hrel hc=>exact hc.2.1
     refine⟨_, ?_,Step.jG h hB hst hb (hown hA)⟩
     have t1:(σ.bE st l.length).top st=l.length:=upd_same _ _ _
     have q1:(K.jG w.heap.size w' st (K1.ob s) (K1.lo s) (K1.hi s)).ob st=K1.ob s:=upd_same _ _ _
     have q2:(K.jG w.heap.size w' st (K1.ob s) (K1.lo s) (K1.hi s)).lo st=K1.lo s:=upd_same _ _ _
     have q3:(K.jG w.heap.size w' st (K1.ob s) (K1.lo s) (K1.hi s)).hi st=K1.hi s:=upd_same _ _ _
     cases r1 with
     |bY _ a ha hc=>
      refine .bY _ a (fun h=>by cases h) ⟨.inr rfl,fun _=> ?_⟩
      rw[q2,q3]
      exact hc.2 htop
     |aj _ _ b o n' cap val hle hn hcell hrel hc=>
      refine .aj _ l b o n' cap val hle hn (fun i j hi hj=>⟨(hcell i j hi hj).1,Fb _ _ (hcell i j hi hj).2,hnot hA _ _ (hcell i j hi hj).2⟩)
       (fun i j hi hj=>(hrel i j hi hj).pure (Js (nG hp i hi) (by rw[hn i hi];exact hj)) (fun b o hi=>⟨⟨Fb b o hi,hnot hA b o hi⟩,rfl⟩) (fun b hi=>⟨PL b hi,rfl⟩)) ?_
      refine⟨hc.1,.inr rfl,by rw[t1];exact Nat.le_refl _,fun _=> ?_⟩
      rw[q1,q2,q3]
      exact hc.2.2.2 htop.symm
    ·cases hv
   |sh=>cases hv
  ·cases hv
 ·rename_i loc s off len cap aL ag
  split at hv
  ·rename_i h0
   obtain⟨rfl,rfl⟩:=h0
   obtain⟨cs,hcs,hv⟩:=Option.bind_eq_some_iff.1 hv
   cases hv
   have fin:∀bI:Nat,K1.A s→bI*aL≤K1.sz s→∃K',Rel K' (σ.bE st 0).top w' (.aj (.own aL st) []) (.slice (some (at_ (K1.blk s) 0)) 0 bI)∧Step E B0 (· =st) σ K w (σ.bE st 0) K' w':=by
    intro bI hA hsz
    obtain⟨g1,_,_⟩:=s1.oD hcs
    obtain⟨a1,a2,a3⟩:=s1.obj _ _ _ g1
    refine⟨K.jG w.heap.size w' st (K1.blk s) 0 (bI*aL), ?_,Step.jG h hB hst hb (fun hlt=> ?_)⟩
    ·have t1:(σ.bE st 0).top st=0:=upd_same _ _ _
     refine .aj _ [] (K1.blk s) 0 aL bI (fun _ _=>undef) (Nat.zero_le _) (fun i hi=>absurd hi (Nat.not_lt_zero i)) (fun i j hi=>absurd hi (Nat.not_lt_zero i)) (fun i j hi=>absurd hi (Nat.not_lt_zero i)) ?_
     refine⟨rfl,.inr rfl,Nat.zero_le _,fun _=>⟨upd_same _ _ _, ?_, ?_⟩⟩
     ·show upd K.lo st 0 st=_;rw[upd_same];simp
     ·show upd K.hi st (bI*aL) st=_;rw[upd_same];simp
    ·have hne:cs≠[]:=by
      rintro rfl
      have:=a2.1 rfl
      omega
     obtain⟨b1,vals,t,b2,b3,b4,b5⟩:=a2.2 hne
     refine⟨b1,fun o h1 h2=>⟨⟨vals[o]'(by omega), ?_⟩, ?_⟩⟩
     ·simp[World.cell?,b2]
     ·unfold World.frozen?
      simp only[b2]
      simp
   cases r1 with
   |vw _ _ _ _ _ _ _ bI hA hc hle hsz=>
    exact fin bI hA (by simpa using hsz)
   |iQ _ _ _ _ hA=>
    refine⟨K.jG w.heap.size w' st 0 0 0, ?_,Step.jG h hB hst hb (fun hlt=>absurd hlt (Nat.lt_irrefl _))⟩
    refine .bY _ none (fun h=>by cases h) ⟨.inr rfl,fun _=> ?_⟩
    show upd K.hi st 0 st=upd K.lo st 0 st
    rw[upd_same,upd_same]
  ·cases hv
 ·cases hv
theorem PN {st:Nat} {σ1:ah} {v0 v:V} (hv:lG σ st σ1 v0=some (v,σ')):σ'.next=σ.next:=by
 by_cases hvw:∃loc s off len cap aL ag,v0= .vw loc s off len cap aL ag
 ·obtain⟨loc,s,off,len,cap,aL,ag,rfl⟩:=hvw
  unfold lG at hv
  dsimp only at hv
  split at hv
  ·obtain⟨_,_,hv⟩:=Option.bind_eq_some_iff.1 hv
   cases hv;rfl
  ·cases hv
 cases v0<;>first| (cases hv;done)|exact absurd ⟨_,_,_,_,_,_,_,rfl⟩ hvw|skip
 rename_i cp l
 have hv':(if aY l=true then (match cp with
  |.nil=>some (V.aj .nil l,σ)
  |.full=>some (.aj .full l,σ)
  |.own n s=>if σ1.top s=l.length then some (.aj (.own n st) l,σ.bE st l.length) else none
  |.sh=>none) else none)=some (v,σ'):=hv
 split at hv'
 ·cases cp with
  |nil=>cases hv';rfl
  |full=>cases hv';rfl
  |own n s=>dsimp only at hv';split at hv'<;>cases hv';rfl
  |sh=>cases hv'
 ·cases hv'
theorem YB (hE:fT E) (hS:yZ E S.call) (h:aM E B0 σ K w) (hB:B0≤w.heap.size) {st:Nat} (hst:¬K.A st) {fv:V} {cf:Value} {args:List V} {aU:Array Value} {v:V}
 (hv:lH E S σ st fv args=some (v,σ')) (rf:Rel K σ.top w fv cf) (ra:RelA K σ.top w args aU):
 σ'.next=σ.next∧∃f first cap,cf= .func (.func f) first cap∧sV E f∧CallsIn Fence.wide 0 E.P f (first++aU++cap) w (fun e w'=> ∃c K',e= .returned c∧Rel K' σ'.top w' v c∧Step E B0 (· =st) σ K w σ' K' w'):=by
 unfold lH at hv
 split at hv
 ·rename_i f a b
  split at hv
  ·rename_i hcl
   simp only[Option.bind_eq_some_iff] at hv
   obtain⟨as,has,⟨v0,σ1⟩,hr,hv⟩:=hv
   cases rf with
   |fn _ _ _ av bv ha hb tF tH=>
   have tJ:RelA K σ.top w (a++args++b) (av++aU++bv):=qU (qU ⟨ha,tF⟩ ra) ⟨hb,tH⟩
   obtain⟨_,p1,p2⟩:=hS _ _ _ _ _ _ hr
   have hnext:=PN hv
   refine⟨hnext,f,av,bv,rfl,p1, ?_⟩
   simp only[List.all_eq_true] at hcl
   have BX:RelA (aF.lend K.I K.IM) ah.init.top w as (av++aU++bv):=by
    refine Yy tJ has (fun x y c hx jl hxy=> ?_)
    rcases hxy with ⟨rfl,rfl⟩|hxy
    ·cases jl with
     |bY _ a ha hc=>exact .bY .nil a ha trivial
     |aj _ _ b o n cap val hle hn hcell hrel hc=>exact hc.elim
    have hp:=hcl x hx
    rw[PE hp hxy]
    exact(OU jl).pure hp (fun _ _ h=>⟨h,rfl⟩) (fun _ h=>⟨h,rfl⟩)
   refine(p2 none w.heap.size (aF.lend K.I K.IM) w _ (Ju (PI hE h)) (Nat.le_refl _) (fun s hs=>hs.elim) BX).mono ?_
   intro e w' hp
   cases e with
   |returned c=>
    obtain⟨K1,r1,s1,_,st1⟩:=hp
    obtain⟨K',g1,g2⟩:=YA h hB hst hv r1 s1 st1.below st1.nI st1.nk
    exact⟨c,K',rfl,g1,g2⟩
   |panicked ch=>exact hp.elim
   |outgrown=>exact hp.elim
  ·cases hv
 ·cases hv
theorem y5 (hE:fT E) {f:FuncId} (hb:sV E f) (args:Array Value) (w:World):(callFunc f args).run E.P w= .ok (.enter f args) w:=by
 obtain⟨fn,c,hf,hc⟩:=hb
 have hn:=hE.name f fn hf
 simp[callFunc,hf,hc,hn]
theorem JE (hE:fT E) (hS:Sound E S) {fr fr':Fr} {a:Act} {n:Nat} {ds:pQ} (hs:St E B0 σ K w fr a n ds) {st:Nat} (hst:¬K.A st) {o:Oper} {v:V}
 (hop:opC E S fr σ st o=some (v,fr',σ')):fr'=fr∧σ.next≤σ'.next∧(∀next Q ro,(∀c w' K',Rel K' σ'.top w' v c→Step E B0 (fun s=>s=st∨newer σ σ' s) σ K w σ' K' w'→next (a.put o.dst c) w')→
   o.wpIn (FW ro) 0 E.P a w next Q):=by
 have hdone:∀{v σ'},nA E B0 (· =st) σ K w (execOp a.eval o) v σ'→(∀c,o.op≠ .defer c)→∀next Q ro,(∀c w' K',Rel K' σ'.top w' v c→Step E B0 (fun s=>s=st∨newer σ σ' s) σ K w σ' K' w'→next (a.put o.dst c) w')→
  o.wpIn (FW ro) 0 E.P a w next Q:=fun hd ho next Q ro hn=>Ye ho hd (fun c w' K' hr hst=>hn c w' K' hr (hst.mono (fun _ h=>.inl h)))
 unfold opC at hop
 split at hop
 ·rename_i c hc
  have hnd:∀d,o.op≠ .defer d:=fun d hd=>by rw[hc] at hd;cases hd
  split at hop
  ·rename_i b hb
   simp only[Option.map_eq_some_iff,Prod.mk.injEq] at hop
   obtain⟨⟨v1,σ1⟩,hv,rfl,rfl,rfl⟩:=hop
   have hsame:=Pq hv
   refine⟨rfl,by rw[hsame.1];exact Nat.le_refl _,hdone ?_ hnd⟩
   have hargs:=uR hs.ok hs.fr c.args
   have hex:execOp a.eval o=builtin b c.argTypes o.type (c.args.map fun|.const _=>true|_=>false) (c.args.map a.eval):=by
    unfold execOp
    simp only[hc]
    unfold resolve
    simp only[hb]
    rfl
   rw[hex]
   exact X0 hs.ok hs.hB hst hargs hv
  ·rename_i f hf
   split at hop
   ·simp only[Option.map_eq_some_iff,Prod.mk.injEq] at hop
    obtain⟨⟨v1,σ1⟩,hv,rfl,rfl,rfl⟩:=hop
    obtain⟨hn1,g,first,cap,hcf,hbody,hcall⟩:=YB hE hS.call hs.ok hs.hB hst hv (nu hs.ok hs.fr f) (uR hs.ok hs.fr c.args)
    refine⟨rfl,by rw[hn1];exact Nat.le_refl _,fun next Q ro hn=>⟨fun _ _=>trivial, ?_⟩⟩
    rw[BO _ _ hnd]
    have hex:(execOp a.eval o).run E.P w= .ok (.enter g (first++c.args.map a.eval++cap)) w:=by
     unfold execOp
     simp only[hc]
     unfold resolve
     simp only[hf,hcf,Deferred.ofValue,Sem.run_bind,Sem.run_pure,Result.andThen_ok,invoke]
     exact y5 hE hbody _ _
    rw[hex,Oper.uponIn_enter]
    refine⟨fun hd=>by simp[FW,Fence.wide] at hd, ?_⟩
    have h2:CallsIn (FW ro) (0-1) E.P g (first++c.args.map a.eval++cap) w (fun e w'=> ∃c K',e= .returned c∧Rel K' σ1.top w' v1 c∧Step E B0 (· =st) σ K w σ1 K' w'):=hcall
    refine h2.mono ?_
    intro e w' hp
    obtain⟨cv,K',rfl,r1,st1⟩:=hp
    exact hn cv w' K' r1 (st1.mono (fun _ h=>.inl h))
   simp only[Option.map_eq_some_iff,Prod.mk.injEq] at hop
   obtain⟨⟨v1,σ1⟩,hv,rfl,rfl,rfl⟩:=hop
   have hcases:(∃g a b,fr.ev E f= .fn (.func g) a b)∨∃l,fr.ev E f= .fn (.yield l) [] []:=by
    unfold gK at hv
    split at hv
    ·rename_i g a b he;exact .inl ⟨g,a,b,he⟩
    ·rename_i l he;exact .inr ⟨l,he⟩
    ·simp at hv
   rcases hcases with hfn| ⟨l,hy⟩
   rotate_left
   ·have hv':pI S l (c.args.toList.map (fr.ev E)) σ=some (v1,σ1):=by rw[hy] at hv;exact hv
    obtain⟨hn1,fn,tmps,bB,body,wM,JF⟩:=Yn hS.code hs.ok hs.hB hs.st hv' (uR hs.ok hs.fr c.args)
    have hcf:a.eval f= .func (.yield (K.lp l)) #[] #[]:=by
     have:=nu hs.ok hs.fr f
     rw[hy] at this
     generalize a.eval f=cf at this
     cases this;rfl
    refine⟨rfl,hn1,fun next Q ro hn=>⟨fun _ _=>trivial, ?_⟩⟩
    rw[BO _ _ hnd]
    have hex:(execOp a.eval o).run E.P w= .ok (.round (K.lp l) fn tmps bB body) w:=by
     unfold execOp
     simp only[hc]
     unfold resolve
     simp only[hf,hcf,Deferred.ofValue,Sem.run_bind,Sem.run_pure,Result.andThen_ok,invoke]
     simpa using wM
    rw[hex,Oper.uponIn_round]
    refine⟨fun hd=>by simp[FW,Fence.wide] at hd, ?_⟩
    have h2:RoundIn (FW ro) (0-1) E.P (K.lp l) fn tmps bB body w (nD E B0 σ K w v1 σ1):=JF
    refine h2.mono ?_
    intro e w' hp
    cases e with
    |returned cv=>
     obtain⟨K',r1,_,_,st1⟩:=hp
     exact hn cv w' K' r1 (st1.mono (fun _ h=>.inr h))
    |panicked ch=>exact hp.elim
    |outgrown=>exact hp.elim
   obtain⟨hn1,g,first,cap,hcf,hbody,hcall⟩:=PK hE hS.call hs.ok hs.hB hs.st hfn hv (nu hs.ok hs.fr f) (uR hs.ok hs.fr c.args)
   refine⟨rfl,hn1,fun next Q ro hn=>⟨fun _ _=>trivial, ?_⟩⟩
   rw[BO _ _ hnd]
   have hex:(execOp a.eval o).run E.P w= .ok (.enter g (first++c.args.map a.eval++cap)) w:=by
    unfold execOp
    simp only[hc]
    unfold resolve
    simp only[hf,hcf,Deferred.ofValue,Sem.run_bind,Sem.run_pure,Result.andThen_ok,invoke]
    exact y5 hE hbody _ _
   rw[hex,Oper.uponIn_enter]
   refine⟨fun hd=>by simp[FW,Fence.wide] at hd, ?_⟩
   have h2:CallsIn (FW ro) (0-1) E.P g (first++c.args.map a.eval++cap) w (nD E B0 σ K w v1 σ1):=hcall
   refine h2.mono ?_
   intro e w' hp
   cases e with
   |returned cv=>
    obtain⟨K',r1,_,_,st1⟩:=hp
    exact hn cv w' K' r1 (st1.mono (fun _ h=>.inr h))
   |panicked ch=>exact hp.elim
   |outgrown=>exact hp.elim
  ·simp at hop
 ·simp at hop
 ·rename_i hnc hnd
  simp only[Option.map_eq_some_iff,Prod.mk.injEq] at hop
  obtain⟨⟨v1,σ1⟩,hv,rfl,rfl,rfl⟩:=hop
  have hsame:=Pt hv
  exact⟨rfl,by rw[hsame.1];exact Nat.le_refl _,hdone (XZ hs.ok hs.hB hs.fr hst hv) hnd⟩
end
end Aq
end
section
namespace Aq
open Go Go.RowKit
section
variable (E:Env) (S:dW)
def opsL (ops:List Oper) (base:Nat):List Nat→Fr→ah→Option (Fr×ah)
 | [],fr,σ=>some (fr,σ)
 |i::l,fr,σ=>(gL E S ops base i fr σ).bind fun (fr,σ)=>opsL ops base l fr σ
theorem YC (all:List Oper) (base:Nat):∀(os:List Oper) (k:Nat) (fr:Fr) (σ:ah),(∀j,os[j]? =all[k+j]?)→
 opsE E S all (base+k) os fr σ=opsL E S all base (List.range' k os.length) fr σ:=by
 intro os
 induction os with
 |nil=>intro k fr σ _;rfl
 |cons o os ih=>
  intro k fr σ h
  have h0:all[k]? =some o:=by simpa using (h 0).symm
  have ih':=fun fr σ=>ih (k+1) fr σ (fun j=>by have:=h (j+1);simpa [Nat.add_assoc,Nat.add_comm 1 j] using this)
  simp only[List.length_cons,List.range'_succ,opsL,gL,h0,opsE]
  cases hwt:bS all fr o with
  |none=>rfl
  |some t=>
  simp only[Option.bind_some]
  split
  ·cases hop:opC E S fr σ (base+k) o with
   |none=>rfl
   |some r=>
    obtain⟨v,aP,σ1⟩:=r
    exact ih' _ _
  ·exact ih' _ _
theorem YD (ops:Array Oper) (base:Nat) (fr:Fr) (σ:ah):opsE E S ops.toList base ops.toList fr σ=opsL E S ops.toList base (List.range ops.size) fr σ:=by
 have:=YC E S ops.toList base ops.toList 0 fr σ (fun j=>by simp)
 rw[Nat.add_zero] at this
 rw[this,List.range_eq_range',Array.length_toList]
end
section
variable {E:Env} {S:dW} {K K':aF} {w w':World} {σ σ':ah} {B0:Nat} {fr fr':Fr} {a:Act} {n:Nat} {ds:pQ}
theorem y7 (hf:fG K σ.top w fr a.tmps) (ops:Array Oper) (o:Oper) (hsz:oC a.tmps.size ops.toList=true) {t:Bool} (hv:bS ops.toList fr o=some t):
 Region.wanted o (yielded ops a.tmps)=t:=by
 unfold Region.wanted
 unfold bS at hv
 cases hg:o.guard with
 |none=>rw[hg] at hv;exact Option.some.inj hv
 |some g=>
  obtain⟨j,want⟩:=g
  rw[hg] at hv
  simp only at hv⊢
  cases hd:(ops.toList[j]?).bind (·.dst) with
  |none=>
   have hd':(ops[j]?).bind (·.dst)=none:=by simpa using hd
   simp only[hd,Option.some.injEq] at hv
   simp only[yielded,hd',←hv]
   rfl
  |some t=>
   have hd':(ops[j]?).bind (·.dst)=some t:=by simpa using hd
   have ht:t<a.tmps.size:=by
    cases ho:ops[j]? with
    |none=>simp[ho] at hd'
    |some o'=>
     have hm:o'∈ops.toList:=by simpa using Array.mem_of_getElem? ho
     simp only[oC,List.all_eq_true] at hsz
     have h1:=hsz o' hm
     have h2:o'.dst=some t:=by simpa [ho] using hd'
     rw[h2] at h1
     simpa using h1
   have hr:=hf t
   have hget:a.tmps[t]? =some (a.tmps.getD t undef):=by simp[Array.getD,ht]
   simp only[hd] at hv
   simp only[yielded,hd',Option.bind_some,hget]
   generalize a.tmps.getD t undef=c at hr
   generalize fr.tm t=x at hr hv
   cases hr<;>simp only[Option.some.injEq,reduceCtorEq] at hv<;>first|exact hv| (rw[←hv];rfl)
theorem wO (h:aM E B0 σ K w) (k:Nat):aM E B0 {σ with next:=k} K w:=⟨h.obj,h.own,h.I,h.IM,h.loop,h.glob,h.rb,h.D⟩
theorem YE (hS:Sound E S) {st:Nat} {o:Oper} {v:V} (hop:opC E S fr σ st o=some (v,fr',σ')):fr'=fr∧σ.next≤σ'.next:=by
 unfold opC at hop
 split at hop
 ·split at hop
  ·simp only[Option.map_eq_some_iff,Prod.mk.injEq] at hop
   obtain⟨⟨v1,σ1⟩,hv,rfl,rfl,rfl⟩:=hop
   exact⟨rfl,by rw[(Pq hv).1];exact Nat.le_refl _⟩
  ·split at hop
   ·simp only[Option.map_eq_some_iff,Prod.mk.injEq] at hop
    obtain⟨⟨v1,σ1⟩,hv,rfl,rfl,rfl⟩:=hop
    refine⟨rfl, ?_⟩
    unfold lH at hv
    split at hv
    ·split at hv
     ·simp only[Option.bind_eq_some_iff] at hv
      obtain⟨_,_,_,_,hv⟩:=hv
      rw[PN hv];exact Nat.le_refl _
     ·cases hv
    ·cases hv
   simp only[Option.map_eq_some_iff,Prod.mk.injEq] at hop
   obtain⟨⟨v1,σ1⟩,hv,rfl,rfl,rfl⟩:=hop
   refine⟨rfl, ?_⟩
   unfold gK at hv
   split at hv
   ·split at hv
    ·exact(hS.call _ _ _ _ _ _ hv).1
    ·simp only[Option.bind_eq_some_iff] at hv
     obtain⟨_,_,_,_,hv⟩:=hv
     split at hv
     ·simp only[Option.some.injEq,Prod.mk.injEq] at hv
      rw[hv.2];exact Nat.le_refl _
     ·simp at hv
   ·exact Yu hS.code hv
   ·simp at hv
  ·simp at hop
 ·simp at hop
 ·simp only[Option.map_eq_some_iff,Prod.mk.injEq] at hop
  obtain⟨⟨v1,σ1⟩,hv,rfl,rfl,rfl⟩:=hop
  exact⟨rfl,by rw[(Pt hv).1];exact Nat.le_refl _⟩
theorem uU (hS:Sound E S) (ops:List Oper) (base:Nat):∀(l:List Nat) (fr:Fr) (σ:ah),opsL E S ops base l fr σ=some (fr',σ')→σ.next≤σ'.next:=by
 intro l
 induction l with
 |nil=>
  intro fr σ h
  simp only[opsL,Option.some.injEq,Prod.mk.injEq] at h
  rw[h.2];exact Nat.le_refl _
 |cons i l ih=>
  intro fr σ h
  simp only[opsL,Option.bind_eq_some_iff] at h
  obtain⟨⟨aP,σ1⟩,hs,h⟩:=h
  refine Nat.le_trans ?_ (ih _ _ h)
  unfold gL at hs
  split at hs
  ·simp only[Option.some.injEq,Prod.mk.injEq] at hs;rw[hs.2];exact Nat.le_refl _
  ·simp only[Option.bind_eq_some_iff] at hs
   obtain⟨t,_,hs⟩:=hs
   split at hs
   ·simp only[Option.map_eq_some_iff,Prod.mk.injEq] at hs
    obtain⟨⟨v,bZ,σ2⟩,hop,rfl,rfl⟩:=hs
    exact(YE hS hop).2
   ·simp only[Option.some.injEq,Prod.mk.injEq] at hs;rw[hs.2];exact Nat.le_refl _
theorem JG (hE:fT E) (hS:Sound E S) (ops:Array Oper) (base:Nat) (hops:oC n ops.toList=true) (ro:Option Nat) (Q:Exit→Act→World→Prop):
 ∀(l:List Nat) (fr:Fr) (σ:ah) (K:aF) (w:World) (a:Act),opsL E S ops.toList base l fr σ=some (fr',σ')→l.Nodup→(∀i∈l,i<ops.size)→St E B0 σ K w fr a n ds→base+ops.size≤σ.next→(∀i∈l,¬K.A (base+i))→
  (∀a' K' w',St E B0 σ' K' w' fr' a' n ds→Step E B0 (fun s=>(base≤s∧s<base+ops.size)∨newer σ σ' s) σ K w σ' K' w'→Q .normal a' w')→wpOpsIn (FW ro) 0 E.P ops Q l a w:=by
 intro l
 induction l with
 |nil=>
  intro fr σ K w a hl _ _ hs _ _ hq
  simp only[opsL,Option.some.injEq,Prod.mk.injEq] at hl
  obtain⟨rfl,rfl⟩:=hl
  exact hq a K w hs (.refl hs.ok)
 |cons i l ih=>
  intro fr σ K w a hl hnd hlt hs hbase pU hq
  simp only[opsL,Option.bind_eq_some_iff] at hl
  obtain⟨⟨aP,σ1⟩,hstep,hl⟩:=hl
  have hil:i∉l:=(List.nodup_cons.1 hnd).1
  have hi:i<ops.size:=hlt i (by simp)
  have hoi:ops[i]? =some ops[i]:=by simp[hi]
  have wP:ops.toList[i]? =some ops[i]:=by simpa using hoi
  simp only[gL,wP,Option.bind_eq_some_iff] at hstep
  obtain⟨t,hwv,hstep⟩:=hstep
  have hw:=y7 hs.fr ops ops[i] (by rw[hs.sz];exact hops) hwv
  have hdst:∀t,ops[i].dst=some t→t<n:=by
   intro t ht
   simp only[oC,List.all_eq_true] at hops
   have:=hops ops[i] (by simp)
   rw[ht] at this
   simpa using this
  unfold wpOpsIn
  simp only[hoi,hw]
  split at hstep
  ·rename_i hwt
   simp only[Option.map_eq_some_iff,Prod.mk.injEq] at hstep
   obtain⟨⟨v,bZ,σ2⟩,hop,rfl,rfl⟩:=hstep
   obtain⟨rfl,hnx,hwp⟩:=JE hE hS hs (pU i (by simp)) hop
   dsimp only at hl
   simp only[hwt,if_true]
   have hA1:∀{K1:aF} {w1:World},Step E B0 (fun s=>s=base+i∨newer σ σ2 s) σ K w σ2 K1 w1→(∀s,K1.A s→s<σ2.next)∧∀j∈l,¬K1.A (base+j):=by
    intro K1 w1 st
    refine⟨fun s hsA=> ?_,fun j hj BZ=> ?_⟩
    ·rcases st.A s hsA with h1|h1|h1
     ·have:=hs.st s h1;omega
     ·omega
     ·exact h1.2
    ·have hji:j≠i:=fun e=>hil (e▸hj)
     rcases st.A _ BZ with h1|h1|h1
     ·exact pU j (by simp[hj]) h1
     ·omega
     ·have:=hlt j (by simp[hj])
      have:=h1.1
      omega
   refine hwp _ _ ro (fun c w1 K1 hr st=> ?_)
   ·obtain⟨hA2,hA3⟩:=hA1 st
    have hs1:St E B0 σ2 K1 w1 (bZ.put ops[i].dst v) (a.put ops[i].dst c) n ds:=hs.put st hr hdst hA2
    refine(ih _ _ K1 w1 _ hl (List.nodup_cons.1 hnd).2 (fun j hj=>hlt j (by simp[hj])) hs1 (by omega) hA3) (fun a' K' w' hs' st'=>hq a' K' w' hs' ?_)
    refine(st.mono ?_).trans (st'.mono ?_)
    ·intro s h1
     rcases h1 with h1|h1
     ·exact .inl ⟨by omega,by omega⟩
     ·exact .inr ⟨h1.1,Nat.lt_of_lt_of_le h1.2 (uU hS _ _ _ _ _ hl)⟩
    ·intro s h1
     rcases h1 with h1|h1
     ·exact .inl h1
     ·exact .inr ⟨Nat.le_trans hnx h1.1,h1.2⟩
  ·rename_i hwt
   simp only[Option.some.injEq,Prod.mk.injEq] at hstep
   obtain⟨rfl,rfl⟩:=hstep
   have hs1:St E B0 σ K w (fr.put ops[i].dst aA) (a.put ops[i].dst undef) n ds:=hs.put (new:=fun _=>False) (.refl hs.ok) (.undef _ _ _) hdst hs.st
   have:=ih _ _ K w _ hl (List.nodup_cons.1 hnd).2 (fun j hj=>hlt j (by simp[hj])) hs1 hbase (fun j hj=>pU j (by simp[hj]))
   simp only[hwt]
   exact⟨fun _ _=>trivial,this hq⟩
end
end Aq
end
section
namespace Aq
open Go
section
variable {X Key:Type}
def Ca (step:Nat→X→Option X):List Nat→X→Option X
 | [],x=>some x
 |i::l,x=>(step i x).bind (Ca step l)
theorem PO (n:Nat) (step:Nat→X→Option X) (Ag:Key→X→X→Prop) (hrefl:∀k x,Ag k x x) (JH:∀k x y z,Ag k x y→Ag k y z→Ag k x z)
 (s:Nat→X) (T W:Nat→Key→Prop) (Cb:∀i k,W i k→T i k)
 (hloc:∀i,i<n→∀x,(∀k,T i k→Ag k (s i) x)→∃y,step i x=some y∧(∀k,W i k→Ag k (s (i+1)) y)∧(∀k,¬W i k→Ag k x y))
 (hself:∀i,i<n→∀k,¬W i k→Ag k (s i) (s (i+1)))
 (pre:Nat→Nat→Prop) (hap:∀i j,i<n→j<i→pre j i∨((∀k,¬(W i k∧T j k))∧∀k,¬(W j k∧T i k)))
 (YF:∀k x y,Ag k x y→Ag k y x):
 ∀(l done:List Nat) (x:X),l.Nodup→(∀i∈l,i<n∧i∉done)→(∀i,i<n→i∈done∨i∈l)→
  (∀l1 i l2,l=l1++i::l2→∀j,pre j i→j∈done∨j∈l1)→(∀i∈done,∀j,pre j i→j∈done)→
  (∀k m,m≤n→(∀j,j<n→W j k→(j∈done↔j<m))→Ag k (s m) x)→∃y,Ca step l x=some y∧∀k,Ag k (s n) y:=by
 have YG:∀k a b,a≤b→b≤n→(∀j,a≤j→j<b→¬W j k)→Ag k (s a) (s b):=by
  intro k a b hab hbn hw
  induction b with
  |zero=>obtain rfl:a=0:=by omega
         exact hrefl _ _
  |succ b ih=>
   by_cases e:a=b+1
   ·subst e;exact hrefl _ _
   ·exact JH _ _ _ _ (ih (by omega) (by omega) (fun j h1 h2=>hw j h1 (by omega))) (hself b (by omega) k (hw b (by omega) (by omega)))
 intro l
 induction l with
 |nil=>
  intro done x _ _ hall _ _ hinv
  exact⟨x,rfl,fun k=>hinv k n (Nat.le_refl _) (fun j hj _=>⟨fun _=>hj,fun _=>by rcases hall j hj with h|h;exact h;cases h⟩)⟩
 |cons i l ih=>
  intro done x hnd hmem hall Fe hclosed hinv
  obtain⟨hin,JI⟩:=hmem i (by simp)
  have hil:i∉l:=(List.nodup_cons.1 hnd).1
  have hpre:∀j,pre j i→j∈done:=fun j hj=>by
   rcases Fe [] i l rfl j hj with h|h
   ·exact h
   ·cases h
  have YH:∀k,T i k→Ag k (s i) x:=by
   intro k hk
   refine hinv k i (by omega) (fun j hj hw=>⟨fun hjd=> ?_,fun hji=> ?_⟩)
   ·rcases Nat.lt_trichotomy j i with h|h|h
    ·exact h
    ·subst h;exact absurd hjd JI
    ·rcases hap j i hj h with hp| ⟨h1,_⟩
     ·exact absurd (hclosed j hjd i hp) JI
     ·exact absurd ⟨hw,hk⟩ (h1 k)
   ·rcases hap i j hin hji with hp| ⟨_,h2⟩
    ·exact hpre j hp
    ·exact absurd ⟨hw,hk⟩ (h2 k)
  obtain⟨y,hy,YI,hyn⟩:=hloc i hin x YH
  have YJ:∀k m,m≤n→(∀j,j<n→W j k→(j∈i::done↔j<m))→Ag k (s m) y:=by
   intro k m hm hj
   by_cases hw:W i k
   ·have him:i<m:=(hj i hin hw).1 (by simp)
    have h1:Ag k (s (i+1)) (s m):=by
     refine YG k (i+1) m him hm (fun j h1 h2 Cc=> ?_)
     have hjd:j∈done:=by
      have:=(hj j (by omega) Cc).2 h2
      rcases List.mem_cons.1 this with e|e
      ·omega
      ·exact e
     rcases hap j i (by omega) (by omega) with hp| ⟨h3,_⟩
     ·exact absurd (hclosed j hjd i hp) JI
     ·exact h3 k ⟨Cc,Cb i k hw⟩
    exact JH _ _ _ _ (YF _ _ _ h1) (YI k hw)
   ·refine JH _ _ _ _ (hinv k m hm (fun j hjn Cc=> ?_)) (hyn k hw)
    have hji:j≠i:=fun e=>hw (e▸Cc)
    rw[←hj j hjn Cc]
    simp[hji]
  obtain⟨z,hz,hzn⟩:=ih (i::done) y (List.nodup_cons.1 hnd).2
   (fun j hj=>⟨(hmem j (by simp[hj])).1,fun h=>by
     rcases List.mem_cons.1 h with e|e
     ·exact hil (e▸hj)
     ·exact(hmem j (by simp[hj])).2 e⟩)
   (fun j hj=>by
     rcases hall j hj with h|h
     ·exact .inl (by simp[h])
     ·rcases List.mem_cons.1 h with e|e
      ·exact .inl (by simp[e])
      ·exact .inr e)
   (fun l1 j l2 hl k hk=>by
     rcases Fe (i::l1) j l2 (by rw[hl];rfl) k hk with h|h
     ·exact .inl (by simp[h])
     ·rcases List.mem_cons.1 h with e|e
      ·exact .inl (by simp[e])
      ·exact .inr e)
   (fun j hj k hk=>by
     rcases List.mem_cons.1 hj with e|e
     ·subst e;simp[hpre k hk]
     ·simp[hclosed j e k hk])
   YJ
  exact⟨z,by simp[Ca,hy,hz],hzn⟩
end
end Aq
end
section
namespace Aq
open Go
section
variable {E:Env} {S:dW} {fr fr':Fr} {σ σ':ah}
theorem YK {st:Nat} {o:Oper} (h:∀x∈o.op.operands.toList,fr'.ev E x=fr.ev E x) (hd:fr'.d=fr.d) (aW:fr'.om=fr.om):aS E fr' σ st o=aS E fr σ st o:=by
 cases ho:o.op
 all_goals
  rw[ho] at h
  unfold aS
  simp only[ho]
 all_goals try (simp only[hd];done)
 case move x=>simp only[h x (show x∈[x] from List.mem_singleton.2 rfl),hd]
 case assign x=>simp only[h x (show x∈[x] from List.mem_singleton.2 rfl),hd]
 case pick c x y=>simp only[h c (show c∈[c,x,y] from List.mem_cons_self),h x (show x∈[c,x,y] from List.mem_cons_of_mem _ List.mem_cons_self),h y (show y∈[c,x,y] from List.mem_cons_of_mem _ (List.mem_cons_of_mem _ List.mem_cons_self)),hd]
 case box t x=>simp only[h x (show x∈[x] from List.mem_singleton.2 rfl),hd]
 case load t x=>simp only[h x (show x∈[x] from List.mem_singleton.2 rfl),hd]
 case nilCheck x=>simp only[h x (show x∈[x] from List.mem_singleton.2 rfl),hd]
 case unOp u t x=>simp only[h x (show x∈[x] from List.mem_singleton.2 rfl),hd]
 case convert t u x=>simp only[h x (show x∈[x] from List.mem_singleton.2 rfl),hd]
 case sliceToArrayPointer t x=>simp only[h x (show x∈[x] from List.mem_singleton.2 rfl),hd]
 case typeAssert x t u ok=>simp only[h x (show x∈[x] from List.mem_singleton.2 rfl),hd]
 case makeInterface t x=>simp only[h x (show x∈[x] from List.mem_singleton.2 rfl),hd]
 case fieldAddr t x f=>simp only[h x (show x∈[x] from List.mem_singleton.2 rfl),hd]
 case field t x f=>simp only[h x (show x∈[x] from List.mem_singleton.2 rfl),hd]
 case extract x f=>simp only[h x (show x∈[x] from List.mem_singleton.2 rfl),hd]
 case store t x y=>simp only[h x (show x∈[x,y] from List.mem_cons_self),h y (show y∈[x,y] from List.mem_cons_of_mem _ List.mem_cons_self),hd,aW]
 case binOp b t x y u=>simp only[h x (show x∈[x,y] from List.mem_cons_self),h y (show y∈[x,y] from List.mem_cons_of_mem _ List.mem_cons_self),hd,aW]
 case makeSlice t x y=>simp only[h x (show x∈[x,y] from List.mem_cons_self),h y (show y∈[x,y] from List.mem_cons_of_mem _ List.mem_cons_self),hd,aW]
 case indexAddr t x y=>simp only[h x (show x∈[x,y] from List.mem_cons_self),h y (show y∈[x,y] from List.mem_cons_of_mem _ List.mem_cons_self),hd,aW]
 case index t x y=>simp only[h x (show x∈[x,y] from List.mem_cons_self),h y (show y∈[x,y] from List.mem_cons_of_mem _ List.mem_cons_self),hd,aW]
 case lookup t x y ok=>simp only[h x (show x∈[x,y] from List.mem_cons_self),h y (show y∈[x,y] from List.mem_cons_of_mem _ List.mem_cons_self),hd,aW]
 case mapUpdate t x y z=>simp only[h x (show x∈[x,y,z] from List.mem_cons_self),h y (show y∈[x,y,z] from List.mem_cons_of_mem _ List.mem_cons_self),h z (show z∈[x,y,z] from List.mem_cons_of_mem _ (List.mem_cons_of_mem _ List.mem_cons_self)),hd]
 case insert t x y z=>simp only[h x (show x∈[x,y,z] from List.mem_cons_self),h y (show y∈[x,y,z] from List.mem_cons_of_mem _ List.mem_cons_self),h z (show z∈[x,y,z] from List.mem_cons_of_mem _ (List.mem_cons_of_mem _ List.mem_cons_self)),hd]
 case build t parts=>
  have:(parts.toList.map fun (i,x)=>(i,fr'.ev E x))=parts.toList.map fun (i,x)=>(i,fr.ev E x):=by
   refine List.map_congr_left (fun p hp=> ?_)
   show (p.1,fr'.ev E p.2)=(p.1,fr.ev E p.2)
   rw[h p.2 (show p.2∈parts.toList.map (·.2) from List.mem_map.2 ⟨p,hp,rfl⟩)]
  simp only[this]
 case buildSlice t len parts=>
  have:(parts.toList.map fun (i,x)=>(i,fr'.ev E x))=parts.toList.map fun (i,x)=>(i,fr.ev E x):=by
   refine List.map_congr_left (fun p hp=> ?_)
   show (p.1,fr'.ev E p.2)=(p.1,fr.ev E p.2)
   rw[h p.2 (show p.2∈parts.toList.map (·.2) from List.mem_map.2 ⟨p,hp,rfl⟩)]
  simp only[this]
 case makeFunc fn a b=>
  have h1:a.toList.map (fr'.ev E)=a.toList.map (fr.ev E):=List.map_congr_left (fun x hx=>h x (show x∈(a++b).toList by simp at hx⊢;exact .inl hx))
  have h2:b.toList.map (fr'.ev E)=b.toList.map (fr.ev E):=List.map_congr_left (fun x hx=>h x (show x∈(a++b).toList by simp at hx⊢;exact .inr hx))
  cases fn<;>first|rfl|simp only[h1,h2]
 case makeMap t r=>cases r<;>simp only[hd]
 case slice t x lo hi mx=>
  have h0:∀y,y=x∨lo=some y∨hi=some y∨mx=some y→fr'.ev E y=fr.ev E y:=fun y hy=>h y (show y∈(#[x]++lo.toArray++hi.toArray++mx.toArray).toList by
   rcases hy with rfl|rfl|rfl|rfl<;>simp)
  have hx:fr'.ev E x=fr.ev E x:=h0 x (.inl rfl)
  have h1:fF E fr' lo=fF E fr lo:=by
   cases lo with
   |none=>rfl
   |some y=>simp only[fF];rw[h0 y (by simp)]
  have h2:fF E fr' hi=fF E fr hi:=by
   cases hi with
   |none=>rfl
   |some y=>simp only[fF];rw[h0 y (by simp)]
  have h3:fF E fr' mx=fF E fr mx:=by
   cases mx with
   |none=>rfl
   |some y=>simp only[fF];rw[h0 y (by simp)]
  simp only[hx,h1,h2,h3]
theorem YL {st:Nat} {o:Oper} (h:∀x∈o.op.operands.toList,fr'.ev E x=fr.ev E x) (hd:fr'.d=fr.d) (aW:fr'.om=fr.om):
 opC E S fr' σ st o=(opC E S fr σ st o).map fun (v,_,σ1)=>(v,fr',σ1):=by
 cases ho:o.op
 case call c=>
  have h:∀x∈c.operands.toList,fr'.ev E x=fr.ev E x:=by rw[ho] at h;exact h
  unfold opC
  simp only[ho]
  have hargs:c.args.toList.map (fr'.ev E)=c.args.toList.map (fr.ev E):=List.map_congr_left (fun x hx=>h x (by simp[Call.operands] at hx⊢;exact .inr hx))
  split
  ·simp only[hargs,hd,aW]
   cases kN E fr.om (o.dst.map fun t=>(fr.d,t)) σ st _ c.argTypes (c.args.toList.map (fr.ev E))<;>rfl
  ·rename_i f hc
   have hf:fr'.ev E f=fr.ev E f:=h f (by simp[Call.operands,hc])
   have cu:iO E fr' o f=iO E fr o f:=by unfold iO;rw[hf]
   simp only[hargs,hd,hf,cu]
   cases iO E fr o f
   ·cases gK E S fr.d σ (fr.ev E f) (c.args.toList.map (fr.ev E))<;>rfl
   ·cases lH E S σ st (fr.ev E f) (c.args.toList.map (fr.ev E))<;>rfl
  ·rfl
 case defer=>unfold opC;simp only[ho];rfl
 all_goals
  have:=YK (σ:=σ) (st:=st) h hd aW
  unfold opC
  simp only[ho]
  rw[this]
  cases aS E fr σ st o<;>rfl
theorem y8 {loc:Loc} {s:Nat} (h:σ'.obj loc=σ.obj loc):σ'.bD loc s=σ.bD loc s:=by simp only[ah.bD,h]
theorem JJ {loc:Loc} {s:Nat} (h:σ'.obj loc=σ.obj loc):σ'.dU loc s=σ.dU loc s:=by simp only[ah.dU,h]
def eP (σ σ':ah) (k:Key):Prop:=match k with
 |.obj l=>σ'.obj l=σ.obj l
 |.top=>σ'.top=σ.top
 |_=>True
def Reads (σ σ':ah) (r r':Option (V×ah)):Prop:=∀v σ1,r=some (v,σ1)→σ1=σ∧r'=some (v,σ')
theorem ku {v:V}:Reads σ σ' (some (v,σ)) (some (v,σ')):=fun v σ1 h=>by
 simp only[Option.some.injEq,Prod.mk.injEq] at h
 exact⟨h.2.symm,by rw[h.1]⟩
theorem jR {α:Type} {r:Option α} (f:α→V):Reads σ σ' (r.map fun v=>(f v,σ)) (r.map fun v=>(f v,σ')):=by
 cases r with
 |none=>intro v σ1 h;cases h
 |some x=>exact ku
theorem nH {r:Option (V×ah)}:Reads σ σ' none r:=fun _ _ h=>by cases h
theorem uV {α:Type} {r:Option α} {f g:α→Option (V×ah)} (h:∀x,Reads σ σ' (f x) (g x)):Reads σ σ' (r.bind f) (r.bind g):=by
 cases r with
 |none=>exact nH
 |some x=>exact h x
theorem Fg {c:Prop} [Decidable c] {r r' s s':Option (V×ah)} (h1:Reads σ σ' r r') (h2:Reads σ σ' s s'):Reads σ σ' (if c then r else s) (if c then r' else s'):=by
 split<;>assumption
theorem YM {src dst:TypeId} {x:V} (h:∀k∈eD x,eP σ σ' k):sM E.P σ' src dst x=sM E.P σ src dst x:=by
 unfold sM
 generalize E.P.underlying src=u1
 generalize E.P.underlying dst=u2
 cases u1 with
 |none=>cases x<;>cases u2<;>rfl
 |some d1=>
  cases u2 with
  |none=>cases x<;>cases d1<;>rfl
  |some d2=>
   cases x with
   |vw loc s off len cap aL ag=>
    have h1:σ'.obj loc=σ.obj loc:=h (.obj loc) (by simp[eD])
    cases d2<;>cases d1<;>first|rfl|simp only[y8 h1]
   |_=>cases d2<;>first|rfl| (cases d1<;>rfl)
theorem YN {t:TypeId} {x:V} {lo hi mx:Option V} (h:∀k∈eD x,eP σ σ' k):kL E.P σ' t x lo hi mx=kL E.P σ t x lo hi mx:=by
 unfold kL
 generalize E.P.underlying t=u1
 cases u1 with
 |none=>cases x<;>rfl
 |some d1=>
  cases x with
  |ref loc s off=>
   have h1:σ'.obj loc=σ.obj loc:=h (.obj loc) (by simp[eD])
   cases d1<;>first|rfl|simp only[y8 h1]
  |_=>cases d1<;>rfl
theorem YO {t:TypeId} {x k:V} {ok:Bool} (h:∀k∈eD x,eP σ σ' k):qM E.P σ' t x k ok=qM E.P σ t x k ok:=by
 unfold qM
 cases x with
 |bq loc s=>
  have h1:σ'.obj loc=σ.obj loc:=h (.obj loc) (by simp[eD])
  simp only[JJ h1]
 |_=>rfl
theorem YP {t:TypeId} {x:V} (h:∀k∈eD x,eP σ σ' k):kg E σ' t x=kg E σ t x:=by
 unfold kg
 generalize E.P.underlying t=u1
 cases u1 with
 |none=>cases x<;>rfl
 |some d1=>
  cases x with
  |bq loc s=>
   have h1:σ'.obj loc=σ.obj loc:=h (.obj loc) (by simp[eD])
   cases d1<;>first|rfl|simp only[JJ h1]
  |_=>cases d1<;>rfl
theorem YQ {ag:Bool} {sz:Nat} {z x:V} (h:∀k∈eD x,eP σ σ' k):iZ σ' ag sz z x=iZ σ ag sz z x:=by
 unfold iZ
 cases x with
 |vw loc s off len cap aL ag=>
  have h1:σ'.obj loc=σ.obj loc:=h (.obj loc) (by simp[eD])
  simp only[y8 h1]
 |_=>rfl
def Local (W:Key→Prop) (σ σ':ah) (r r':Option (V×ah)):Prop:=
 ∀v σ1,r=some (v,σ1)→∃pV,r'=some (v,pV)∧nE σ σ1∧nE σ' pV∧(∀k,W k→eP σ1 pV k)∧(∀k,¬W k→eP σ σ1 k)∧∀k,¬W k→eP σ' pV k
theorem eP.refl (σ:ah) (k:Key):eP σ σ k:=by cases k<;>simp[eP]
theorem eP.chain {σ1 pV:ah} {k:Key} (h:eP σ σ' k) (h1:eP σ σ1 k) (h2:eP σ' pV k):eP σ1 pV k:=by
 cases k with
 |obj l=>exact Eq.trans (show pV.obj l=σ'.obj l from h2) (Eq.trans (show σ'.obj l=σ.obj l from h) (show σ1.obj l=σ.obj l from h1).symm)
 |top=>exact Eq.trans (show pV.top=σ'.top from h2) (Eq.trans (show σ'.top=σ.top from h) (show σ1.top=σ.top from h1).symm)
 |slot t=>trivial
 |rest=>trivial
 |nx=>trivial
theorem Reads.local {r r':Option (V×ah)} (h:Reads σ σ' r r'):Local (fun k=>k∈([]:List Key)) σ σ' r r':=fun v σ1 hr=>by
 obtain⟨h1,h2⟩:=h v σ1 hr
 subst h1
 exact⟨σ',h2,.refl _,.refl _,fun k hk=>absurd hk (List.not_mem_nil),fun k _=>.refl _ _,fun k _=>.refl _ _⟩
theorem Local.mono {W W':Key→Prop} {r r':Option (V×ah)} (h:Local W σ σ' r r') (hW:∀k,W k→W' k) (hT:∀k,W' k→eP σ σ' k):Local W' σ σ' r r':=fun v σ1 hr=>by
 obtain⟨pV,h1,h2,h3,h4,h5,h6⟩:=h v σ1 hr
 refine⟨pV,h1,h2,h3,fun k hk=> ?_,fun k hk=>h5 k (fun hw=>hk (hW k hw)),fun k hk=>h6 k (fun hw=>hk (hW k hw))⟩
 by_cases hw:W k
 ·exact h4 k hw
 ·exact(hT k hk).chain (h5 k hw) (h6 k hw)
theorem PS {loc:Loc} {st:Nat} {ob:eO} {k:Key} (hk:k∉[Key.obj loc]):eP σ (σ.setObj loc st ob) k:=by
 cases k with
 |obj l=>
  have:l≠loc:=fun e=>hk (by simp[e])
  show upd σ.obj loc _ l=σ.obj l
  simp[upd,this]
 |top=>rfl
 |slot t=>trivial
 |rest=>trivial
 |nx=>trivial
theorem PU {s n:Nat} {k:Key} (hk:k∉[Key.top]):eP σ (σ.bE s n) k:=by
 cases k with
 |obj l=>rfl
 |top=>exact absurd (by simp) hk
 |slot t=>trivial
 |rest=>trivial
 |nx=>trivial
theorem y9 {loc:Loc} {st:Nat} {ob:eO} {v:V}:Local (fun k=>k∈[Key.obj loc]) σ σ' (some (v,σ.setObj loc st ob)) (some (v,σ'.setObj loc st ob)):=fun v1 σ1 h=>by
 simp only[Option.some.injEq,Prod.mk.injEq] at h
 obtain⟨rfl,rfl⟩:=h
 refine⟨_,rfl,⟨rfl,rfl⟩,⟨rfl,rfl⟩,fun k hk=> ?_,fun k hk=>PS hk,fun k hk=>PS hk⟩
 obtain rfl:k= .obj loc:=by simpa using hk
 show upd σ'.obj loc _ loc=upd σ.obj loc _ loc
 simp[upd]
theorem cO {W:Key→Prop} {r:Option (V×ah)}:Local W σ σ' none r:=fun _ _ h=>by cases h
theorem iF {W:Key→Prop} {α:Type} {r:Option α} {f g:α→Option (V×ah)} (h:∀x,Local W σ σ' (f x) (g x)):Local W σ σ' (r.bind f) (r.bind g):=by
 cases r with
 |none=>exact cO
 |some x=>exact h x
theorem nJ {W:Key→Prop} {c:Prop} [Decidable c] {r r' s s':Option (V×ah)} (h1:Local W σ σ' r r') (h2:Local W σ σ' s s'):Local W σ σ' (if c then r else s) (if c then r' else s'):=by
 split<;>assumption
theorem za (ht:σ'.top=σ.top) {s n:Nat} {v:V}:Local (fun k=>k∈[Key.top]) σ σ' (some (v,σ.bE s n)) (some (v,σ'.bE s n)):=fun v1 σ1 h=>by
 simp only[Option.some.injEq,Prod.mk.injEq] at h
 obtain⟨rfl,rfl⟩:=h
 refine⟨_,rfl,⟨rfl,rfl⟩,⟨rfl,rfl⟩,fun k hk=> ?_,fun k hk=>PU hk,fun k hk=>PU hk⟩
 obtain rfl:k= .top:=by simpa using hk
 show upd σ'.top s n=upd σ.top s n
 rw[ht]
theorem PV {W:Key→Prop} {α:Type} {r:Option α} {f g:α→V×ah} (h:∀x,Local W σ σ' (some (f x)) (some (g x))):Local W σ σ' (r.map f) (r.map g):=by
 cases r with
 |none=>exact cO
 |some x=>exact h x
theorem PW {t:TypeId} {m k v:V} (h:∀q∈eD m,eP σ σ' q):
 Local (fun q=>q∈eD m) σ σ' ((mX E.P σ t m k v).map fun σ=>(aA,σ)) ((mX E.P σ' t m k v).map fun σ=>(aA,σ)):=by
 unfold mX
 cases ou E.P t with
 |none=>exact cO
 |some p=>
  simp only[Option.bind_some]
  split
  ·cases m with
   |bq loc s=>
    have h1:σ'.obj loc=σ.obj loc:=h (.obj loc) (by simp[eD])
    simp only[JJ h1]
    cases σ.dU loc s with
    |none=>exact cO
    |some q=>
     simp only[Option.bind_some,Option.map_map]
     exact PV (fun x=>y9)
   |_=>exact cO
  ·exact cO
theorem YR {fr:Fr} {st:Nat} {o:Oper} {t:TypeId} {l c:V} (h:∀q∈Key.top::ni fr o,eP σ σ' q):
 Local (fun q=>q∈Key.top::ni fr o) σ σ' (pF E.P fr.om σ st (o.dst.map fun t=>(fr.d,t)) t l c) (pF E.P fr.om σ' st (o.dst.map fun t=>(fr.d,t)) t l c):=by
 unfold pF
 refine iF (fun e=>iF (fun sz=>iF (fun dI=>iF (fun z=>iF (fun n=>iF (fun m=>nJ (nJ ?_ ?_) cO))))))
 ·exact(za (h .top (by simp))).mono (fun k hk=>by simp at hk;simp[hk]) h
 ·cases hd:o.dst with
  |none=>exact cO
  |some d=>
   simp only[Option.map_some,Option.bind_some]
   exact PV (fun ag=>y9.mono (fun k hk=>by simp at hk;simp[hk,ni,hd]) (by simpa [ni,hd] using h))
theorem JK {zeros:Bool} {st:Nat} {loc:Option Loc} {t:TypeId} {x y:V} (hy:∀q∈eD y,eP σ σ' q) (ht:σ'.top=σ.top):
 Local (fun q=>q∈[Key.top]) σ σ' (gT E.P false zeros σ st loc t x y) (gT E.P false zeros σ' st loc t x y):=by
 unfold gT
 refine iF (fun e=>iF (fun sz=>iF (fun dI=>iF (fun ag=>iF (fun z=>nJ ?_ cO)))))
 rw[YQ hy]
 refine iF (fun ys=>nJ ?_ cO)
 cases x with
 |aj c l=>
  simp only
  refine nJ ?_ cO
  cases c with
  |own n s=>simp only[ht];exact nJ (za ht) cO
  |nil=>exact za ht
  |full=>exact za ht
  |sh=>exact cO
 |vw fP s off len cap aL sS=>simp only[Bool.false_eq_true,false_and,and_false,if_false];exact cO
 |_=>exact cO
theorem Fh {om:Bool} {loc:Option Loc} {st:Nat} {b:Builtin} {tys:Array TypeId} {args:List V} (hb:b= .len∨b= .cap∨b= .min∨b= .max) (h:∀x∈args,∀q∈eD x,eP σ σ' q):
 Reads σ σ' (kN E om loc σ st b tys args) (kN E om loc σ' st b tys args):=by
 rcases hb with rfl|rfl|rfl|rfl
 ·rcases args with _| ⟨x,_| ⟨y,l⟩⟩
  ·exact nH
  ·refine uV (fun t=> ?_)
   rw[YP (h x (by simp))]
   exact jR _
  ·exact nH
 ·rcases args with _| ⟨x,_| ⟨y,l⟩⟩
  ·exact nH
  ·refine uV (fun t=>uV (fun e=> ?_))
   cases x with
   |aj c l=>cases c<;>first|exact ku|exact nH
   |_=>exact nH
  ·exact nH
 ·rcases args with _| ⟨x,l⟩
  ·exact nH
  ·exact jR _
 ·rcases args with _| ⟨x,l⟩
  ·exact nH
  ·exact jR _
theorem YS {loc:Option Loc} {st:Nat} {tys:Array TypeId} {args:List V} (h:∀x∈args,∀q∈eD x,eP σ σ' q) (ht:σ'.top=σ.top):
 Local (fun q=>q∈[Key.top]) σ σ' (kN E false loc σ st .append tys args) (kN E false loc σ' st .append tys args):=by
 rcases args with _| ⟨x,_| ⟨y,_| ⟨z,l⟩⟩⟩
 ·exact cO
 ·exact cO
 ·refine iF (fun t=>iF (fun u=> ?_))
  split
  ·exact JK (h y (by simp)) ht
  ·exact JK (h y (by simp)) ht
  ·exact JK (h y (by simp)) ht
  ·exact cO
 ·exact cO
end
end Aq
end
section
namespace Aq
open Go
section
variable {E:Env} {S:dW} {fr fr':Fr} {σ σ':ah}
theorem PX {loc:Loc} {k:Key} (hk:k∉[Key.obj loc]):eP σ (σ.fE loc) k:=by
 cases k with
 |obj l=>
  have:l≠loc:=fun e=>hk (by simp[e])
  show upd σ.obj loc none l=σ.obj l
  simp[upd,this]
 |top=>rfl
 |slot t=>trivial
 |rest=>trivial
 |nx=>trivial
theorem YT {loc:Loc} {v:V}:Local (fun k=>k∈[Key.obj loc]) σ σ' (some (v,σ.fE loc)) (some (v,σ'.fE loc)):=fun v1 σ1 h=>by
 simp only[Option.some.injEq,Prod.mk.injEq] at h
 obtain⟨rfl,rfl⟩:=h
 refine⟨_,rfl,⟨rfl,rfl⟩,⟨rfl,rfl⟩,fun k hk=> ?_,fun k hk=>PX hk,fun k hk=>PX hk⟩
 obtain rfl:k= .obj loc:=by simpa using hk
 show upd σ'.obj loc none loc=upd σ.obj loc none loc
 simp[upd]
theorem YU {x:V} (h:∀k,k∈eD x→eP σ σ' k):Local (fun k=>k∈eD x) σ σ' (pG σ x) (pG σ' x):=by
 cases x with
 |vw loc s off len cap aL ag=>
  have h1:σ'.obj loc=σ.obj loc:=h (.obj loc) (by simp[eD])
  simp only[pG,y8 h1]
  exact iF (fun cs=>nJ YT cO)
 |_=>exact ku.local.mono (fun k hk=>by cases hk) h
theorem YV {st:Nat} {o:Oper} (hc:∀c,o.op≠ .call c) (hw:(eZ E fr o).lI=false) (h:∀k,k∈(eZ E fr o).t∨k∈(eZ E fr o).w→eP σ σ' k):
 Local (fun k=>k∈(eZ E fr o).w) σ σ' (aS E fr σ st o) (aS E fr σ' st o):=by
 cases ho:o.op<;>simp only[eZ,ho,dV,reduceCtorEq,Bool.true_eq_false] at hw
 case call c=>exact absurd ho (hc c)
 all_goals
  simp only[eZ,ho,jP,iB] at h
  simp only[eZ,ho,jP,iB]
  unfold aS
  simp only[ho]
 case move x=>
  by_cases hz:qO E o.dst=true
  ·simp only[hz,if_true] at h⊢
   exact YU (fun k hk=>h k (.inr hk))
  ·simp only[hz,Bool.false_eq_true,if_false]
   exact ku.local
 case assign=>exact ku.local
 case pick=>exact(jR _).local
 case alloc t=>
  cases hd:o.dst with
  |none=>exact cO
  |some d=>simp only[Option.map_some,Option.bind_some,ni,hd];exact iF (fun z=>nJ y9 cO)
 case box t x=>
  by_cases hz:E.qN t=true
  ·simp only[hz,if_true]
   exact(Fg ku nH).local.mono (fun k hk=>by cases hk) (fun k hk=>h k (.inr hk))
  ·simp only[hz,Bool.false_eq_true,if_false]
   cases hd:o.dst with
   |none=>exact cO
   |some d=>simp only[Option.map_some,Option.bind_some,ni,hd];exact nJ y9 cO
 case build t parts=>exact(uV (fun _=>uV (fun _=>jR _))).local
 case buildSlice t len parts=>exact(jR _).local
 case load t a=>
  cases hx:fr.ev E a with
  |ref loc s off=>
   have h1:σ'.obj loc=σ.obj loc:=h (.obj loc) (by simp[hx,eD])
   simp only[y8 h1]
   exact(uV (fun _=>jR _)).local
  |aH cs off=>exact(jR _).local
  |_=>exact cO
 case store t a x=>
  cases hx:fr.ev E a with
  |ref loc s off=>
   have h1:σ'.obj loc=σ.obj loc:=h (.obj loc) (by simp[hx,eD])
   simp only[y8 h1]
   exact iF (fun _=>nJ y9 cO)
  |_=>exact cO
 case nilCheck x=>
  cases hx:fr.ev E x with
  |ref loc s off=>exact ku.local
  |aH cs off=>exact ku.local
  |fn f a b=>cases f<;>first|exact ku.local|exact cO
  |_=>exact cO
 case binOp=>exact(jR _).local
 case unOp=>exact(jR _).local
 case convert a b x=>rw[YM (fun k hk=>h k (.inl hk))];exact(jR _).local
 case sliceToArrayPointer t x=>
  refine iF (fun p=> ?_)
  cases hx:fr.ev E x with
  |vw loc s off len cap aL ag=>exact(Fg ku nH).local
  |aj c l=>exact(Fg ku nH).local
  |_=>exact cO
 case typeAssert=>exact(jR _).local
 case makeInterface t x=>
  split
  ·exact cO
  ·exact ku.local
  ·exact cO
 case makeFunc f a b=>cases f<;>first|exact ku.local|exact cO
 case makeMap t r=>
  cases r with
  |some _=>exact cO
  |none=>
   cases hd:o.dst with
   |none=>exact cO
   |some d=>simp only[Option.map_some,ni,hd];exact y9
 case makeSlice t l c=>exact YR (fun q hq=>h q (.inr hq))
 case slice t x lo hi mx=>rw[YN (fun k hk=>h k (.inl hk))];exact(jR _).local
 case fieldAddr t x f=>
  refine iF (fun p=> ?_)
  cases hx:fr.ev E x with
  |ref loc s off=>exact ku.local
  |aH cs off=>exact ku.local
  |_=>exact cO
 case field t x f=>
  refine iF (fun p=> ?_)
  cases hx:fr.ev E x with
  |agg cs=>exact(jR _).local
  |_=>exact cO
 case indexAddr=>exact(jR _).local
 case index=>exact(jR _).local
 case lookup t x i ok=>rw[YO (fun k hk=>h k (.inl hk))];exact(jR _).local
 case mapUpdate t m k v=>exact PW (fun q hq=>h q (.inr hq))
 case insert t m k v=>exact PW (fun q hq=>h q (.inr hq))
 case extract x i=>
  cases hx:fr.ev E x with
  |aT vs=>exact(jR _).local
  |_=>exact cO
theorem Ce {α β:Type} {f g:α→Option β}:∀{l:List α},(∀x∈l,f x=g x)→l.mapM f=l.mapM g
 | [],_=>rfl
 |a::l,h=>by
  simp only[List.mapM_cons]
  rw[h a (by simp),Ce (fun x hx=>h x (by simp[hx]))]
theorem JL {n:Nat} {x:V} (hp:aD x=true):aJ n σ' x=aJ n σ x:=by
 cases n with
 |zero=>rfl
 |succ n=>unfold aJ;simp only[hp,if_true]
theorem PY {l:List V} {x:V} (h:x∈l):∃i,∃hi:i<l.length,x=l[i]:=by
 obtain⟨i,hi,e⟩:=List.mem_iff_getElem.1 h
 exact⟨i,hi,e.symm⟩
theorem PZ {n:Nat} {c:Cap} {l:List V} (hp:aY l=true):aJ n σ' (.aj c l)=aJ n σ (.aj c l):=by
 cases n with
 |zero=>rfl
 |succ n=>
  unfold aJ
  split
  ·rfl
  ·simp only
   rw[Ce (fun x hx=> ?_)]
   obtain⟨i,hi,rfl⟩:=PY hx
   exact JL (BU hp hi)
theorem YW {n:Nat} {x:V} (hp:aD (dw x)=true):aJ n σ' x=aJ n σ x:=by
 cases x with
 |aj c l=>exact PZ (by simpa [dw,aD] using hp)
 |_=>exact JL hp
theorem P5 {n:Nat} {x:V} (hp:aD (er x)=true):aJ n σ' x=aJ n σ x:=by
 cases x with
 |aj c l=>exact PZ (by simpa [er,aD] using hp)
 |agg cs=>
  have hp':aY (cs.map dw)=true:=by simpa [er,aD] using hp
  cases n with
  |zero=>rfl
  |succ n=>
   unfold aJ
   split
   ·rfl
   ·simp only
    rw[Ce (fun x hx=> ?_)]
    obtain⟨i,hi,rfl⟩:=PY hx
    refine YW ?_
    have:=BU hp' (i:=i) (by simpa using hi)
    simpa using this
 |_=>exact JL hp
theorem YX {d:Nat} {g:FuncId} {a b args:List V} (hi:E.imp g=false) (hp:(a++args++b).all (fun v=>aD (er v))=true):
 Reads σ σ' (gK E S d σ (.fn (.func g) a b) args) (gK E S d σ' (.fn (.func g) a b) args):=by
 unfold gK
 simp only[hi,Bool.false_eq_true,if_false]
 rw[Ce (f:=aJ 20 σ') (g:=aJ 20 σ) (fun x hx=>P5 (by simp only[List.all_eq_true] at hp;exact hp x hx))]
 exact uV (fun as=>uV (fun v=>Fg ku nH))
theorem YZ {d:Nat} {g:FuncId} {a b args:List V} (hi:E.imp g=false) {v:V} {σ1:ah} (h:gK E S d σ (.fn (.func g) a b) args=some (v,σ1)):σ1=σ:=by
 unfold gK at h
 simp only[hi,Bool.false_eq_true,if_false,Option.bind_eq_some_iff] at h
 obtain⟨_,_,_,_,h⟩:=h
 split at h
 ·simp only[Option.some.injEq,Prod.mk.injEq] at h;exact h.2.symm
 ·simp at h
theorem Ag.refl (k:Key) (x:Fr×ah):Ag k x x:=by cases k<;>simp[Ag]
theorem Ag.symm {k:Key} {x y:Fr×ah} (h:Ag k x y):Ag k y x:=by
 cases k with
 |slot t=>exact Eq.symm h
 |obj l=>exact Eq.symm h
 |top=>exact Eq.symm h
 |rest=>exact⟨h.1.symm,h.2.symm⟩
 |nx=>exact⟨h.1.symm,h.2.symm⟩
theorem Ag.trans {k:Key} {x y z:Fr×ah} (h:Ag k x y) (g:Ag k y z):Ag k x z:=by
 cases k with
 |slot t=>exact Eq.trans h g
 |obj l=>exact Eq.trans h g
 |top=>exact Eq.trans h g
 |rest=>exact⟨h.1.trans g.1,h.2.trans g.2⟩
 |nx=>exact⟨h.1.trans g.1,h.2.trans g.2⟩
theorem Ag.all {x y:Fr×ah} (h:∀k,Ag k x y):x=y:=by
 obtain⟨⟨d,om,tm⟩,⟨nx,top,obj,lp⟩⟩:=x
 obtain⟨⟨d',om',tm'⟩,⟨nx',top',Cg,P6⟩⟩:=y
 obtain⟨h1,h2⟩:=h .rest
 obtain⟨h3,h4⟩:=h .nx
 have h5:top=top':=h .top
 have h6:obj=Cg:=funext fun l=>h (.obj l)
 have h7:tm=tm':=funext fun t=>h (.slot t)
 simp only at h1 h2 h3 h4
 subst h1 h2 h3 h4 h5 h6 h7
 rfl
def bA.T (f:bA) (k:Key):Prop:=k= .rest∨k∈f.t∨k∈f.w∨((f.pJ=true∨f.lI=true)∧k.state=true)
def bA.W (f:bA) (k:Key):Prop:=k∈f.w∨(f.lI=true∧k.state=true)
theorem bA.P7 {f:bA} {k:Key} (h:f.W k):f.T k:=by
 rcases h with h| ⟨h,h1⟩
 ·exact .inr (.inr (.inl h))
 ·exact .inr (.inr (.inr ⟨.inr h,h1⟩))
end
end Aq
end
section
namespace Aq
open Go
theorem P8 {α:Type} {p q:α→Bool} {a:α}:∀{l:List α},(∀x,q x=true→p x=true)→a∈l→p a=true→q a=false→l.countP q<l.countP p
 | [],_,h,_,_=>by cases h
 |x::l,JM,hm,hp,hq=>by
  rw[List.countP_cons,List.countP_cons]
  have hle:l.countP q≤l.countP p:=List.countP_mono_left (fun x _ h=>JM x h)
  rcases List.mem_cons.1 hm with e|e
  ·subst e
   simp only[hp,hq,if_true]
   have:(if false=true then 1 else 0)=0:=rfl
   omega
  ·have:=P8 JM e hp hq
   by_cases hx:q x=true
   ·have:=JM x hx
    simp only[hx,this,if_true];omega
   ·have hx':q x=false:=by simpa using hx
    rw[hx']
    have h0:(if false=true then 1 else 0:Nat)=0:=rfl
    rw[h0]
    omega
structure tK (md:Region.Mode) (ops:Array Oper) (done l:List Nat):Prop where
 nodup:l.Nodup
 mem:∀i∈l,i<ops.size∧i∉done
 all:∀i,i<ops.size→i∈done∨i∈l
 ord:∀l1 i l2,l=l1++i::l2→∀o,ops[i]? =some o→∀e∈o.after.toList,Region.binds md e=true→e.on∈done∨e.on∈l1
theorem go_acc (md:Region.Mode) (ops:Array Oper):∀(fuel t:Nat) (listed:Array Bool) (acc:List Nat),
 Region.linearise.go md ops fuel t listed acc=acc.reverse++Region.linearise.go md ops fuel t listed []:=by
 intro fuel
 induction fuel with
 |zero=>intro t listed acc;simp[Region.linearise.go]
 |succ fuel ih=>
  intro t listed acc
  simp only[Region.linearise.go]
  split
  ·rename_i i _
   rw[ih _ _ (i::acc),ih _ _ [i]]
   simp
  ·simp
theorem go_ok (ops:Array Oper) (jm:ko ops.toList=true):∀(fuel t:Nat) (listed:Array Bool) (done:List Nat),
 listed.size=ops.size→(∀i,i<ops.size→(listed.getD i true=true↔i∈done))→(List.range ops.size).countP (fun i=>decide (i∉done))≤fuel→
 tK .any ops done (Region.linearise.go .any ops fuel t listed []):=by
 have JN:∀(i:Nat) (o:Oper),ops[i]? =some o→∀e∈o.after.toList,Region.binds .any e=true→e.on<i:=by
  intro i o ho e he hb
  have hi:i<ops.size:=by
   rcases Nat.lt_or_ge i ops.size with h|h
   ·exact h
   ·rw[Array.getElem?_eq_none h] at ho;cases ho
  simp only[ko,List.all_eq_true] at jm
  have:=jm i (by simpa using hi)
  have ho':ops.toList[i]? =some o:=by simpa using ho
  rw[ho'] at this
  simp only[List.all_eq_true] at this
  simpa [hb] using this e he
 intro fuel
 induction fuel with
 |zero=>
  intro t listed done hsz hl hf
  refine⟨by simp[Region.linearise.go],by simp[Region.linearise.go],fun i hi=> ?_,fun l1 i l2 h=>by simp[Region.linearise.go] at h⟩
  by_cases hd:i∈done
  ·exact .inl hd
  ·have:0< (List.range ops.size).countP (fun i=>decide (i∉done)):=List.countP_pos_iff.2 ⟨i,by simpa using hi,by simpa using hd⟩
   omega
 |succ fuel ih=>
  intro t listed done hsz hl hf
  simp only[Region.linearise.go]
  generalize hrs:(List.range ops.size).filter (fun i=> !listed.getD i true&& ((ops[i]?).map (·.after.all fun e=> !Region.binds .any e||listed.getD e.on false)).getD false)=rs
  have hmem:∀i,i∈rs↔i<ops.size∧i∉done∧∃o,ops[i]? =some o∧∀e∈o.after.toList,Region.binds .any e=true→e.on∈done:=by
   intro i
   rw[←hrs,List.mem_filter]
   constructor
   ·rintro⟨h1,h2⟩
    have hi:i<ops.size:=by simpa using h1
    simp only[Bool.and_eq_true,Bool.not_eq_true'] at h2
    have hd:i∉done:=fun h=>by have:=(hl i hi).2 h;rw[this] at h2;exact absurd h2.1 (by simp)
    have hoi:ops[i]? =some ops[i]:=by simp[hi]
    refine⟨hi,hd,ops[i],hoi,fun e he hb=> ?_⟩
    have h3:=h2.2
    rw[hoi] at h3
    simp only[Option.map_some,Option.getD_some,Array.all_eq_true'] at h3
    have h4:=h3 e (by simpa using he)
    rw[hb] at h4
    have hon:e.on<ops.size:=Nat.lt_trans (JN i _ hoi e he hb) hi
    have h5:listed.getD e.on false=true:=by simpa using h4
    refine(hl e.on hon).1 ?_
    simp only[Array.getD,hsz,hon,dif_pos] at h5⊢
    exact h5
   ·rintro⟨hi,hd,o,ho,he⟩
    refine⟨by simpa using hi, ?_⟩
    have h1:listed.getD i true=false:=by
     have:=mt (hl i hi).1 hd
     simpa using this
    simp only[h1,Bool.not_false,Bool.true_and,ho,Option.map_some,Option.getD_some,Array.all_eq_true']
    intro e Fj
    have P9:e∈o.after.toList:=by simpa using Fj
    cases hb:Region.binds .any e with
    |false=>rfl
    |true=>
     have hon:e.on<ops.size:=Nat.lt_trans (JN i _ ho e P9 hb) hi
     have:=(hl e.on hon).2 (he e P9 hb)
     simp only[Array.getD,hsz,hon,dif_pos] at this⊢
     show (!true||listed.getInternal e.on _)=true
     rw[this];rfl
  cases hpick:rs[t% rs.length]? with
  |none=>
   have hnil:rs=[]:=by
    cases rs with
    |nil=>rfl
    |cons x xs=>
     have hlt:t% (x::xs).length< (x::xs).length:=Nat.mod_lt _ (by simp)
     rw[List.getElem?_eq_none_iff] at hpick
     omega
   simp only[List.reverse_nil]
   refine⟨by simp,by simp,fun i hi=> ?_,fun l1 i l2 h=>by simp at h⟩
   refine Classical.byContradiction fun hno=> ?_
   have hex:∃i,i<ops.size∧i∉done:=⟨i,hi,fun h=>hno (.inl h)⟩
   have hmin:∀k,(∃i,i≤k∧i<ops.size∧i∉done)→∃i,i<ops.size∧i∉done∧∀j,j<i→j∈done:=by
    intro k
    induction k with
    |zero=>
     rintro⟨i,h0,h1,h2⟩
     obtain rfl:i=0:=by omega
     exact⟨0,h1,h2,fun j hj=>absurd hj (Nat.not_lt_zero j)⟩
    |succ k ihk=>
     rintro⟨i,h0,h1,h2⟩
     by_cases hsm:∃i,i≤k∧i<ops.size∧i∉done
     ·exact ihk hsm
     ·refine⟨i,h1,h2,fun j hj=>Classical.byContradiction fun hjd=>hsm ⟨j,by omega,by omega,hjd⟩⟩
   obtain⟨i0,h1,h2,h3⟩:=hmin i ⟨i,Nat.le_refl _,hi,fun h=>hno (.inl h)⟩
   have:i0∈rs:=(hmem i0).2 ⟨h1,h2,ops[i0],by simp[h1],fun e he hb=>h3 _ (JN i0 _ (by simp[h1]) e he hb)⟩
   rw[hnil] at this
   cases this
  |some i=>
   simp only
   rw[go_acc,List.reverse_singleton]
   have hi:i∈rs:=List.mem_of_getElem? hpick
   obtain⟨hilt,hid,o,ho,he⟩:=(hmem i).1 hi
   have hrec:=ih (t/rs.length) (listed.setIfInBounds i true) (i::done) (by simpa using hsz) (fun j hj=>by
    by_cases hji:j=i
    ·subst hji
     simp[Array.getD,hsz,hj]
    ·have h1:(listed.setIfInBounds i true).getD j true=listed.getD j true:=by
      simp only[Array.getD,Array.size_setIfInBounds,hsz,hj,dif_pos]
      exact Array.getElem_setIfInBounds_ne (by omega) (Ne.symm hji)
     rw[h1,hl j hj]
     simp[hji]) (by
    have:=P8 (l:=List.range ops.size) (p:=fun j=>decide (j∉done)) (q:=fun j=>decide (j∉i::done)) (a:=i)
     (fun x hx=>by simp at hx⊢;exact hx.2) (by simpa using hilt) (by simpa using hid) (by simp)
    omega)
   refine⟨?_, ?_, ?_, ?_⟩
   ·simp only[List.singleton_append,List.nodup_cons]
    exact⟨fun h=>(hrec.mem i h).2 (by simp),hrec.nodup⟩
   ·intro j hj
    rcases List.mem_cons.1 hj with e|e
    ·subst e;exact⟨hilt,hid⟩
    ·have:=hrec.mem j e
     exact⟨this.1,fun h=>this.2 (by simp[h])⟩
   ·intro j hj
    rcases hrec.all j hj with h|h
    ·rcases List.mem_cons.1 h with e|e
     ·exact .inr (by simp[e])
     ·exact .inl e
    ·exact .inr (by simp[h])
   ·intro l1 j l2 hjl o' ho' e Fj hb
    cases l1 with
    |nil=>
     simp only[List.singleton_append,List.nil_append,List.cons.injEq] at hjl
     obtain⟨rfl,_⟩:=hjl
     rw[ho] at ho'
     cases ho'
     exact .inl (he e Fj hb)
    |cons a l1=>
     simp only[List.singleton_append,List.cons_append,List.cons.injEq] at hjl
     obtain⟨rfl,hjl⟩:=hjl
     rcases hrec.ord l1 j l2 hjl o' ho' e Fj hb with h|h
     ·rcases List.mem_cons.1 h with e'|e'
      ·exact .inr (by simp[e'])
      ·exact .inl e'
     ·exact .inr (by simp[h])
theorem Y0 (ops:Array Oper) (jm:ko ops.toList=true) (t:Nat):tK .any ops [] (Region.linearise .any ops t):=by
 refine go_ok ops jm ops.size t _ [] (by simp) (fun i hi=> ?_) ?_
 ·simp[hi]
 ·have:=List.countP_le_length (p:=fun i=>decide (i∉([]:List Nat))) (l:=List.range ops.size)
  simpa using this
theorem Qa {mixed:Bool} (hm:mixed=true) (ops:Array Oper) (jm:ko ops.toList=true) (t:Nat):∃md,tK md ops [] (Region.schedule mixed ops t):=by
 unfold Region.schedule
 rw[hm,Bool.true_or,if_pos rfl]
 exact⟨_,Y0 _ jm _⟩
theorem Y1 {e:Edge} (md:Region.Mode) (h:Region.binds .any e=true):Region.binds md e=true:=by
 unfold Region.binds at h⊢
 split at h
 ·simp at h
 ·simp at h
 ·rfl
end Aq
end
section
namespace Aq
open Go
section
variable {E:Env} {S:dW} {fr fr':Fr} {σ σ':ah}
theorem Key.eq_iff {a b:Key}:a.eq b=true↔a=b:=by
 cases a<;>cases b<;>simp[Key.eq,ng]
 rename_i x y
 obtain⟨x1,x2⟩:=x
 obtain⟨y1,y2⟩:=y
 simp
 exact⟨fun h=>⟨h.2,h.1⟩,fun h=>⟨h.2,h.1⟩⟩
theorem Qb {f g:bA} (h:clash f g=false) (k:Key):¬(f.W k∧g.T k):=by
 rintro⟨hw,ht⟩
 simp only[clash,Bool.or_eq_false_iff,List.any_eq_false] at h
 obtain⟨h1,h2⟩:=h
 have Y2:k∈f.w:=by
  rcases hw with h| ⟨h,hs⟩
  ·exact h
  ·rw[h,Bool.true_and] at h1
   simp only[Bool.or_eq_false_iff,List.any_eq_false] at h1
   obtain⟨⟨⟨a1,a2⟩,a3⟩,a4⟩:=h1
   rcases ht with e|e|e| ⟨e,_⟩
   ·subst e;cases hs
   ·exact absurd hs (a3 k e)
   ·exact absurd hs (a4 k e)
   ·rcases e with e|e
    ·rw[a1] at e;cases e
    ·rw[a2] at e;cases e
 have h3:=h2 k Y2
 simp only[Bool.or_eq_true,List.any_eq_true,Bool.and_eq_true,not_or,not_exists,not_and] at h3
 obtain⟨⟨⟨h4,h5⟩,h6⟩,h7⟩:=h3
 rcases ht with h|h|h| ⟨h,hs⟩
 ·exact h4 (Key.eq_iff.2 h)
 ·exact h5 k h (Key.eq_iff.2 rfl)
 ·exact h6 k h (Key.eq_iff.2 rfl)
 ·rcases h with h|h
  ·exact h7 (.inl h) hs
  ·exact h7 (.inr h) hs
theorem Y3 {st:Nat} {o:Oper} {v:V} (hop:opC E S fr σ st o=some (v,fr',σ')):fr'=fr:=by
 unfold opC at hop
 split at hop
 ·split at hop
  ·simp only[Option.map_eq_some_iff,Prod.mk.injEq] at hop
   obtain⟨_,_,_,rfl,_⟩:=hop;rfl
  ·split at hop
   ·simp only[Option.map_eq_some_iff,Prod.mk.injEq] at hop
    obtain⟨_,_,_,rfl,_⟩:=hop;rfl
   ·simp only[Option.map_eq_some_iff,Prod.mk.injEq] at hop
    obtain⟨_,_,_,rfl,_⟩:=hop;rfl
  ·simp at hop
 ·simp at hop
 ·simp only[Option.map_eq_some_iff,Prod.mk.injEq] at hop
  obtain⟨_,_,_,rfl,_⟩:=hop;rfl
def drop2 (r:Option (V×Fr×ah)):Option (V×ah):=r.map fun (v,_,σ)=>(v,σ)
theorem Y4 {r:Option (V×Fr×ah)} {v:V} (h:drop2 r=some (v,σ)):∃fr,r=some (v,fr,σ):=by
 simp only[drop2,Option.map_eq_some_iff,Prod.mk.injEq] at h
 obtain⟨⟨v',fr',σ'⟩,h1,rfl,rfl⟩:=h
 exact⟨fr',h1⟩
theorem Fp (r:Option (V×ah)) (fr:Fr):drop2 (r.map fun (v,σ)=>(v,fr,σ))=r:=by
 cases r<;>rfl
theorem Y5 (ht:σ'.top=σ.top) {st:Nat} {σ1:ah} {v:V}:Local (fun k=>k∈[Key.top]) σ σ' (lG σ st σ1 v) (lG σ' st σ1 v):=by
 have hs:∀v:V,Local (fun k=>k∈[Key.top]) σ σ' (some (v,σ)) (some (v,σ')):=fun v=>
  (ku (σ:=σ) (σ':=σ')).local.mono (fun k hk=>by cases hk) (fun k hk=>by rw[List.mem_singleton.1 hk];exact ht)
 unfold lG
 cases v with
 |aj c l=>
  dsimp only
  refine nJ ?_ cO
  cases c with
  |nil=>exact hs _
  |full=>exact hs _
  |own n s=>exact nJ (za ht) cO
  |sh=>exact cO
 |vw loc s off len cap aL ag=>
  dsimp only
  exact nJ (iF fun _=>za ht) cO
 |_=>exact cO
theorem Y6 {b:Bool} {l:List V} (hp:l.all (fun a=>aD (er a))=true):mZ b σ' l=mZ b σ l:=by
 have hm:∀l:List V,l.all (fun a=>aD (er a))=true→l.mapM (aJ 20 σ')=l.mapM (aJ 20 σ):=fun l hp=>Ce fun x hx=>P5 (List.all_eq_true.1 hp x hx)
 unfold mZ
 cases b with
 |false=>simp only[Bool.false_eq_true,if_false];exact hm l hp
 |true=>
  simp only[if_true]
  match l,hp with
  | [],_=>rfl
  |.aj .nil []::l,hp=>
   rw[List.all_cons,Bool.and_eq_true] at hp
   dsimp only
   rw[hm l hp.2]
  |.aj .nil (_::_)::_,_=>rfl
  |.aj .sh _::_,_=>rfl
  |.aj .full _::_,_=>rfl
  |.aj (.own _ _) _::_,_=>rfl
  |.int _ _::_,_=>rfl
  |.bool _::_,_=>rfl
  |.str _::_,_=>rfl
  |.dQ::_,_=>rfl
  |.dJ::_,_=>rfl
  |.dF::_,_=>rfl
  |.dK::_,_=>rfl
  |.agg _::_,_=>rfl
  |.aT _::_,_=>rfl
  |.vw _ _ _ _ _ _ _::_,_=>rfl
  |.aH _ _::_,_=>rfl
  |.ref _ _ _::_,_=>rfl
  |.fn _ _ _::_,_=>rfl
  |.bq _ _::_,_=>rfl
  |.bL _ _::_,_=>rfl
  |.iface _ _::_,_=>rfl
  |.raw _::_,_=>rfl
theorem Y7 (ht:σ'.top=σ.top) {st:Nat} {fv:V} {args:List V}:Local (fun k=>k∈[Key.top]) σ σ' (lH E S σ st fv args) (lH E S σ' st fv args):=by
 unfold lH
 cases fv with
 |fn f a b=>
  cases f with
  |func f=>
   dsimp only
   by_cases hp:(a++args++b).all (fun a=>aD (er a))=true
   ·rw[if_pos hp,if_pos hp,Y6 hp]
    exact iF fun as=>iF fun r=>Y5 ht
   ·rw[if_neg hp];exact cO
  |_=>exact cO
 |_=>exact cO
theorem Y8 {st:Nat} {o:Oper} (hw:(eZ E fr o).lI=false) (oH:(eZ E fr o).pJ=true→σ'=σ) (h:∀k,k∈(eZ E fr o).t∨k∈(eZ E fr o).w→eP σ σ' k):
 Local (fun k=>k∈(eZ E fr o).w) σ σ' (drop2 (opC E S fr σ st o)) (drop2 (opC E S fr σ' st o)):=by
 by_cases hc:∃c,o.op= .call c
 ·obtain⟨c,ho⟩:=hc
  unfold opC
  simp only[ho]
  cases cZ:c.callee with
  |builtin b=>
   simp only[Fp]
   simp only[eZ,ho,cZ] at h hw oH
   simp only[eZ,ho,cZ]
   have hargs:∀(t:List Key),(∀k,k∈(c.args.toList.flatMap fun x=>eD (fr.ev E x))∨k∈t→eP σ σ' k)→∀x∈c.args.toList.map (fr.ev E),∀q∈eD x,eP σ σ' q:=by
    intro t ht x hx q hq
    obtain⟨y,hy,rfl⟩:=List.mem_map.1 hx
    exact ht q (.inl (List.mem_flatMap.2 ⟨y,hy,hq⟩))
   cases b<;>simp only[dV,reduceCtorEq,Bool.true_eq_false] at hw
   case len=>exact(Fh (.inl rfl) (hargs [] h)).local
   case cap=>exact(Fh (.inr (.inl rfl)) (hargs [] h)).local
   case min=>exact(Fh (.inr (.inr (.inl rfl))) (hargs [] h)).local
   case max=>exact(Fh (.inr (.inr (.inr rfl))) (hargs [] h)).local
   case append=>
    cases aW:fr.om with
    |true=>rw[aW] at hw;simp at hw
    |false=>
     rw[aW] at h
     simp only[Bool.false_eq_true,if_false] at h⊢
     exact YS (hargs _ h) (h .top (.inr (by simp)))
  |value f=>
   simp only[eZ,ho,cZ] at h hw oH
   simp only[eZ,ho,cZ]
   cases cu:iO E fr o f with
   |true=>
    rw[cu] at h
    simp only[if_true] at h⊢
    simp only[Fp]
    have ht:σ'.top=σ.top:=h .top (.inr (by simp[iB]))
    exact Y7 ht
   |false=>
   rw[cu] at h hw oH
   simp only[Bool.false_eq_true,if_false] at h hw oH⊢
   simp only[Fp]
   generalize qV:fr.ev E f=fv at h hw oH⊢
   cases fv with
   |fn g a b=>
    cases g with
    |func g=>
     simp only at h hw oH⊢
     cases hi:E.imp g with
     |true=>rw[hi] at hw;simp[dV] at hw
     |false=>
      rw[hi] at h oH
      simp only[Bool.false_eq_true,if_false] at h oH⊢
      split
      ·rename_i hp
       exact(YX hi hp).local
      ·rename_i hp
       rw[if_neg hp] at oH
       have:=oH rfl
       subst this
       intro v σ1 hr
       have:=YZ hi hr
       subst this
       exact⟨σ1,hr,.refl _,.refl _,fun k hk=>.refl _ _,fun k hk=>.refl _ _,fun k hk=>.refl _ _⟩
    |_=>simp[dV] at hw
   |_=>simp[dV] at hw
  |invoke r m=>exact cO
 ·have hc':∀c,o.op≠ .call c:=fun c h=>hc ⟨c,h⟩
  have hd:∀(σ:ah),(∀d,o.op≠ .defer d)→drop2 (opC E S fr σ st o)=aS E fr σ st o:=by
   intro σ hd
   unfold opC
   split
   ·rename_i c hh;exact absurd hh (hc' c)
   ·rename_i c hh;exact absurd hh (hd c)
   ·exact Fp _ _
  by_cases hdf:∃d,o.op= .defer d
  ·obtain⟨d,ho⟩:=hdf
   simp only[eZ,ho,dV,Bool.true_eq_false] at hw
  ·have Qc:∀d,o.op≠ .defer d:=fun d h=>hdf ⟨d,h⟩
   rw[hd σ Qc,hd σ' Qc]
   exact YV hc' hw h
theorem JO {x:V}:Key.nx∉eD x:=by cases x<;>simp[eD]
theorem Y9 {o:Oper}:Key.nx∉(eZ E fr o).w:=by
 have hd:Key.nx∉ni fr o:=by unfold ni;cases o.dst<;>simp
 unfold eZ
 split<;>try simp[jP,iB,dV,hd,JO]
 split<;>try simp[jP,iB,dV,JO]
 all_goals (repeat' split)<;>simp[jP,iB,dV,JO]
theorem Za {ops:List Oper} {o:Oper} {t:Nat} (h:Operand.tmp t∈o.op.operands.toList):Key.slot t∈oz ops o:=by
 refine List.mem_append_left _ (List.mem_filterMap.2 ⟨_,h,rfl⟩)
theorem Zb {ops:List Oper} {o:Oper} (h:∀t,Key.slot t∈oz ops o→fr'.tm t=fr.tm t):∀x∈o.op.operands.toList,fr'.ev E x=fr.ev E x:=by
 intro x hx
 cases x with
 |tmp t=>exact h t (Za hx)
 |_=>rfl
theorem Zc {ops:List Oper} {o:Oper} (h:∀t,Key.slot t∈oz ops o→fr'.tm t=fr.tm t):bS ops fr' o=bS ops fr o:=by
 unfold bS
 cases hg:o.guard with
 |none=>rfl
 |some g=>
  obtain⟨j,want⟩:=g
  simp only
  cases hd:(ops[j]?).bind (·.dst) with
  |none=>rfl
  |some t=>
   have:fr'.tm t=fr.tm t:=h t (List.mem_append_right _ (by simp[hg,hd]))
   simp only[this]
theorem wQ (fr:Fr) (d:Option Nat) (v:V) (t:Nat):(fr.put d v).tm t=if d=some t then v else fr.tm t:=by
 cases d with
 |none=>simp[Fr.put]
 |some i=>
  show upd fr.tm i v t=_
  by_cases h:t=i
  ·subst h;simp[upd]
  ·have:¬(some i=some t):=fun e=>h (by cases e;rfl)
   simp[upd,h,this]
theorem Ch (fr:Fr) (d:Option Nat) (v:V):(fr.put d v).d=fr.d:=by cases d<;>rfl
theorem Ci (fr:Fr) (d:Option Nat) (v:V):(fr.put d v).om=fr.om:=by cases d<;>rfl
theorem Cj {o:Oper} {t:Nat}:Key.slot t∈ji o↔o.dst=some t:=by
 unfold ji
 cases o.dst with
 |none=>simp
 |some d=>simp only[List.mem_singleton,Key.slot.injEq,Option.some.injEq];exact⟨fun h=>h.symm,fun h=>h.symm⟩
theorem Qd {ops:List Oper} {base i:Nat} {o:Oper} (ho:ops[i]? =some o) {wt:Bool} (hwt:bS ops fr o=some wt) {aP:Fr} {σ1:ah} (hs:gL E S ops base i fr σ=some (aP,σ1))
 (x:Fr×ah) (hx:∀k,(dA E ops fr o wt).T k→Ag k (fr,σ) x):
 ∃y:Fr×ah,gL E S ops base i x.1 x.2=some y∧(∀k,(dA E ops fr o wt).W k→Ag k (aP,σ1) y)∧(∀k,¬(dA E ops fr o wt).W k→Ag k x y)∧
  ∀k,¬(dA E ops fr o wt).W k→Ag k (fr,σ) (aP,σ1):=by
 obtain⟨fr',σ'⟩:=x
 obtain⟨r1,r2⟩:fr.d=fr'.d∧fr.om=fr'.om:=hx .rest (.inl rfl)
 have hsl:∀t,Key.slot t∈oz ops o→fr'.tm t=fr.tm t:=by
  intro t ht
  refine Eq.symm (hx (.slot t) (.inr (.inl ?_)))
  cases wt
  ·exact ht
  ·exact List.mem_append_left _ ht
 have Zd:bS ops fr' o=some wt:=(Zc hsl).trans hwt
 simp only[gL,ho,hwt,Option.bind_some] at hs
 simp only[gL,ho,Zd,Option.bind_some]
 cases wt with
 |false=>
  simp only[Bool.false_eq_true,if_false,Option.some.injEq,Prod.mk.injEq] at hs⊢
  obtain⟨rfl,rfl⟩:=hs
  have hW:∀k,(dA E ops fr o false).W k↔k∈ji o:=fun k=>by
   refine⟨fun h=> ?_,fun h=>.inl h⟩
   rcases h with h| ⟨h,_⟩
   ·exact h
   ·cases h
  have Qe:∀(f:Fr) (s:ah) k,¬(dA E ops fr o false).W k→Ag k (f,s) (f.put o.dst aA,s):=by
   intro f s k hk
   rw[hW] at hk
   cases k with
   |slot t=>
    show f.tm t=(f.put o.dst aA).tm t
    rw[wQ,if_neg (fun e=>hk (Cj.2 e))]
   |obj l=>rfl
   |top=>rfl
   |rest=>exact⟨(Ch _ _ _).symm,(Ci _ _ _).symm⟩
   |nx=>exact⟨rfl,rfl⟩
  refine⟨_,rfl,fun k hk=> ?_,Qe fr' σ',Qe fr σ⟩
  rw[hW] at hk
  cases k with
  |slot t=>
   show (fr.put o.dst aA).tm t=(fr'.put o.dst aA).tm t
   rw[wQ,wQ,if_pos (Cj.1 hk),if_pos (Cj.1 hk)]
  |obj l=>exfalso;unfold ji at hk;cases hd:o.dst<;>simp[hd] at hk
  |top=>exfalso;unfold ji at hk;cases hd:o.dst<;>simp[hd] at hk
  |rest=>exfalso;unfold ji at hk;cases hd:o.dst<;>simp[hd] at hk
  |nx=>exfalso;unfold ji at hk;cases hd:o.dst<;>simp[hd] at hk
 |true=>
  simp only[if_true,Option.map_eq_some_iff,Prod.mk.injEq] at hs⊢
  obtain⟨⟨v,bZ,σ2⟩,hop,rfl,rfl⟩:=hs
  obtain rfl:=Y3 hop
  have key:∃wR,opC E S fr' σ' (base+i) o=some (v,fr',wR)∧(∀k,(dA E ops bZ o true).W k→Ag k (bZ,σ2) (bZ,wR))∧
   (∀k,¬(dA E ops bZ o true).W k→Ag k (bZ,σ) (bZ,σ2)∧Ag k (bZ,σ') (bZ,wR)):=by
   rw[YL (Zb hsl) r1.symm r2.symm]
   have JQ:∀k,(dA E ops bZ o true).T k→eP σ σ' k:=by
    intro k hk
    have:=hx k hk
    cases k with
    |obj l=>exact Eq.symm this
    |top=>exact Eq.symm this
    |slot t=>trivial
    |rest=>trivial
    |nx=>trivial
   cases wS:(eZ E bZ o).lI with
   |true=>
    have hst:∀k:Key,k.state=true→eP σ σ' k:=fun k hk=>JQ k (.inr (.inr (.inr ⟨.inr wS,hk⟩)))
    have hσ:σ'=σ:=by
     obtain⟨r3,r4⟩:σ.next=σ'.next∧σ.loops=σ'.loops:=hx .nx (.inr (.inr (.inr ⟨.inr wS,rfl⟩)))
     obtain⟨nx,top,obj,lp⟩:=σ
     obtain⟨nx',top',Cg,P6⟩:=σ'
     have h1:top'=top:=hst .top rfl
     have h2:Cg=obj:=funext fun l=>hst (.obj l) rfl
     simp only at r3 r4
     subst h1 h2 r3 r4;rfl
    subst hσ
    refine⟨σ2,by rw[hop];rfl,fun k _=>.refl _ _,fun k hk=> ?_⟩
    cases k with
    |slot t=>exact⟨rfl,rfl⟩
    |obj l=>exact absurd (.inr ⟨wS,rfl⟩) hk
    |top=>exact absurd (.inr ⟨wS,rfl⟩) hk
    |rest=>exact⟨⟨rfl,rfl⟩,⟨rfl,rfl⟩⟩
    |nx=>exact absurd (.inr ⟨wS,rfl⟩) hk
   |false=>
    have oH:(eZ E bZ o).pJ=true→σ'=σ:=by
     intro ht
     have hst:∀k:Key,k.state=true→eP σ σ' k:=fun k hk=>JQ k (.inr (.inr (.inr ⟨.inl ht,hk⟩)))
     obtain⟨r3,r4⟩:σ.next=σ'.next∧σ.loops=σ'.loops:=hx .nx (.inr (.inr (.inr ⟨.inl ht,rfl⟩)))
     obtain⟨nx,top,obj,lp⟩:=σ
     obtain⟨nx',top',Cg,P6⟩:=σ'
     have h1:top'=top:=hst .top rfl
     have h2:Cg=obj:=funext fun l=>hst (.obj l) rfl
     simp only at r3 r4
     subst h1 h2 r3 r4;rfl
    have hl:=Y8 (S:=S) (st:=base+i) wS oH (fun k hk=>JQ k (by
     rcases hk with hk|hk
     ·exact .inr (.inl (List.mem_append_right _ hk))
     ·exact .inr (.inr (.inl (List.mem_append_right _ hk)))))
    obtain⟨wR,h1,h2,h3,h4,h5,h6⟩:=hl v σ2 (by rw[hop];rfl)
    obtain⟨fr3,h1'⟩:=Y4 h1
    have hWw:∀k,(dA E ops bZ o true).W k→k∈ji o∨k∈(eZ E bZ o).w:=fun k hk=>by
     rcases hk with h| ⟨h,_⟩
     ·exact List.mem_append.1 h
     ·have:(eZ E bZ o).lI=true:=h
      rw[wS] at this;cases this
    have hto:∀{σa σb:ah} {k:Key},eP σa σb k→nE σa σb∨k≠ .nx→Ag k (bZ,σa) (bZ,σb):=by
     intro σa σb k ha hn
     cases k with
     |slot t=>rfl
     |obj l=>exact Eq.symm ha
     |top=>exact Eq.symm ha
     |rest=>exact⟨rfl,rfl⟩
     |nx=>
      rcases hn with hn|hn
      ·exact⟨hn.1.symm,hn.2.symm⟩
      ·exact absurd rfl hn
    have Ze:Key.nx∉(eZ E bZ o).w:=Y9
    refine⟨wR,by rw[h1'];rfl,fun k hk=> ?_,fun k hk=> ?_⟩
    ·rcases hWw k hk with h|h
     ·cases k with
      |slot t=>rfl
      |obj l=>exfalso;unfold ji at h;cases hd:o.dst<;>simp[hd] at h
      |top=>exfalso;unfold ji at h;cases hd:o.dst<;>simp[hd] at h
      |rest=>exfalso;unfold ji at h;cases hd:o.dst<;>simp[hd] at h
      |nx=>exfalso;unfold ji at h;cases hd:o.dst<;>simp[hd] at h
     ·exact hto (h4 k h) (.inr (fun e=>Ze (e▸h)))
    ·have hk':k∉(eZ E bZ o).w:=fun h=>hk (.inl (List.mem_append_right _ h))
     exact⟨hto (h5 k hk') (.inl h2),hto (h6 k hk') (.inl h3)⟩
  obtain⟨wR,h1,h2,h3⟩:=key
  refine⟨(fr'.put o.dst v,wR),⟨_,h1,rfl⟩,fun k hk=> ?_,fun k hk=> ?_,fun k hk=> ?_⟩
  ·have hk0:=h2 k hk
   cases k with
   |slot t=>
    show (bZ.put o.dst v).tm t=(fr'.put o.dst v).tm t
    rw[wQ,wQ]
    split
    ·rfl
    ·exact hx (.slot t) (bA.P7 hk)
   |obj l=>exact hk0
   |top=>exact hk0
   |rest=>
    refine⟨?_, ?_⟩
    ·show (bZ.put o.dst v).d=(fr'.put o.dst v).d;rw[Ch,Ch];exact r1
    ·show (bZ.put o.dst v).om=(fr'.put o.dst v).om;rw[Ci,Ci];exact r2
   |nx=>exact hk0
  ·have hk0:=(h3 k hk).2
   cases k with
   |slot t=>
    show fr'.tm t=(fr'.put o.dst v).tm t
    rw[wQ,if_neg (fun e=>hk (.inl (List.mem_append_left _ (Cj.2 e))))]
   |obj l=>exact hk0
   |top=>exact hk0
   |rest=>exact⟨(Ch _ _ _).symm,(Ci _ _ _).symm⟩
   |nx=>exact hk0
  ·have hk0:=(h3 k hk).1
   cases k with
   |slot t=>
    show bZ.tm t=(bZ.put o.dst v).tm t
    rw[wQ,if_neg (fun e=>hk (.inl (List.mem_append_left _ (Cj.2 e))))]
   |obj l=>exact hk0
   |top=>exact hk0
   |rest=>exact⟨(Ch _ _ _).symm,(Ci _ _ _).symm⟩
   |nx=>exact hk0
end
end Aq
end
