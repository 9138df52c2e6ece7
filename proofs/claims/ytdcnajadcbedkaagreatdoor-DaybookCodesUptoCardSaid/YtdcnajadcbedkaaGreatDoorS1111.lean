/- Part of the proof of a law. -/
import Derived.Test.YtdcnajadcbedkaaGreatDoorS1110
set_option linter.all false
set_option linter.unusedSimpArgs false
set_option linter.unusedSectionVars false
section
namespace Aq
open Go
set_option linter.unusedSectionVars false
set_option linter.unusedVariables false
section
variable {R:gM} {E:Env}
variable {ρ:aL} {b aB:Nat} {st:MS R.T} {fr:Fr} {σ:ah} {o:Oper}
theorem afC {j:Nat} {t:Bool} (h:aZ [] st (.tmp j)=some (.bool t)):look st.fr j=some (.bool t):=by
 unfold aZ at h
 dsimp only at h
 split at h
 ·rename_i v hv
  cases v<;>first| (cases h;exact hv)| (simp[Io,look] at h;done)
 ·cases h
variable (hR:mQ R)
include hR
omit hR in
theorem Wp {β:Type} {top:Nat→Nat} {x z:TV R.T} {v zv:V} {k:TV R.T→Bool→Option β} {res:β} (hx:Rl R ρ top x v) (hz:Rl R ρ top z zv):∀{ks vs:List (TV R.T)} {kl vl:List V},IY x ks vs z k=some res→aC R ρ top ks kl→aC R ρ top vs vl→
 ∃y b w r,Rl R ρ top y w∧mY v kl vl=some r∧((r=none→w=zv∧b=false)∧∀u,r=some u→w=u∧b=true)∧k y b=some res
 | [],[],kl,vl,h,h1,h2=>by
   rw[h1.eT,h2.eT]
   exact⟨z,false,zv,none,hz,rfl,⟨fun _=>⟨rfl,rfl⟩,fun u h=>by cases h⟩,h⟩
 | [],_::_,_,_,h,_,_=>by cases h
 |_::_,[],_,_,h,_,_=>by cases h
 |a::ks,b::vs,kl,vl,h,h1,h2=>by
  obtain⟨k0,k',rfl,g1,g2⟩:=h1.dB
  obtain⟨l0,l',rfl,g3,g4⟩:=h2.dB
  unfold IY at h
  split at h
  ·rename_i c hc
   have he:=VT hc hx g1
   cases c with
   |true=>exact⟨b,true,l0,some l0,g3,by simp[mY,he],⟨fun h=>(by cases h),fun u h=>by cases h;exact⟨rfl,rfl⟩⟩,h⟩
   |false=>
    obtain⟨y,bb,w,r,e1,e2,e3,e4⟩:=Wp hx hz h g2 g4
    exact⟨y,bb,w,r,e1,by simp[mY,he,e2],e3,e4⟩
  ·cases h
theorem Po {om:Bool} {β:Type} {F:Nat→List (FR R)} (hF:bS E F) (aX:ρ.om.om=om) (eF:∀d,o.dst=some d→d<F0) (hi:aH ρ aB st fr σ) {k:MS R.T→Option β} {x:β} (h:runM E R om F o st k=some x) {G:Prop} {rest:Fr→ah→Prop}
 (hs:∀y σ',kP E fr σ aB o y σ'→rest (fr.put o.dst y) σ'→G) (hk:∀ρ' st' y σ',aH ρ' (aB+1) st' (fr.put o.dst y) σ'→σ'.next=σ.next→(∀p,o.dst≠some p→aT true p st ρ σ st' ρ' σ')→k st'=some x→rest (fr.put o.dst y) σ'):G:=by
 have hi1:=hi.le (Nat.le_succ aB)
 unfold runM at h
 split at h
 ·rename_i c a' b' hop
  split at h
  ·rename_i t hc
   have hc':=(aV (E:=E) hi .nil hc).sV
   split at h
   ·rename_i v hv
    refine hs _ _ (.iq (BG hop hc')) (hk ρ _ _ σ (hi1.dY o.dst ?_) rfl (fun p _=>aT.same (by first|exact kY|rfl)) h)
    cases t
    ·exact aV (E:=E) hi .nil hv
    ·exact aV (E:=E) hi .nil hv
   ·cases h
  ·rename_i t hc
   have hc':=(aV (E:=E) hi .nil hc).pK
   split at h
   ·rename_i j
    have hj:=hc'
    rw[Ac] at hj
    split at h
    ·rename_i x' y' hx hy
     split at h
     ·rename_i v hv
      refine hs _ _ (.iq (BG hop hc')) (hk ρ _ _ σ (hi1.dY o.dst ?_) rfl (fun p _=>aT.same (by first|exact kY|rfl)) h)
      cases t
      ·exact VR hv (aV (E:=E) hi (.cons hj .nil) hy)
      ·exact VQ hv (aV (E:=E) hi (.cons hj .nil) hx)
     ·cases t
      ·exact hs _ _ (.iq (BG hop hc')) (hk ρ _ _ σ ((hi1.learn hj).dY o.dst (aV (E:=E) hi (.cons hj .nil) hy)) rfl (fun p _=>aT.same (by first|exact kY|rfl)) h)
      ·exact hs _ _ (.iq (BG hop hc')) (hk ρ _ _ σ ((hi1.learn hj).dY o.dst (aV (E:=E) hi (.cons hj .nil) hx)) rfl (fun p _=>aT.same (by first|exact kY|rfl)) h)
    ·cases h
   ·cases h
  ·cases h
 ·rename_i t a y hop
  split at h
  ·rename_i τ p i off l v hst
   unfold Od at hst
   split at hst
   ·rename_i p' τ1 i' off' v' ha hv
    split at hst
    ·rename_i τ' l0 sz hl hsz
     split at hst
     ·rename_i l1 hl1
      obtain⟨hc,hst⟩:=cZ hst
      cases hst
      obtain⟨e,e2⟩:=pO hl1;subst e;cases e2
      simp only[Bool.and_eq_true] at hc
      obtain⟨⟨⟨c1,c2⟩,c3⟩,c4⟩:=hc
      obtain⟨z,hz,h⟩:=Option.bind_eq_some_iff.1 h
      split at h
      ·rename_i y' hu
       obtain⟨s,h1,_,h2⟩:=(aV (E:=E) hi .nil ha).yu
       obtain⟨h6,h7⟩:=uq c4 (aV (E:=E) hi .nil hv)
       have hO:=hi.ob _ _ hl
       obtain⟨cs,k1,k2,k3,k4⟩:=aeT hR hO h1 hz h6 (Nat.le_of_ble_eq_true c2) hu
       refine hs aD (σ.setObj (ρ.om.lc p) s (.cells (eO cs (i.toNat*bI R τ'+off) (fr.ev E y).cells))) (.iq (o:=o) ?_) (hk ρ _ aD _ ((hi1.set p s (x:=.arr τ' (xZ l0 i y')) (a:=.cells (eO cs (i.toNat*bI R τ'+off) (fr.ev E y).cells)) ⟨k4.trans hO.1,.inr ⟨s,_,h1,tX _ _ _ _,k3⟩⟩).dY o.dst (x:=.undef) (by unfold Rl;rfl)) rfl (fun q _=>(aT.set hl rfl).congr kY) h)
       simp only[aW,hop,h2,k1,Option.bind_some]
       rw[if_pos ⟨by rw[hsz,h6.length,dG c1],k2,Ev c3 h6⟩]
      ·cases h
     ·cases hst
    ·cases hst
   ·cases hst
  ·split at h
   ·rename_i v st' hr
    rw[←hop] at hr
    obtain⟨y,σ',ρ',h1,h2,h3,h4,h5⟩:=uy hR hF aX eF .nil hi hr
    exact hs y σ' h1 (hk ρ' _ y σ' (h2.dY o.dst h4) h3 (fun p hp=>(h5 p hp).congr kY) h)
   ·cases h
 ·rename_i t m y ok hop
  split at h
  ·rename_i ks vs q z hsm
   unfold Oc at hsm
   split at hsm
   ·rename_i p hm
    split at hsm
    ·rename_i ks' vs' hl
     split at hsm
     ·rename_i q' kt et hq ht
      split at hsm
      ·rename_i z' hz
       obtain⟨hkey,hsm⟩:=cZ hsm
       cases hsm
       obtain⟨s,a1,a2⟩:=(aV (E:=E) hi .nil hm).vg
       obtain⟨s',k0,l0,b1,b2,b3,b4⟩:=hi.rd hl
       rw[a1] at b1;cases b1
       have hqr:=aV (E:=E) hi .nil hq
       obtain⟨zv,z1,z2⟩:=Bv (ρ:=ρ) (top:=σ.top) hz
       obtain⟨v,bb,w,r,c1,c2,c3,c4⟩:=Wp hqr z2 h b3 b4
       have hlk:tJ E.P σ t (fr.ev E m) (fr.ev E y) ok=some (if ok then .bg [w,.bool bb] else w):=by
        rw[Vm,ht];simp only[Option.bind_some]
        rw[if_pos (VU hkey hqr),a2]
        show (σ.eX (ρ.om.lc p) s).bind _=_
        rw[b2];simp only[Option.bind_some,c2]
        cases r with
        |none=>simp only[z1,Option.map_some];obtain⟨e1,e2⟩:=c3.1 rfl;rw[e1,e2]
        |some u=>simp only[Option.map_some];obtain⟨e1,e2⟩:=c3.2 u rfl;rw[e1,e2]
       refine hs _ σ (.iq (o:=o) ?_) (hk ρ _ (if ok then .bg [w,.bool bb] else w) σ (hi1.dY o.dst ?_) rfl (fun p _=>aT.same (by first|exact kY|rfl)) c4)
       ·simp only[aW,hop,hlk,Option.map_some]
       ·cases ok
        ·exact c1
        ·rw[cond_true,if_pos rfl];unfold Rl;exact⟨_,rfl,.cons' c1 (.cons' (by unfold Rl;rfl) rfl)⟩
      ·cases hsm
     ·cases hsm
    ·cases hsm
   ·cases hsm
  ·split at h
   ·rename_i v hr
    rw[←hop] at hr
    obtain⟨y,h1,h2⟩:=uy hR hF aX eF .nil hi hr
    exact hs y σ h1 (hk ρ _ y σ (hi1.dY o.dst h2) rfl (fun p _=>aT.same (by first|exact kY|rfl)) h)
   ·cases h
 ·split at h
  ·rename_i v hr
   obtain⟨y,h1,h2⟩:=uy hR hF aX eF .nil hi hr
   exact hs y σ h1 (hk ρ _ y σ (hi1.dY o.dst h2) rfl (fun p _=>aT.same (by first|exact kY|rfl)) h)
  ·rename_i c v hr
   obtain⟨hc,h⟩:=cZ h
   obtain⟨y,h1,h2⟩:=uy hR hF aX eF .nil hi hr hc
   exact hs y σ h1 (hk ρ _ y σ (hi1.dY o.dst h2) rfl (fun p _=>aT.same (by first|exact kY|rfl)) h)
  ·rename_i v st' hr
   obtain⟨y,σ',ρ',h1,h2,h3,h4,h5⟩:=uy hR hF aX eF .nil hi hr
   exact hs y σ' h1 (hk ρ' _ y σ' (h2.dY o.dst h4) h3 (fun p hp=>(h5 p hp).congr kY) h)
  ·rename_i c v st' hr
   obtain⟨hc,h⟩:=cZ h
   obtain⟨y,σ',ρ',h1,h2,h3,h4,h5⟩:=uy hR hF aX eF .nil hi hr hc
   exact hs y σ' h1 (hk ρ' _ y σ' (h2.dY o.dst h4) h3 (fun p hp=>(h5 p hp).congr kY) h)
  ·rename_i α z q f hr
   obtain⟨a,ha,h⟩:=Option.bind_eq_some_iff.1 h
   obtain⟨y,h1,h2⟩:=uy hR hF aX eF .nil hi hr a ha
   exact hs y σ h1 (hk ρ _ y σ (hi1.dY o.dst h2) rfl (fun p _=>aT.same (by first|exact kY|rfl)) h)
  ·cases h
omit hR in
theorem yD (hi:aH ρ b st fr σ):∀(n j:Nat) (w c:Bool) (g:List (Nat×Bool)),l7 st n j w=some (c,g)→(c=true→fr.tm j= .bool w∧nM fr g)∧(c=false→fr.tm j= .bool (!w)∨fr.tm j=aD)∧(g=[(j,w)]→c=false→fr.tm j= .bool (!w))
 |0,j,w,c,g,h=>by cases h
 |n+1,j,w,c,g,h=>by
  have key:∀(i:Nat) (u a:Bool) (y:TV R.T),look st.fr j=some (.opt i u y)→(∀v,Rl R ρ σ.top y v→v= .bool a)→(match l7 st n i u with
   |some (c,g)=>some (Oa c (AZ a w),(j,w)::g)
   |none=>none)=some (c,g)→(c=true→fr.tm j= .bool w∧nM fr g)∧(c=false→fr.tm j= .bool (!w)∨fr.tm j=aD)∧(g=[(j,w)]→c=false→fr.tm j= .bool (!w)):=by
   intro i u a y hl hy h
   split at h
   ·rename_i c0 g0 he
    cases h
    obtain⟨h1,h2,h3⟩:=yD hi n i u c0 g0 he
    have hr:=hi.fr _ _ hl
    have hg0:g0≠[]:=by
     rintro rfl
     cases n with
     |zero=>cases he
     |succ n=>
      unfold l7 at he
      split at he
      ·cases he
      ·split at he<;>cases he
      ·split at he<;>cases he
      ·cases he
    refine⟨fun hc=> ?_,fun hc=> ?_,fun hg=>absurd (by simpa using hg) hg0⟩
    ·cases c0 with
     |false=>cases hc
     |true=>
      obtain⟨a1,a2⟩:=h1 rfl
      have hv:=hy _ (hr.1 a1)
      have hc':AZ a w=true:=hc
      have:a=w:=by cases a<;>cases w<;>first|rfl|cases hc'
      subst this
      exact⟨hv,.cons hv a2⟩
    ·cases c0 with
     |false=>exact .inr (hr.2 (h2 rfl))
     |true=>
      obtain⟨a1,a2⟩:=h1 rfl
      have hv:=hy _ (hr.1 a1)
      have hc':AZ a w=false:=hc
      have:a= !w:=by cases a<;>cases w<;>first|rfl|cases hc'
      subst this
      exact .inl hv
   ·cases h
  unfold l7 at h
  split at h
  ·rename_i a hl
   cases h
   have hv:=(show Rl R ρ σ.top (.bool a) (fr.tm j) from hi.fr _ _ hl).pK
   refine⟨fun hc=> ?_,fun hc=>.inl ?_,fun _ hc=> ?_⟩
   ·have:a=w:=by cases a<;>cases w<;>first|rfl|cases hc
    subst this;exact⟨hv,.cons hv .nil⟩
   ·have:a= !w:=by cases a<;>cases w<;>first|rfl|cases hc
    subst this;exact hv
   ·have:a= !w:=by cases a<;>cases w<;>first|rfl|cases hc
    subst this;exact hv
  ·rename_i i u a hl;exact key i u a _ hl (fun v hv=>hv.pK) h
  ·rename_i i u a hl;exact key i u a _ hl (fun v hv=>hv.sV) h
  ·cases h
omit hR in
theorem Wq {all:List Oper} (hi:aH ρ b st fr σ):match IX all st o with
 |.run=>dJ all fr o=some true
 |.skip=>dJ all fr o=some false
 |.dyn j w c g=>(∃n,l7 st n j w=some (c,g))∧dJ all fr o=some c
 |.no=>True:=by
 unfold IX dJ
 cases hg:o.guard with
 |none=>rfl
 |some p=>
  obtain⟨j,w⟩:=p
  dsimp only
  cases hj:all[j]? with
  |none=>rfl
  |some p=>
   simp only[Option.bind_some]
   cases hd:p.dst with
   |none=>rfl
   |some t=>
    dsimp only
    have dyn:∀c g,l7 st 12 t w=some (c,g)→(match fr.tm t with
     |.bool b=>some (b==w)
     |.raw _=>none
     |_=>some false)=some c:=by
     intro c g he
     obtain⟨h1,h2,_⟩:=yD hi 12 t w c g he
     cases c with
     |true=>rw[(h1 rfl).1];simp
     |false=>
      rcases h2 rfl with h2|h2
      ·rw[h2];cases w<;>rfl
      ·rw[h2];rfl
    cases hl:look st.fr t with
    |none=>
     dsimp only
     cases he:l7 st 12 t w with
     |none=>trivial
     |some q=>exact⟨⟨12,he⟩,dyn _ _ he⟩
    |some v=>
     have hr:=hi.fr _ _ hl
     cases v with
     |gy c=>
      have:=(show Rl R ρ σ.top (.gy c) (fr.tm t) from hr).sV
      rw[this]
      cases c<;>cases w<;>rfl
     |undef=>
      have:=(show Rl R ρ σ.top .undef (fr.tm t) from hr).Ut
      rw[this];rfl
     |_=>
      dsimp only
      cases he:l7 st 12 t w with
      |none=>trivial
      |some q=>exact⟨⟨12,he⟩,dyn _ _ he⟩
omit hR in
theorem Jz (hi:aH ρ b st fr σ):∀{g:List (Nat×Bool)},nM fr g→(∀j u,(j,u)∈g→fr.tm j= .bool u)→aH ρ b (st.kE g) fr σ∧(st.kE g).ob=st.ob
 | [],_,_=>⟨hi,rfl⟩
 | (j,w)::g,hg,hm=>by
   obtain⟨h1,h2⟩:=Jz hi (g:=g) (fun i u h=>by
    exact hm i u (by
     have:∀g:List (Nat×Bool),look g i=some u→(i,u)∈g:=by
      intro g
      induction g with
      |nil=>intro h;cases h
      |cons p g ih=>
       intro h
       obtain⟨k,v⟩:=p
       by_cases e:i=k
       ·subst e;rw[iY] at h;cases h;simp
       ·rw[fP _ _ e] at h;simp[ih h]
     exact List.mem_cons_of_mem _ (this g h))) (fun i u h=>hm i u (by simp[h]))
   exact⟨h1.learn (hm j w (by simp)),h2⟩
omit hR in
theorem JA (hi:aH ρ b st fr σ):∀(n j:Nat) (w:Bool) (g:List (Nat×Bool)),l7 st n j w=some (true,g)→∀i u,(i,u)∈g→fr.tm i= .bool u
 |0,j,w,g,h=>by cases h
 |n+1,j,w,g,h=>by
  have hj:=((yD hi (n+1) j w true g h).1 rfl).1
  unfold l7 at h
  split at h
  ·simp only[Option.some.injEq,Prod.mk.injEq] at h
   obtain⟨_,rfl⟩:=h
   intro i u hm;simp at hm;obtain⟨rfl,rfl⟩:=hm;exact hj
  all_goals first
   | (split at h
      ·rename_i c0 g0 he
       simp only[Option.some.injEq,Prod.mk.injEq] at h
       obtain⟨hc,rfl⟩:=h
       cases c0 with
       |false=>cases hc
       |true=>
        intro i u hm
        rcases List.mem_cons.1 hm with hm|hm
        ·cases hm;exact hj
        ·exact JA hi n _ _ g0 he i u hm
      ·cases h)
   |cases h
omit hR in
theorem Pp (hi:aH ρ b st fr σ) {n j:Nat} {w:Bool} {g:List (Nat×Bool)} (hj:l7 st n j w=some (false,g)):aH ρ b (st.uZ g) fr σ∧(st.uZ g).ob=st.ob:=by
 obtain⟨_,_,e3⟩:=yD hi n j w false g hj
 rcases g with _| ⟨⟨j',w'⟩,_| ⟨p,g⟩⟩
 ·exact⟨hi,rfl⟩
 ·have hj':j'=j∧w'=w:=by
   cases n with
   |zero=>cases hj
   |succ n=>
    unfold l7 at hj
    split at hj
    ·simp only[Option.some.injEq,Prod.mk.injEq,List.cons.injEq] at hj
     exact⟨hj.2.1.1.symm,hj.2.1.2.symm⟩
    ·split at hj
     ·simp only[Option.some.injEq,Prod.mk.injEq,List.cons.injEq] at hj
      exact⟨hj.2.1.1.symm,hj.2.1.2.symm⟩
     ·exact absurd hj (by simp)
    ·split at hj
     ·simp only[Option.some.injEq,Prod.mk.injEq,List.cons.injEq] at hj
      exact⟨hj.2.1.1.symm,hj.2.1.2.symm⟩
     ·exact absurd hj (by simp)
    ·exact absurd hj (by simp)
  obtain⟨rfl,rfl⟩:=hj'
  exact⟨hi.learn (e3 rfl rfl),rfl⟩
 ·exact⟨hi,rfl⟩
theorem afD {om:Bool} {β:Type} {F:Nat→List (FR R)} (hF:bS E F) (aX:ρ.om.om=om) (eF:∀d,o.dst=some d→d<F0) (hi:aH ρ aB st fr σ) {j n:Nat} {w c:Bool} {g:List (Nat×Bool)} (hj:l7 st n j w=some (c,g)) {k:MS R.T→Option β} {x:β} (h:Oe E R om F o j w c g st k=some x) {G:Prop} {rest:Fr→ah→Prop}
 (hs:c=true→∀y σ',kP E fr σ aB o y σ'→rest (fr.put o.dst y) σ'→G) (hs':c=false→rest (fr.put o.dst aD) σ→G)
 (hk:∀ρ' st' y σ',aH ρ' (aB+1) st' (fr.put o.dst y) σ'→σ'.next=σ.next→(∀p,o.dst≠some p→aT true p st ρ σ st' ρ' σ')→k st'=some x→rest (fr.put o.dst y) σ'):G:=by
 have hi1:=hi.le (Nat.le_succ aB)
 obtain⟨e1,e2,e3⟩:=yD hi n j w c g hj
 have Pq:(bif c then runM E R om F o (st.kE g) k else k ((st.uZ g).dY o.dst .undef))=some x→G:=by
  intro h
  cases c with
  |true=>
   obtain⟨l1,l2⟩:=Jz hi (e1 rfl).2 (JA hi n j w g hj)
   exact Po hR hF aX eF l1 h (hs rfl) (fun ρ' st' y σ' a b c d=>hk ρ' st' y σ' a b (fun p hp=>(c p hp).from l2) d)
  |false=>
   obtain⟨n1,n2⟩:=Pp hi hj
   have hN:aH ρ (aB+1) (st.uZ g) fr σ∧(st.uZ g).ob=st.ob:=⟨n1.le (Nat.le_succ _),n2⟩
   refine hs' rfl (hk ρ _ aD σ (hN.1.dY o.dst (by unfold Rl;rfl)) rfl (fun p _=>aT.same (kY.trans hN.2)) h)
 unfold Oe at h
 split at h
 ·rename_i d hd
  have hput:aP d (g.map (·.1))=false→∀(v:TV R.T) (y:V),(c=true→Rl R ρ σ.top v y)→(c=false→y=aD)→aH ρ (aB+1) (st.put d (.opt j w v)) (fr.put o.dst y) σ:=by
   intro hdj v y h1 h2
   have hne:(fr.set d y).tm j=fr.tm j:=by
    refine DV _ _ ?_
    cases n with
    |zero=>cases hj
    |succ n=>
     have hmem:aP d (g.map (·.1))=false:=hdj
     have:∃g',g=(j,w)::g':=by
      unfold l7 at hj
      split at hj
      ·cases hj;exact⟨[],rfl⟩
      all_goals first
       | (split at hj
          ·simp only[Option.some.injEq,Prod.mk.injEq] at hj
           exact⟨_,hj.2.symm⟩
          ·cases hj)
       |cases hj
     obtain⟨g',rfl⟩:=this
     have h':(Nat.beq d j||aP d (g'.map (·.1)))=false:=hmem
     rw[Bool.or_eq_false_iff] at h'
     simpa using (I9 h'.1).symm
   rw[hd,Aa]
   refine hi1.put d ⟨fun hc=> ?_,fun hc=> ?_⟩
   ·rw[hne] at hc
    refine h1 ?_
    cases c with
    |true=>rfl
    |false=>
     rcases e2 rfl with e|e
     ·rw[e] at hc;cases w<;>cases hc
     ·rw[e] at hc;cases hc
   ·rw[hne] at hc
    refine h2 ?_
    cases c with
    |false=>rfl
    |true=>
     rw[(e1 rfl).1] at hc
     rcases hc with hc|hc
     ·cases w<;>cases hc
     ·cases hc
  cases hdj:aP d (g.map (·.1))
  ·rw[hdj] at h
   simp only[cond_false] at h
   split at h
   ·rename_i v hr
    cases c with
    |true=>
     obtain⟨y,h1,h2⟩:=uy hR hF aX eF (e1 rfl).2 hi hr
     exact hs rfl y σ h1 (hk ρ _ y σ (hput hdj v y (fun _=>h2) (fun h=>by cases h)) rfl (fun p _=>aT.same rfl) h)
    |false=>exact hs' rfl (hk ρ _ aD σ (hput hdj v aD (fun h=>by cases h) (fun _=>rfl)) rfl (fun p _=>aT.same rfl) h)
   ·rename_i q v hr
    obtain⟨hq,hh⟩:=cZ h
    clear h
    cases c with
    |true=>
     obtain⟨y,h1,h2⟩:=uy hR hF aX eF (e1 rfl).2 hi hr hq
     exact hs rfl y σ h1 (hk ρ _ y σ (hput hdj v y (fun _=>h2) (fun h=>by cases h)) rfl (fun p _=>aT.same rfl) hh)
    |false=>exact hs' rfl (hk ρ _ aD σ (hput hdj v aD (fun h=>by cases h) (fun _=>rfl)) rfl (fun p _=>aT.same rfl) hh)
   ·rename_i α z q f hr
    obtain⟨a,ha,hh⟩:=Option.bind_eq_some_iff.1 h
    clear h
    cases c with
    |true=>
     obtain⟨y,h1,h2⟩:=uy hR hF aX eF (e1 rfl).2 hi hr a ha
     exact hs rfl y σ h1 (hk ρ _ y σ (hput hdj _ y (fun _=>h2) (fun h=>by cases h)) rfl (fun p _=>aT.same rfl) hh)
    |false=>exact hs' rfl (hk ρ _ aD σ (hput hdj _ aD (fun h=>by cases h) (fun _=>rfl)) rfl (fun p _=>aT.same rfl) hh)
   ·exact Pq h
  ·rw[hdj] at h
   exact Pq h
 ·exact Pq h
omit hR in
theorem yE {ρ':aL} {st':MS R.T} {σ':ah} (h:∀p,o.dst≠some p→aT true p st ρ σ st' ρ' σ'):ρ'.om=ρ.om:=by
 cases hd:o.dst with
 |none=>exact(h 0 (by rw[hd];simp)).om
 |some d=>exact(h (d+1) (by rw[hd];simp)).om
omit hR in
theorem Ws {os:List Oper} {p:Nat} (h:aP p (jk (o::os))=false):o.dst≠some p∧aP p (jk os)=false:=by
 unfold jk at h
 split at h
 ·rename_i d hd
  have h':(Nat.beq p d||aP p (jk os))=false:=h
  rw[Bool.or_eq_false_iff] at h'
  refine⟨fun e=> ?_,h'.2⟩
  rw[hd] at e;cases e;rw[Nat.beq_refl] at h';exact absurd h'.1 (by simp)
 ·rename_i hd
  refine⟨fun e=> ?_,h⟩
  rw[hd] at e;cases e
omit hR in
theorem EH (hi:aH ρ b st fr σ) (h:jL E st o=false):sZ E fr o=false:=by
 unfold jL at h
 unfold sZ
 split at h
 ·rename_i c hc
  rw[hc]
  dsimp only
  split at h
  ·rename_i f hf
   rw[hf]
   dsimp only
   split at h
   ·rename_i g a' b' hv
    obtain⟨va,vb,h1,_,_⟩:=(aV (E:=E) hi .nil hv).lN
    unfold jo
    rw[h1]
    split at h
    ·rename_i d hd;rw[hd];exact h
    ·rename_i hd;rw[hd]
   ·cases h
  ·rename_i hne
   split
   ·rename_i f hf;exact absurd hf (hne f)
   ·rfl
 ·rename_i hne
  split
  ·rename_i c hc;exact absurd hc (hne c)
  ·rfl
theorem afE {k k':Sk} {l:List Sk} {c:TV R.T} {cs:List (TV R.T)} {p:aJ R.T (k::k'::l)} (h:fF R (k::k'::l) (c::cs)=some p):
 ∃x q,pk R k c=some x∧fF R (k'::l) cs=some q∧p=(x,q):=by
 have h':(match pk R k c with
  |some x=>match fF R (k'::l) cs with
   |some p=>some (x,p)
   |none=>none
  |none=>none)=some p:=h
 cases hu:pk R k c with
 |none=>rw[hu] at h';cases h'
 |some u=>
  rw[hu] at h';dsimp only at h'
  cases hq:fF R (k'::l) cs with
  |none=>rw[hq] at h';cases h'
  |some q=>rw[hq] at h';cases h';exact⟨u,q,rfl,rfl,rfl⟩
theorem Pt {F:Nat→List (FR R)} (hF:bS E F) {f:Nat} {args:List (TV R.T)} {EI:List V} (ha:aC R ρ σ.top args EI) (hi:aH ρ b st fr σ):∀{l:List (FR R)} {τ:Ty} {x:Option (List (Den R.T τ))},(∀r∈l,r∈F f)→A8 R args (mM st args) l=some ⟨τ,x⟩→
 ∀y,x=some y→∃as,oU (E.tL f) σ EI=some as∧EI.all (fun x=>aF (er x))=true∧jJ E f as (bI R τ) (y.map (aG R τ))
 | [],τ,x,_,h=>by cases h
 | ⟨as,res,G,d0,own⟩::l,τ,x,hl,h=>by
   have rest:A8 R args (mM st args) l=some ⟨τ,x⟩→∀y,x=some y→∃as,oU (E.tL f) σ EI=some as∧EI.all (fun x=>aF (er x))=true∧jJ E f as (bI R τ) (y.map (aG R τ)):=fun h=>Pt hF ha hi (fun r hr=>hl r (List.mem_cons_of_mem _ hr)) h
   unfold A8 at h
   split at h
   ·cases h
   ·rename_i as' τ' G' d' l' heq
    obtain⟨e1,e2⟩:=List.cons.inj heq
    subst e2
    cases e1
    split at h
    ·rename_i p hp
     obtain⟨hc,h⟩:=cZ h
     cases h
     simp only[Bool.and_eq_true] at hc
     obtain⟨⟨c1,c2⟩,c3⟩:=hc
     intro y hy
     have hb:=(hF f ⟨as,[.d (.slice τ)],G',d',true⟩ (hl _ (List.mem_cons_self ..)) p y hy).2 rfl τ rfl y rfl
     cases hn:gZ as with
     |true=>
      obtain⟨b1,b2⟩:=hb.1 hn
      obtain⟨vs',v1,v2⟩:=Ey hR hi ha
      have EA:=rX hR as p (mM st args) _ hn hp v1 20 σ (by have:=Nat.le_of_ble_eq_true c2;omega)
      exact⟨_,by rw[b1];unfold oU;rw[if_neg (by simp)];exact(v2 16).trans EA,Ez hR c3 ha,b2⟩
     |false=>
      obtain⟨b1,b2⟩:=hb.2 hn
      rw[hn,Bool.false_or] at c1
      cases as with
      |nil=>cases c1
      |cons k as=>
      cases k<;>first| (cases c1;done)|skip
      cases as with
      |nil=>cases c1
      |cons k' as=>
      cases args with
      |nil=>exact absurd (show none=some p from hp) (by simp)
      |cons c args=>
      obtain⟨v,vs,rfl,h1,h2⟩:=ha.dB
      have hp0:fF R (.dN::k'::as) (xV st c::mM st args)=some p:=by simpa only[mM] using hp
      obtain⟨u,q,hu,q1,hpq⟩:=afE hR hp0
      have hc:c= .dN:=by
       have hp':(pk R .dN (xV st c)).isSome=true:=by rw[hu];rfl
       cases c<;>first|rfl|skip
       all_goals
        exfalso
        revert hp'
        unfold xV uf
        repeat' split
        all_goals (intro h;cases h)
      subst hc
      have q2:VG (aY R (.dN::k'::as) p)= .aj .nil []::aY R (k'::as) q:=by rw[hpq];rfl
      rw[h1.nK]
      obtain⟨vs',v1,v2⟩:=Ey hR hi h2
      have EA:=rX hR (k'::as) q (mM st args) _ c1 q1 v1 20 σ (by have h9:=Nat.le_of_ble_eq_true c2;rw[nH] at h9;omega)
      rw[q2] at b2
      refine⟨_,by rw[b1];unfold oU;rw[if_pos rfl];dsimp only;rw[v2 16,EA];rfl, ?_,b2⟩
      have:=Ez hR c3 ha
      rw[h1.nK] at this
      exact this
    ·exact rest h
   ·rename_i heq
    obtain⟨_,e2⟩:=List.cons.inj heq
    subst e2
    exact rest h
theorem afF {β:Type} {F:Nat→List (FR R)} (hF:bS E F) (hi:aH ρ aB st fr σ) {k:MS R.T→Option β} {x:β} (h:uj R F o st k=some x) (hown:jL E st o=true) {all os:List Oper} {Q:Fr→ah→Prop} (hw:dJ all fr o=some true)
 (hk:∀(ρ':aL) (st':MS R.T) (y:V) (σ':ah),aH ρ' (aB+1) st' (fr.put o.dst y) σ'→σ'.next=σ.next→(∀p,o.dst≠some p→aT true p st ρ σ st' ρ' σ')→k st'=some x→OW E all (aB+1) os (fr.put o.dst y) σ' Q):OW E all aB (o::os) fr σ Q:=by
 unfold uj at h
 split at h
 ·rename_i c d ho hd
  split at h
  ·rename_i f dX
   split at h
   ·rename_i g a' b' vs hf hvs
    split at h
    ·rename_i τ xo hfo
     obtain⟨l,hl,h⟩:=Option.bind_eq_some_iff.1 h
     obtain⟨va,vb,h1,h2,h3⟩:=(aV (E:=E) hi .nil hf).lN
     have hrel:=(h2.append (uo (E:=E) hi .nil hvs)).append h3
     obtain⟨as,has,hcl,hO⟩:=Pt hR hF hrel hi (fun _ hr=>hr) hfo l hl
     have hg:E.own g d=true:=by
      unfold jL at hown
      rw[ho] at hown
      dsimp only at hown
      rw[dX] at hown
      dsimp only at hown
      rw[hf] at hown
      dsimp only at hown
      rw[hd] at hown
      exact hown
     have hdp:∀y:V,fr.put o.dst y=fr.set d y:=fun y=>by rw[hd];rfl
     refine OW.own hw ho dX h1 hd hg has hO hcl (fun cp hcp=> ?_) ?_
     ·refine hk (ρ.fH d aB) _ _ σ ?_ rfl ?_ h
      ·have e:σ.bJ aB (σ.top aB)=σ:=by
        unfold ah.bJ
        have:upd σ.top aB (σ.top aB)=σ.top:=by
         funext j;unfold upd;split
         ·rename_i e;rw[e]
         ·rfl
        rw[this]
       have:=hi.wk d aB (σ.top aB) (Nat.le_succ _) (Nat.lt_succ_self _) hi.nx (fun u _ hu=>by have:=hi.lt u _ hu;omega)
       rw[e] at this
       rw[hdp]
       refine this.put d (.of ?_)
       unfold Rl
       exact⟨cp,rfl,by rcases hcp with rfl|rfl;exact .inl rfl;exact .inr (.inl rfl)⟩
      ·intro p hp
       have e:σ.bJ aB (σ.top aB)=σ:=by
        unfold ah.bJ
        have:upd σ.top aB (σ.top aB)=σ.top:=by
         funext j;unfold upd;split
         ·rename_i e;rw[e]
         ·rfl
        rw[this]
       have:=(aT.wk (nr:=true) (p:=p) (t:=d) (s:=aB) (n:=σ.top aB) (ρ:=ρ) (st:=st) (σ:=σ) hi.nx)
       rw[e] at this
       exact this.congr rfl
     ·refine hk (ρ.fH d aB) _ _ _ ?_ rfl ?_ h
      ·rw[hdp]
       have:=hi.wk d aB (l.map (aG R τ)).length (Nat.le_succ _) (Nat.lt_succ_self _) hi.nx (fun u _ hu=>by have:=hi.lt u _ hu;omega)
       refine this.put d (.of ?_)
       unfold Rl
       exact⟨_,rfl,.inr (.inr ⟨aB,rfl,by simp[aL.fH,upd],by rw[Ad,List.length_map]⟩)⟩
      ·intro p hp
       exact(aT.wk (nr:=true) (p:=p) hi.nx).congr rfl
    ·cases h
   ·cases h
  ·cases h
 ·cases h
theorem afG {β:Type} {F:Nat→List (FR R)} (hF:bS E F) (hi:aH ρ aB st fr σ) {k:MS R.T→Option β} {x:β} (h:uj R F o st k=some x) (hown:jL E st o=true) {ms:List Nat} {fs:List bG} {all os:List Oper} {Q:Fr→ah→Prop} (hw:dJ all fr o=some true)
 (hk:∀(ρ':aL) (st':MS R.T) (y:V) (σ':ah),aH ρ' (aB+1) st' (fr.put o.dst y) σ'→σ'.next=σ.next→(∀p,o.dst≠some p→aT true p st ρ σ st' ρ' σ')→k st'=some x→cK E ms all (aB+1) os (fr.put o.dst y) σ' (fs++[dV E all fr o true]) Q):cK E ms all aB (o::os) fr σ fs Q:=by
 unfold uj at h
 split at h
 ·rename_i c d ho hd
  split at h
  ·rename_i f dX
   split at h
   ·rename_i g a' b' vs hf hvs
    split at h
    ·rename_i τ xo hfo
     obtain⟨l,hl,h⟩:=Option.bind_eq_some_iff.1 h
     obtain⟨va,vb,h1,h2,h3⟩:=(aV (E:=E) hi .nil hf).lN
     have hrel:=(h2.append (uo (E:=E) hi .nil hvs)).append h3
     obtain⟨as,has,hcl,hO⟩:=Pt hR hF hrel hi (fun _ hr=>hr) hfo l hl
     have hg:E.own g d=true:=by
      unfold jL at hown
      rw[ho] at hown
      dsimp only at hown
      rw[dX] at hown
      dsimp only at hown
      rw[hf] at hown
      dsimp only at hown
      rw[hd] at hown
      exact hown
     have hdp:∀y:V,fr.put o.dst y=fr.set d y:=fun y=>by rw[hd];rfl
     refine cK.own hw ho dX h1 hd hg has hO hcl (fun cp hcp=> ?_) ?_
     ·refine hk (ρ.fH d aB) _ _ σ ?_ rfl ?_ h
      ·have e:σ.bJ aB (σ.top aB)=σ:=by
        unfold ah.bJ
        have:upd σ.top aB (σ.top aB)=σ.top:=by
         funext j;unfold upd;split
         ·rename_i e;rw[e]
         ·rfl
        rw[this]
       have:=hi.wk d aB (σ.top aB) (Nat.le_succ _) (Nat.lt_succ_self _) hi.nx (fun u _ hu=>by have:=hi.lt u _ hu;omega)
       rw[e] at this
       rw[hdp]
       refine this.put d (.of ?_)
       unfold Rl
       exact⟨cp,rfl,by rcases hcp with rfl|rfl;exact .inl rfl;exact .inr (.inl rfl)⟩
      ·intro p hp
       have e:σ.bJ aB (σ.top aB)=σ:=by
        unfold ah.bJ
        have:upd σ.top aB (σ.top aB)=σ.top:=by
         funext j;unfold upd;split
         ·rename_i e;rw[e]
         ·rfl
        rw[this]
       have:=(aT.wk (nr:=true) (p:=p) (t:=d) (s:=aB) (n:=σ.top aB) (ρ:=ρ) (st:=st) (σ:=σ) hi.nx)
       rw[e] at this
       exact this.congr rfl
     ·refine hk (ρ.fH d aB) _ _ _ ?_ rfl ?_ h
      ·rw[hdp]
       have:=hi.wk d aB (l.map (aG R τ)).length (Nat.le_succ _) (Nat.lt_succ_self _) hi.nx (fun u _ hu=>by have:=hi.lt u _ hu;omega)
       refine this.put d (.of ?_)
       unfold Rl
       exact⟨_,rfl,.inr (.inr ⟨aB,rfl,by simp[aL.fH,upd],by rw[Ad,List.length_map]⟩)⟩
      ·intro p hp
       exact(aT.wk (nr:=true) (p:=p) hi.nx).congr rfl
    ·cases h
   ·cases h
  ·cases h
 ·cases h
omit hR in
theorem Wt {o:Oper} {os:List Oper} {d:Nat} (h:o.dst=some d):aP d (jk (o::os))=true:=by
 unfold jk
 rw[h]
 show (Nat.beq d d||_)=true
 rw[Nat.beq_refl];rfl
omit hR in
theorem Wu {o:Oper} {os:List Oper} {d:Nat} (h:aP d (jk os)=true):aP d (jk (o::os))=true:=by
 unfold jk
 cases o.dst with
 |none=>exact h
 |some e=>show (Nat.beq d e||aP d (jk os))=true;rw[h,Bool.or_true]
omit hR in
theorem aT.of {nr:Bool} {o:Nat} {st st':MS R.T} {ρ ρ':aL} {σ σ':ah} (h:aT true o st ρ σ st' ρ' σ'):aT nr o st ρ σ st' ρ' σ':=⟨h.ob,h.ln,h.om,h.nx,h.lp,fun L _=>h.dp L (.inl rfl),h.ro⟩
omit hR in
theorem Kp.nr {nr EJ:Bool} {W:List Nat} {st st':MS R.T} {fr fr':Fr} {ρ ρ':aL} {σ σ':ah} (hn:EJ=true→nr=true) (h:Kp nr W st fr σ ρ st' fr' σ' ρ'):Kp EJ W st fr σ ρ st' fr' σ' ρ':=⟨h.fr,fun o ho=>⟨(h.ob o ho).ob,(h.ob o ho).ln,(h.ob o ho).om,(h.ob o ho).nx,(h.ob o ho).lp,fun L hL=>(h.ob o ho).dp L (hL.imp hn id),(h.ob o ho).ro⟩⟩
omit hR in
theorem Pv (h:rR E st o=true):sP E o=false:=by
 unfold rR at h
 unfold sP
 split at h
 ·rename_i c hc
  (try rw[hc]);(try dsimp only)
  split at h
  ·rename_i f hf
   (try rw[hf])
   cases f with
   |func g=>
    have h':E.imp g=true:=h
    (try dsimp only);rw[h'];rfl
   |tmp _=>rfl
   |const _=>rfl
   | «global» _=>rfl
  ·cases h
 ·cases h
omit hR in
theorem Pw {c:Call} {f:Operand} {g:FuncId} {a vb:List V} (h:sZ E fr o=false) (h1:o.op= .call c) (h2:c.callee= .value f) (h3:fr.ev E f= .fn (.func g) a vb):∀d,o.dst=some d→E.own g d=false:=by
 intro d hd
 unfold sZ at h
 rw[h1] at h;dsimp only at h
 rw[h2] at h;dsimp only at h
 unfold jo at h
 rw[h3,hd] at h
 exact h
theorem wW {om:Bool} {β:Type} {F:Nat→List (FR R)} (hF:bS E F) {M:Nat→List (FM R)} (hM:Jw E M) {all:List Oper} {k:MS R.T→Option β} {x:β} {Q:Fr→ah→Prop}:∀(os:List Oper) (aB:Nat) (ρ:aL) (st:MS R.T) (fr:Fr) (σ:ah),(∀d,aP d (jk os)=true→d<F0)→ρ.om.om=om→aH ρ aB st fr σ→aB+os.length≤σ.next→sQ E R om F M all os st k=some x→
 (∀ρ' st' fr' σ',aH ρ' (aB+os.length) st' fr' σ'→σ.next≤σ'.next→Kp (os.all (sP E)) (jk os) st fr σ ρ st' fr' σ' ρ'→k st'=some x→Q fr' σ')→OW E all aB os fr σ Q
 | [],aB,ρ,st,fr,σ,hW0,aX,hi,hsn,h,hq=>OW.nil (hq ρ st fr σ hi (Nat.le_refl _) .refl h)
 |o::os,aB,ρ,st,fr,σ,hW0,aX,hi,hsn,h,hq=>by
  have eF:∀d,o.dst=some d→d<F0:=fun d hd=>hW0 d (Wt hd)
  have hW1:∀d,aP d (jk os)=true→d<F0:=fun d hd=>hW0 d (Wu hd)
  have pR:∀{σ':ah},σ.next≤σ'.next→aB+1+os.length≤σ'.next:=fun h=>by rw[List.length_cons] at hsn;omega
  have hg:=Wq (o:=o) (all:=all) hi
  unfold sQ at h
  have hW:∀p,aP p (jk (o::os))=false→o.dst≠some p∧aP p (jk os)=false:=fun p hp=>Ws hp
  have hq':∀(ρ1:aL) (st1:MS R.T) (y:V) (σ1:ah),(∀p,o.dst≠some p→aT (sP E o) p st ρ σ st1 ρ1 σ1)→σ.next≤σ1.next→∀ρ' st' fr' σ',aH ρ' (aB+1+os.length) st' fr' σ'→σ1.next≤σ'.next→Kp (os.all (sP E)) (jk os) st1 (fr.put o.dst y) σ1 ρ1 st' fr' σ' ρ'→k st'=some x→Q fr' σ':=fun ρ1 st1 y σ1 hkp h1 ρ' st' fr' σ' hi' hn uz hk=>
   hq ρ' st' fr' σ' (by rw[List.length_cons,Nat.add_comm os.length,←Nat.add_assoc];exact hi') (Nat.le_trans h1 hn) (((Kp.op (fun p hp=>(hW p hp).1) hkp).nr (EJ:=(o::os).all (sP E)) (fun e=>by rw[List.all_cons,Bool.and_eq_true] at e;exact e.1)).trans ((uz.mono fun p hp=>(hW p hp).2).nr (fun e=>by rw[List.all_cons,Bool.and_eq_true] at e;exact e.2))) hk
  split at h
  ·rename_i hgm
   rw[hgm] at hg
   cases hown:jL E st o with
   |true=>
    rw[hown,cond_true] at h
    exact afF hR hF hi h hown hg (fun ρ' st' y σ' hi' hn hkp hk=>wW hF hM os (aB+1) ρ' st' _ σ' hW1 ((congrArg Cx.om (yE hkp)).trans aX) hi' (pR (Nat.le_of_eq hn.symm)) hk (hq' ρ' st' y σ' (fun p hp=>(hkp p hp).of) (Nat.le_of_eq hn.symm)))
   |false=>
   rw[hown,cond_false] at h
   have dF:=EH hi hown
   cases himp:rR E st o with
   |true=>
    rw[himp,cond_true] at h
    obtain⟨c,f,g,a,vb,e1,e2,e3,e4,n,v,σ',e5,st1,i1,i2,i3,i4⟩:=Pn hR hM hi (by omega) h
    exact OW.Ie hg e1 e2 e3 e4 ⟨n,v,σ',e5,wW hF hM os (aB+1) ρ st1 _ σ' hW1 aX i1 (pR i2) i4 (hq' ρ st1 v σ' (fun p _=>by rw[Pv himp];exact i3 p) i2)⟩ (Pw dF e1 e2 e3)
   |false=>
   rw[himp,cond_false] at h
   exact Po hR hF aX eF hi h (rest:=fun fr' σ'=>OW E all (aB+1) os fr' σ' Q) (fun y σ' hst hr=>hst.1 dF all os Q hg hr) (fun ρ' st' y σ' hi' hn hkp hk=>wW hF hM os (aB+1) ρ' st' _ σ' hW1 ((congrArg Cx.om (yE hkp)).trans aX) hi' (pR (Nat.le_of_eq hn.symm)) hk (hq' ρ' st' y σ' (fun p hp=>(hkp p hp).of) (Nat.le_of_eq hn.symm)))
  ·rename_i hgm
   rw[hgm] at hg
   refine OW.skip hg (wW hF hM os (aB+1) ρ _ _ σ hW1 aX ?_ (pR (Nat.le_refl _)) h (hq' ρ _ aD σ (fun p _=>aT.same (by first|exact kY|rfl)) (Nat.le_refl _)))
   exact(hi.le (Nat.le_succ _)).dY o.dst (by unfold Rl;rfl)
  ·rename_i j w c g hgm
   rw[hgm] at hg
   obtain⟨⟨n,hn⟩,hg2⟩:=hg
   cases hown:(jL E st o||jL E (st.kE g) o) with
   |true=>rw[hown] at h;cases h
   |false=>
   rw[hown,cond_false] at h
   rw[Bool.or_eq_false_iff] at hown
   have dF:=EH hi hown.1
   cases himp:rR E (st.kE g) o with
   |true=>
    rw[himp,cond_true] at h
    obtain⟨e1,e2,e3⟩:=yD hi n j w c g hn
    cases c with
    |true=>
     rw[cond_true] at h
     obtain⟨l1,l2⟩:=Jz hi (e1 rfl).2 (JA hi n j w g hn)
     obtain⟨c,f,g',a,vb,f1,f2,f3,f4,n',v,σ',f5,st1,i1,i2,i3,i4⟩:=Pn hR hM l1 (by omega) h
     exact OW.Ie hg2 f1 f2 f3 f4 ⟨n',v,σ',f5,wW hF hM os (aB+1) ρ st1 _ σ' hW1 aX i1 (pR i2) i4 (hq' ρ st1 v σ' (fun p _=>by rw[Pv himp];exact(i3 p).from l2) i2)⟩ (Pw dF f1 f2 f3)
    |false=>
     rw[cond_false] at h
     obtain⟨l1,l2⟩:=Pp hi hn
     exact OW.skip hg2 (wW hF hM os (aB+1) ρ _ _ σ hW1 aX ((l1.le (Nat.le_succ _)).dY o.dst (by unfold Rl;rfl)) (pR (Nat.le_refl _)) h (hq' ρ _ aD σ (fun p _=>aT.same (kY.trans l2)) (Nat.le_refl _)))
   |false=>
   rw[himp,cond_false] at h
   exact afD hR hF aX eF hi hn h (rest:=fun fr' σ'=>OW E all (aB+1) os fr' σ' Q) (fun e y σ' hst hr=>hst.1 dF all os Q (by rw[hg2,e]) hr) (fun e hr=>OW.skip (by rw[hg2,e]) hr)
    (fun ρ' st' y σ' hi' hn hkp hk=>wW hF hM os (aB+1) ρ' st' _ σ' hW1 ((congrArg Cx.om (yE hkp)).trans aX) hi' (pR (Nat.le_of_eq hn.symm)) hk (hq' ρ' st' y σ' (fun p hp=>(hkp p hp).of) (Nat.le_of_eq hn.symm)))
  ·cases h
def Key.mv (c:Cx):Key→Key
 |.obj l=>.obj (c.lc l.2)
 |k=>k
def bG.mv (c:Cx) (f:bG):bG:=⟨f.sF,f.ng,f.t.map (Key.mv c),f.w.map (Key.mv c)⟩
omit hR in
theorem afH (c:Cx) (a b:Key):(a.mv c).eq (b.mv c)=a.nm.eq b.nm:=by
 cases a<;>cases b<;>try rfl
 rename_i l m
 show oV (c.lc l.2) (c.lc m.2)=oV (1,l.2) (1,m.2)
 by_cases e:l.2=m.2
 ·rw[e,Nq];unfold oV;simp
 ·rw[Ot c e,Nq];simp[e]
omit hR in
theorem afI (c:Cx) (f g:bG):clash (f.mv c) (g.mv c)=clash f.nm g.nm:=by
 have hr:∀k:Key,(k.mv c).eq .rest=k.nm.eq .rest:=fun k=>by cases k<;>rfl
 have hs:∀k:Key,(k.mv c).state=k.nm.state:=fun k=>by cases k<;>rfl
 unfold clash bG.mv bG.nm
 dsimp only
 simp only[List.any_map,Function.comp_def,afH,hr,hs]
omit hR in
theorem getD_map (h:bG→bG) (ha:h eY=eY):∀(fs:List bG) (i:Nat),(fs.map h).getD i eY=h (fs.getD i eY)
 | [],i=>by simp[ha]
 |f::fs,0=>rfl
 |f::fs,i+1=>by simpa using getD_map h ha fs i
omit hR in
theorem afJ (c:Cx) (ms:List Nat) (fs:List bG):uP ms (fs.map (bG.mv c))=uP ms (fs.map bG.nm):=by
 unfold uP LU
 simp only[List.length_map,getD_map (bG.mv c) rfl,getD_map bG.nm rfl,afI]
omit hR in
theorem oI (c:Cx) (l:List Key):(lW l).mv c=lW (l.map (Key.mv c)):=rfl
omit hR in
theorem uD (c:Cx) (l:List Key):(jW l).mv c=jW (l.map (Key.mv c)):=rfl
omit hR in
theorem mv_nil (c:Cx):(lW []).mv c=lW []:=rfl
omit hR in
theorem afK (c:Cx):eY.mv c=eY:=rfl
omit hR in
theorem afL {top:Nat→Nat} {x:TV R.T} {v:V} (hg:x≠ .gone) (hv:∀o t,x≠ .vw o t) (h:Rl R ρ top x v):gK v=(Ur x).map (Key.mv ρ.om):=by
 cases x with
 |gone=>exact absurd rfl hg
 |opt j w y=>exact h.Uu.elim
 |agg cs=>obtain⟨l,rfl,_⟩:=h.jN;rfl
 |bg cs=>obtain⟨l,rfl,_⟩:=h.I6;rfl
 |aj c t l=>obtain⟨l,rfl,_⟩:=h.jO;rfl
 |ref p off=>obtain⟨s,_,rfl⟩:=h.nL;rfl
 |bD p=>obtain⟨s,_,rfl⟩:=h.vg;rfl
 |aK l p=>obtain⟨s,rfl,_⟩:=h.sW;rfl
 |fn f a b=>obtain⟨a',b',rfl,_⟩:=h.lN;rfl
 |vw o t=>exact absurd rfl (hv o t)
 |jB p t i off=>obtain⟨s,_,_,rfl⟩:=h.yu;rfl
 |sv p off k n lo hi=>obtain⟨s,_,_,rfl⟩:=h.wQ;rfl
 |sel p off k n i m=>obtain⟨s,_,_,_,rfl⟩:=h.Ep;rfl
 |pz k n y i=>obtain⟨_,_,rfl⟩:=h.I7;rfl
 |_=>unfold Rl at h;subst h;rfl
omit hR in
theorem Wv {x:TV R.T} (h:Bd x=true):x≠ .gone∧∀o t,x≠ .vw o t:=⟨(by rintro rfl;cases h),(by rintro o t rfl;cases h)⟩
omit hR in
theorem kQ (hi:aH ρ b st fr σ) {x:Operand} {v:TV R.T} (h:aZ [] st x=some v) (hg:Bd v=true):(u7 st x).map (Key.mv ρ.om)=gK (fr.ev E x):=by
 unfold u7
 rw[h]
 exact(afL (Wv hg).1 (Wv hg).2 (aV hi .nil h)).symm
omit hR in
theorem Ww (hi:aH ρ b st fr σ):∀{l:List Operand} {vs:List (TV R.T)},l5 [] st l=some vs→vs.all Bd=true→(l.flatMap (fun x=>u7 st x)).map (Key.mv ρ.om)=l.flatMap fun x=>gK (fr.ev E x)
 | [],vs,h,_=>rfl
 |x::l,vs,h,hg=>by
  unfold l5 at h
  cases h1:aZ [] st x with
  |none=>simp only[h1] at h;cases h
  |some a=>
   cases h2:l5 [] st l with
   |none=>simp only[h1,h2] at h;cases h
   |some as=>
    simp only[h1,h2] at h;cases h
    rw[List.all_cons,Bool.and_eq_true] at hg
    rw[List.flatMap_cons,List.flatMap_cons,List.map_append,kQ (E:=E) hi h1 hg.1,Ww hi h2 hg.2]
omit hR in
theorem afM {om:Bool} {β:Type} {F:Nat→List (FR R)} {k:MS R.T→Option β} {x:β} (h:runM E R om F o st k=some x) (hp:∀c a b,o.op≠ .pick c a b) (hl:∀t m y ok,o.op≠ .lookup t m y ok) (hst:∀t a y,o.op≠ .store t a y):∃r,uh E R om F [] o.dst o.op st=some r:=by
 unfold runM at h
 split at h
 ·rename_i c a b hop;exact absurd hop (hp _ _ _)
 ·rename_i t a y hop;exact absurd hop (hst _ _ _)
 ·rename_i t m y ok hop;exact absurd hop (hl _ _ _ _)
 ·cases hr:uh E R om F [] o.dst o.op st with
  |some r=>exact⟨r,rfl⟩
  |none=>rw[hr] at h;cases h
omit hR in
theorem vF {om:Bool} {F:Nat→List (FR R)} {g:List (Nat×Bool)} {d:Option Nat} {op:Op} {r:dA R} (h:uh E R om F g d op st=some r):oF E R g d op st=some r∨pJ E R om F g d op st=some r:=by
 unfold uh at h
 split at h
 ·rename_i r' hx;cases h;exact .inl hx
 ·exact .inr h
omit hR in
theorem Wx {top:Nat→Nat}:∀{x:List (TV R.T)} {v:List V},I5 x=true→aC R ρ top x v→v.all (fun a=>aF (er a))=false
 | [],_,h,_=>by cases h
 |x::l,v,h,hr=>by
  obtain⟨y,ys,rfl,h1,h2⟩:=hr.dB
  rw[List.all_cons]
  by_cases e:∃o off k n lo hi,x= .sv o off k n lo hi
  ·obtain⟨o,off,k,n,lo,hi,rfl⟩:=e
   obtain⟨s,_,_,rfl⟩:=h1.wQ
   simp[er,aF]
  ·have h':I5 l=true:=by
    cases x<;>first|exact h|exact absurd ⟨_,_,_,_,_,_,rfl⟩ e
   rw[Wx h' h2,Bool.and_false]
omit hR in
theorem JB (hi:aH ρ b st fr σ) (eF:∀d,o.dst=some d→d<F0):(I4 o).map (Key.mv ρ.om)=oW fr o:=by
 unfold I4 oW
 cases hd:o.dst with
 |none=>rfl
 |some d=>dsimp only;rw[hi.at (eF d hd)];rfl
theorem afN {om:Bool} {β:Type} {F:Nat→List (FR R)} (aX:ρ.om.om=om) (eF:∀d,o.dst=some d→d<F0) (hi:aH ρ b st fr σ) {k:MS R.T→Option β} {x:β} (h:runM E R om F o st k=some x) (hd:wO E st o=true):(Eh E om st o).mv ρ.om=gq E fr o:=by
 unfold Eh gq
 have hop:=afM h
 cases ho:o.op<;>rw[ho] at hop<;>dsimp only<;>(try exact mv_nil _)<;>(try exact afK _)
 case load t a=>
  obtain⟨r,hr⟩:=hop (by simp) (by simp) (by simp)
  rcases vF hr with hr|hr
  ·unfold oF at hr;dsimp only at hr
   split at hr
   ·rename_i gl _
    split at hr
    ·rename_i k n v hg
     obtain⟨cs,_,g1,_⟩:=Pb hg
     have e1:u7 st (Operand.global gl)=[]:=rfl
     have e2:gK (fr.ev E (.global gl))=[]:=by rw[Pf hR g1];rfl
     rw[oI,e1,e2];rfl
    ·cases hr
   ·split at hr
    ·rename_i hv;rw[oI,kQ (E:=E) hi hv rfl]
    ·rename_i hv;rw[oI,kQ (E:=E) hi hv rfl]
    ·rename_i hv;rw[oI,kQ (E:=E) hi hv rfl]
    ·cases hr
  unfold pJ at hr;dsimp only at hr
  split at hr
  ·rename_i hv;rw[oI,kQ (E:=E) hi hv rfl]
  ·rename_i hv;rw[oI,kQ (E:=E) hi hv rfl]
  ·rename_i hv;rw[oI,kQ (E:=E) hi hv rfl]
  ·cases hr
 case store t a y=>
  have h':=h
  unfold runM at h'
  rw[ho] at h'
  dsimp only at h'
  split at h'
  ·rename_i hst
   unfold Od at hst
   split at hst
   ·rename_i hv _;rw[uD,kQ (E:=E) hi hv rfl]
   ·cases hst
  ·split at h'
   ·rename_i hr
    rcases vF hr with hr|hr
    ·unfold oF at hr;dsimp only at hr
     split at hr
     ·rename_i hv _;rw[uD,kQ (E:=E) hi hv rfl]
     ·rename_i hv _;rw[uD,kQ (E:=E) hi hv rfl]
     ·cases hr
    unfold pJ at hr;dsimp only at hr
    split at hr
    ·rename_i hv _;rw[uD,kQ (E:=E) hi hv rfl]
    ·cases hr
   ·cases h'
 case convert a b' y=>
  obtain⟨r,hr⟩:=hop (by simp) (by simp) (by simp)
  rcases vF hr with hr|hr
  ·unfold oF at hr;dsimp only at hr
   split at hr
   ·rename_i hv;rw[oI,kQ (E:=E) hi hv rfl]
   ·cases hr
  unfold pJ at hr;dsimp only at hr
  split at hr
  ·rename_i v hv
   rw[oI,kQ (E:=E) hi hv (by
    unfold IC at hr
    split at hr<;>first|rfl|cases hr)]
  ·cases hr
 case slice t y lo hi' mx=>
  obtain⟨r,hr⟩:=hop (by simp) (by simp) (by simp)
  cases mx with
  |some m=>
   rcases vF hr with hr|hr
   ·cases hi' with
    |none=>unfold oF at hr;cases hr
    |some h1=>
     unfold oF at hr
     dsimp only at hr
     split at hr
     ·rename_i hv _ _ _;rw[oI,kQ (E:=E) hi hv rfl]
     ·cases hr
   ·unfold pJ at hr;cases hr
  |none=>
   rcases vF hr with hr|hr
   ·unfold oF at hr;dsimp only at hr
    split at hr
    ·rename_i v hv
     have key:∀lo hi,wM E R t v lo hi st=some r→Bd v=true:=by
      intro lo hi hs
      unfold wM at hs
      split at hs<;>first|rfl|cases hs
     rw[oI,kQ (E:=E) hi hv (by
      split at hr
      ·exact key _ _ hr
      ·split at hr
       ·exact key _ _ hr
       ·cases hr
      ·split at hr
       ·exact key _ _ hr
       ·cases hr
      ·split at hr
       ·exact key _ _ hr
       ·cases hr)]
    ·cases hr
   unfold pJ at hr;dsimp only at hr
   split at hr
   ·rename_i v hv
    have key:∀lo hi,wI E R t v lo hi=some r→Bd v=true:=by
     intro lo hi hs
     unfold wI at hs
     split at hs
     ·split at hs<;>first|rfl|cases hs
     ·cases hs
    rw[oI,kQ (E:=E) hi hv (by
     split at hr
     ·exact key _ _ hr
     ·split at hr
      ·exact key _ _ hr
      ·cases hr
     ·split at hr
      ·exact key _ _ hr
      ·cases hr
     ·split at hr
      ·exact key _ _ hr
      ·cases hr)]
   ·cases hr
 case lookup t m y ok=>
  have h':=h
  unfold runM at h'
  rw[ho] at h'
  dsimp only at h'
  split at h'
  ·rename_i hsm
   unfold Oc at hsm
   split at hsm
   ·rename_i hv;rw[oI,kQ (E:=E) hi hv rfl]
   ·cases hsm
  ·split at h'
   ·rename_i hr
    rcases vF hr with hr|hr
    ·unfold oF at hr;cases hr
    unfold pJ at hr;dsimp only at hr
    split at hr
    ·rename_i hv _
     rw[oI,kQ (E:=E) hi hv (by
      unfold IE at hr
      split at hr<;>first|rfl|cases hr)]
    ·cases hr
   ·cases h'
 case mapUpdate t m k' v=>
  obtain⟨r,hr⟩:=hop (by simp) (by simp) (by simp)
  rcases vF hr with hr|hr
  ·unfold oF at hr;cases hr
  unfold pJ at hr;dsimp only at hr
  split at hr
  ·rename_i hv _ _
   rw[uD,kQ (E:=E) hi hv (by
    unfold AO at hr
    split at hr<;>first|rfl|cases hr)]
  ·cases hr
 case insert t m k' v=>
  obtain⟨r,hr⟩:=hop (by simp) (by simp) (by simp)
  rcases vF hr with hr|hr
  ·unfold oF at hr;cases hr
  unfold pJ at hr;dsimp only at hr
  split at hr
  ·rename_i hv _ _
   rw[uD,kQ (E:=E) hi hv (by
    unfold AO at hr
    split at hr<;>first|rfl|cases hr)]
  ·cases hr
 case alloc t=>rw[uD];exact congrArg jW (JB hi eF)
 case box t y=>rw[uD];exact congrArg jW (JB hi eF)
 case makeMap t y=>rw[uD];exact congrArg jW (JB hi eF)
 case makeSlice t y z=>rw[uD];exact congrArg jW (congrArg (Key.top:: ·) (JB hi eF))
 case call c=>
  obtain⟨r,hr⟩:=hop (by simp) (by simp) (by simp)
  unfold wO at hd;rw[Bool.and_eq_true,Bool.not_eq_true'] at hd
  obtain⟨hown,hd⟩:=hd
  rw[ho] at hd;dsimp only at hd
  cases hc:c.callee with
  |invoke y m=>rfl
  |builtin bi=>
   rw[hc] at hd;dsimp only at hd
   split at hd
   ·rename_i vs hvs
    have:=Ww (E:=E) hi hvs hd
    cases bi<;>dsimp only<;>(try rw[←this])<;>(try rfl)
    rw[hi.om,aX];cases om<;>rfl
   ·cases hd
  |value f=>
   rcases vF hr with hr|hr
   ·unfold oF at hr;dsimp only at hr;rw[hc] at hr;cases hr
   unfold pJ at hr;dsimp only at hr
   rw[hc] at hd hr;dsimp only at hd hr
   split at hd
   ·rename_i f' a' b' vs hf hvs
    simp only[hf,hvs] at hr
    cases himp:E.imp f' with
    |true=>rw[himp] at hr;cases hr
    |false=>
     obtain⟨va,vb,h1,h2,h3⟩:=(aV (E:=E) hi .nil hf).lN
     dsimp only;rw[hf,h1];dsimp only
     have dF:jo E fr o f=false:=by
      have:=EH hi hown
      unfold sZ at this
      rw[ho] at this;dsimp only at this
      rw[hc] at this;exact this
     simp only[himp,dF,Bool.false_eq_true,if_false]
     rw[hvs];dsimp only
     have hrel:=(h2.append (uo (E:=E) hi .nil hvs)).append h3
     cases hcl:wG (a'++vs++b') with
     |true=>rw[Ez hR hcl hrel];rfl
     |false=>
      rw[hcl,Bool.false_or] at hd
      rw[Wx hd hrel];rfl
   ·cases hd
omit hR in
theorem JC (c:Cx) (all:List Oper) (o:Oper):(qZ all o).map (Key.mv c)=qZ all o:=by
 have key:∀l:List Key,(∀k∈l,∃t,k= .slot t)→l.map (Key.mv c)=l:=by
  intro l
  induction l with
  |nil=>intro _;rfl
  |cons k l ih=>
   intro h
   obtain⟨t,e⟩:=h k (List.mem_cons_self ..)
   rw[List.map_cons,ih fun k hk=>h k (List.mem_cons_of_mem _ hk),e];rfl
 refine key _ fun k hk=> ?_
 unfold qZ at hk
 rw[List.mem_append] at hk
 rcases hk with hk|hk
 ·rw[List.mem_filterMap] at hk
  obtain⟨a,_,ha⟩:=hk
  split at ha
  ·cases ha;exact⟨_,rfl⟩
  ·cases ha
 ·split at hk
  ·split at hk
   ·exact⟨_,List.mem_singleton.1 hk⟩
   ·cases hk
  ·cases hk
omit hR in
theorem JD (c:Cx) (o:Oper):(kG o).map (Key.mv c)=kG o:=by
 unfold kG
 cases o.dst<;>rfl
omit hR in
theorem Px {c:Cx} (f:bG) (a b:List Key) (ha:a.map (Key.mv c)=a) (hb:b.map (Key.mv c)=b):bG.mv c ⟨f.sF,f.ng,a++f.t,b++f.w⟩=⟨(f.mv c).sF,(f.mv c).ng,a++(f.mv c).t,b++(f.mv c).w⟩:=by
 unfold bG.mv
 dsimp only
 rw[List.map_append,List.map_append,ha,hb]
theorem afO {om:Bool} {β:Type} {F:Nat→List (FR R)} (aX:ρ.om.om=om) (eF:∀d,o.dst=some d→d<F0) (hi:aH ρ b st fr σ) {k:MS R.T→Option β} {x:β} {all:List Oper} (h:runM E R om F o st k=some x) (hd:wO E st o=true):(nJ E om all st o true).mv ρ.om=dV E all fr o true:=by
 have key:=afN hR aX eF hi h hd
 unfold nJ dV
 rw[if_pos rfl,if_pos rfl,←key]
 exact Px _ _ _ (JC _ _ _) (JD _ _)
omit hR in
theorem Wy {om:Bool} {all:List Oper} {c:Cx}:(nJ E om all st o false).mv c=dV E all fr o false:=by
 unfold nJ dV bG.mv
 rw[if_neg (by simp),if_neg (by simp)]
 dsimp only
 rw[JC,JD]
omit hR in
theorem afP {om:Bool} {all:List Oper} {c:Call} {f:Operand} {g:FuncId} {a vb:List V} (hi:aH ρ b st fr σ) (himp:rR E st o=true) (dF:sZ E fr o=false) (h1:o.op= .call c) (h2:c.callee= .value f) (h3:fr.ev E f= .fn (.func g) a vb) (h4:E.imp g=true):(nJ E om all st o true).mv ρ.om=dV E all fr o true:=by
 have key:(Eh E om st o).mv ρ.om=gq E fr o:=by
  unfold rR at himp
  rw[h1] at himp;dsimp only at himp
  rw[h2] at himp;dsimp only at himp
  unfold sZ at dF
  rw[h1] at dF;dsimp only at dF
  rw[h2] at dF;dsimp only at dF
  unfold Eh gq
  rw[h1];dsimp only
  rw[h2];dsimp only
  rw[dF,h3]
  split at himp
  ·rename_i g' a' b' hf
   (try rw[hf])
   (try dsimp only)
   rw[if_pos himp,if_neg (by simp)]
   (try dsimp only)
   rw[if_pos h4]
   rfl
  ·cases himp
 unfold nJ dV
 rw[if_pos rfl,if_pos rfl,←key]
 exact Px _ _ _ (JC _ _ _) (JD _ _)
omit hR in
theorem afQ {β:Type} {F:Nat→List (FR R)} {k:MS R.T→Option β} {x:β} {all:List Oper} (hi:aH ρ b st fr σ) (h:uj R F o st k=some x) (hown:jL E st o=true):(Ei all o).mv ρ.om=dV E all fr o true:=by
 have key:gq E fr o=jW [.top]:=by
  unfold uj at h
  split at h
  ·rename_i c d ho hd
   split at h
   ·rename_i f dX
    split at h
    ·rename_i g a' b' vs hf hvs
     obtain⟨va,vb,h1,_,_⟩:=(aV (E:=E) hi .nil hf).lN
     have hg:E.own g d=true:=by
      unfold jL at hown
      rw[ho] at hown
      dsimp only at hown
      rw[dX] at hown
      dsimp only at hown
      rw[hf] at hown
      dsimp only at hown
      rw[hd] at hown
      exact hown
     have dF:jo E fr o f=true:=by unfold jo;rw[h1,hd];exact hg
     unfold gq
     rw[ho];dsimp only
     rw[dX];dsimp only
     rw[if_pos dF]
    ·cases h
   ·cases h
  ·cases h
 unfold Ei dV
 rw[if_pos rfl,key]
 exact Px ⟨false,false,[],[.top]⟩ _ _ (JC _ _ _) (JD _ _)
theorem BH {om:Bool} {β:Type} {F:Nat→List (FR R)} (hF:bS E F) {M:Nat→List (FM R)} (hM:Jw E M) {ms:List Nat} {all:List Oper} {k:MS R.T→Option β} {x:β} {Q:Fr→ah→Prop}:∀(os:List Oper) (aB:Nat) (ρ:aL) (st:MS R.T) (fr:Fr) (σ:ah) (fs:List bG),(∀d,aP d (jk os)=true→d<F0)→ρ.om.om=om→aH ρ aB st fr σ→aB+os.length≤σ.next→l8 E R om F M ms all os st fs k=some x→
 (∀ρ' st' fr' σ',aH ρ' (aB+os.length) st' fr' σ'→σ.next≤σ'.next→Kp (os.all (sP E)) (jk os) st fr σ ρ st' fr' σ' ρ'→k st'=some x→Q fr' σ')→cK E ms all aB os fr σ (fs.map (bG.mv ρ.om)) Q
 | [],aB,ρ,st,fr,σ,fs,hW0,aX,hi,hsn,h,hq=>by
   unfold l8 at h
   obtain⟨h1,h⟩:=cZ h
   exact cK.nil (by rw[afJ];exact h1) (hq ρ st fr σ hi (Nat.le_refl _) .refl h)
 |o::os,aB,ρ,st,fr,σ,fs,hW0,aX,hi,hsn,h,hq=>by
  have eF:∀d,o.dst=some d→d<F0:=fun d hd=>hW0 d (Wt hd)
  have hW1:∀d,aP d (jk os)=true→d<F0:=fun d hd=>hW0 d (Wu hd)
  have pR:∀{σ':ah},σ.next≤σ'.next→aB+1+os.length≤σ'.next:=fun h=>by rw[List.length_cons] at hsn;omega
  have hg:=Wq (o:=o) (all:=all) hi
  unfold l8 at h
  have hW:∀p,aP p (jk (o::os))=false→o.dst≠some p∧aP p (jk os)=false:=fun p hp=>Ws hp
  have hq':∀(ρ1:aL) (st1:MS R.T) (y:V) (σ1:ah),(∀p,o.dst≠some p→aT (sP E o) p st ρ σ st1 ρ1 σ1)→σ.next≤σ1.next→∀ρ' st' fr' σ',aH ρ' (aB+1+os.length) st' fr' σ'→σ1.next≤σ'.next→Kp (os.all (sP E)) (jk os) st1 (fr.put o.dst y) σ1 ρ1 st' fr' σ' ρ'→k st'=some x→Q fr' σ':=fun ρ1 st1 y σ1 hkp h1 ρ' st' fr' σ' hi' hn uz hk=>
   hq ρ' st' fr' σ' (by rw[List.length_cons,Nat.add_comm os.length,←Nat.add_assoc];exact hi') (Nat.le_trans h1 hn) (((Kp.op (fun p hp=>(hW p hp).1) hkp).nr (EJ:=(o::os).all (sP E)) (fun e=>by rw[List.all_cons,Bool.and_eq_true] at e;exact e.1)).trans ((uz.mono fun p hp=>(hW p hp).2).nr (fun e=>by rw[List.all_cons,Bool.and_eq_true] at e;exact e.2))) hk
  have run:∀(st1:MS R.T),st1.ob=st.ob→aH ρ aB st1 fr σ→dJ all fr o=some true→(bif rR E st1 o then (bif jL E st1 o then none else yh R M o st1 (fun st'=>l8 E R om F M ms all os st' (fs++[nJ E om all st1 o true]) k)) else bif jL E st1 o then uj R F o st1 (fun st'=>l8 E R om F M ms all os st' (fs++[Ei all o]) k) else bif !(wO E st1 o) then none else runM E R om F o st1 (fun st'=>l8 E R om F M ms all os st' (fs++[nJ E om all st1 o true]) k))=some x→cK E ms all aB (o::os) fr σ (fs.map (bG.mv ρ.om)) Q:=by
   intro st1 vZ hi hg h
   have hkq:∀(st':MS R.T) (ρ':aL) (σ':ah),(∀p,o.dst≠some p→aT true p st1 ρ σ st' ρ' σ')→∀p,o.dst≠some p→aT true p st ρ σ st' ρ' σ':=fun st' ρ' σ' h p hp=>(h p hp).from vZ
   cases himp:rR E st1 o with
   |true=>
    rw[himp,cond_true] at h
    cases hown:jL E st1 o with
    |true=>rw[hown] at h;cases h
    |false=>
    rw[hown,cond_false] at h
    have dF:=EH hi hown
    obtain⟨c,f,g',a,vb,f1,f2,f3,f4,n',v,σ',f5,st2,i1,i2,i3,i4⟩:=Pn hR hM hi (by omega) h
    have hf:=afP (om:=om) (all:=all) hi himp dF f1 f2 f3 f4
    refine cK.Ie hg f1 f2 f3 f4 ⟨n',v,σ',f5, ?_⟩ (Pw dF f1 f2 f3)
    have:=BH hF hM os (aB+1) ρ st2 _ σ' _ hW1 aX i1 (pR i2) i4 (hq' ρ st2 v σ' (fun p _=>by rw[Pv himp];exact(i3 p).from vZ) i2)
    rw[List.map_append,List.map_cons,List.map_nil,hf] at this
    exact this
   |false=>
   rw[himp,cond_false] at h
   cases hown:jL E st1 o with
   |true=>
    rw[hown,cond_true] at h
    refine afG hR hF hi h hown hg (fun ρ' st' y σ' hi' hn hkp hk=> ?_)
    have:=BH hF hM os (aB+1) ρ' st' _ σ' _ hW1 ((congrArg Cx.om (yE hkp)).trans aX) hi' (pR (Nat.le_of_eq hn.symm)) hk (hq' ρ' st' y σ' (fun p hp=>(hkq st' ρ' σ' hkp p hp).of) (Nat.le_of_eq hn.symm))
    rw[yE hkp,List.map_append,List.map_cons,List.map_nil,afQ hi h hown] at this
    exact this
   |false=>
   rw[hown,cond_false] at h
   cases hd:wO E st1 o
   ·rw[hd] at h;cases h
   ·rw[hd] at h
    have h':runM E R om F o st1 (fun st'=>l8 E R om F M ms all os st' (fs++[nJ E om all st1 o true]) k)=some x:=h
    have hf:=afO hR (all:=all) aX eF hi h' hd
    exact Po hR hF aX eF hi h' (rest:=fun fr' σ'=>cK E ms all (aB+1) os fr' σ' (fs.map (bG.mv ρ.om)++[dV E all fr o true]) Q) (fun y σ' hst hr=>hst.2 (EH hi (by unfold wO at hd;rw[Bool.and_eq_true,Bool.not_eq_true'] at hd;exact hd.1)) ms all os (fs.map (bG.mv ρ.om)) Q hg hr) (fun ρ' st' y σ' hi' hn hkp hk=>by
     have:=BH hF hM os (aB+1) ρ' st' _ σ' _ hW1 ((congrArg Cx.om (yE hkp)).trans aX) hi' (pR (Nat.le_of_eq hn.symm)) hk (hq' ρ' st' y σ' (fun p hp=>(hkq st' ρ' σ' hkp p hp).of) (Nat.le_of_eq hn.symm))
     rw[yE hkp,List.map_append,List.map_cons,List.map_nil,hf] at this
     exact this)
  split at h
  ·rename_i hgm
   rw[hgm] at hg
   exact run st rfl hi hg h
  ·rename_i hgm
   rw[hgm] at hg
   have:=BH hF hM os (aB+1) ρ _ _ σ _ hW1 aX ((hi.le (Nat.le_succ _)).dY o.dst (by unfold Rl;rfl)) (pR (Nat.le_refl _)) h (hq' ρ _ aD σ (fun p _=>aT.same (by first|exact kY|rfl)) (Nat.le_refl _))
   rw[List.map_append,List.map_cons,List.map_nil,Wy (fr:=fr)] at this
   exact cK.skip hg this
  ·rename_i j w c g hgm
   rw[hgm] at hg
   obtain⟨⟨n,hn⟩,hg2⟩:=hg
   obtain⟨e1,e2,e3⟩:=yD hi n j w c g hn
   cases c with
   |true=>
    obtain⟨l1,l2⟩:=Jz hi (e1 rfl).2 (JA hi n j w g hn)
    exact run (st.kE g) l2 l1 hg2 h
   |false=>
    obtain⟨l1,l2⟩:=Pp hi hn
    have:=BH hF hM os (aB+1) ρ _ _ σ _ hW1 aX ((l1.le (Nat.le_succ _)).dY o.dst (by unfold Rl;rfl)) (pR (Nat.le_refl _)) h (hq' ρ _ aD σ (fun p _=>aT.same (kY.trans l2)) (Nat.le_refl _))
    rw[List.map_append,List.map_cons,List.map_nil,Wy (fr:=fr)] at this
    exact cK.skip hg2 this
  ·cases h
end
end Aq
end
section
namespace Aq
open Go
section
variable {E:Env} {fr:Fr} {σ:ah}
def ah.enter (σ:ah) (fr:Fr) (ps:Array Tmp) (dw body:Code):ah:=({σ with next:=σ.next+1}:ah).eU σ.next {st:=0,pend:=none,fr:=fr,ps:=ps.toList,dw:=dw,body:=body}
def wX (E:Env) (l:Nat) (args:List V) (σ:ah) (b:Bool) (σ':ah):Prop:=∃n,sD (cB E n) l args σ=some (.bool b,σ')
theorem CW.range {f:Operand} {ps:Array Tmp} {dw body:Code} {g:FuncId} {a b:List V} {Q:Ex→Fr→ah→Prop} (hf:fr.ev E f= .fn (.func g) a b) (hi:E.imp g=true)
 (h:kr E g (a++[.fn (.yield σ.next) [] []]++b) (fr.d+1) (σ.enter fr ps dw body) (fun _ σ2=> ∃r,σ2.loops σ.next=some r∧r.st≠1∧Q (match r.pend with|none=>.normal|some e=>e) fr (σ2.lg σ.next))):CW E (.rangeFunc f ps dw body) fr σ Q:=by
 obtain⟨n,v,σ2,h1,r,h2,h3,h4⟩:=h
 refine⟨n,_,fr,_, ?_,h4⟩
 have h1':iy E (cB E n) fr.d (σ.enter fr ps dw body) (.fn (.func g) a b) [.fn (.yield σ.next) [] []]=some (v,σ2):=by
  unfold iy;simp only[hi,if_true];exact h1
 unfold bP
 rw[hf]
 simp only[LV,if_true]
 unfold ah.enter at h1'
 rw[h1']
 simp only[Option.bind_some,h2,if_neg h3]
 cases r.pend<;>rfl
theorem wX.of {l:Nat} {args:List V} {r:mX} {b:Bool} {σ':ah} (hl:σ.loops l=some r) (hst:r.st=0) (hlen:r.ps.length=args.length)
 (h:CW E r.dw {r.fr with tm:=(r.ps.zip args).foldl (fun tm (p,a)=>upd tm p a) r.fr.tm} σ (fun e bH σ1=>e= .normal∧∃r1,σ1.loops l=some r1∧r1.st=0∧
   CW E r.body bH (σ1.eU l {r1 with st:=1}) (fun e _ σ2=> ∃r2,σ2.loops l=some r2∧r2.st=1∧match e with
    |.normal=>b=true∧σ'=σ2.eU l {r2 with st:=0,pend:=none}
    |e=>b=false∧σ'=σ2.eU l {r2 with st:=2,pend:=some e}))):wX E l args σ b σ':=by
 obtain⟨n,e,bH,σ1,h1,rfl,r1,hl1,hs1,m,e2,eP,σ2,h2,r2,hl2,hs2,h3⟩:=h
 have h1':(cB E (max n m+1)).code r.dw {r.fr with tm:=(r.ps.zip args).foldl (fun tm (p,a)=>upd tm p a) r.fr.tm} σ=some (.normal,bH,σ1):=xP (jI (Nat.le_max_left n m)) _ _ _ _ h1
 have h2':(cB E (max n m+1)).code r.body bH (σ1.eU l {r1 with st:=1})=some (e2,eP,σ2):=xP (jI (Nat.le_max_right n m)) _ _ _ _ h2
 refine⟨max n m+1, ?_⟩
 unfold sD
 simp only[hl,Option.bind_some,hst,hlen,and_self,if_true,h1',hl1,hs1,h2',hl2,hs2]
 cases e2 with
 |normal=>obtain⟨rfl,rfl⟩:=h3;rfl
 |exit i=>obtain⟨rfl,rfl⟩:=h3;rfl
 |ret=>obtain⟨rfl,rfl⟩:=h3;rfl
theorem OW.yield {all:List Oper} {st:Nat} {o:Oper} {os:List Oper} {Q:Fr→ah→Prop} {c:Call} {f:Operand} {l:Nat} {b:Bool} {σ1:ah} (hw:dJ all fr o=some true) (ho:o.op= .call c) (dX:c.callee= .value f)
 (hf:fr.ev E f= .fn (.yield l) [] []) (hr:wX E l (c.args.toList.map (fr.ev E)) σ b σ1) (h:OW E all (st+1) os (fr.put o.dst (.bool b)) σ1 Q):OW E all st (o::os) fr σ Q:=by
 obtain⟨n,fr',σ',h1,h2⟩:=h
 obtain⟨m,hm⟩:=hr
 have hm':=Nk (jI (Nat.le_max_right n m)) hm
 have h1':=DU (jI (Nat.le_max_left n m)) _ _ _ _ _ _ h1
 refine⟨max n m,fr',σ', ?_,h2⟩
 have:iy E (cB E (max n m)) fr.d σ (.fn (.yield l) [] []) (c.args.toList.map (fr.ev E))=some (.bool b,σ1):=by
  unfold iy;exact hm'
 have dF:jo E fr o f=false:=by unfold jo;rw[hf]
 simp only[opsE,hw,Option.bind_some,if_true,opC,ho,dX,dF,Bool.false_eq_true,if_false,hf,this,Option.map_some,h1']
structure Shift (d:Nat) (σ σ':ah):Prop where
 next:σ.next≤σ'.next
 top:∀s,s<σ.next→σ'.top s=σ.top s
 loops:∀l,l<σ.next→σ'.loops l=σ.loops l
 obj:∀a o,a≤d→σ'.obj (a,o)=σ.obj (a,o)
theorem Shift.refl {d:Nat} {σ:ah}:Shift d σ σ:=⟨Nat.le_refl _,fun _ _=>rfl,fun _ _=>rfl,fun _ _ _=>rfl⟩
theorem Shift.trans {d:Nat} {σ σ' j4:ah} (h:Shift d σ σ') (g:Shift d σ' j4):Shift d σ j4:=
 ⟨Nat.le_trans h.next g.next,fun s hs=>(g.top s (Nat.lt_of_lt_of_le hs h.next)).trans (h.top s hs),fun s hs=>(g.loops s (Nat.lt_of_lt_of_le hs h.next)).trans (h.loops s hs),fun a o ha=>(g.obj a o ha).trans (h.obj a o ha)⟩
def EK (E:Env) (f:FuncId) (a b:List V) (L:List (List V)):Prop:=∀(d l:Nat) (σ:ah) (J:List (List V)→ah→Prop) (D:ah→Prop),
 (∀xs σ σ',l<σ.next→J xs σ→Shift d σ σ'→J xs σ')→(∀σ σ',l<σ.next→D σ→Shift d σ σ'→D σ')→
 (∀x xs σ,l<σ.next→J (x::xs) σ→∃c σ',wX E l x σ c σ'∧σ.next≤σ'.next∧(∀a o,d<a→σ'.obj (a,o)=σ.obj (a,o))∧(∀s,s<σ.next→σ'.loops s=σ.loops s∨s=l)∧(c=true→J xs σ')∧(c=false→D σ'))→
 l<σ.next→J L σ→kr E f (a++[.fn (.yield l) [] []]++b) (d+1) σ fun _ σ'=>σ.next≤σ'.next∧(J [] σ'∨D σ')
end
end Aq
end
