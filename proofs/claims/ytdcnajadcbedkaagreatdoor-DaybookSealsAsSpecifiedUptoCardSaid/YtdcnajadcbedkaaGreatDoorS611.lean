/- Part of the proof of a law. -/
import Derived.Test.YtdcnajadcbedkaaGreatDoorS610
set_option linter.all false
set_option linter.unusedSimpArgs false
set_option linter.unusedSectionVars false
section
namespace Aq
open Go
set_option linter.unusedSectionVars false
set_option linter.unusedVariables false
section
variable {R:gB} {E:Env}
variable {ρ:aL} {b aD:Nat} {st:MS R.T} {fr:Fr} {σ:ah} {o:Oper}
theorem ahz {j:Nat} {t:Bool} (h:bf [] st (.tmp j)=some (.bool t)):look st.fr j=some (.bool t):=by
 unfold bf at h
 dsimp only at h
 split at h
 ·rename_i v hv
  cases v<;>first| (cases h;exact hv)| (simp[Ja,look] at h;done)
 ·cases h
variable (hR:mh R)
include hR
omit hR in
theorem Yc {β:Type} {top:Nat→Nat} {x z:TV R.T} {v zv:V} {k:TV R.T→Bool→Option β} {res:β} (hx:Rl R ρ top x v) (hz:Rl R ρ top z zv):∀{ks vs:List (TV R.T)} {kl vl:List V},Jv x ks vs z k=some res→aA R ρ top ks kl→aA R ρ top vs vl→
 ∃y b w r,Rl R ρ top y w∧mE v kl vl=some r∧((r=none→w=zv∧b=false)∧∀u,r=some u→w=u∧b=true)∧k y b=some res
 | [],[],kl,vl,h,h1,h2=>by
   rw[h1.eT,h2.eT]
   exact⟨z,false,zv,none,hz,rfl,⟨fun _=>⟨rfl,rfl⟩,fun u h=>by cases h⟩,h⟩
 | [],_::_,_,_,h,_,_=>by cases h
 |_::_,[],_,_,h,_,_=>by cases h
 |a::ks,b::vs,kl,vl,h,h1,h2=>by
  obtain⟨k0,k',rfl,g1,g2⟩:=h1.dJ
  obtain⟨l0,l',rfl,g3,g4⟩:=h2.dJ
  unfold Jv at h
  split at h
  ·rename_i c hc
   have he:=XP hc hx g1
   cases c with
   |true=>exact⟨b,true,l0,some l0,g3,by simp[mE,he],⟨fun h=>(by cases h),fun u h=>by cases h;exact⟨rfl,rfl⟩⟩,h⟩
   |false=>
    obtain⟨y,bb,w,r,e1,e2,e3,e4⟩:=Yc hx hz h g2 g4
    exact⟨y,bb,w,r,e1,by simp[mE,he,e2],e3,e4⟩
  ·cases h
theorem QJ {om:Bool} {β:Type} {F:Nat→List (FR R)} (hF:aY E F) (bn:ρ.om.om=om) (d9:∀d,o.dst=some d→d<F0) (hi:aH ρ aD st fr σ) {k:MS R.T→Option β} {x:β} (h:runM E R om F o st k=some x) {G:Prop} {rest:Fr→ah→Prop}
 (hs:∀y σ',kC E fr σ aD o y σ'→rest (fr.put o.dst y) σ'→G) (hk:∀ρ' st' y σ',aH ρ' (aD+1) st' (fr.put o.dst y) σ'→σ'.next=σ.next→(∀p,o.dst≠some p→aV true p st ρ σ st' ρ' σ')→k st'=some x→rest (fr.put o.dst y) σ'):G:=by
 have hi1:=hi.le (Nat.le_succ aD)
 unfold runM at h
 split at h
 ·rename_i c a' b' hop
  split at h
  ·rename_i t hc
   have hc':=(aX (E:=E) hi .nil hc).qN
   split at h
   ·rename_i v hv
    refine hs _ _ (.gW (Az hop hc')) (hk ρ _ _ σ (hi1.dU o.dst ?_) rfl (fun p _=>aV.same (by first|exact kP|rfl)) h)
    cases t
    ·exact aX (E:=E) hi .nil hv
    ·exact aX (E:=E) hi .nil hv
   ·cases h
  ·rename_i t hc
   have hc':=(aX (E:=E) hi .nil hc).oW
   split at h
   ·rename_i j
    have hj:=hc'
    rw[zo] at hj
    split at h
    ·rename_i x' y' hx hy
     split at h
     ·rename_i v hv
      refine hs _ _ (.gW (Az hop hc')) (hk ρ _ _ σ (hi1.dU o.dst ?_) rfl (fun p _=>aV.same (by first|exact kP|rfl)) h)
      cases t
      ·exact XO hv (aX (E:=E) hi (.cons hj .nil) hy)
      ·exact XM hv (aX (E:=E) hi (.cons hj .nil) hx)
     ·cases t
      ·exact hs _ _ (.gW (Az hop hc')) (hk ρ _ _ σ ((hi1.learn hj).dU o.dst (aX (E:=E) hi (.cons hj .nil) hy)) rfl (fun p _=>aV.same (by first|exact kP|rfl)) h)
      ·exact hs _ _ (.gW (Az hop hc')) (hk ρ _ _ σ ((hi1.learn hj).dU o.dst (aX (E:=E) hi (.cons hj .nil) hx)) rfl (fun p _=>aV.same (by first|exact kP|rfl)) h)
    ·cases h
   ·cases h
  ·cases h
 ·rename_i t a y hop
  split at h
  ·rename_i τ p i off l v hst
   unfold PD at hst
   split at hst
   ·rename_i p' τ1 i' off' v' ha hv
    split at hst
    ·rename_i τ' l0 sz hl hsz
     split at hst
     ·rename_i l1 hl1
      obtain⟨hc,hst⟩:=dD hst
      cases hst
      obtain⟨e,e2⟩:=qc hl1;subst e;cases e2
      simp only[Bool.and_eq_true] at hc
      obtain⟨⟨⟨c1,c2⟩,c3⟩,c4⟩:=hc
      obtain⟨z,hz,h⟩:=Option.bind_eq_some_iff.1 h
      split at h
      ·rename_i y' hu
       obtain⟨s,h1,_,h2⟩:=(aX (E:=E) hi .nil ha).xG
       obtain⟨h6,h7⟩:=rQ c4 (aX (E:=E) hi .nil hv)
       have hO:=hi.ob _ _ hl
       obtain⟨cs,k1,k2,k3,k4⟩:=agR hR hO h1 hz h6 (Nat.le_of_ble_eq_true c2) hu
       refine hs aC (σ.setObj (ρ.om.lc p) s (.cells (eu cs (i.toNat*cB R τ'+off) (fr.ev E y).cells))) (.gW (o:=o) ?_) (hk ρ _ aC _ ((hi1.set p s (x:=.arr τ' (xw l0 i y')) (a:=.cells (eu cs (i.toNat*cB R τ'+off) (fr.ev E y).cells)) ⟨k4.trans hO.1,.inr ⟨s,_,h1,rE _ _ _ _,k3⟩⟩).dU o.dst (x:=.undef) (by unfold Rl;rfl)) rfl (fun q _=>(aV.set hl rfl).congr kP) h)
       simp only[aW,hop,h2,k1,Option.bind_some]
       rw[if_pos ⟨by rw[hsz,h6.length,dK c1],k2,Ea c3 h6⟩]
      ·cases h
     ·cases hst
    ·cases hst
   ·cases hst
  ·split at h
   ·rename_i v st' hr
    rw[←hop] at hr
    obtain⟨y,σ',ρ',h1,h2,h3,h4,h5⟩:=rU hR hF bn d9 .nil hi hr
    exact hs y σ' h1 (hk ρ' _ y σ' (h2.dU o.dst h4) h3 (fun p hp=>(h5 p hp).congr kP) h)
   ·cases h
 ·rename_i t m y ok hop
  split at h
  ·rename_i ks vs q z hsm
   unfold Pz at hsm
   split at hsm
   ·rename_i p hm
    split at hsm
    ·rename_i ks' vs' hl
     split at hsm
     ·rename_i q' kt et hq ht
      split at hsm
      ·rename_i z' hz
       obtain⟨hkey,hsm⟩:=dD hsm
       cases hsm
       obtain⟨s,a1,a2⟩:=(aX (E:=E) hi .nil hm).tQ
       obtain⟨s',k0,l0,b1,b2,b3,b4⟩:=hi.rd hl
       rw[a1] at b1;cases b1
       have hqr:=aX (E:=E) hi .nil hq
       obtain⟨zv,z1,z2⟩:=Ar (ρ:=ρ) (top:=σ.top) hz
       obtain⟨v,bb,w,r,c1,c2,c3,c4⟩:=Yc hqr z2 h b3 b4
       have hlk:qX E.P σ t (fr.ev E m) (fr.ev E y) ok=some (if ok then .bB [w,.bool bb] else w):=by
        rw[Xj,ht];simp only[Option.bind_some]
        rw[if_pos (XQ hkey hqr),a2]
        show (σ.eG (ρ.om.lc p) s).bind _=_
        rw[b2];simp only[Option.bind_some,c2]
        cases r with
        |none=>simp only[z1,Option.map_some];obtain⟨e1,e2⟩:=c3.1 rfl;rw[e1,e2]
        |some u=>simp only[Option.map_some];obtain⟨e1,e2⟩:=c3.2 u rfl;rw[e1,e2]
       refine hs _ σ (.gW (o:=o) ?_) (hk ρ _ (if ok then .bB [w,.bool bb] else w) σ (hi1.dU o.dst ?_) rfl (fun p _=>aV.same (by first|exact kP|rfl)) c4)
       ·simp only[aW,hop,hlk,Option.map_some]
       ·cases ok
        ·exact c1
        ·rw[cond_true,if_pos rfl];unfold Rl;exact⟨_,rfl,.cons' c1 (.cons' (by unfold Rl;rfl) rfl)⟩
      ·cases hsm
     ·cases hsm
    ·cases hsm
   ·cases hsm
  ·split at h
   ·rename_i v hr
    rw[←hop] at hr
    obtain⟨y,h1,h2⟩:=rU hR hF bn d9 .nil hi hr
    exact hs y σ h1 (hk ρ _ y σ (hi1.dU o.dst h2) rfl (fun p _=>aV.same (by first|exact kP|rfl)) h)
   ·cases h
 ·split at h
  ·rename_i v hr
   obtain⟨y,h1,h2⟩:=rU hR hF bn d9 .nil hi hr
   exact hs y σ h1 (hk ρ _ y σ (hi1.dU o.dst h2) rfl (fun p _=>aV.same (by first|exact kP|rfl)) h)
  ·rename_i c v hr
   obtain⟨hc,h⟩:=dD h
   obtain⟨y,h1,h2⟩:=rU hR hF bn d9 .nil hi hr hc
   exact hs y σ h1 (hk ρ _ y σ (hi1.dU o.dst h2) rfl (fun p _=>aV.same (by first|exact kP|rfl)) h)
  ·rename_i v st' hr
   obtain⟨y,σ',ρ',h1,h2,h3,h4,h5⟩:=rU hR hF bn d9 .nil hi hr
   exact hs y σ' h1 (hk ρ' _ y σ' (h2.dU o.dst h4) h3 (fun p hp=>(h5 p hp).congr kP) h)
  ·rename_i c v st' hr
   obtain⟨hc,h⟩:=dD h
   obtain⟨y,σ',ρ',h1,h2,h3,h4,h5⟩:=rU hR hF bn d9 .nil hi hr hc
   exact hs y σ' h1 (hk ρ' _ y σ' (h2.dU o.dst h4) h3 (fun p hp=>(h5 p hp).congr kP) h)
  ·rename_i α z q f hr
   obtain⟨a,ha,h⟩:=Option.bind_eq_some_iff.1 h
   obtain⟨y,h1,h2⟩:=rU hR hF bn d9 .nil hi hr a ha
   exact hs y σ h1 (hk ρ _ y σ (hi1.dU o.dst h2) rfl (fun p _=>aV.same (by first|exact kP|rfl)) h)
  ·cases h
omit hR in
theorem xO (hi:aH ρ b st fr σ):∀(n j:Nat) (w c:Bool) (g:List (Nat×Bool)),lQ st n j w=some (c,g)→(c=true→fr.tm j= .bool w∧ni fr g)∧(c=false→fr.tm j= .bool (!w)∨fr.tm j=aC)∧(g=[(j,w)]→c=false→fr.tm j= .bool (!w))
 |0,j,w,c,g,h=>by cases h
 |n+1,j,w,c,g,h=>by
  have key:∀(i:Nat) (u a:Bool) (y:TV R.T),look st.fr j=some (.opt i u y)→(∀v,Rl R ρ σ.top y v→v= .bool a)→(match lQ st n i u with
   |some (c,g)=>some (Py c (zW a w),(j,w)::g)
   |none=>none)=some (c,g)→(c=true→fr.tm j= .bool w∧ni fr g)∧(c=false→fr.tm j= .bool (!w)∨fr.tm j=aC)∧(g=[(j,w)]→c=false→fr.tm j= .bool (!w)):=by
   intro i u a y hl hy h
   split at h
   ·rename_i c0 g0 he
    cases h
    obtain⟨h1,h2,h3⟩:=xO hi n i u c0 g0 he
    have hr:=hi.fr _ _ hl
    have hg0:g0≠[]:=by
     rintro rfl
     cases n with
     |zero=>cases he
     |succ n=>
      unfold lQ at he
      split at he
      ·cases he
      ·split at he<;>cases he
      ·split at he<;>cases he
      ·cases he
    refine⟨fun hc=> ?_,fun hc=> ?_,fun hg=>absurd (by simpa using hg) hg0⟩
    ·cases c0 with
     |false=>cases hc
     |true=>
      obtain⟨a1,a2⟩:=h1 rfl
      have hv:=hy _ (hr.1 a1)
      have hc':zW a w=true:=hc
      have:a=w:=by cases a<;>cases w<;>first|rfl|cases hc'
      subst this
      exact⟨hv,.cons hv a2⟩
    ·cases c0 with
     |false=>exact .inr (hr.2 (h2 rfl))
     |true=>
      obtain⟨a1,a2⟩:=h1 rfl
      have hv:=hy _ (hr.1 a1)
      have hc':zW a w=false:=hc
      have:a= !w:=by cases a<;>cases w<;>first|rfl|cases hc'
      subst this
      exact .inl hv
   ·cases h
  unfold lQ at h
  split at h
  ·rename_i a hl
   cases h
   have hv:=(show Rl R ρ σ.top (.bool a) (fr.tm j) from hi.fr _ _ hl).oW
   refine⟨fun hc=> ?_,fun hc=>.inl ?_,fun _ hc=> ?_⟩
   ·have:a=w:=by cases a<;>cases w<;>first|rfl|cases hc
    subst this;exact⟨hv,.cons hv .nil⟩
   ·have:a= !w:=by cases a<;>cases w<;>first|rfl|cases hc
    subst this;exact hv
   ·have:a= !w:=by cases a<;>cases w<;>first|rfl|cases hc
    subst this;exact hv
  ·rename_i i u a hl;exact key i u a _ hl (fun v hv=>hv.oW) h
  ·rename_i i u a hl;exact key i u a _ hl (fun v hv=>hv.qN) h
  ·cases h
omit hR in
theorem Yd {all:List Oper} (hi:aH ρ b st fr σ):match Ju all st o with
 |.run=>dN all fr o=some true
 |.skip=>dN all fr o=some false
 |.dyn j w c g=>(∃n,lQ st n j w=some (c,g))∧dN all fr o=some c
 |.no=>True:=by
 unfold Ju dN
 cases hg:o.guard with
 |none=>rfl
 |some p=>
  obtain⟨j,w⟩:=p
  dsimp only
  cases hj:all[j]? with
  |none=>rfl
  |some p=>
   simp only[Option.bind_some]
   cases hd:p.dst with
   |none=>rfl
   |some t=>
    dsimp only
    have dyn:∀c g,lQ st 12 t w=some (c,g)→(match fr.tm t with
     |.bool b=>some (b==w)
     |.raw _=>none
     |_=>some false)=some c:=by
     intro c g he
     obtain⟨h1,h2,_⟩:=xO hi 12 t w c g he
     cases c with
     |true=>rw[(h1 rfl).1];simp
     |false=>
      rcases h2 rfl with h2|h2
      ·rw[h2];cases w<;>rfl
      ·rw[h2];rfl
    cases hl:look st.fr t with
    |none=>
     dsimp only
     cases he:lQ st 12 t w with
     |none=>trivial
     |some q=>exact⟨⟨12,he⟩,dyn _ _ he⟩
    |some v=>
     have hr:=hi.fr _ _ hl
     cases v with
     |fT c=>
      have:=(show Rl R ρ σ.top (.fT c) (fr.tm t) from hr).qN
      rw[this]
      cases c<;>cases w<;>rfl
     |undef=>
      have:=(show Rl R ρ σ.top .undef (fr.tm t) from hr).Wi
      rw[this];rfl
     |_=>
      dsimp only
      cases he:lQ st 12 t w with
      |none=>trivial
      |some q=>exact⟨⟨12,he⟩,dyn _ _ he⟩
omit hR in
theorem J8 (hi:aH ρ b st fr σ):∀{g:List (Nat×Bool)},ni fr g→(∀j u,(j,u)∈g→fr.tm j= .bool u)→aH ρ b (st.kN g) fr σ∧(st.kN g).ob=st.ob
 | [],_,_=>⟨hi,rfl⟩
 | (j,w)::g,hg,hm=>by
   obtain⟨h1,h2⟩:=J8 hi (g:=g) (fun i u h=>by
    exact hm i u (by
     have:∀g:List (Nat×Bool),look g i=some u→(i,u)∈g:=by
      intro g
      induction g with
      |nil=>intro h;cases h
      |cons p g ih=>
       intro h
       obtain⟨k,v⟩:=p
       by_cases e:i=k
       ·subst e;rw[iM] at h;cases h;simp
       ·rw[fI _ _ e] at h;simp[ih h]
     exact List.mem_cons_of_mem _ (this g h))) (fun i u h=>hm i u (by simp[h]))
   exact⟨h1.learn (hm j w (by simp)),h2⟩
omit hR in
theorem J9 (hi:aH ρ b st fr σ):∀(n j:Nat) (w:Bool) (g:List (Nat×Bool)),lQ st n j w=some (true,g)→∀i u,(i,u)∈g→fr.tm i= .bool u
 |0,j,w,g,h=>by cases h
 |n+1,j,w,g,h=>by
  have hj:=((xO hi (n+1) j w true g h).1 rfl).1
  unfold lQ at h
  split at h
  ·simp only[Option.some.injEq,Prod.mk.injEq] at h
   obtain⟨_,rfl⟩:=h
   intro i u hm;simp at hm;obtain⟨rfl,rfl⟩:=hm;exact hj
  all_goals first
   | (split at h
      ·rename_i c0 g0 he
       simp only[Option.some.injEq,Prod.mk.injEq] at h
       obtain⟨hc,rfl⟩:=h
       cases c0 with
       |false=>cases hc
       |true=>
        intro i u hm
        rcases List.mem_cons.1 hm with hm|hm
        ·cases hm;exact hj
        ·exact J9 hi n _ _ g0 he i u hm
      ·cases h)
   |cases h
omit hR in
theorem QK (hi:aH ρ b st fr σ) {n j:Nat} {w:Bool} {g:List (Nat×Bool)} (hj:lQ st n j w=some (false,g)):aH ρ b (st.tL g) fr σ∧(st.tL g).ob=st.ob:=by
 obtain⟨_,_,e3⟩:=xO hi n j w false g hj
 rcases g with _| ⟨⟨j',w'⟩,_| ⟨p,g⟩⟩
 ·exact⟨hi,rfl⟩
 ·have hj':j'=j∧w'=w:=by
   cases n with
   |zero=>cases hj
   |succ n=>
    unfold lQ at hj
    split at hj
    ·simp only[Option.some.injEq,Prod.mk.injEq,List.cons.injEq] at hj
     exact⟨hj.2.1.1.symm,hj.2.1.2.symm⟩
    ·split at hj
     ·simp only[Option.some.injEq,Prod.mk.injEq,List.cons.injEq] at hj
      exact⟨hj.2.1.1.symm,hj.2.1.2.symm⟩
     ·exact absurd hj (by simp)
    ·split at hj
     ·simp only[Option.some.injEq,Prod.mk.injEq,List.cons.injEq] at hj
      exact⟨hj.2.1.1.symm,hj.2.1.2.symm⟩
     ·exact absurd hj (by simp)
    ·exact absurd hj (by simp)
  obtain⟨rfl,rfl⟩:=hj'
  exact⟨hi.learn (e3 rfl rfl),rfl⟩
 ·exact⟨hi,rfl⟩
theorem ahA {om:Bool} {β:Type} {F:Nat→List (FR R)} (hF:aY E F) (bn:ρ.om.om=om) (d9:∀d,o.dst=some d→d<F0) (hi:aH ρ aD st fr σ) {j n:Nat} {w c:Bool} {g:List (Nat×Bool)} (hj:lQ st n j w=some (c,g)) {k:MS R.T→Option β} {x:β} (h:PE E R om F o j w c g st k=some x) {G:Prop} {rest:Fr→ah→Prop}
 (hs:c=true→∀y σ',kC E fr σ aD o y σ'→rest (fr.put o.dst y) σ'→G) (hs':c=false→rest (fr.put o.dst aC) σ→G)
 (hk:∀ρ' st' y σ',aH ρ' (aD+1) st' (fr.put o.dst y) σ'→σ'.next=σ.next→(∀p,o.dst≠some p→aV true p st ρ σ st' ρ' σ')→k st'=some x→rest (fr.put o.dst y) σ'):G:=by
 have hi1:=hi.le (Nat.le_succ aD)
 obtain⟨e1,e2,e3⟩:=xO hi n j w c g hj
 have QL:(bif c then runM E R om F o (st.kN g) k else k ((st.tL g).dU o.dst .undef))=some x→G:=by
  intro h
  cases c with
  |true=>
   obtain⟨l1,l2⟩:=J8 hi (e1 rfl).2 (J9 hi n j w g hj)
   exact QJ hR hF bn d9 l1 h (hs rfl) (fun ρ' st' y σ' a b c d=>hk ρ' st' y σ' a b (fun p hp=>(c p hp).from l2) d)
  |false=>
   obtain⟨n1,n2⟩:=QK hi hj
   have hN:aH ρ (aD+1) (st.tL g) fr σ∧(st.tL g).ob=st.ob:=⟨n1.le (Nat.le_succ _),n2⟩
   refine hs' rfl (hk ρ _ aC σ (hN.1.dU o.dst (by unfold Rl;rfl)) rfl (fun p _=>aV.same (kP.trans hN.2)) h)
 unfold PE at h
 split at h
 ·rename_i d hd
  have hput:aP d (g.map (·.1))=false→∀(v:TV R.T) (y:V),(c=true→Rl R ρ σ.top v y)→(c=false→y=aC)→aH ρ (aD+1) (st.put d (.opt j w v)) (fr.put o.dst y) σ:=by
   intro hdj v y h1 h2
   have hne:(fr.set d y).tm j=fr.tm j:=by
    refine Du _ _ ?_
    cases n with
    |zero=>cases hj
    |succ n=>
     have hmem:aP d (g.map (·.1))=false:=hdj
     have:∃g',g=(j,w)::g':=by
      unfold lQ at hj
      split at hj
      ·cases hj;exact⟨[],rfl⟩
      all_goals first
       | (split at hj
          ·simp only[Option.some.injEq,Prod.mk.injEq] at hj
           exact⟨_,hj.2.symm⟩
          ·cases hj)
       |cases hj
     obtain⟨g',rfl⟩:=this
     have h':(Nat.beq d j||aP d (g'.map (·.1)))=false:=hmem
     rw[Bool.or_eq_false_iff] at h'
     simpa using (JE h'.1).symm
   rw[hd,zm]
   refine hi1.put d ⟨fun hc=> ?_,fun hc=> ?_⟩
   ·rw[hne] at hc
    refine h1 ?_
    cases c with
    |true=>rfl
    |false=>
     rcases e2 rfl with e|e
     ·rw[e] at hc;cases w<;>cases hc
     ·rw[e] at hc;cases hc
   ·rw[hne] at hc
    refine h2 ?_
    cases c with
    |false=>rfl
    |true=>
     rw[(e1 rfl).1] at hc
     rcases hc with hc|hc
     ·cases w<;>cases hc
     ·cases hc
  cases hdj:aP d (g.map (·.1))
  ·rw[hdj] at h
   simp only[cond_false] at h
   split at h
   ·rename_i v hr
    cases c with
    |true=>
     obtain⟨y,h1,h2⟩:=rU hR hF bn d9 (e1 rfl).2 hi hr
     exact hs rfl y σ h1 (hk ρ _ y σ (hput hdj v y (fun _=>h2) (fun h=>by cases h)) rfl (fun p _=>aV.same rfl) h)
    |false=>exact hs' rfl (hk ρ _ aC σ (hput hdj v aC (fun h=>by cases h) (fun _=>rfl)) rfl (fun p _=>aV.same rfl) h)
   ·rename_i q v hr
    obtain⟨hq,hh⟩:=dD h
    clear h
    cases c with
    |true=>
     obtain⟨y,h1,h2⟩:=rU hR hF bn d9 (e1 rfl).2 hi hr hq
     exact hs rfl y σ h1 (hk ρ _ y σ (hput hdj v y (fun _=>h2) (fun h=>by cases h)) rfl (fun p _=>aV.same rfl) hh)
    |false=>exact hs' rfl (hk ρ _ aC σ (hput hdj v aC (fun h=>by cases h) (fun _=>rfl)) rfl (fun p _=>aV.same rfl) hh)
   ·rename_i α z q f hr
    obtain⟨a,ha,hh⟩:=Option.bind_eq_some_iff.1 h
    clear h
    cases c with
    |true=>
     obtain⟨y,h1,h2⟩:=rU hR hF bn d9 (e1 rfl).2 hi hr a ha
     exact hs rfl y σ h1 (hk ρ _ y σ (hput hdj _ y (fun _=>h2) (fun h=>by cases h)) rfl (fun p _=>aV.same rfl) hh)
    |false=>exact hs' rfl (hk ρ _ aC σ (hput hdj _ aC (fun h=>by cases h) (fun _=>rfl)) rfl (fun p _=>aV.same rfl) hh)
   ·exact QL h
  ·rw[hdj] at h
   exact QL h
 ·exact QL h
omit hR in
theorem El {ρ':aL} {st':MS R.T} {σ':ah} (h:∀p,o.dst≠some p→aV true p st ρ σ st' ρ' σ'):ρ'.om=ρ.om:=by
 cases hd:o.dst with
 |none=>exact(h 0 (by rw[hd];simp)).om
 |some d=>exact(h (d+1) (by rw[hd];simp)).om
omit hR in
theorem Ye {os:List Oper} {p:Nat} (h:aP p (iZ (o::os))=false):o.dst≠some p∧aP p (iZ os)=false:=by
 unfold iZ at h
 split at h
 ·rename_i d hd
  have h':(Nat.beq p d||aP p (iZ os))=false:=h
  rw[Bool.or_eq_false_iff] at h'
  refine⟨fun e=> ?_,h'.2⟩
  rw[hd] at e;cases e;rw[Nat.beq_refl] at h';exact absurd h'.1 (by simp)
 ·rename_i hd
  refine⟨fun e=> ?_,h⟩
  rw[hd] at e;cases e
omit hR in
theorem Em (hi:aH ρ b st fr σ) (h:mX E st o=false):qO E fr o=false:=by
 unfold mX at h
 unfold qO
 split at h
 ·rename_i c hc
  rw[hc]
  dsimp only
  split at h
  ·rename_i f hf
   rw[hf]
   dsimp only
   split at h
   ·rename_i g a' b' hv
    obtain⟨va,vb,h1,_,_⟩:=(aX (E:=E) hi .nil hv).mo
    unfold jX
    rw[h1]
    split at h
    ·rename_i d hd;rw[hd];exact h
    ·rename_i hd;rw[hd]
   ·cases h
  ·rename_i hne
   split
   ·rename_i f hf;exact absurd hf (hne f)
   ·rfl
 ·rename_i hne
  split
  ·rename_i c hc;exact absurd hc (hne c)
  ·rfl
theorem ahB {k k':Sk} {l:List Sk} {c:TV R.T} {cs:List (TV R.T)} {p:aB R.T (k::k'::l)} (h:fA R (k::k'::l) (c::cs)=some p):
 ∃x q,pk R k c=some x∧fA R (k'::l) cs=some q∧p=(x,q):=by
 have h':(match pk R k c with
  |some x=>match fA R (k'::l) cs with
   |some p=>some (x,p)
   |none=>none
  |none=>none)=some p:=h
 cases hu:pk R k c with
 |none=>rw[hu] at h';cases h'
 |some u=>
  rw[hu] at h';dsimp only at h'
  cases hq:fA R (k'::l) cs with
  |none=>rw[hq] at h';cases h'
  |some q=>rw[hq] at h';cases h';exact⟨u,q,rfl,rfl,rfl⟩
theorem Yf {F:Nat→List (FR R)} (hF:aY E F) {f:Nat} {args:List (TV R.T)} {En:List V} (ha:aA R ρ σ.top args En) (hi:aH ρ b st fr σ):∀{l:List (FR R)} {τ:Ty} {x:Option (List (Den R.T τ))},(∀r∈l,r∈F f)→zX R args (l8 st args) l=some ⟨τ,x⟩→
 ∀y,x=some y→∃as,sU (E.sS f) σ En=some as∧En.all (fun x=>aF (er x))=true∧l6 E f as (cB R τ) (y.map (aG R τ))
 | [],τ,x,_,h=>by cases h
 | ⟨as,res,G,d0,own⟩::l,τ,x,hl,h=>by
   have rest:zX R args (l8 st args) l=some ⟨τ,x⟩→∀y,x=some y→∃as,sU (E.sS f) σ En=some as∧En.all (fun x=>aF (er x))=true∧l6 E f as (cB R τ) (y.map (aG R τ)):=fun h=>Yf hF ha hi (fun r hr=>hl r (List.mem_cons_of_mem _ hr)) h
   unfold zX at h
   split at h
   ·cases h
   ·rename_i as' τ' G' d' l' heq
    obtain⟨e1,e2⟩:=List.cons.inj heq
    subst e2
    cases e1
    split at h
    ·rename_i p hp
     obtain⟨hc,h⟩:=dD h
     cases h
     simp only[Bool.and_eq_true] at hc
     obtain⟨⟨c1,c2⟩,c3⟩:=hc
     intro y hy
     have hb:=(hF f ⟨as,[.d (.slice τ)],G',d',true⟩ (hl _ (List.mem_cons_self ..)) p y hy).2 rfl τ rfl y rfl
     cases hn:gN as with
     |true=>
      obtain⟨b1,b2⟩:=hb.1 hn
      obtain⟨vs',v1,v2⟩:=Ec hR hi ha
      have Ee:=qj hR as p (l8 st args) _ hn hp v1 20 σ (by have:=Nat.le_of_ble_eq_true c2;omega)
      exact⟨_,by rw[b1];unfold sU;rw[if_neg (by simp)];exact(v2 16).trans Ee,Ed hR c3 ha,b2⟩
     |false=>
      obtain⟨b1,b2⟩:=hb.2 hn
      rw[hn,Bool.false_or] at c1
      cases as with
      |nil=>cases c1
      |cons k as=>
      cases k<;>first| (cases c1;done)|skip
      cases as with
      |nil=>cases c1
      |cons k' as=>
      cases args with
      |nil=>exact absurd (show none=some p from hp) (by simp)
      |cons c args=>
      obtain⟨v,vs,rfl,h1,h2⟩:=ha.dJ
      have hp0:fA R (.dZ::k'::as) (xg st c::l8 st args)=some p:=by simpa only[l8] using hp
      obtain⟨u,q,hu,q1,hpq⟩:=ahB hR hp0
      have hc:c= .dZ:=by
       have hp':(pk R .dZ (xg st c)).isSome=true:=by rw[hu];rfl
       cases c<;>first|rfl|skip
       all_goals
        exfalso
        revert hp'
        unfold xg rG
        repeat' split
        all_goals (intro h;cases h)
      subst hc
      have q2:XE (bA R (.dZ::k'::as) p)= .aj .nil []::bA R (k'::as) q:=by rw[hpq];rfl
      rw[h1.nV]
      obtain⟨vs',v1,v2⟩:=Ec hR hi h2
      have Ee:=qj hR (k'::as) q (l8 st args) _ c1 q1 v1 20 σ (by have h9:=Nat.le_of_ble_eq_true c2;rw[mW] at h9;omega)
      rw[q2] at b2
      refine⟨_,by rw[b1];unfold sU;rw[if_pos rfl];dsimp only;rw[v2 16,Ee];rfl, ?_,b2⟩
      have:=Ed hR c3 ha
      rw[h1.nV] at this
      exact this
    ·exact rest h
   ·rename_i heq
    obtain⟨_,e2⟩:=List.cons.inj heq
    subst e2
    exact rest h
theorem ahC {β:Type} {F:Nat→List (FR R)} (hF:aY E F) (hi:aH ρ aD st fr σ) {k:MS R.T→Option β} {x:β} (h:PG R F o st k=some x) (hown:mX E st o=true) {all os:List Oper} {Q:Fr→ah→Prop} (hw:dN all fr o=some true)
 (hk:∀(ρ':aL) (st':MS R.T) (y:V) (σ':ah),aH ρ' (aD+1) st' (fr.put o.dst y) σ'→σ'.next=σ.next→(∀p,o.dst≠some p→aV true p st ρ σ st' ρ' σ')→k st'=some x→OW E all (aD+1) os (fr.put o.dst y) σ' Q):OW E all aD (o::os) fr σ Q:=by
 unfold PG at h
 split at h
 ·rename_i c d ho hd
  split at h
  ·rename_i f fu
   split at h
   ·rename_i g a' b' vs hf hvs
    split at h
    ·rename_i τ xo hfo
     obtain⟨l,hl,h⟩:=Option.bind_eq_some_iff.1 h
     obtain⟨va,vb,h1,h2,h3⟩:=(aX (E:=E) hi .nil hf).mo
     have hrel:=(h2.append (tV (E:=E) hi .nil hvs)).append h3
     obtain⟨as,has,hcl,hO⟩:=Yf hR hF hrel hi (fun _ hr=>hr) hfo l hl
     have hg:E.own g d=true:=by
      unfold mX at hown
      rw[ho] at hown
      dsimp only at hown
      rw[fu] at hown
      dsimp only at hown
      rw[hf] at hown
      dsimp only at hown
      rw[hd] at hown
      exact hown
     have hdp:∀y:V,fr.put o.dst y=fr.set d y:=fun y=>by rw[hd];rfl
     refine OW.own hw ho fu h1 hd hg has hO hcl (fun cp hcp=> ?_) ?_
     ·refine hk (ρ.fU d aD) _ _ σ ?_ rfl ?_ h
      ·have e:σ.bZ aD (σ.top aD)=σ:=by
        unfold ah.bZ
        have:upd σ.top aD (σ.top aD)=σ.top:=by
         funext j;unfold upd;split
         ·rename_i e;rw[e]
         ·rfl
        rw[this]
       have:=hi.wk d aD (σ.top aD) (Nat.le_succ _) (Nat.lt_succ_self _) hi.nx (fun u _ hu=>by have:=hi.lt u _ hu;omega)
       rw[e] at this
       rw[hdp]
       refine this.put d (.of ?_)
       unfold Rl
       exact⟨cp,rfl,by rcases hcp with rfl|rfl;exact .inl rfl;exact .inr (.inl rfl)⟩
      ·intro p hp
       have e:σ.bZ aD (σ.top aD)=σ:=by
        unfold ah.bZ
        have:upd σ.top aD (σ.top aD)=σ.top:=by
         funext j;unfold upd;split
         ·rename_i e;rw[e]
         ·rfl
        rw[this]
       have:=(aV.wk (nr:=true) (p:=p) (t:=d) (s:=aD) (n:=σ.top aD) (ρ:=ρ) (st:=st) (σ:=σ) hi.nx)
       rw[e] at this
       exact this.congr rfl
     ·refine hk (ρ.fU d aD) _ _ _ ?_ rfl ?_ h
      ·rw[hdp]
       have:=hi.wk d aD (l.map (aG R τ)).length (Nat.le_succ _) (Nat.lt_succ_self _) hi.nx (fun u _ hu=>by have:=hi.lt u _ hu;omega)
       refine this.put d (.of ?_)
       unfold Rl
       exact⟨_,rfl,.inr (.inr ⟨aD,rfl,by simp[aL.fU,upd],by rw[Dv,List.length_map]⟩)⟩
      ·intro p hp
       exact(aV.wk (nr:=true) (p:=p) hi.nx).congr rfl
    ·cases h
   ·cases h
  ·cases h
 ·cases h
omit hR in
theorem Yg {o:Oper} {os:List Oper} {d:Nat} (h:o.dst=some d):aP d (iZ (o::os))=true:=by
 unfold iZ
 rw[h]
 show (Nat.beq d d||_)=true
 rw[Nat.beq_refl];rfl
omit hR in
theorem Yh {o:Oper} {os:List Oper} {d:Nat} (h:aP d (iZ os)=true):aP d (iZ (o::os))=true:=by
 unfold iZ
 cases o.dst with
 |none=>exact h
 |some e=>show (Nat.beq d e||aP d (iZ os))=true;rw[h,Bool.or_true]
omit hR in
theorem aV.of {nr:Bool} {o:Nat} {st st':MS R.T} {ρ ρ':aL} {σ σ':ah} (h:aV true o st ρ σ st' ρ' σ'):aV nr o st ρ σ st' ρ' σ':=⟨h.ob,h.ln,h.om,h.nx,h.lp,fun L _=>h.dp L (.inl rfl),h.ro⟩
omit hR in
theorem Kp.nr {nr Eo:Bool} {W:List Nat} {st st':MS R.T} {fr fr':Fr} {ρ ρ':aL} {σ σ':ah} (hn:Eo=true→nr=true) (h:Kp nr W st fr σ ρ st' fr' σ' ρ'):Kp Eo W st fr σ ρ st' fr' σ' ρ':=⟨h.fr,fun o ho=>⟨(h.ob o ho).ob,(h.ob o ho).ln,(h.ob o ho).om,(h.ob o ho).nx,(h.ob o ho).lp,fun L hL=>(h.ob o ho).dp L (hL.imp hn id),(h.ob o ho).ro⟩⟩
omit hR in
theorem QM (h:qb E st o=true):qL E o=false:=by
 unfold qb at h
 unfold qL
 split at h
 ·rename_i c hc
  (try rw[hc]);(try dsimp only)
  split at h
  ·rename_i f hf
   (try rw[hf])
   cases f with
   |func g=>
    have h':E.imp g=true:=h
    (try dsimp only);rw[h'];rfl
   |tmp _=>rfl
   |const _=>rfl
   | «global» _=>rfl
  ·cases h
 ·cases h
omit hR in
theorem QN {c:Call} {f:Operand} {g:FuncId} {a vb:List V} (h:qO E fr o=false) (h1:o.op= .call c) (h2:c.callee= .value f) (h3:fr.ev E f= .fn (.func g) a vb):∀d,o.dst=some d→E.own g d=false:=by
 intro d hd
 unfold qO at h
 rw[h1] at h;dsimp only at h
 rw[h2] at h;dsimp only at h
 unfold jX at h
 rw[h3,hd] at h
 exact h
theorem vU {om:Bool} {β:Type} {F:Nat→List (FR R)} (hF:aY E F) {M:Nat→List (FM R)} (hM:J6 E M) {all:List Oper} {k:MS R.T→Option β} {x:β} {Q:Fr→ah→Prop}:∀(os:List Oper) (aD:Nat) (ρ:aL) (st:MS R.T) (fr:Fr) (σ:ah),(∀d,aP d (iZ os)=true→d<F0)→ρ.om.om=om→aH ρ aD st fr σ→aD+os.length≤σ.next→qM E R om F M all os st k=some x→
 (∀ρ' st' fr' σ',aH ρ' (aD+os.length) st' fr' σ'→σ.next≤σ'.next→Kp (os.all (qL E)) (iZ os) st fr σ ρ st' fr' σ' ρ'→k st'=some x→Q fr' σ')→OW E all aD os fr σ Q
 | [],aD,ρ,st,fr,σ,hW0,bn,hi,hsn,h,hq=>OW.nil (hq ρ st fr σ hi (Nat.le_refl _) .refl h)
 |o::os,aD,ρ,st,fr,σ,hW0,bn,hi,hsn,h,hq=>by
  have d9:∀d,o.dst=some d→d<F0:=fun d hd=>hW0 d (Yg hd)
  have hW1:∀d,aP d (iZ os)=true→d<F0:=fun d hd=>hW0 d (Yh hd)
  have ql:∀{σ':ah},σ.next≤σ'.next→aD+1+os.length≤σ'.next:=fun h=>by rw[List.length_cons] at hsn;omega
  have hg:=Yd (o:=o) (all:=all) hi
  unfold qM at h
  have hW:∀p,aP p (iZ (o::os))=false→o.dst≠some p∧aP p (iZ os)=false:=fun p hp=>Ye hp
  have hq':∀(ρ1:aL) (st1:MS R.T) (y:V) (σ1:ah),(∀p,o.dst≠some p→aV (qL E o) p st ρ σ st1 ρ1 σ1)→σ.next≤σ1.next→∀ρ' st' fr' σ',aH ρ' (aD+1+os.length) st' fr' σ'→σ1.next≤σ'.next→Kp (os.all (qL E)) (iZ os) st1 (fr.put o.dst y) σ1 ρ1 st' fr' σ' ρ'→k st'=some x→Q fr' σ':=fun ρ1 st1 y σ1 hkp h1 ρ' st' fr' σ' hi' hn rV hk=>
   hq ρ' st' fr' σ' (by rw[List.length_cons,Nat.add_comm os.length,←Nat.add_assoc];exact hi') (Nat.le_trans h1 hn) (((Kp.op (fun p hp=>(hW p hp).1) hkp).nr (Eo:=(o::os).all (qL E)) (fun e=>by rw[List.all_cons,Bool.and_eq_true] at e;exact e.1)).trans ((rV.mono fun p hp=>(hW p hp).2).nr (fun e=>by rw[List.all_cons,Bool.and_eq_true] at e;exact e.2))) hk
  split at h
  ·rename_i hgm
   rw[hgm] at hg
   cases hown:mX E st o with
   |true=>
    rw[hown,cond_true] at h
    exact ahC hR hF hi h hown hg (fun ρ' st' y σ' hi' hn hkp hk=>vU hF hM os (aD+1) ρ' st' _ σ' hW1 ((congrArg Cx.om (El hkp)).trans bn) hi' (ql (Nat.le_of_eq hn.symm)) hk (hq' ρ' st' y σ' (fun p hp=>(hkp p hp).of) (Nat.le_of_eq hn.symm)))
   |false=>
   rw[hown,cond_false] at h
   have dO:=Em hi hown
   cases himp:qb E st o with
   |true=>
    rw[himp,cond_true] at h
    obtain⟨c,f,g,a,vb,e1,e2,e3,e4,n,v,σ',e5,st1,i1,i2,i3,i4⟩:=QI hR hM hi (by omega) h
    exact OW.IX hg e1 e2 e3 e4 ⟨n,v,σ',e5,vU hF hM os (aD+1) ρ st1 _ σ' hW1 bn i1 (ql i2) i4 (hq' ρ st1 v σ' (fun p _=>by rw[QM himp];exact i3 p) i2)⟩ (QN dO e1 e2 e3)
   |false=>
   rw[himp,cond_false] at h
   exact QJ hR hF bn d9 hi h (rest:=fun fr' σ'=>OW E all (aD+1) os fr' σ' Q) (fun y σ' hst hr=>hst.1 dO all os Q hg hr) (fun ρ' st' y σ' hi' hn hkp hk=>vU hF hM os (aD+1) ρ' st' _ σ' hW1 ((congrArg Cx.om (El hkp)).trans bn) hi' (ql (Nat.le_of_eq hn.symm)) hk (hq' ρ' st' y σ' (fun p hp=>(hkp p hp).of) (Nat.le_of_eq hn.symm)))
  ·rename_i hgm
   rw[hgm] at hg
   refine OW.skip hg (vU hF hM os (aD+1) ρ _ _ σ hW1 bn ?_ (ql (Nat.le_refl _)) h (hq' ρ _ aC σ (fun p _=>aV.same (by first|exact kP|rfl)) (Nat.le_refl _)))
   exact(hi.le (Nat.le_succ _)).dU o.dst (by unfold Rl;rfl)
  ·rename_i j w c g hgm
   rw[hgm] at hg
   obtain⟨⟨n,hn⟩,hg2⟩:=hg
   cases hown:(mX E st o||mX E (st.kN g) o) with
   |true=>rw[hown] at h;cases h
   |false=>
   rw[hown,cond_false] at h
   rw[Bool.or_eq_false_iff] at hown
   have dO:=Em hi hown.1
   cases himp:qb E (st.kN g) o with
   |true=>
    rw[himp,cond_true] at h
    obtain⟨e1,e2,e3⟩:=xO hi n j w c g hn
    cases c with
    |true=>
     rw[cond_true] at h
     obtain⟨l1,l2⟩:=J8 hi (e1 rfl).2 (J9 hi n j w g hn)
     obtain⟨c,f,g',a,vb,f1,f2,f3,f4,n',v,σ',f5,st1,i1,i2,i3,i4⟩:=QI hR hM l1 (by omega) h
     exact OW.IX hg2 f1 f2 f3 f4 ⟨n',v,σ',f5,vU hF hM os (aD+1) ρ st1 _ σ' hW1 bn i1 (ql i2) i4 (hq' ρ st1 v σ' (fun p _=>by rw[QM himp];exact(i3 p).from l2) i2)⟩ (QN dO f1 f2 f3)
    |false=>
     rw[cond_false] at h
     obtain⟨l1,l2⟩:=QK hi hn
     exact OW.skip hg2 (vU hF hM os (aD+1) ρ _ _ σ hW1 bn ((l1.le (Nat.le_succ _)).dU o.dst (by unfold Rl;rfl)) (ql (Nat.le_refl _)) h (hq' ρ _ aC σ (fun p _=>aV.same (kP.trans l2)) (Nat.le_refl _)))
   |false=>
   rw[himp,cond_false] at h
   exact ahA hR hF bn d9 hi hn h (rest:=fun fr' σ'=>OW E all (aD+1) os fr' σ' Q) (fun e y σ' hst hr=>hst.1 dO all os Q (by rw[hg2,e]) hr) (fun e hr=>OW.skip (by rw[hg2,e]) hr)
    (fun ρ' st' y σ' hi' hn hkp hk=>vU hF hM os (aD+1) ρ' st' _ σ' hW1 ((congrArg Cx.om (El hkp)).trans bn) hi' (ql (Nat.le_of_eq hn.symm)) hk (hq' ρ' st' y σ' (fun p hp=>(hkp p hp).of) (Nat.le_of_eq hn.symm)))
  ·cases h
def Key.mv (c:Cx):Key→Key
 |.obj l=>.obj (c.lc l.2)
 |k=>k
def bQ.mv (c:Cx) (f:bQ):bQ:=⟨f.qz,f.mH,f.t.map (Key.mv c),f.w.map (Key.mv c)⟩
omit hR in
theorem ahD (c:Cx) (a b:Key):(a.mv c).eq (b.mv c)=a.nm.eq b.nm:=by
 cases a<;>cases b<;>try rfl
 rename_i l m
 show ow (c.lc l.2) (c.lc m.2)=ow (1,l.2) (1,m.2)
 by_cases e:l.2=m.2
 ·rw[e,OT];unfold ow;simp
 ·rw[PX c e,OT];simp[e]
omit hR in
theorem ahE (c:Cx) (f g:bQ):clash (f.mv c) (g.mv c)=clash f.nm g.nm:=by
 have hr:∀k:Key,(k.mv c).eq .rest=k.nm.eq .rest:=fun k=>by cases k<;>rfl
 have hs:∀k:Key,(k.mv c).state=k.nm.state:=fun k=>by cases k<;>rfl
 unfold clash bQ.mv bQ.nm
 dsimp only
 simp only[List.any_map,Function.comp_def,ahD,hr,hs]
omit hR in
theorem getD_map (h:bQ→bQ) (ha:h dY=dY):∀(fs:List bQ) (i:Nat),(fs.map h).getD i dY=h (fs.getD i dY)
 | [],i=>by simp[ha]
 |f::fs,0=>rfl
 |f::fs,i+1=>by simpa using getD_map h ha fs i
omit hR in
theorem ahF (c:Cx) (ms:List Nat) (fs:List bQ):sV ms (fs.map (bQ.mv c))=sV ms (fs.map bQ.nm):=by
 unfold sV Nj
 simp only[List.length_map,getD_map (bQ.mv c) rfl,getD_map bQ.nm rfl,ahE]
omit hR in
theorem nY (c:Cx) (l:List Key):(lI l).mv c=lI (l.map (Key.mv c)):=rfl
omit hR in
theorem rW (c:Cx) (l:List Key):(kH l).mv c=kH (l.map (Key.mv c)):=rfl
omit hR in
theorem mv_nil (c:Cx):(lI []).mv c=lI []:=rfl
omit hR in
theorem ahG (c:Cx):dY.mv c=dY:=rfl
omit hR in
theorem ahH {top:Nat→Nat} {x:TV R.T} {v:V} (hg:x≠ .gone) (hv:∀o t,x≠ .vw o t) (h:Rl R ρ top x v):gy v=(Wd x).map (Key.mv ρ.om):=by
 cases x with
 |gone=>exact absurd rfl hg
 |opt j w y=>exact h.Wj.elim
 |agg cs=>obtain⟨l,rfl,_⟩:=h.jH;rfl
 |bB cs=>obtain⟨l,rfl,_⟩:=h.JB;rfl
 |aj c t l=>obtain⟨l,rfl,_⟩:=h.jU;rfl
 |ref p off=>obtain⟨s,_,rfl⟩:=h.mZ;rfl
 |bK p=>obtain⟨s,_,rfl⟩:=h.tQ;rfl
 |aJ l p=>obtain⟨s,rfl,_⟩:=h.rP;rfl
 |fn f a b=>obtain⟨a',b',rfl,_⟩:=h.mo;rfl
 |vw o t=>exact absurd rfl (hv o t)
 |jq p t i off=>obtain⟨s,_,_,rfl⟩:=h.xG;rfl
 |sv p off k n lo hi=>obtain⟨s,_,_,rfl⟩:=h.vP;rfl
 |sel p off k n i m=>obtain⟨s,_,_,_,rfl⟩:=h.D5;rfl
 |oL k n y i=>obtain⟨_,_,rfl⟩:=h.JC;rfl
 |_=>unfold Rl at h;subst h;rfl
omit hR in
theorem Yi {x:TV R.T} (h:Ab x=true):x≠ .gone∧∀o t,x≠ .vw o t:=⟨(by rintro rfl;cases h),(by rintro o t rfl;cases h)⟩
omit hR in
theorem kD (hi:aH ρ b st fr σ) {x:Operand} {v:TV R.T} (h:bf [] st x=some v) (hg:Ab v=true):(tO st x).map (Key.mv ρ.om)=gy (fr.ev E x):=by
 unfold tO
 rw[h]
 exact(ahH (Yi hg).1 (Yi hg).2 (aX hi .nil h)).symm
omit hR in
theorem Yj (hi:aH ρ b st fr σ):∀{l:List Operand} {vs:List (TV R.T)},lN [] st l=some vs→vs.all Ab=true→(l.flatMap (fun x=>tO st x)).map (Key.mv ρ.om)=l.flatMap fun x=>gy (fr.ev E x)
 | [],vs,h,_=>rfl
 |x::l,vs,h,hg=>by
  unfold lN at h
  cases h1:bf [] st x with
  |none=>simp only[h1] at h;cases h
  |some a=>
   cases h2:lN [] st l with
   |none=>simp only[h1,h2] at h;cases h
   |some as=>
    simp only[h1,h2] at h;cases h
    rw[List.all_cons,Bool.and_eq_true] at hg
    rw[List.flatMap_cons,List.flatMap_cons,List.map_append,kD (E:=E) hi h1 hg.1,Yj hi h2 hg.2]
omit hR in
theorem ahI {om:Bool} {β:Type} {F:Nat→List (FR R)} {k:MS R.T→Option β} {x:β} (h:runM E R om F o st k=some x) (hp:∀c a b,o.op≠ .pick c a b) (hl:∀t m y ok,o.op≠ .lookup t m y ok) (hst:∀t a y,o.op≠ .store t a y):∃r,rJ E R om F [] o.dst o.op st=some r:=by
 unfold runM at h
 split at h
 ·rename_i c a b hop;exact absurd hop (hp _ _ _)
 ·rename_i t a y hop;exact absurd hop (hst _ _ _)
 ·rename_i t m y ok hop;exact absurd hop (hl _ _ _ _)
 ·cases hr:rJ E R om F [] o.dst o.op st with
  |some r=>exact⟨r,rfl⟩
  |none=>rw[hr] at h;cases h
omit hR in
theorem uj {om:Bool} {F:Nat→List (FR R)} {g:List (Nat×Bool)} {d:Option Nat} {op:Op} {r:dI R} (h:rJ E R om F g d op st=some r):nT E R g d op st=some r∨oU E R om F g d op st=some r:=by
 unfold rJ at h
 split at h
 ·rename_i r' hx;cases h;exact .inl hx
 ·exact .inr h
omit hR in
theorem Yk {top:Nat→Nat}:∀{x:List (TV R.T)} {v:List V},Jz x=true→aA R ρ top x v→v.all (fun a=>aF (er a))=false
 | [],_,h,_=>by cases h
 |x::l,v,h,hr=>by
  obtain⟨y,ys,rfl,h1,h2⟩:=hr.dJ
  rw[List.all_cons]
  by_cases e:∃o off k n lo hi,x= .sv o off k n lo hi
  ·obtain⟨o,off,k,n,lo,hi,rfl⟩:=e
   obtain⟨s,_,_,rfl⟩:=h1.vP
   simp[er,aF]
  ·have h':Jz l=true:=by
    cases x<;>first|exact h|exact absurd ⟨_,_,_,_,_,_,rfl⟩ e
   rw[Yk h' h2,Bool.and_false]
omit hR in
theorem Ka (hi:aH ρ b st fr σ) (d9:∀d,o.dst=some d→d<F0):(Jy o).map (Key.mv ρ.om)=oz fr o:=by
 unfold Jy oz
 cases hd:o.dst with
 |none=>rfl
 |some d=>dsimp only;rw[hi.at (d9 d hd)];rfl
theorem ahJ {om:Bool} {β:Type} {F:Nat→List (FR R)} (bn:ρ.om.om=om) (d9:∀d,o.dst=some d→d<F0) (hi:aH ρ b st fr σ) {k:MS R.T→Option β} {x:β} (h:runM E R om F o st k=some x) (hd:vO E st o=true):(DV E om st o).mv ρ.om=gL E fr o:=by
 unfold DV gL
 have hop:=ahI h
 cases ho:o.op<;>rw[ho] at hop<;>dsimp only<;>(try exact mv_nil _)<;>(try exact ahG _)
 case load t a=>
  obtain⟨r,hr⟩:=hop (by simp) (by simp) (by simp)
  rcases uj hr with hr|hr
  ·unfold nT at hr;dsimp only at hr
   split at hr
   ·rename_i gl _
    split at hr
    ·rename_i k n v hg
     obtain⟨cs,_,g1,_⟩:=QA hg
     have e1:tO st (Operand.global gl)=[]:=rfl
     have e2:gy (fr.ev E (.global gl))=[]:=by rw[QC hR g1];rfl
     rw[nY,e1,e2];rfl
    ·cases hr
   ·split at hr
    ·rename_i hv;rw[nY,kD (E:=E) hi hv rfl]
    ·rename_i hv;rw[nY,kD (E:=E) hi hv rfl]
    ·rename_i hv;rw[nY,kD (E:=E) hi hv rfl]
    ·cases hr
  unfold oU at hr;dsimp only at hr
  split at hr
  ·rename_i hv;rw[nY,kD (E:=E) hi hv rfl]
  ·rename_i hv;rw[nY,kD (E:=E) hi hv rfl]
  ·rename_i hv;rw[nY,kD (E:=E) hi hv rfl]
  ·cases hr
 case store t a y=>
  have h':=h
  unfold runM at h'
  rw[ho] at h'
  dsimp only at h'
  split at h'
  ·rename_i hst
   unfold PD at hst
   split at hst
   ·rename_i hv _;rw[rW,kD (E:=E) hi hv rfl]
   ·cases hst
  ·split at h'
   ·rename_i hr
    rcases uj hr with hr|hr
    ·unfold nT at hr;dsimp only at hr
     split at hr
     ·rename_i hv _;rw[rW,kD (E:=E) hi hv rfl]
     ·rename_i hv _;rw[rW,kD (E:=E) hi hv rfl]
     ·cases hr
    unfold oU at hr;dsimp only at hr
    split at hr
    ·rename_i hv _;rw[rW,kD (E:=E) hi hv rfl]
    ·cases hr
   ·cases h'
 case convert a b' y=>
  obtain⟨r,hr⟩:=hop (by simp) (by simp) (by simp)
  rcases uj hr with hr|hr
  ·unfold nT at hr;dsimp only at hr
   split at hr
   ·rename_i hv;rw[nY,kD (E:=E) hi hv rfl]
   ·cases hr
  unfold oU at hr;dsimp only at hr
  split at hr
  ·rename_i v hv
   rw[nY,kD (E:=E) hi hv (by
    unfold Jj at hr
    split at hr<;>first|rfl|cases hr)]
  ·cases hr
 case slice t y lo hi' mx=>
  obtain⟨r,hr⟩:=hop (by simp) (by simp) (by simp)
  cases mx with
  |some m=>
   rcases uj hr with hr|hr
   ·cases hi' with
    |none=>unfold nT at hr;cases hr
    |some h1=>
     unfold nT at hr
     dsimp only at hr
     split at hr
     ·rename_i hv _ _ _;rw[nY,kD (E:=E) hi hv rfl]
     ·cases hr
   ·unfold oU at hr;cases hr
  |none=>
   rcases uj hr with hr|hr
   ·unfold nT at hr;dsimp only at hr
    split at hr
    ·rename_i v hv
     have key:∀lo hi,vM E R t v lo hi st=some r→Ab v=true:=by
      intro lo hi hs
      unfold vM at hs
      split at hs<;>first|rfl|cases hs
     rw[nY,kD (E:=E) hi hv (by
      split at hr
      ·exact key _ _ hr
      ·split at hr
       ·exact key _ _ hr
       ·cases hr
      ·split at hr
       ·exact key _ _ hr
       ·cases hr
      ·split at hr
       ·exact key _ _ hr
       ·cases hr)]
    ·cases hr
   unfold oU at hr;dsimp only at hr
   split at hr
   ·rename_i v hv
    have key:∀lo hi,vI E R t v lo hi=some r→Ab v=true:=by
     intro lo hi hs
     unfold vI at hs
     split at hs
     ·split at hs<;>first|rfl|cases hs
     ·cases hs
    rw[nY,kD (E:=E) hi hv (by
     split at hr
     ·exact key _ _ hr
     ·split at hr
      ·exact key _ _ hr
      ·cases hr
     ·split at hr
      ·exact key _ _ hr
      ·cases hr
     ·split at hr
      ·exact key _ _ hr
      ·cases hr)]
   ·cases hr
 case lookup t m y ok=>
  have h':=h
  unfold runM at h'
  rw[ho] at h'
  dsimp only at h'
  split at h'
  ·rename_i hsm
   unfold Pz at hsm
   split at hsm
   ·rename_i hv;rw[nY,kD (E:=E) hi hv rfl]
   ·cases hsm
  ·split at h'
   ·rename_i hr
    rcases uj hr with hr|hr
    ·unfold nT at hr;cases hr
    unfold oU at hr;dsimp only at hr
    split at hr
    ·rename_i hv _
     rw[nY,kD (E:=E) hi hv (by
      unfold Jk at hr
      split at hr<;>first|rfl|cases hr)]
    ·cases hr
   ·cases h'
 case mapUpdate t m k' v=>
  obtain⟨r,hr⟩:=hop (by simp) (by simp) (by simp)
  rcases uj hr with hr|hr
  ·unfold nT at hr;cases hr
  unfold oU at hr;dsimp only at hr
  split at hr
  ·rename_i hv _ _
   rw[rW,kD (E:=E) hi hv (by
    unfold zP at hr
    split at hr<;>first|rfl|cases hr)]
  ·cases hr
 case insert t m k' v=>
  obtain⟨r,hr⟩:=hop (by simp) (by simp) (by simp)
  rcases uj hr with hr|hr
  ·unfold nT at hr;cases hr
  unfold oU at hr;dsimp only at hr
  split at hr
  ·rename_i hv _ _
   rw[rW,kD (E:=E) hi hv (by
    unfold zP at hr
    split at hr<;>first|rfl|cases hr)]
  ·cases hr
 case alloc t=>rw[rW];exact congrArg kH (Ka hi d9)
 case box t y=>rw[rW];exact congrArg kH (Ka hi d9)
 case makeMap t y=>rw[rW];exact congrArg kH (Ka hi d9)
 case makeSlice t y z=>rw[rW];exact congrArg kH (congrArg (Key.top:: ·) (Ka hi d9))
 case call c=>
  obtain⟨r,hr⟩:=hop (by simp) (by simp) (by simp)
  unfold vO at hd;rw[Bool.and_eq_true,Bool.not_eq_true'] at hd
  obtain⟨hown,hd⟩:=hd
  rw[ho] at hd;dsimp only at hd
  cases hc:c.callee with
  |invoke y m=>rfl
  |builtin bi=>
   rw[hc] at hd;dsimp only at hd
   split at hd
   ·rename_i vs hvs
    have:=Yj (E:=E) hi hvs hd
    cases bi<;>dsimp only<;>(try rw[←this])<;>(try rfl)
    rw[hi.om,bn];cases om<;>rfl
   ·cases hd
  |value f=>
   rcases uj hr with hr|hr
   ·unfold nT at hr;dsimp only at hr;rw[hc] at hr;cases hr
   unfold oU at hr;dsimp only at hr
   rw[hc] at hd hr;dsimp only at hd hr
   split at hd
   ·rename_i f' a' b' vs hf hvs
    simp only[hf,hvs] at hr
    cases himp:E.imp f' with
    |true=>rw[himp] at hr;cases hr
    |false=>
     obtain⟨va,vb,h1,h2,h3⟩:=(aX (E:=E) hi .nil hf).mo
     dsimp only;rw[hf,h1];dsimp only
     have dO:jX E fr o f=false:=by
      have:=Em hi hown
      unfold qO at this
      rw[ho] at this;dsimp only at this
      rw[hc] at this;exact this
     simp only[himp,dO,Bool.false_eq_true,if_false]
     rw[hvs];dsimp only
     have hrel:=(h2.append (tV (E:=E) hi .nil hvs)).append h3
     cases hcl:vG (a'++vs++b') with
     |true=>rw[Ed hR hcl hrel];rfl
     |false=>
      rw[hcl,Bool.false_or] at hd
      rw[Yk hd hrel];rfl
   ·cases hd
omit hR in
theorem QO (c:Cx) (all:List Oper) (o:Oper):(qA all o).map (Key.mv c)=qA all o:=by
 have key:∀l:List Key,(∀k∈l,∃t,k= .slot t)→l.map (Key.mv c)=l:=by
  intro l
  induction l with
  |nil=>intro _;rfl
  |cons k l ih=>
   intro h
   obtain⟨t,e⟩:=h k (List.mem_cons_self ..)
   rw[List.map_cons,ih fun k hk=>h k (List.mem_cons_of_mem _ hk),e];rfl
 refine key _ fun k hk=> ?_
 unfold qA at hk
 rw[List.mem_append] at hk
 rcases hk with hk|hk
 ·rw[List.mem_filterMap] at hk
  obtain⟨a,_,ha⟩:=hk
  split at ha
  ·cases ha;exact⟨_,rfl⟩
  ·cases ha
 ·split at hk
  ·split at hk
   ·exact⟨_,List.mem_singleton.1 hk⟩
   ·cases hk
  ·cases hk
omit hR in
theorem QS (c:Cx) (o:Oper):(kI o).map (Key.mv c)=kI o:=by
 unfold kI
 cases o.dst<;>rfl
omit hR in
theorem Yl {c:Cx} (f:bQ) (a b:List Key) (ha:a.map (Key.mv c)=a) (hb:b.map (Key.mv c)=b):bQ.mv c ⟨f.qz,f.mH,a++f.t,b++f.w⟩=⟨(f.mv c).qz,(f.mv c).mH,a++(f.mv c).t,b++(f.mv c).w⟩:=by
 unfold bQ.mv
 dsimp only
 rw[List.map_append,List.map_append,ha,hb]
theorem ahK {om:Bool} {β:Type} {F:Nat→List (FR R)} (bn:ρ.om.om=om) (d9:∀d,o.dst=some d→d<F0) (hi:aH ρ b st fr σ) {k:MS R.T→Option β} {x:β} {all:List Oper} (h:runM E R om F o st k=some x) (hd:vO E st o=true):(mY E om all st o true).mv ρ.om=eX E all fr o true:=by
 have key:=ahJ hR bn d9 hi h hd
 unfold mY eX
 rw[if_pos rfl,if_pos rfl,←key]
 exact Yl _ _ _ (QO _ _ _) (QS _ _)
omit hR in
theorem Ym {om:Bool} {all:List Oper} {c:Cx}:(mY E om all st o false).mv c=eX E all fr o false:=by
 unfold mY eX bQ.mv
 rw[if_neg (by simp),if_neg (by simp)]
 dsimp only
 rw[QO,QS]
omit hR in
theorem ahL {om:Bool} {all:List Oper} {c:Call} {f:Operand} {g:FuncId} {a vb:List V} (hi:aH ρ b st fr σ) (himp:qb E st o=true) (dO:qO E fr o=false) (h1:o.op= .call c) (h2:c.callee= .value f) (h3:fr.ev E f= .fn (.func g) a vb) (h4:E.imp g=true):(mY E om all st o true).mv ρ.om=eX E all fr o true:=by
 have key:(DV E om st o).mv ρ.om=gL E fr o:=by
  unfold qb at himp
  rw[h1] at himp;dsimp only at himp
  rw[h2] at himp;dsimp only at himp
  unfold qO at dO
  rw[h1] at dO;dsimp only at dO
  rw[h2] at dO;dsimp only at dO
  unfold DV gL
  rw[h1];dsimp only
  rw[h2];dsimp only
  rw[dO,h3]
  split at himp
  ·rename_i g' a' b' hf
   (try rw[hf])
   (try dsimp only)
   rw[if_pos himp,if_neg (by simp)]
   (try dsimp only)
   rw[if_pos h4]
   rfl
  ·cases himp
 unfold mY eX
 rw[if_pos rfl,if_pos rfl,←key]
 exact Yl _ _ _ (QO _ _ _) (QS _ _)
theorem Ep {om:Bool} {β:Type} {F:Nat→List (FR R)} (hF:aY E F) {M:Nat→List (FM R)} (hM:J6 E M) {ms:List Nat} {all:List Oper} {k:MS R.T→Option β} {x:β} {Q:Fr→ah→Prop}:∀(os:List Oper) (aD:Nat) (ρ:aL) (st:MS R.T) (fr:Fr) (σ:ah) (fs:List bQ),(∀d,aP d (iZ os)=true→d<F0)→ρ.om.om=om→aH ρ aD st fr σ→aD+os.length≤σ.next→nU E R om F M ms all os st fs k=some x→
 (∀ρ' st' fr' σ',aH ρ' (aD+os.length) st' fr' σ'→σ.next≤σ'.next→Kp (os.all (qL E)) (iZ os) st fr σ ρ st' fr' σ' ρ'→k st'=some x→Q fr' σ')→dP E ms all aD os fr σ (fs.map (bQ.mv ρ.om)) Q
 | [],aD,ρ,st,fr,σ,fs,hW0,bn,hi,hsn,h,hq=>by
   unfold nU at h
   obtain⟨h1,h⟩:=dD h
   exact dP.nil (by rw[ahF];exact h1) (hq ρ st fr σ hi (Nat.le_refl _) .refl h)
 |o::os,aD,ρ,st,fr,σ,fs,hW0,bn,hi,hsn,h,hq=>by
  have d9:∀d,o.dst=some d→d<F0:=fun d hd=>hW0 d (Yg hd)
  have hW1:∀d,aP d (iZ os)=true→d<F0:=fun d hd=>hW0 d (Yh hd)
  have ql:∀{σ':ah},σ.next≤σ'.next→aD+1+os.length≤σ'.next:=fun h=>by rw[List.length_cons] at hsn;omega
  have hg:=Yd (o:=o) (all:=all) hi
  unfold nU at h
  have hW:∀p,aP p (iZ (o::os))=false→o.dst≠some p∧aP p (iZ os)=false:=fun p hp=>Ye hp
  have hq':∀(ρ1:aL) (st1:MS R.T) (y:V) (σ1:ah),(∀p,o.dst≠some p→aV (qL E o) p st ρ σ st1 ρ1 σ1)→σ.next≤σ1.next→∀ρ' st' fr' σ',aH ρ' (aD+1+os.length) st' fr' σ'→σ1.next≤σ'.next→Kp (os.all (qL E)) (iZ os) st1 (fr.put o.dst y) σ1 ρ1 st' fr' σ' ρ'→k st'=some x→Q fr' σ':=fun ρ1 st1 y σ1 hkp h1 ρ' st' fr' σ' hi' hn rV hk=>
   hq ρ' st' fr' σ' (by rw[List.length_cons,Nat.add_comm os.length,←Nat.add_assoc];exact hi') (Nat.le_trans h1 hn) (((Kp.op (fun p hp=>(hW p hp).1) hkp).nr (Eo:=(o::os).all (qL E)) (fun e=>by rw[List.all_cons,Bool.and_eq_true] at e;exact e.1)).trans ((rV.mono fun p hp=>(hW p hp).2).nr (fun e=>by rw[List.all_cons,Bool.and_eq_true] at e;exact e.2))) hk
  have run:∀(st1:MS R.T),st1.ob=st.ob→aH ρ aD st1 fr σ→dN all fr o=some true→(bif qb E st1 o then (bif mX E st1 o then none else xB R M o st1 (fun st'=>nU E R om F M ms all os st' (fs++[mY E om all st1 o true]) k)) else bif !(vO E st1 o) then none else runM E R om F o st1 (fun st'=>nU E R om F M ms all os st' (fs++[mY E om all st1 o true]) k))=some x→dP E ms all aD (o::os) fr σ (fs.map (bQ.mv ρ.om)) Q:=by
   intro st1 u6 hi hg h
   have hkq:∀(st':MS R.T) (ρ':aL) (σ':ah),(∀p,o.dst≠some p→aV true p st1 ρ σ st' ρ' σ')→∀p,o.dst≠some p→aV true p st ρ σ st' ρ' σ':=fun st' ρ' σ' h p hp=>(h p hp).from u6
   cases himp:qb E st1 o with
   |true=>
    rw[himp,cond_true] at h
    cases hown:mX E st1 o with
    |true=>rw[hown] at h;cases h
    |false=>
    rw[hown,cond_false] at h
    have dO:=Em hi hown
    obtain⟨c,f,g',a,vb,f1,f2,f3,f4,n',v,σ',f5,st2,i1,i2,i3,i4⟩:=QI hR hM hi (by omega) h
    have hf:=ahL (om:=om) (all:=all) hi himp dO f1 f2 f3 f4
    refine dP.IX hg f1 f2 f3 f4 ⟨n',v,σ',f5, ?_⟩ (QN dO f1 f2 f3)
    have:=Ep hF hM os (aD+1) ρ st2 _ σ' _ hW1 bn i1 (ql i2) i4 (hq' ρ st2 v σ' (fun p _=>by rw[QM himp];exact(i3 p).from u6) i2)
    rw[List.map_append,List.map_cons,List.map_nil,hf] at this
    exact this
   |false=>
   rw[himp,cond_false] at h
   cases hd:vO E st1 o
   ·rw[hd] at h;cases h
   ·rw[hd] at h
    have h':runM E R om F o st1 (fun st'=>nU E R om F M ms all os st' (fs++[mY E om all st1 o true]) k)=some x:=h
    have hf:=ahK hR (all:=all) bn d9 hi h' hd
    exact QJ hR hF bn d9 hi h' (rest:=fun fr' σ'=>dP E ms all (aD+1) os fr' σ' (fs.map (bQ.mv ρ.om)++[eX E all fr o true]) Q) (fun y σ' hst hr=>hst.2 (Em hi (by unfold vO at hd;rw[Bool.and_eq_true,Bool.not_eq_true'] at hd;exact hd.1)) ms all os (fs.map (bQ.mv ρ.om)) Q hg hr) (fun ρ' st' y σ' hi' hn hkp hk=>by
     have:=Ep hF hM os (aD+1) ρ' st' _ σ' _ hW1 ((congrArg Cx.om (El hkp)).trans bn) hi' (ql (Nat.le_of_eq hn.symm)) hk (hq' ρ' st' y σ' (fun p hp=>(hkq st' ρ' σ' hkp p hp).of) (Nat.le_of_eq hn.symm))
     rw[El hkp,List.map_append,List.map_cons,List.map_nil,hf] at this
     exact this)
  split at h
  ·rename_i hgm
   rw[hgm] at hg
   exact run st rfl hi hg h
  ·rename_i hgm
   rw[hgm] at hg
   have:=Ep hF hM os (aD+1) ρ _ _ σ _ hW1 bn ((hi.le (Nat.le_succ _)).dU o.dst (by unfold Rl;rfl)) (ql (Nat.le_refl _)) h (hq' ρ _ aC σ (fun p _=>aV.same (by first|exact kP|rfl)) (Nat.le_refl _))
   rw[List.map_append,List.map_cons,List.map_nil,Ym (fr:=fr)] at this
   exact dP.skip hg this
  ·rename_i j w c g hgm
   rw[hgm] at hg
   obtain⟨⟨n,hn⟩,hg2⟩:=hg
   obtain⟨e1,e2,e3⟩:=xO hi n j w c g hn
   cases c with
   |true=>
    obtain⟨l1,l2⟩:=J8 hi (e1 rfl).2 (J9 hi n j w g hn)
    exact run (st.kN g) l2 l1 hg2 h
   |false=>
    obtain⟨l1,l2⟩:=QK hi hn
    have:=Ep hF hM os (aD+1) ρ _ _ σ _ hW1 bn ((l1.le (Nat.le_succ _)).dU o.dst (by unfold Rl;rfl)) (ql (Nat.le_refl _)) h (hq' ρ _ aC σ (fun p _=>aV.same (kP.trans l2)) (Nat.le_refl _))
    rw[List.map_append,List.map_cons,List.map_nil,Ym (fr:=fr)] at this
    exact dP.skip hg2 this
  ·cases h
end
end Aq
end
section
namespace Aq
open Go
section
variable {E:Env} {fr:Fr} {σ:ah}
def ah.enter (σ:ah) (fr:Fr) (ps:Array Tmp) (dF body:Code):ah:=({σ with next:=σ.next+1}:ah).eF σ.next {st:=0,pend:=none,fr:=fr,ps:=ps.toList,dF:=dF,body:=body}
def vV (E:Env) (l:Nat) (args:List V) (σ:ah) (b:Bool) (σ':ah):Prop:=∃n,qy (dz E n) l args σ=some (.bool b,σ')
theorem CW.range {f:Operand} {ps:Array Tmp} {dF body:Code} {g:FuncId} {a b:List V} {Q:Ex→Fr→ah→Prop} (hf:fr.ev E f= .fn (.func g) a b) (hi:E.imp g=true)
 (h:kL E g (a++[.fn (.yield σ.next) [] []]++b) (fr.d+1) (σ.enter fr ps dF body) (fun _ σ2=> ∃r,σ2.loops σ.next=some r∧r.st≠1∧Q (match r.pend with|none=>.normal|some e=>e) fr (σ2.kQ σ.next))):CW E (.rangeFunc f ps dF body) fr σ Q:=by
 obtain⟨n,v,σ2,h1,r,h2,h3,h4⟩:=h
 refine⟨n,_,fr,_, ?_,h4⟩
 have h1':gT E (dz E n) fr.d (σ.enter fr ps dF body) (.fn (.func g) a b) [.fn (.yield σ.next) [] []]=some (v,σ2):=by
  unfold gT;simp only[hi,if_true];exact h1
 unfold cO
 rw[hf]
 simp only[Nk,if_true]
 unfold ah.enter at h1'
 rw[h1']
 simp only[Option.bind_some,h2,if_neg h3]
 cases r.pend<;>rfl
theorem vV.of {l:Nat} {args:List V} {r:mD} {b:Bool} {σ':ah} (hl:σ.loops l=some r) (hst:r.st=0) (hlen:r.ps.length=args.length)
 (h:CW E r.dF {r.fr with tm:=(r.ps.zip args).foldl (fun tm (p,a)=>upd tm p a) r.fr.tm} σ (fun e bR σ1=>e= .normal∧∃r1,σ1.loops l=some r1∧r1.st=0∧
   CW E r.body bR (σ1.eF l {r1 with st:=1}) (fun e _ σ2=> ∃r2,σ2.loops l=some r2∧r2.st=1∧match e with
    |.normal=>b=true∧σ'=σ2.eF l {r2 with st:=0,pend:=none}
    |e=>b=false∧σ'=σ2.eF l {r2 with st:=2,pend:=some e}))):vV E l args σ b σ':=by
 obtain⟨n,e,bR,σ1,h1,rfl,r1,hl1,hs1,m,e2,eB,σ2,h2,r2,hl2,hs2,h3⟩:=h
 have h1':(dz E (max n m+1)).code r.dF {r.fr with tm:=(r.ps.zip args).foldl (fun tm (p,a)=>upd tm p a) r.fr.tm} σ=some (.normal,bR,σ1):=wU (jQ (Nat.le_max_left n m)) _ _ _ _ h1
 have h2':(dz E (max n m+1)).code r.body bR (σ1.eF l {r1 with st:=1})=some (e2,eB,σ2):=wU (jQ (Nat.le_max_right n m)) _ _ _ _ h2
 refine⟨max n m+1, ?_⟩
 unfold qy
 simp only[hl,Option.bind_some,hst,hlen,and_self,if_true,h1',hl1,hs1,h2',hl2,hs2]
 cases e2 with
 |normal=>obtain⟨rfl,rfl⟩:=h3;rfl
 |exit i=>obtain⟨rfl,rfl⟩:=h3;rfl
 |ret=>obtain⟨rfl,rfl⟩:=h3;rfl
theorem OW.yield {all:List Oper} {st:Nat} {o:Oper} {os:List Oper} {Q:Fr→ah→Prop} {c:Call} {f:Operand} {l:Nat} {b:Bool} {σ1:ah} (hw:dN all fr o=some true) (ho:o.op= .call c) (fu:c.callee= .value f)
 (hf:fr.ev E f= .fn (.yield l) [] []) (hr:vV E l (c.args.toList.map (fr.ev E)) σ b σ1) (h:OW E all (st+1) os (fr.put o.dst (.bool b)) σ1 Q):OW E all st (o::os) fr σ Q:=by
 obtain⟨n,fr',σ',h1,h2⟩:=h
 obtain⟨m,hm⟩:=hr
 have hm':=OL (jQ (Nat.le_max_right n m)) hm
 have h1':=Dt (jQ (Nat.le_max_left n m)) _ _ _ _ _ _ h1
 refine⟨max n m,fr',σ', ?_,h2⟩
 have:gT E (dz E (max n m)) fr.d σ (.fn (.yield l) [] []) (c.args.toList.map (fr.ev E))=some (.bool b,σ1):=by
  unfold gT;exact hm'
 have dO:jX E fr o f=false:=by unfold jX;rw[hf]
 simp only[opsE,hw,Option.bind_some,if_true,opC,ho,fu,dO,Bool.false_eq_true,if_false,hf,this,Option.map_some,h1']
structure Shift (d:Nat) (σ σ':ah):Prop where
 next:σ.next≤σ'.next
 top:∀s,s<σ.next→σ'.top s=σ.top s
 loops:∀l,l<σ.next→σ'.loops l=σ.loops l
 obj:∀a o,a≤d→σ'.obj (a,o)=σ.obj (a,o)
theorem Shift.refl {d:Nat} {σ:ah}:Shift d σ σ:=⟨Nat.le_refl _,fun _ _=>rfl,fun _ _=>rfl,fun _ _ _=>rfl⟩
theorem Shift.trans {d:Nat} {σ σ' jL:ah} (h:Shift d σ σ') (g:Shift d σ' jL):Shift d σ jL:=
 ⟨Nat.le_trans h.next g.next,fun s hs=>(g.top s (Nat.lt_of_lt_of_le hs h.next)).trans (h.top s hs),fun s hs=>(g.loops s (Nat.lt_of_lt_of_le hs h.next)).trans (h.loops s hs),fun a o ha=>(g.obj a o ha).trans (h.obj a o ha)⟩
def Er (E:Env) (f:FuncId) (a b:List V) (L:List (List V)):Prop:=∀(d l:Nat) (σ:ah) (J:List (List V)→ah→Prop) (D:ah→Prop),
 (∀xs σ σ',l<σ.next→J xs σ→Shift d σ σ'→J xs σ')→(∀σ σ',l<σ.next→D σ→Shift d σ σ'→D σ')→
 (∀x xs σ,l<σ.next→J (x::xs) σ→∃c σ',vV E l x σ c σ'∧σ.next≤σ'.next∧(∀a o,d<a→σ'.obj (a,o)=σ.obj (a,o))∧(∀s,s<σ.next→σ'.loops s=σ.loops s∨s=l)∧(c=true→J xs σ')∧(c=false→D σ'))→
 l<σ.next→J L σ→kL E f (a++[.fn (.yield l) [] []]++b) (d+1) σ fun _ σ'=>σ.next≤σ'.next∧(J [] σ'∨D σ')
end
end Aq
end
