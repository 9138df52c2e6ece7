/- Part of the proof of a law. -/
import Derived.Test.YtgdialomgeijcaaGreatF3410
set_option linter.all false
set_option linter.unusedSimpArgs false
set_option linter.unusedSectionVars false
section
namespace Aq
open Go
set_option linter.unusedSectionVars false
set_option linter.unusedVariables false
section
variable {R:fI} {E:Env}
variable {ρ:aK} {b au:Nat} {st:MS R.T} {fr:Fr} {σ:ah} {o:Oper}
theorem acP {j:Nat} {t:Bool} (h:aV [] st (.tmp j)=some (.bool t)):look st.fr j=some (.bool t):=by
 unfold aV at h
 dsimp only at h
 split at h
 ·rename_i v hv
  cases v<;>first| (cases h;exact hv)| (simp[FH,look] at h;done)
 ·cases h
variable (hR:kY R)
include hR
omit hR in
theorem Tw {β:Type} {top:Nat→Nat} {x z:TV R.T} {v zv:V} {k:TV R.T→Bool→Option β} {res:β} (hx:Rl R ρ top x v) (hz:Rl R ρ top z zv):∀{ks vs:List (TV R.T)} {kl vl:List V},Gb x ks vs z k=some res→ay R ρ top ks kl→ay R ρ top vs vl→
 ∃y b w r,Rl R ρ top y w∧lD v kl vl=some r∧((r=none→w=zv∧b=false)∧∀u,r=some u→w=u∧b=true)∧k y b=some res
 | [],[],kl,vl,h,h1,h2=>by
   rw[h1.dO,h2.dO]
   exact⟨z,false,zv,none,hz,rfl,⟨fun _=>⟨rfl,rfl⟩,fun u h=>by cases h⟩,h⟩
 | [],_::_,_,_,h,_,_=>by cases h
 |_::_,[],_,_,h,_,_=>by cases h
 |a::ks,b::vs,kl,vl,h,h1,h2=>by
  obtain⟨k0,k',rfl,g1,g2⟩:=h1.bX
  obtain⟨l0,l',rfl,g3,g4⟩:=h2.bX
  unfold Gb at h
  split at h
  ·rename_i c hc
   have he:=SQ hc hx g1
   cases c with
   |true=>exact⟨b,true,l0,some l0,g3,by simp[lD,he],⟨fun h=>(by cases h),fun u h=>by cases h;exact⟨rfl,rfl⟩⟩,h⟩
   |false=>
    obtain⟨y,bb,w,r,e1,e2,e3,e4⟩:=Tw hx hz h g2 g4
    exact⟨y,bb,w,r,e1,by simp[lD,he,e2],e3,e4⟩
  ·cases h
theorem L8 {om:Bool} {β:Type} {F:Nat→List (FR R)} (hF:bG E F) (aW:ρ.om.om=om) (dP:∀d,o.dst=some d→d<F0) (hi:aB ρ au st fr σ) {k:MS R.T→Option β} {x:β} (h:runM E R om F o st k=some x) {G:Prop} {rest:Fr→ah→Prop}
 (hs:∀y σ',jB E fr σ au o y σ'→rest (fr.put o.dst y) σ'→G) (hk:∀ρ' st' y σ',aB ρ' (au+1) st' (fr.put o.dst y) σ'→σ'.next=σ.next→(∀p,o.dst≠some p→aQ true p st ρ σ st' ρ' σ')→k st'=some x→rest (fr.put o.dst y) σ'):G:=by
 have hi1:=hi.le (Nat.le_succ au)
 unfold runM at h
 split at h
 ·rename_i c a' b' hop
  split at h
  ·rename_i t hc
   have hc':=(aR (E:=E) hi .nil hc).qh
   split at h
   ·rename_i v hv
    refine hs _ _ (.fu (Aw hop hc')) (hk ρ _ _ σ (hi1.dH o.dst ?_) rfl (fun p _=>aQ.same (by first|exact jK|rfl)) h)
    cases t
    ·exact aR (E:=E) hi .nil hv
    ·exact aR (E:=E) hi .nil hv
   ·cases h
  ·rename_i t hc
   have hc':=(aR (E:=E) hi .nil hc).mK
   split at h
   ·rename_i j
    have hj:=hc'
    rw[zm] at hj
    split at h
    ·rename_i x' y' hx hy
     split at h
     ·rename_i v hv
      refine hs _ _ (.fu (Aw hop hc')) (hk ρ _ _ σ (hi1.dH o.dst ?_) rfl (fun p _=>aQ.same (by first|exact jK|rfl)) h)
      cases t
      ·exact SN hv (aR (E:=E) hi (.cons hj .nil) hy)
      ·exact SL hv (aR (E:=E) hi (.cons hj .nil) hx)
     ·cases t
      ·exact hs _ _ (.fu (Aw hop hc')) (hk ρ _ _ σ ((hi1.learn hj).dH o.dst (aR (E:=E) hi (.cons hj .nil) hy)) rfl (fun p _=>aQ.same (by first|exact jK|rfl)) h)
      ·exact hs _ _ (.fu (Aw hop hc')) (hk ρ _ _ σ ((hi1.learn hj).dH o.dst (aR (E:=E) hi (.cons hj .nil) hx)) rfl (fun p _=>aQ.same (by first|exact jK|rfl)) h)
    ·cases h
   ·cases h
  ·cases h
 ·rename_i t a y hop
  split at h
  ·rename_i τ p i off l v hst
   unfold KN at hst
   split at hst
   ·rename_i p' τ1 i' off' v' ha hv
    split at hst
    ·rename_i τ' l0 sz hl hsz
     split at hst
     ·rename_i l1 hl1
      obtain⟨hc,hst⟩:=bU hst
      cases hst
      obtain⟨e,e2⟩:=oO hl1;subst e;cases e2
      simp only[Bool.and_eq_true] at hc
      obtain⟨⟨⟨c1,c2⟩,c3⟩,c4⟩:=hc
      obtain⟨z,hz,h⟩:=Option.bind_eq_some_iff.1 h
      split at h
      ·rename_i y' hu
       obtain⟨s,h1,_,h2⟩:=(aR (E:=E) hi .nil ha).xH
       obtain⟨h6,h7⟩:=rF c4 (aR (E:=E) hi .nil hv)
       have hO:=hi.ob _ _ hl
       obtain⟨cs,k1,k2,k3,k4⟩:=abZ hR hO h1 hz h6 (Nat.le_of_ble_eq_true c2) hu
       refine hs aA (σ.setObj (ρ.om.lc p) s (.cells (dR cs (i.toNat*bR R τ'+off) (fr.ev E y).cells))) (.fu (o:=o) ?_) (hk ρ _ aA _ ((hi1.set p s (x:=.arr τ' (xA l0 i y')) (a:=.cells (dR cs (i.toNat*bR R τ'+off) (fr.ev E y).cells)) ⟨k4.trans hO.1,.inr ⟨s,_,h1,p8 _ _ _ _,k3⟩⟩).dH o.dst (x:=.undef) (by unfold Rl;rfl)) rfl (fun q _=>(aQ.set hl rfl).congr jK) h)
       simp only[aS,hop,h2,k1,Option.bind_some]
       rw[if_pos ⟨by rw[hsz,h6.length,dn c1],k2,Dj c3 h6⟩]
      ·cases h
     ·cases hst
    ·cases hst
   ·cases hst
  ·split at h
   ·rename_i v st' hr
    rw[←hop] at hr
    obtain⟨y,σ',ρ',h1,h2,h3,h4,h5⟩:=rG hR hF aW dP .nil hi hr
    exact hs y σ' h1 (hk ρ' _ y σ' (h2.dH o.dst h4) h3 (fun p hp=>(h5 p hp).congr jK) h)
   ·cases h
 ·rename_i t m y ok hop
  split at h
  ·rename_i ks vs q z hsm
   unfold KM at hsm
   split at hsm
   ·rename_i p hm
    split at hsm
    ·rename_i ks' vs' hl
     split at hsm
     ·rename_i q' kt et hq ht
      split at hsm
      ·rename_i z' hz
       obtain⟨hkey,hsm⟩:=bU hsm
       cases hsm
       obtain⟨s,a1,a2⟩:=(aR (E:=E) hi .nil hm).um
       obtain⟨s',k0,l0,b1,b2,b3,b4⟩:=hi.rd hl
       rw[a1] at b1;cases b1
       have hqr:=aR (E:=E) hi .nil hq
       obtain⟨zv,z1,z2⟩:=Al (ρ:=ρ) (top:=σ.top) hz
       obtain⟨v,bb,w,r,c1,c2,c3,c4⟩:=Tw hqr z2 h b3 b4
       have hlk:qM E.P σ t (fr.ev E m) (fr.ev E y) ok=some (if ok then .aT [w,.bool bb] else w):=by
        rw[RY,ht];simp only[Option.bind_some]
        rw[if_pos (SS hkey hqr),a2]
        show (σ.dU (ρ.om.lc p) s).bind _=_
        rw[b2];simp only[Option.bind_some,c2]
        cases r with
        |none=>simp only[z1,Option.map_some];obtain⟨e1,e2⟩:=c3.1 rfl;rw[e1,e2]
        |some u=>simp only[Option.map_some];obtain⟨e1,e2⟩:=c3.2 u rfl;rw[e1,e2]
       refine hs _ σ (.fu (o:=o) ?_) (hk ρ _ (if ok then .aT [w,.bool bb] else w) σ (hi1.dH o.dst ?_) rfl (fun p _=>aQ.same (by first|exact jK|rfl)) c4)
       ·simp only[aS,hop,hlk,Option.map_some]
       ·cases ok
        ·exact c1
        ·rw[cond_true,if_pos rfl];unfold Rl;exact⟨_,rfl,.cons' c1 (.cons' (by unfold Rl;rfl) rfl)⟩
      ·cases hsm
     ·cases hsm
    ·cases hsm
   ·cases hsm
  ·split at h
   ·rename_i v hr
    rw[←hop] at hr
    obtain⟨y,h1,h2⟩:=rG hR hF aW dP .nil hi hr
    exact hs y σ h1 (hk ρ _ y σ (hi1.dH o.dst h2) rfl (fun p _=>aQ.same (by first|exact jK|rfl)) h)
   ·cases h
 ·split at h
  ·rename_i v hr
   obtain⟨y,h1,h2⟩:=rG hR hF aW dP .nil hi hr
   exact hs y σ h1 (hk ρ _ y σ (hi1.dH o.dst h2) rfl (fun p _=>aQ.same (by first|exact jK|rfl)) h)
  ·rename_i c v hr
   obtain⟨hc,h⟩:=bU h
   obtain⟨y,h1,h2⟩:=rG hR hF aW dP .nil hi hr hc
   exact hs y σ h1 (hk ρ _ y σ (hi1.dH o.dst h2) rfl (fun p _=>aQ.same (by first|exact jK|rfl)) h)
  ·rename_i v st' hr
   obtain⟨y,σ',ρ',h1,h2,h3,h4,h5⟩:=rG hR hF aW dP .nil hi hr
   exact hs y σ' h1 (hk ρ' _ y σ' (h2.dH o.dst h4) h3 (fun p hp=>(h5 p hp).congr jK) h)
  ·rename_i c v st' hr
   obtain⟨hc,h⟩:=bU h
   obtain⟨y,σ',ρ',h1,h2,h3,h4,h5⟩:=rG hR hF aW dP .nil hi hr hc
   exact hs y σ' h1 (hk ρ' _ y σ' (h2.dH o.dst h4) h3 (fun p hp=>(h5 p hp).congr jK) h)
  ·rename_i α z q f hr
   obtain⟨a,ha,h⟩:=Option.bind_eq_some_iff.1 h
   obtain⟨y,h1,h2⟩:=rG hR hF aW dP .nil hi hr a ha
   exact hs y σ h1 (hk ρ _ y σ (hi1.dH o.dst h2) rfl (fun p _=>aQ.same (by first|exact jK|rfl)) h)
  ·cases h
omit hR in
theorem xO (hi:aB ρ b st fr σ):∀(n j:Nat) (w c:Bool) (g:List (Nat×Bool)),kF st n j w=some (c,g)→(c=true→fr.tm j= .bool w∧lU fr g)∧(c=false→fr.tm j= .bool (!w)∨fr.tm j=aA)∧(g=[(j,w)]→c=false→fr.tm j= .bool (!w))
 |0,j,w,c,g,h=>by cases h
 |n+1,j,w,c,g,h=>by
  have key:∀(i:Nat) (u a:Bool) (y:TV R.T),look st.fr j=some (.opt i u y)→(∀v,Rl R ρ σ.top y v→v= .bool a)→(match kF st n i u with
   |some (c,g)=>some (KL c (zT a w),(j,w)::g)
   |none=>none)=some (c,g)→(c=true→fr.tm j= .bool w∧lU fr g)∧(c=false→fr.tm j= .bool (!w)∨fr.tm j=aA)∧(g=[(j,w)]→c=false→fr.tm j= .bool (!w)):=by
   intro i u a y hl hy h
   split at h
   ·rename_i c0 g0 he
    cases h
    obtain⟨h1,h2,h3⟩:=xO hi n i u c0 g0 he
    have hr:=hi.fr _ _ hl
    have hg0:g0≠[]:=by
     rintro rfl
     cases n with
     |zero=>cases he
     |succ n=>
      unfold kF at he
      split at he
      ·cases he
      ·split at he<;>cases he
      ·split at he<;>cases he
      ·cases he
    refine⟨fun hc=> ?_,fun hc=> ?_,fun hg=>absurd (by simpa using hg) hg0⟩
    ·cases c0 with
     |false=>cases hc
     |true=>
      obtain⟨a1,a2⟩:=h1 rfl
      have hv:=hy _ (hr.1 a1)
      have hc':zT a w=true:=hc
      have:a=w:=by cases a<;>cases w<;>first|rfl|cases hc'
      subst this
      exact⟨hv,.cons hv a2⟩
    ·cases c0 with
     |false=>exact .inr (hr.2 (h2 rfl))
     |true=>
      obtain⟨a1,a2⟩:=h1 rfl
      have hv:=hy _ (hr.1 a1)
      have hc':zT a w=false:=hc
      have:a= !w:=by cases a<;>cases w<;>first|rfl|cases hc'
      subst this
      exact .inl hv
   ·cases h
  unfold kF at h
  split at h
  ·rename_i a hl
   cases h
   have hv:=(show Rl R ρ σ.top (.bool a) (fr.tm j) from hi.fr _ _ hl).mK
   refine⟨fun hc=> ?_,fun hc=>.inl ?_,fun _ hc=> ?_⟩
   ·have:a=w:=by cases a<;>cases w<;>first|rfl|cases hc
    subst this;exact⟨hv,.cons hv .nil⟩
   ·have:a= !w:=by cases a<;>cases w<;>first|rfl|cases hc
    subst this;exact hv
   ·have:a= !w:=by cases a<;>cases w<;>first|rfl|cases hc
    subst this;exact hv
  ·rename_i i u a hl;exact key i u a _ hl (fun v hv=>hv.mK) h
  ·rename_i i u a hl;exact key i u a _ hl (fun v hv=>hv.qh) h
  ·cases h
omit hR in
theorem Tx {all:List Oper} (hi:aB ρ b st fr σ):match F9 all st o with
 |.run=>bS all fr o=some true
 |.skip=>bS all fr o=some false
 |.dyn j w c g=>(∃n,kF st n j w=some (c,g))∧bS all fr o=some c
 |.no=>True:=by
 unfold F9 bS
 cases hg:o.guard with
 |none=>rfl
 |some p=>
  obtain⟨j,w⟩:=p
  dsimp only
  cases hj:all[j]? with
  |none=>rfl
  |some p=>
   simp only[Option.bind_some]
   cases hd:p.dst with
   |none=>rfl
   |some t=>
    dsimp only
    have dyn:∀c g,kF st 12 t w=some (c,g)→(match fr.tm t with
     |.bool b=>some (b==w)
     |.raw _=>none
     |_=>some false)=some c:=by
     intro c g he
     obtain⟨h1,h2,_⟩:=xO hi 12 t w c g he
     cases c with
     |true=>rw[(h1 rfl).1];simp
     |false=>
      rcases h2 rfl with h2|h2
      ·rw[h2];cases w<;>rfl
      ·rw[h2];rfl
    cases hl:look st.fr t with
    |none=>
     dsimp only
     cases he:kF st 12 t w with
     |none=>trivial
     |some q=>exact⟨⟨12,he⟩,dyn _ _ he⟩
    |some v=>
     have hr:=hi.fr _ _ hl
     cases v with
     |fq c=>
      have:=(show Rl R ρ σ.top (.fq c) (fr.tm t) from hr).qh
      rw[this]
      cases c<;>cases w<;>rfl
     |undef=>
      have:=(show Rl R ρ σ.top .undef (fr.tm t) from hr).QV
      rw[this];rfl
     |_=>
      dsimp only
      cases he:kF st 12 t w with
      |none=>trivial
      |some q=>exact⟨⟨12,he⟩,dyn _ _ he⟩
omit hR in
theorem GR (hi:aB ρ b st fr σ):∀{g:List (Nat×Bool)},lU fr g→(∀j u,(j,u)∈g→fr.tm j= .bool u)→aB ρ b (st.jg g) fr σ∧(st.jg g).ob=st.ob
 | [],_,_=>⟨hi,rfl⟩
 | (j,w)::g,hg,hm=>by
   obtain⟨h1,h2⟩:=GR hi (g:=g) (fun i u h=>by
    exact hm i u (by
     have:∀g:List (Nat×Bool),look g i=some u→(i,u)∈g:=by
      intro g
      induction g with
      |nil=>intro h;cases h
      |cons p g ih=>
       intro h
       obtain⟨k,v⟩:=p
       by_cases e:i=k
       ·subst e;rw[gI] at h;cases h;simp
       ·rw[eU _ _ e] at h;simp[ih h]
     exact List.mem_cons_of_mem _ (this g h))) (fun i u h=>hm i u (by simp[h]))
   exact⟨h1.learn (hm j w (by simp)),h2⟩
omit hR in
theorem GU (hi:aB ρ b st fr σ):∀(n j:Nat) (w:Bool) (g:List (Nat×Bool)),kF st n j w=some (true,g)→∀i u,(i,u)∈g→fr.tm i= .bool u
 |0,j,w,g,h=>by cases h
 |n+1,j,w,g,h=>by
  have hj:=((xO hi (n+1) j w true g h).1 rfl).1
  unfold kF at h
  split at h
  ·simp only[Option.some.injEq,Prod.mk.injEq] at h
   obtain⟨_,rfl⟩:=h
   intro i u hm;simp at hm;obtain⟨rfl,rfl⟩:=hm;exact hj
  all_goals first
   | (split at h
      ·rename_i c0 g0 he
       simp only[Option.some.injEq,Prod.mk.injEq] at h
       obtain⟨hc,rfl⟩:=h
       cases c0 with
       |false=>cases hc
       |true=>
        intro i u hm
        rcases List.mem_cons.1 hm with hm|hm
        ·cases hm;exact hj
        ·exact GU hi n _ _ g0 he i u hm
      ·cases h)
   |cases h
omit hR in
theorem L9 (hi:aB ρ b st fr σ) {n j:Nat} {w:Bool} {g:List (Nat×Bool)} (hj:kF st n j w=some (false,g)):aB ρ b (st.uf g) fr σ∧(st.uf g).ob=st.ob:=by
 obtain⟨_,_,e3⟩:=xO hi n j w false g hj
 rcases g with _| ⟨⟨j',w'⟩,_| ⟨p,g⟩⟩
 ·exact⟨hi,rfl⟩
 ·have hj':j'=j∧w'=w:=by
   cases n with
   |zero=>cases hj
   |succ n=>
    unfold kF at hj
    split at hj
    ·simp only[Option.some.injEq,Prod.mk.injEq,List.cons.injEq] at hj
     exact⟨hj.2.1.1.symm,hj.2.1.2.symm⟩
    ·split at hj
     ·simp only[Option.some.injEq,Prod.mk.injEq,List.cons.injEq] at hj
      exact⟨hj.2.1.1.symm,hj.2.1.2.symm⟩
     ·exact absurd hj (by simp)
    ·split at hj
     ·simp only[Option.some.injEq,Prod.mk.injEq,List.cons.injEq] at hj
      exact⟨hj.2.1.1.symm,hj.2.1.2.symm⟩
     ·exact absurd hj (by simp)
    ·exact absurd hj (by simp)
  obtain⟨rfl,rfl⟩:=hj'
  exact⟨hi.learn (e3 rfl rfl),rfl⟩
 ·exact⟨hi,rfl⟩
theorem acQ {om:Bool} {β:Type} {F:Nat→List (FR R)} (hF:bG E F) (aW:ρ.om.om=om) (dP:∀d,o.dst=some d→d<F0) (hi:aB ρ au st fr σ) {j n:Nat} {w c:Bool} {g:List (Nat×Bool)} (hj:kF st n j w=some (c,g)) {k:MS R.T→Option β} {x:β} (h:KO E R om F o j w c g st k=some x) {G:Prop} {rest:Fr→ah→Prop}
 (hs:c=true→∀y σ',jB E fr σ au o y σ'→rest (fr.put o.dst y) σ'→G) (hs':c=false→rest (fr.put o.dst aA) σ→G)
 (hk:∀ρ' st' y σ',aB ρ' (au+1) st' (fr.put o.dst y) σ'→σ'.next=σ.next→(∀p,o.dst≠some p→aQ true p st ρ σ st' ρ' σ')→k st'=some x→rest (fr.put o.dst y) σ'):G:=by
 have hi1:=hi.le (Nat.le_succ au)
 obtain⟨e1,e2,e3⟩:=xO hi n j w c g hj
 have Ma:(bif c then runM E R om F o (st.jg g) k else k ((st.uf g).dH o.dst .undef))=some x→G:=by
  intro h
  cases c with
  |true=>
   obtain⟨l1,l2⟩:=GR hi (e1 rfl).2 (GU hi n j w g hj)
   exact L8 hR hF aW dP l1 h (hs rfl) (fun ρ' st' y σ' a b c d=>hk ρ' st' y σ' a b (fun p hp=>(c p hp).from l2) d)
  |false=>
   obtain⟨n1,n2⟩:=L9 hi hj
   have hN:aB ρ (au+1) (st.uf g) fr σ∧(st.uf g).ob=st.ob:=⟨n1.le (Nat.le_succ _),n2⟩
   refine hs' rfl (hk ρ _ aA σ (hN.1.dH o.dst (by unfold Rl;rfl)) rfl (fun p _=>aQ.same (jK.trans hN.2)) h)
 unfold KO at h
 split at h
 ·rename_i d hd
  have hput:aO d (g.map (·.1))=false→∀(v:TV R.T) (y:V),(c=true→Rl R ρ σ.top v y)→(c=false→y=aA)→aB ρ (au+1) (st.put d (.opt j w v)) (fr.put o.dst y) σ:=by
   intro hdj v y h1 h2
   have hne:(fr.set d y).tm j=fr.tm j:=by
    refine tL _ _ ?_
    cases n with
    |zero=>cases hj
    |succ n=>
     have hmem:aO d (g.map (·.1))=false:=hdj
     have:∃g',g=(j,w)::g':=by
      unfold kF at hj
      split at hj
      ·cases hj;exact⟨[],rfl⟩
      all_goals first
       | (split at hj
          ·simp only[Option.some.injEq,Prod.mk.injEq] at hj
           exact⟨_,hj.2.symm⟩
          ·cases hj)
       |cases hj
     obtain⟨g',rfl⟩:=this
     have h':(Nat.beq d j||aO d (g'.map (·.1)))=false:=hmem
     rw[Bool.or_eq_false_iff] at h'
     simpa using (Gl h'.1).symm
   rw[hd,Cq]
   refine hi1.put d ⟨fun hc=> ?_,fun hc=> ?_⟩
   ·rw[hne] at hc
    refine h1 ?_
    cases c with
    |true=>rfl
    |false=>
     rcases e2 rfl with e|e
     ·rw[e] at hc;cases w<;>cases hc
     ·rw[e] at hc;cases hc
   ·rw[hne] at hc
    refine h2 ?_
    cases c with
    |false=>rfl
    |true=>
     rw[(e1 rfl).1] at hc
     rcases hc with hc|hc
     ·cases w<;>cases hc
     ·cases hc
  cases hdj:aO d (g.map (·.1))
  ·rw[hdj] at h
   simp only[cond_false] at h
   split at h
   ·rename_i v hr
    cases c with
    |true=>
     obtain⟨y,h1,h2⟩:=rG hR hF aW dP (e1 rfl).2 hi hr
     exact hs rfl y σ h1 (hk ρ _ y σ (hput hdj v y (fun _=>h2) (fun h=>by cases h)) rfl (fun p _=>aQ.same rfl) h)
    |false=>exact hs' rfl (hk ρ _ aA σ (hput hdj v aA (fun h=>by cases h) (fun _=>rfl)) rfl (fun p _=>aQ.same rfl) h)
   ·rename_i q v hr
    obtain⟨hq,hh⟩:=bU h
    clear h
    cases c with
    |true=>
     obtain⟨y,h1,h2⟩:=rG hR hF aW dP (e1 rfl).2 hi hr hq
     exact hs rfl y σ h1 (hk ρ _ y σ (hput hdj v y (fun _=>h2) (fun h=>by cases h)) rfl (fun p _=>aQ.same rfl) hh)
    |false=>exact hs' rfl (hk ρ _ aA σ (hput hdj v aA (fun h=>by cases h) (fun _=>rfl)) rfl (fun p _=>aQ.same rfl) hh)
   ·rename_i α z q f hr
    obtain⟨a,ha,hh⟩:=Option.bind_eq_some_iff.1 h
    clear h
    cases c with
    |true=>
     obtain⟨y,h1,h2⟩:=rG hR hF aW dP (e1 rfl).2 hi hr a ha
     exact hs rfl y σ h1 (hk ρ _ y σ (hput hdj _ y (fun _=>h2) (fun h=>by cases h)) rfl (fun p _=>aQ.same rfl) hh)
    |false=>exact hs' rfl (hk ρ _ aA σ (hput hdj _ aA (fun h=>by cases h) (fun _=>rfl)) rfl (fun p _=>aQ.same rfl) hh)
   ·exact Ma h
  ·rw[hdj] at h
   exact Ma h
 ·exact Ma h
omit hR in
theorem xP {ρ':aK} {st':MS R.T} {σ':ah} (h:∀p,o.dst≠some p→aQ true p st ρ σ st' ρ' σ'):ρ'.om=ρ.om:=by
 cases hd:o.dst with
 |none=>exact(h 0 (by rw[hd];simp)).om
 |some d=>exact(h (d+1) (by rw[hd];simp)).om
omit hR in
theorem Tz {os:List Oper} {p:Nat} (h:aO p (gW (o::os))=false):o.dst≠some p∧aO p (gW os)=false:=by
 unfold gW at h
 split at h
 ·rename_i d hd
  have h':(Nat.beq p d||aO p (gW os))=false:=h
  rw[Bool.or_eq_false_iff] at h'
  refine⟨fun e=> ?_,h'.2⟩
  rw[hd] at e;cases e;rw[Nat.beq_refl] at h';exact absurd h'.1 (by simp)
 ·rename_i hd
  refine⟨fun e=> ?_,h⟩
  rw[hd] at e;cases e
omit hR in
theorem Dw (hi:aB ρ b st fr σ) (h:iI E st o=false):ql E fr o=false:=by
 unfold iI at h
 unfold ql
 split at h
 ·rename_i c hc
  rw[hc]
  dsimp only
  split at h
  ·rename_i f hf
   rw[hf]
   dsimp only
   split at h
   ·rename_i g a' b' hv
    obtain⟨va,vb,h1,_,_⟩:=(aR (E:=E) hi .nil hv).jY
    unfold iO
    rw[h1]
    split at h
    ·rename_i d hd;rw[hd];exact h
    ·rename_i hd;rw[hd]
   ·cases h
  ·rename_i hne
   split
   ·rename_i f hf;exact absurd hf (hne f)
   ·rfl
 ·rename_i hne
  split
  ·rename_i c hc;exact absurd hc (hne c)
  ·rfl
theorem acR {k k':Sk} {l:List Sk} {c:TV R.T} {cs:List (TV R.T)} {p:ak R.T (k::k'::l)} (h:eF R (k::k'::l) (c::cs)=some p):
 ∃x q,pk R k c=some x∧eF R (k'::l) cs=some q∧p=(x,q):=by
 have h':(match pk R k c with
  |some x=>match eF R (k'::l) cs with
   |some p=>some (x,p)
   |none=>none
  |none=>none)=some p:=h
 cases hu:pk R k c with
 |none=>rw[hu] at h';cases h'
 |some u=>
  rw[hu] at h';dsimp only at h'
  cases hq:eF R (k'::l) cs with
  |none=>rw[hq] at h';cases h'
  |some q=>rw[hq] at h';cases h';exact⟨u,q,rfl,rfl,rfl⟩
theorem Mc {F:Nat→List (FR R)} (hF:bG E F) {f:Nat} {args:List (TV R.T)} {Dx:List V} (ha:ay R ρ σ.top args Dx) (hi:aB ρ b st fr σ):∀{l:List (FR R)} {τ:Ty} {x:Option (List (Den R.T τ))},(∀r∈l,r∈F f)→zU R args (kV st args) l=some ⟨τ,x⟩→
 ∀y,x=some y→∃as,mZ (E.wE f) σ Dx=some as∧Dx.all (fun x=>aD (er x))=true∧uX E f as (bR R τ) (y.map (aC R τ))
 | [],τ,x,_,h=>by cases h
 | ⟨as,res,G,d0,own⟩::l,τ,x,hl,h=>by
   have rest:zU R args (kV st args) l=some ⟨τ,x⟩→∀y,x=some y→∃as,mZ (E.wE f) σ Dx=some as∧Dx.all (fun x=>aD (er x))=true∧uX E f as (bR R τ) (y.map (aC R τ)):=fun h=>Mc hF ha hi (fun r hr=>hl r (List.mem_cons_of_mem _ hr)) h
   unfold zU at h
   split at h
   ·cases h
   ·rename_i as' τ' G' d' l' heq
    obtain⟨e1,e2⟩:=List.cons.inj heq
    subst e2
    cases e1
    split at h
    ·rename_i p hp
     obtain⟨hc,h⟩:=bU h
     cases h
     simp only[Bool.and_eq_true] at hc
     obtain⟨⟨c1,c2⟩,c3⟩:=hc
     intro y hy
     have hb:=(hF f ⟨as,[.d (.slice τ)],G',d',true⟩ (hl _ (List.mem_cons_self ..)) p y hy).2 rfl τ rfl y rfl
     cases hn:gH as with
     |true=>
      obtain⟨b1,b2⟩:=hb.1 hn
      obtain⟨vs',v1,v2⟩:=Dm hR hi ha
      have Dp:=oV hR as p (kV st args) _ hn hp v1 20 σ (by have:=Nat.le_of_ble_eq_true c2;omega)
      exact⟨_,by rw[b1];unfold mZ;rw[if_neg (by simp)];exact(v2 16).trans Dp,Dn hR c3 ha,b2⟩
     |false=>
      obtain⟨b1,b2⟩:=hb.2 hn
      rw[hn,Bool.false_or] at c1
      cases as with
      |nil=>cases c1
      |cons k as=>
      cases k<;>first| (cases c1;done)|skip
      cases as with
      |nil=>cases c1
      |cons k' as=>
      cases args with
      |nil=>exact absurd (show none=some p from hp) (by simp)
      |cons c args=>
      obtain⟨v,vs,rfl,h1,h2⟩:=ha.bX
      have hp0:eF R (.d9::k'::as) (xk st c::kV st args)=some p:=by simpa only[kV] using hp
      obtain⟨u,q,hu,q1,hpq⟩:=acR hR hp0
      have hc:c= .d9:=by
       have hp':(pk R .d9 (xk st c)).isSome=true:=by rw[hu];rfl
       cases c<;>first|rfl|skip
       all_goals
        exfalso
        revert hp'
        unfold xk ru
        repeat' split
        all_goals (intro h;cases h)
      subst hc
      have q2:SA (aI R (.d9::k'::as) p)= .aj .nil []::aI R (k'::as) q:=by rw[hpq];rfl
      rw[h1.nQ]
      obtain⟨vs',v1,v2⟩:=Dm hR hi h2
      have Dp:=oV hR (k'::as) q (kV st args) _ c1 q1 v1 20 σ (by have h9:=Nat.le_of_ble_eq_true c2;rw[lQ] at h9;omega)
      rw[q2] at b2
      refine⟨_,by rw[b1];unfold mZ;rw[if_pos rfl];dsimp only;rw[v2 16,Dp];rfl, ?_,b2⟩
      have:=Dn hR c3 ha
      rw[h1.nQ] at this
      exact this
    ·exact rest h
   ·rename_i heq
    obtain⟨_,e2⟩:=List.cons.inj heq
    subst e2
    exact rest h
theorem acS {β:Type} {F:Nat→List (FR R)} (hF:bG E F) (hi:aB ρ au st fr σ) {k:MS R.T→Option β} {x:β} (h:rC R F o st k=some x) (hown:iI E st o=true) {all os:List Oper} {Q:Fr→ah→Prop} (hw:bS all fr o=some true)
 (hk:∀(ρ':aK) (st':MS R.T) (y:V) (σ':ah),aB ρ' (au+1) st' (fr.put o.dst y) σ'→σ'.next=σ.next→(∀p,o.dst≠some p→aQ true p st ρ σ st' ρ' σ')→k st'=some x→OW E all (au+1) os (fr.put o.dst y) σ' Q):OW E all au (o::os) fr σ Q:=by
 unfold rC at h
 split at h
 ·rename_i c d ho hd
  split at h
  ·rename_i f cZ
   split at h
   ·rename_i g a' b' vs hf hvs
    split at h
    ·rename_i τ xo hfo
     obtain⟨l,hl,h⟩:=Option.bind_eq_some_iff.1 h
     obtain⟨va,vb,h1,h2,h3⟩:=(aR (E:=E) hi .nil hf).jY
     have hrel:=(h2.append (rE (E:=E) hi .nil hvs)).append h3
     obtain⟨as,has,hcl,hO⟩:=Mc hR hF hrel hi (fun _ hr=>hr) hfo l hl
     have hg:E.own g d=true:=by
      unfold iI at hown
      rw[ho] at hown
      dsimp only at hown
      rw[cZ] at hown
      dsimp only at hown
      rw[hf] at hown
      dsimp only at hown
      rw[hd] at hown
      exact hown
     have hdp:∀y:V,fr.put o.dst y=fr.set d y:=fun y=>by rw[hd];rfl
     refine OW.own hw ho cZ h1 hd hg has hO hcl (fun cp hcp=> ?_) ?_
     ·refine hk (ρ.eG d au) _ _ σ ?_ rfl ?_ h
      ·have e:σ.bE au (σ.top au)=σ:=by
        unfold ah.bE
        have:upd σ.top au (σ.top au)=σ.top:=by
         funext j;unfold upd;split
         ·rename_i e;rw[e]
         ·rfl
        rw[this]
       have:=hi.wk d au (σ.top au) (Nat.le_succ _) (Nat.lt_succ_self _) hi.nx (fun u _ hu=>by have:=hi.lt u _ hu;omega)
       rw[e] at this
       rw[hdp]
       refine this.put d (.of ?_)
       unfold Rl
       exact⟨cp,rfl,by rcases hcp with rfl|rfl;exact .inl rfl;exact .inr (.inl rfl)⟩
      ·intro p hp
       have e:σ.bE au (σ.top au)=σ:=by
        unfold ah.bE
        have:upd σ.top au (σ.top au)=σ.top:=by
         funext j;unfold upd;split
         ·rename_i e;rw[e]
         ·rfl
        rw[this]
       have:=(aQ.wk (nr:=true) (p:=p) (t:=d) (s:=au) (n:=σ.top au) (ρ:=ρ) (st:=st) (σ:=σ) hi.nx)
       rw[e] at this
       exact this.congr rfl
     ·refine hk (ρ.eG d au) _ _ _ ?_ rfl ?_ h
      ·rw[hdp]
       have:=hi.wk d au (l.map (aC R τ)).length (Nat.le_succ _) (Nat.lt_succ_self _) hi.nx (fun u _ hu=>by have:=hi.lt u _ hu;omega)
       refine this.put d (.of ?_)
       unfold Rl
       exact⟨_,rfl,.inr (.inr ⟨au,rfl,by simp[aK.eG,upd],by rw[zn,List.length_map]⟩)⟩
      ·intro p hp
       exact(aQ.wk (nr:=true) (p:=p) hi.nx).congr rfl
    ·cases h
   ·cases h
  ·cases h
 ·cases h
theorem acT {β:Type} {F:Nat→List (FR R)} (hF:bG E F) (hi:aB ρ au st fr σ) {k:MS R.T→Option β} {x:β} (h:rC R F o st k=some x) (hown:iI E st o=true) {ms:List Nat} {fs:List bA} {all os:List Oper} {Q:Fr→ah→Prop} (hw:bS all fr o=some true)
 (hk:∀(ρ':aK) (st':MS R.T) (y:V) (σ':ah),aB ρ' (au+1) st' (fr.put o.dst y) σ'→σ'.next=σ.next→(∀p,o.dst≠some p→aQ true p st ρ σ st' ρ' σ')→k st'=some x→bJ E ms all (au+1) os (fr.put o.dst y) σ' (fs++[dA E all fr o true]) Q):bJ E ms all au (o::os) fr σ fs Q:=by
 unfold rC at h
 split at h
 ·rename_i c d ho hd
  split at h
  ·rename_i f cZ
   split at h
   ·rename_i g a' b' vs hf hvs
    split at h
    ·rename_i τ xo hfo
     obtain⟨l,hl,h⟩:=Option.bind_eq_some_iff.1 h
     obtain⟨va,vb,h1,h2,h3⟩:=(aR (E:=E) hi .nil hf).jY
     have hrel:=(h2.append (rE (E:=E) hi .nil hvs)).append h3
     obtain⟨as,has,hcl,hO⟩:=Mc hR hF hrel hi (fun _ hr=>hr) hfo l hl
     have hg:E.own g d=true:=by
      unfold iI at hown
      rw[ho] at hown
      dsimp only at hown
      rw[cZ] at hown
      dsimp only at hown
      rw[hf] at hown
      dsimp only at hown
      rw[hd] at hown
      exact hown
     have hdp:∀y:V,fr.put o.dst y=fr.set d y:=fun y=>by rw[hd];rfl
     refine bJ.own hw ho cZ h1 hd hg has hO hcl (fun cp hcp=> ?_) ?_
     ·refine hk (ρ.eG d au) _ _ σ ?_ rfl ?_ h
      ·have e:σ.bE au (σ.top au)=σ:=by
        unfold ah.bE
        have:upd σ.top au (σ.top au)=σ.top:=by
         funext j;unfold upd;split
         ·rename_i e;rw[e]
         ·rfl
        rw[this]
       have:=hi.wk d au (σ.top au) (Nat.le_succ _) (Nat.lt_succ_self _) hi.nx (fun u _ hu=>by have:=hi.lt u _ hu;omega)
       rw[e] at this
       rw[hdp]
       refine this.put d (.of ?_)
       unfold Rl
       exact⟨cp,rfl,by rcases hcp with rfl|rfl;exact .inl rfl;exact .inr (.inl rfl)⟩
      ·intro p hp
       have e:σ.bE au (σ.top au)=σ:=by
        unfold ah.bE
        have:upd σ.top au (σ.top au)=σ.top:=by
         funext j;unfold upd;split
         ·rename_i e;rw[e]
         ·rfl
        rw[this]
       have:=(aQ.wk (nr:=true) (p:=p) (t:=d) (s:=au) (n:=σ.top au) (ρ:=ρ) (st:=st) (σ:=σ) hi.nx)
       rw[e] at this
       exact this.congr rfl
     ·refine hk (ρ.eG d au) _ _ _ ?_ rfl ?_ h
      ·rw[hdp]
       have:=hi.wk d au (l.map (aC R τ)).length (Nat.le_succ _) (Nat.lt_succ_self _) hi.nx (fun u _ hu=>by have:=hi.lt u _ hu;omega)
       refine this.put d (.of ?_)
       unfold Rl
       exact⟨_,rfl,.inr (.inr ⟨au,rfl,by simp[aK.eG,upd],by rw[zn,List.length_map]⟩)⟩
      ·intro p hp
       exact(aQ.wk (nr:=true) (p:=p) hi.nx).congr rfl
    ·cases h
   ·cases h
  ·cases h
 ·cases h
omit hR in
theorem TA {o:Oper} {os:List Oper} {d:Nat} (h:o.dst=some d):aO d (gW (o::os))=true:=by
 unfold gW
 rw[h]
 show (Nat.beq d d||_)=true
 rw[Nat.beq_refl];rfl
omit hR in
theorem TB {o:Oper} {os:List Oper} {d:Nat} (h:aO d (gW os)=true):aO d (gW (o::os))=true:=by
 unfold gW
 cases o.dst with
 |none=>exact h
 |some e=>show (Nat.beq d e||aO d (gW os))=true;rw[h,Bool.or_true]
omit hR in
theorem aQ.of {nr:Bool} {o:Nat} {st st':MS R.T} {ρ ρ':aK} {σ σ':ah} (h:aQ true o st ρ σ st' ρ' σ'):aQ nr o st ρ σ st' ρ' σ':=⟨h.ob,h.ln,h.om,h.nx,h.lp,fun L _=>h.dp L (.inl rfl),h.ro⟩
omit hR in
theorem Kp.nr {nr Dy:Bool} {W:List Nat} {st st':MS R.T} {fr fr':Fr} {ρ ρ':aK} {σ σ':ah} (hn:Dy=true→nr=true) (h:Kp nr W st fr σ ρ st' fr' σ' ρ'):Kp Dy W st fr σ ρ st' fr' σ' ρ':=⟨h.fr,fun o ho=>⟨(h.ob o ho).ob,(h.ob o ho).ln,(h.ob o ho).om,(h.ob o ho).nx,(h.ob o ho).lp,fun L hL=>(h.ob o ho).dp L (hL.imp hn id),(h.ob o ho).ro⟩⟩
omit hR in
theorem Md (h:oN E st o=true):qd E o=false:=by
 unfold oN at h
 unfold qd
 split at h
 ·rename_i c hc
  (try rw[hc]);(try dsimp only)
  split at h
  ·rename_i f hf
   (try rw[hf])
   cases f with
   |func g=>
    have h':E.imp g=true:=h
    (try dsimp only);rw[h'];rfl
   |tmp _=>rfl
   |const _=>rfl
   | «global» _=>rfl
  ·cases h
 ·cases h
omit hR in
theorem Me {c:Call} {f:Operand} {g:FuncId} {a vb:List V} (h:ql E fr o=false) (h1:o.op= .call c) (h2:c.callee= .value f) (h3:fr.ev E f= .fn (.func g) a vb):∀d,o.dst=some d→E.own g d=false:=by
 intro d hd
 unfold ql at h
 rw[h1] at h;dsimp only at h
 rw[h2] at h;dsimp only at h
 unfold iO at h
 rw[h3,hd] at h
 exact h
theorem vR {om:Bool} {β:Type} {F:Nat→List (FR R)} (hF:bG E F) {M:Nat→List (FM R)} (hM:GN E M) {all:List Oper} {k:MS R.T→Option β} {x:β} {Q:Fr→ah→Prop}:∀(os:List Oper) (au:Nat) (ρ:aK) (st:MS R.T) (fr:Fr) (σ:ah),(∀d,aO d (gW os)=true→d<F0)→ρ.om.om=om→aB ρ au st fr σ→au+os.length≤σ.next→qg E R om F M all os st k=some x→
 (∀ρ' st' fr' σ',aB ρ' (au+os.length) st' fr' σ'→σ.next≤σ'.next→Kp (os.all (qd E)) (gW os) st fr σ ρ st' fr' σ' ρ'→k st'=some x→Q fr' σ')→OW E all au os fr σ Q
 | [],au,ρ,st,fr,σ,hW0,aW,hi,hsn,h,hq=>OW.nil (hq ρ st fr σ hi (Nat.le_refl _) .refl h)
 |o::os,au,ρ,st,fr,σ,hW0,aW,hi,hsn,h,hq=>by
  have dP:∀d,o.dst=some d→d<F0:=fun d hd=>hW0 d (TA hd)
  have hW1:∀d,aO d (gW os)=true→d<F0:=fun d hd=>hW0 d (TB hd)
  have nT:∀{σ':ah},σ.next≤σ'.next→au+1+os.length≤σ'.next:=fun h=>by rw[List.length_cons] at hsn;omega
  have hg:=Tx (o:=o) (all:=all) hi
  unfold qg at h
  have hW:∀p,aO p (gW (o::os))=false→o.dst≠some p∧aO p (gW os)=false:=fun p hp=>Tz hp
  have hq':∀(ρ1:aK) (st1:MS R.T) (y:V) (σ1:ah),(∀p,o.dst≠some p→aQ (qd E o) p st ρ σ st1 ρ1 σ1)→σ.next≤σ1.next→∀ρ' st' fr' σ',aB ρ' (au+1+os.length) st' fr' σ'→σ1.next≤σ'.next→Kp (os.all (qd E)) (gW os) st1 (fr.put o.dst y) σ1 ρ1 st' fr' σ' ρ'→k st'=some x→Q fr' σ':=fun ρ1 st1 y σ1 hkp h1 ρ' st' fr' σ' hi' hn rH hk=>
   hq ρ' st' fr' σ' (by rw[List.length_cons,Nat.add_comm os.length,←Nat.add_assoc];exact hi') (Nat.le_trans h1 hn) (((Kp.op (fun p hp=>(hW p hp).1) hkp).nr (Dy:=(o::os).all (qd E)) (fun e=>by rw[List.all_cons,Bool.and_eq_true] at e;exact e.1)).trans ((rH.mono fun p hp=>(hW p hp).2).nr (fun e=>by rw[List.all_cons,Bool.and_eq_true] at e;exact e.2))) hk
  split at h
  ·rename_i hgm
   rw[hgm] at hg
   cases hown:iI E st o with
   |true=>
    rw[hown,cond_true] at h
    exact acS hR hF hi h hown hg (fun ρ' st' y σ' hi' hn hkp hk=>vR hF hM os (au+1) ρ' st' _ σ' hW1 ((congrArg Cx.om (xP hkp)).trans aW) hi' (nT (Nat.le_of_eq hn.symm)) hk (hq' ρ' st' y σ' (fun p hp=>(hkp p hp).of) (Nat.le_of_eq hn.symm)))
   |false=>
   rw[hown,cond_false] at h
   have cu:=Dw hi hown
   cases himp:oN E st o with
   |true=>
    rw[himp,cond_true] at h
    obtain⟨c,f,g,a,vb,e1,e2,e3,e4,n,v,σ',e5,st1,i1,i2,i3,i4⟩:=L6 hR hM hi (by omega) h
    exact OW.zl hg e1 e2 e3 e4 ⟨n,v,σ',e5,vR hF hM os (au+1) ρ st1 _ σ' hW1 aW i1 (nT i2) i4 (hq' ρ st1 v σ' (fun p _=>by rw[Md himp];exact i3 p) i2)⟩ (Me cu e1 e2 e3)
   |false=>
   rw[himp,cond_false] at h
   exact L8 hR hF aW dP hi h (rest:=fun fr' σ'=>OW E all (au+1) os fr' σ' Q) (fun y σ' hst hr=>hst.1 cu all os Q hg hr) (fun ρ' st' y σ' hi' hn hkp hk=>vR hF hM os (au+1) ρ' st' _ σ' hW1 ((congrArg Cx.om (xP hkp)).trans aW) hi' (nT (Nat.le_of_eq hn.symm)) hk (hq' ρ' st' y σ' (fun p hp=>(hkp p hp).of) (Nat.le_of_eq hn.symm)))
  ·rename_i hgm
   rw[hgm] at hg
   refine OW.skip hg (vR hF hM os (au+1) ρ _ _ σ hW1 aW ?_ (nT (Nat.le_refl _)) h (hq' ρ _ aA σ (fun p _=>aQ.same (by first|exact jK|rfl)) (Nat.le_refl _)))
   exact(hi.le (Nat.le_succ _)).dH o.dst (by unfold Rl;rfl)
  ·rename_i j w c g hgm
   rw[hgm] at hg
   obtain⟨⟨n,hn⟩,hg2⟩:=hg
   cases hown:(iI E st o||iI E (st.jg g) o) with
   |true=>rw[hown] at h;cases h
   |false=>
   rw[hown,cond_false] at h
   rw[Bool.or_eq_false_iff] at hown
   have cu:=Dw hi hown.1
   cases himp:oN E (st.jg g) o with
   |true=>
    rw[himp,cond_true] at h
    obtain⟨e1,e2,e3⟩:=xO hi n j w c g hn
    cases c with
    |true=>
     rw[cond_true] at h
     obtain⟨l1,l2⟩:=GR hi (e1 rfl).2 (GU hi n j w g hn)
     obtain⟨c,f,g',a,vb,f1,f2,f3,f4,n',v,σ',f5,st1,i1,i2,i3,i4⟩:=L6 hR hM l1 (by omega) h
     exact OW.zl hg2 f1 f2 f3 f4 ⟨n',v,σ',f5,vR hF hM os (au+1) ρ st1 _ σ' hW1 aW i1 (nT i2) i4 (hq' ρ st1 v σ' (fun p _=>by rw[Md himp];exact(i3 p).from l2) i2)⟩ (Me cu f1 f2 f3)
    |false=>
     rw[cond_false] at h
     obtain⟨l1,l2⟩:=L9 hi hn
     exact OW.skip hg2 (vR hF hM os (au+1) ρ _ _ σ hW1 aW ((l1.le (Nat.le_succ _)).dH o.dst (by unfold Rl;rfl)) (nT (Nat.le_refl _)) h (hq' ρ _ aA σ (fun p _=>aQ.same (jK.trans l2)) (Nat.le_refl _)))
   |false=>
   rw[himp,cond_false] at h
   exact acQ hR hF aW dP hi hn h (rest:=fun fr' σ'=>OW E all (au+1) os fr' σ' Q) (fun e y σ' hst hr=>hst.1 cu all os Q (by rw[hg2,e]) hr) (fun e hr=>OW.skip (by rw[hg2,e]) hr)
    (fun ρ' st' y σ' hi' hn hkp hk=>vR hF hM os (au+1) ρ' st' _ σ' hW1 ((congrArg Cx.om (xP hkp)).trans aW) hi' (nT (Nat.le_of_eq hn.symm)) hk (hq' ρ' st' y σ' (fun p hp=>(hkp p hp).of) (Nat.le_of_eq hn.symm)))
  ·cases h
def Key.mv (c:Cx):Key→Key
 |.obj l=>.obj (c.lc l.2)
 |k=>k
def bA.mv (c:Cx) (f:bA):bA:=⟨f.pJ,f.lI,f.t.map (Key.mv c),f.w.map (Key.mv c)⟩
omit hR in
theorem acU (c:Cx) (a b:Key):(a.mv c).eq (b.mv c)=a.nm.eq b.nm:=by
 cases a<;>cases b<;>try rfl
 rename_i l m
 show ng (c.lc l.2) (c.lc m.2)=ng (1,l.2) (1,m.2)
 by_cases e:l.2=m.2
 ·rw[e,J5];unfold ng;simp
 ·rw[KX c e,J5];simp[e]
omit hR in
theorem acV (c:Cx) (f g:bA):clash (f.mv c) (g.mv c)=clash f.nm g.nm:=by
 have hr:∀k:Key,(k.mv c).eq .rest=k.nm.eq .rest:=fun k=>by cases k<;>rfl
 have hs:∀k:Key,(k.mv c).state=k.nm.state:=fun k=>by cases k<;>rfl
 unfold clash bA.mv bA.nm
 dsimp only
 simp only[List.any_map,Function.comp_def,acU,hr,hs]
omit hR in
theorem getD_map (h:bA→bA) (ha:h dV=dV):∀(fs:List bA) (i:Nat),(fs.map h).getD i dV=h (fs.getD i dV)
 | [],i=>by simp[ha]
 |f::fs,0=>rfl
 |f::fs,i+1=>by simpa using getD_map h ha fs i
omit hR in
theorem acW (c:Cx) (ms:List Nat) (fs:List bA):sP ms (fs.map (bA.mv c))=sP ms (fs.map bA.nm):=by
 unfold sP IC
 simp only[List.length_map,getD_map (bA.mv c) rfl,getD_map bA.nm rfl,acV]
omit hR in
theorem mP (c:Cx) (l:List Key):(jP l).mv c=jP (l.map (Key.mv c)):=rfl
omit hR in
theorem rJ (c:Cx) (l:List Key):(iB l).mv c=iB (l.map (Key.mv c)):=rfl
omit hR in
theorem mv_nil (c:Cx):(jP []).mv c=jP []:=rfl
omit hR in
theorem acX (c:Cx):dV.mv c=dV:=rfl
omit hR in
theorem acY {top:Nat→Nat} {x:TV R.T} {v:V} (hg:x≠ .gone) (hv:∀o t,x≠ .vw o t) (h:Rl R ρ top x v):eD v=(QT x).map (Key.mv ρ.om):=by
 cases x with
 |gone=>exact absurd rfl hg
 |opt j w y=>exact h.QW.elim
 |agg cs=>obtain⟨l,rfl,_⟩:=h.iK;rfl
 |aT cs=>obtain⟨l,rfl,_⟩:=h.Gh;rfl
 |aj c t l=>obtain⟨l,rfl,_⟩:=h.iV;rfl
 |ref p off=>obtain⟨s,_,rfl⟩:=h.lT;rfl
 |bq p=>obtain⟨s,_,rfl⟩:=h.um;rfl
 |aH l p=>obtain⟨s,rfl,_⟩:=h.qj;rfl
 |fn f a b=>obtain⟨a',b',rfl,_⟩:=h.jY;rfl
 |vw o t=>exact absurd rfl (hv o t)
 |iq p t i off=>obtain⟨s,_,_,rfl⟩:=h.xH;rfl
 |sv p off k n lo hi=>obtain⟨s,_,_,rfl⟩:=h.vJ;rfl
 |sel p off k n i m=>obtain⟨s,_,_,_,rfl⟩:=h.Db;rfl
 |nL k n y i=>obtain⟨_,_,rfl⟩:=h.Gi;rfl
 |_=>unfold Rl at h;subst h;rfl
omit hR in
theorem TD {x:TV R.T} (h:zZ x=true):x≠ .gone∧∀o t,x≠ .vw o t:=⟨(by rintro rfl;cases h),(by rintro o t rfl;cases h)⟩
omit hR in
theorem jC (hi:aB ρ b st fr σ) {x:Operand} {v:TV R.T} (h:aV [] st x=some v) (hg:zZ v=true):(uh st x).map (Key.mv ρ.om)=eD (fr.ev E x):=by
 unfold uh
 rw[h]
 exact(acY (TD hg).1 (TD hg).2 (aR hi .nil h)).symm
omit hR in
theorem TF (hi:aB ρ b st fr σ):∀{l:List Operand} {vs:List (TV R.T)},kE [] st l=some vs→vs.all zZ=true→(l.flatMap (fun x=>uh st x)).map (Key.mv ρ.om)=l.flatMap fun x=>eD (fr.ev E x)
 | [],vs,h,_=>rfl
 |x::l,vs,h,hg=>by
  unfold kE at h
  cases h1:aV [] st x with
  |none=>simp only[h1] at h;cases h
  |some a=>
   cases h2:kE [] st l with
   |none=>simp only[h1,h2] at h;cases h
   |some as=>
    simp only[h1,h2] at h;cases h
    rw[List.all_cons,Bool.and_eq_true] at hg
    rw[List.flatMap_cons,List.flatMap_cons,List.map_append,jC (E:=E) hi h1 hg.1,TF hi h2 hg.2]
omit hR in
theorem acZ {om:Bool} {β:Type} {F:Nat→List (FR R)} {k:MS R.T→Option β} {x:β} (h:runM E R om F o st k=some x) (hp:∀c a b,o.op≠ .pick c a b) (hl:∀t m y ok,o.op≠ .lookup t m y ok) (hst:∀t a y,o.op≠ .store t a y):∃r,rA E R om F [] o.dst o.op st=some r:=by
 unfold runM at h
 split at h
 ·rename_i c a b hop;exact absurd hop (hp _ _ _)
 ·rename_i t a y hop;exact absurd hop (hst _ _ _)
 ·rename_i t m y ok hop;exact absurd hop (hl _ _ _ _)
 ·cases hr:rA E R om F [] o.dst o.op st with
  |some r=>exact⟨r,rfl⟩
  |none=>rw[hr] at h;cases h
omit hR in
theorem uD {om:Bool} {F:Nat→List (FR R)} {g:List (Nat×Bool)} {d:Option Nat} {op:Op} {r:bW R} (h:rA E R om F g d op st=some r):mJ E R g d op st=some r∨nP E R om F g d op st=some r:=by
 unfold rA at h
 split at h
 ·rename_i r' hx;cases h;exact .inl hx
 ·exact .inr h
omit hR in
theorem TG {top:Nat→Nat}:∀{x:List (TV R.T)} {v:List V},Gg x=true→ay R ρ top x v→v.all (fun a=>aD (er a))=false
 | [],_,h,_=>by cases h
 |x::l,v,h,hr=>by
  obtain⟨y,ys,rfl,h1,h2⟩:=hr.bX
  rw[List.all_cons]
  by_cases e:∃o off k n lo hi,x= .sv o off k n lo hi
  ·obtain⟨o,off,k,n,lo,hi,rfl⟩:=e
   obtain⟨s,_,_,rfl⟩:=h1.vJ
   simp[er,aD]
  ·have h':Gg l=true:=by
    cases x<;>first|exact h|exact absurd ⟨_,_,_,_,_,_,rfl⟩ e
   rw[TG h' h2,Bool.and_false]
omit hR in
theorem GV (hi:aB ρ b st fr σ) (dP:∀d,o.dst=some d→d<F0):(Gf o).map (Key.mv ρ.om)=ni fr o:=by
 unfold Gf ni
 cases hd:o.dst with
 |none=>rfl
 |some d=>dsimp only;rw[hi.at (dP d hd)];rfl
theorem ac0 {om:Bool} {β:Type} {F:Nat→List (FR R)} (aW:ρ.om.om=om) (dP:∀d,o.dst=some d→d<F0) (hi:aB ρ b st fr σ) {k:MS R.T→Option β} {x:β} (h:runM E R om F o st k=some x) (hd:uj E st o=true):(CV E om st o).mv ρ.om=eZ E fr o:=by
 unfold CV eZ
 have hop:=acZ h
 cases ho:o.op<;>rw[ho] at hop<;>dsimp only<;>(try exact mv_nil _)<;>(try exact acX _)
 case move y=>
  unfold uj at hd;rw[Bool.and_eq_true] at hd
  have hd:=hd.2
  rw[ho] at hd;dsimp only at hd
  have hz:qO E o.dst=false:=by simpa using hd
  rw[hz];exact mv_nil _
 case load t a=>
  obtain⟨r,hr⟩:=hop (by simp) (by simp) (by simp)
  rcases uD hr with hr|hr
  ·unfold mJ at hr;dsimp only at hr
   split at hr
   ·rename_i gl _
    split at hr
    ·rename_i k n v hg
     obtain⟨cs,_,g1,_⟩:=LM hg
     have e1:uh st (Operand.global gl)=[]:=rfl
     have e2:eD (fr.ev E (.global gl))=[]:=by rw[LU hR g1];rfl
     rw[mP,e1,e2];rfl
    ·cases hr
   ·split at hr
    ·rename_i hv;rw[mP,jC (E:=E) hi hv rfl]
    ·rename_i hv;rw[mP,jC (E:=E) hi hv rfl]
    ·rename_i hv;rw[mP,jC (E:=E) hi hv rfl]
    ·cases hr
  unfold nP at hr;dsimp only at hr
  split at hr
  ·rename_i hv;rw[mP,jC (E:=E) hi hv rfl]
  ·rename_i hv;rw[mP,jC (E:=E) hi hv rfl]
  ·rename_i hv;rw[mP,jC (E:=E) hi hv rfl]
  ·cases hr
 case store t a y=>
  have h':=h
  unfold runM at h'
  rw[ho] at h'
  dsimp only at h'
  split at h'
  ·rename_i hst
   unfold KN at hst
   split at hst
   ·rename_i hv _;rw[rJ,jC (E:=E) hi hv rfl]
   ·cases hst
  ·split at h'
   ·rename_i hr
    rcases uD hr with hr|hr
    ·unfold mJ at hr;dsimp only at hr
     split at hr
     ·rename_i hv _;rw[rJ,jC (E:=E) hi hv rfl]
     ·rename_i hv _;rw[rJ,jC (E:=E) hi hv rfl]
     ·cases hr
    unfold nP at hr;dsimp only at hr
    split at hr
    ·rename_i hv _;rw[rJ,jC (E:=E) hi hv rfl]
    ·cases hr
   ·cases h'
 case convert a b' y=>
  obtain⟨r,hr⟩:=hop (by simp) (by simp) (by simp)
  rcases uD hr with hr|hr
  ·unfold mJ at hr;dsimp only at hr
   split at hr
   ·rename_i hv;rw[mP,jC (E:=E) hi hv rfl]
   ·cases hr
  unfold nP at hr;dsimp only at hr
  split at hr
  ·rename_i v hv
   rw[mP,jC (E:=E) hi hv (by
    unfold FV at hr
    split at hr<;>first|rfl|cases hr)]
  ·cases hr
 case slice t y lo hi' mx=>
  obtain⟨r,hr⟩:=hop (by simp) (by simp) (by simp)
  cases mx with
  |some m=>
   rcases uD hr with hr|hr
   ·cases hi' with
    |none=>unfold mJ at hr;cases hr
    |some h1=>
     unfold mJ at hr
     dsimp only at hr
     split at hr
     ·rename_i hv _ _ _;rw[mP,jC (E:=E) hi hv rfl]
     ·cases hr
   ·unfold nP at hr;cases hr
  |none=>
   rcases uD hr with hr|hr
   ·unfold mJ at hr;dsimp only at hr
    split at hr
    ·rename_i v hv
     have key:∀lo hi,vG E R t v lo hi st=some r→zZ v=true:=by
      intro lo hi hs
      unfold vG at hs
      split at hs<;>first|rfl|cases hs
     rw[mP,jC (E:=E) hi hv (by
      split at hr
      ·exact key _ _ hr
      ·split at hr
       ·exact key _ _ hr
       ·cases hr
      ·split at hr
       ·exact key _ _ hr
       ·cases hr
      ·split at hr
       ·exact key _ _ hr
       ·cases hr)]
    ·cases hr
   unfold nP at hr;dsimp only at hr
   split at hr
   ·rename_i v hv
    have key:∀lo hi,vC E R t v lo hi=some r→zZ v=true:=by
     intro lo hi hs
     unfold vC at hs
     split at hs
     ·split at hs<;>first|rfl|cases hs
     ·cases hs
    rw[mP,jC (E:=E) hi hv (by
     split at hr
     ·exact key _ _ hr
     ·split at hr
      ·exact key _ _ hr
      ·cases hr
     ·split at hr
      ·exact key _ _ hr
      ·cases hr
     ·split at hr
      ·exact key _ _ hr
      ·cases hr)]
   ·cases hr
 case lookup t m y ok=>
  have h':=h
  unfold runM at h'
  rw[ho] at h'
  dsimp only at h'
  split at h'
  ·rename_i hsm
   unfold KM at hsm
   split at hsm
   ·rename_i hv;rw[mP,jC (E:=E) hi hv rfl]
   ·cases hsm
  ·split at h'
   ·rename_i hr
    rcases uD hr with hr|hr
    ·unfold mJ at hr;cases hr
    unfold nP at hr;dsimp only at hr
    split at hr
    ·rename_i hv _
     rw[mP,jC (E:=E) hi hv (by
      unfold FX at hr
      split at hr<;>first|rfl|cases hr)]
    ·cases hr
   ·cases h'
 case mapUpdate t m k' v=>
  obtain⟨r,hr⟩:=hop (by simp) (by simp) (by simp)
  rcases uD hr with hr|hr
  ·unfold mJ at hr;cases hr
  unfold nP at hr;dsimp only at hr
  split at hr
  ·rename_i hv _ _
   rw[rJ,jC (E:=E) hi hv (by
    unfold zM at hr
    split at hr<;>first|rfl|cases hr)]
  ·cases hr
 case insert t m k' v=>
  obtain⟨r,hr⟩:=hop (by simp) (by simp) (by simp)
  rcases uD hr with hr|hr
  ·unfold mJ at hr;cases hr
  unfold nP at hr;dsimp only at hr
  split at hr
  ·rename_i hv _ _
   rw[rJ,jC (E:=E) hi hv (by
    unfold zM at hr
    split at hr<;>first|rfl|cases hr)]
  ·cases hr
 case alloc t=>rw[rJ];exact congrArg iB (GV hi dP)
 case box t y=>rw[rJ];exact congrArg iB (GV hi dP)
 case makeMap t y=>rw[rJ];exact congrArg iB (GV hi dP)
 case makeSlice t y z=>rw[rJ];exact congrArg iB (congrArg (Key.top:: ·) (GV hi dP))
 case call c=>
  obtain⟨r,hr⟩:=hop (by simp) (by simp) (by simp)
  unfold uj at hd;rw[Bool.and_eq_true,Bool.not_eq_true'] at hd
  obtain⟨hown,hd⟩:=hd
  rw[ho] at hd;dsimp only at hd
  cases hc:c.callee with
  |invoke y m=>rfl
  |builtin bi=>
   rw[hc] at hd;dsimp only at hd
   split at hd
   ·rename_i vs hvs
    have:=TF (E:=E) hi hvs hd
    cases bi<;>dsimp only<;>(try rw[←this])<;>(try rfl)
    rw[hi.om,aW];cases om<;>rfl
   ·cases hd
  |value f=>
   rcases uD hr with hr|hr
   ·unfold mJ at hr;dsimp only at hr;rw[hc] at hr;cases hr
   unfold nP at hr;dsimp only at hr
   rw[hc] at hd hr;dsimp only at hd hr
   split at hd
   ·rename_i f' a' b' vs hf hvs
    simp only[hf,hvs] at hr
    cases himp:E.imp f' with
    |true=>rw[himp] at hr;cases hr
    |false=>
     obtain⟨va,vb,h1,h2,h3⟩:=(aR (E:=E) hi .nil hf).jY
     dsimp only;rw[hf,h1];dsimp only
     have cu:iO E fr o f=false:=by
      have:=Dw hi hown
      unfold ql at this
      rw[ho] at this;dsimp only at this
      rw[hc] at this;exact this
     simp only[himp,cu,Bool.false_eq_true,if_false]
     rw[hvs];dsimp only
     have hrel:=(h2.append (rE (E:=E) hi .nil hvs)).append h3
     cases hcl:vv (a'++vs++b') with
     |true=>rw[Dn hR hcl hrel];rfl
     |false=>
      rw[hcl,Bool.false_or] at hd
      rw[TG hd hrel];rfl
   ·cases hd
omit hR in
theorem GX (c:Cx) (all:List Oper) (o:Oper):(oz all o).map (Key.mv c)=oz all o:=by
 have key:∀l:List Key,(∀k∈l,∃t,k= .slot t)→l.map (Key.mv c)=l:=by
  intro l
  induction l with
  |nil=>intro _;rfl
  |cons k l ih=>
   intro h
   obtain⟨t,e⟩:=h k (List.mem_cons_self ..)
   rw[List.map_cons,ih fun k hk=>h k (List.mem_cons_of_mem _ hk),e];rfl
 refine key _ fun k hk=> ?_
 unfold oz at hk
 rw[List.mem_append] at hk
 rcases hk with hk|hk
 ·rw[List.mem_filterMap] at hk
  obtain⟨a,_,ha⟩:=hk
  split at ha
  ·cases ha;exact⟨_,rfl⟩
  ·cases ha
 ·split at hk
  ·split at hk
   ·exact⟨_,List.mem_singleton.1 hk⟩
   ·cases hk
  ·cases hk
omit hR in
theorem GY (c:Cx) (o:Oper):(ji o).map (Key.mv c)=ji o:=by
 unfold ji
 cases o.dst<;>rfl
omit hR in
theorem Mf {c:Cx} (f:bA) (a b:List Key) (ha:a.map (Key.mv c)=a) (hb:b.map (Key.mv c)=b):bA.mv c ⟨f.pJ,f.lI,a++f.t,b++f.w⟩=⟨(f.mv c).pJ,(f.mv c).lI,a++(f.mv c).t,b++(f.mv c).w⟩:=by
 unfold bA.mv
 dsimp only
 rw[List.map_append,List.map_append,ha,hb]
theorem ac1 {om:Bool} {β:Type} {F:Nat→List (FR R)} (aW:ρ.om.om=om) (dP:∀d,o.dst=some d→d<F0) (hi:aB ρ b st fr σ) {k:MS R.T→Option β} {x:β} {all:List Oper} (h:runM E R om F o st k=some x) (hd:uj E st o=true):(lS E om all st o true).mv ρ.om=dA E all fr o true:=by
 have key:=ac0 hR aW dP hi h hd
 unfold lS dA
 rw[if_pos rfl,if_pos rfl,←key]
 exact Mf _ _ _ (GX _ _ _) (GY _ _)
omit hR in
theorem TH {om:Bool} {all:List Oper} {c:Cx}:(lS E om all st o false).mv c=dA E all fr o false:=by
 unfold lS dA bA.mv
 rw[if_neg (by simp),if_neg (by simp)]
 dsimp only
 rw[GX,GY]
omit hR in
theorem ac2 {om:Bool} {all:List Oper} {c:Call} {f:Operand} {g:FuncId} {a vb:List V} (hi:aB ρ b st fr σ) (himp:oN E st o=true) (cu:ql E fr o=false) (h1:o.op= .call c) (h2:c.callee= .value f) (h3:fr.ev E f= .fn (.func g) a vb) (h4:E.imp g=true):(lS E om all st o true).mv ρ.om=dA E all fr o true:=by
 have key:(CV E om st o).mv ρ.om=eZ E fr o:=by
  unfold oN at himp
  rw[h1] at himp;dsimp only at himp
  rw[h2] at himp;dsimp only at himp
  unfold ql at cu
  rw[h1] at cu;dsimp only at cu
  rw[h2] at cu;dsimp only at cu
  unfold CV eZ
  rw[h1];dsimp only
  rw[h2];dsimp only
  rw[cu,h3]
  split at himp
  ·rename_i g' a' b' hf
   (try rw[hf])
   (try dsimp only)
   rw[if_pos himp,if_neg (by simp)]
   (try dsimp only)
   rw[if_pos h4]
   rfl
  ·cases himp
 unfold lS dA
 rw[if_pos rfl,if_pos rfl,←key]
 exact Mf _ _ _ (GX _ _ _) (GY _ _)
omit hR in
theorem ac3 {β:Type} {F:Nat→List (FR R)} {k:MS R.T→Option β} {x:β} {all:List Oper} (hi:aB ρ b st fr σ) (h:rC R F o st k=some x) (hown:iI E st o=true):(CX all o).mv ρ.om=dA E all fr o true:=by
 have key:eZ E fr o=iB [.top]:=by
  unfold rC at h
  split at h
  ·rename_i c d ho hd
   split at h
   ·rename_i f cZ
    split at h
    ·rename_i g a' b' vs hf hvs
     obtain⟨va,vb,h1,_,_⟩:=(aR (E:=E) hi .nil hf).jY
     have hg:E.own g d=true:=by
      unfold iI at hown
      rw[ho] at hown
      dsimp only at hown
      rw[cZ] at hown
      dsimp only at hown
      rw[hf] at hown
      dsimp only at hown
      rw[hd] at hown
      exact hown
     have cu:iO E fr o f=true:=by unfold iO;rw[h1,hd];exact hg
     unfold eZ
     rw[ho];dsimp only
     rw[cZ];dsimp only
     rw[if_pos cu]
    ·cases h
   ·cases h
  ·cases h
 unfold CX dA
 rw[if_pos rfl,key]
 exact Mf ⟨false,false,[],[.top]⟩ _ _ (GX _ _ _) (GY _ _)
theorem Ay {om:Bool} {β:Type} {F:Nat→List (FR R)} (hF:bG E F) {M:Nat→List (FM R)} (hM:GN E M) {ms:List Nat} {all:List Oper} {k:MS R.T→Option β} {x:β} {Q:Fr→ah→Prop}:∀(os:List Oper) (au:Nat) (ρ:aK) (st:MS R.T) (fr:Fr) (σ:ah) (fs:List bA),(∀d,aO d (gW os)=true→d<F0)→ρ.om.om=om→aB ρ au st fr σ→au+os.length≤σ.next→kG E R om F M ms all os st fs k=some x→
 (∀ρ' st' fr' σ',aB ρ' (au+os.length) st' fr' σ'→σ.next≤σ'.next→Kp (os.all (qd E)) (gW os) st fr σ ρ st' fr' σ' ρ'→k st'=some x→Q fr' σ')→bJ E ms all au os fr σ (fs.map (bA.mv ρ.om)) Q
 | [],au,ρ,st,fr,σ,fs,hW0,aW,hi,hsn,h,hq=>by
   unfold kG at h
   obtain⟨h1,h⟩:=bU h
   exact bJ.nil (by rw[acW];exact h1) (hq ρ st fr σ hi (Nat.le_refl _) .refl h)
 |o::os,au,ρ,st,fr,σ,fs,hW0,aW,hi,hsn,h,hq=>by
  have dP:∀d,o.dst=some d→d<F0:=fun d hd=>hW0 d (TA hd)
  have hW1:∀d,aO d (gW os)=true→d<F0:=fun d hd=>hW0 d (TB hd)
  have nT:∀{σ':ah},σ.next≤σ'.next→au+1+os.length≤σ'.next:=fun h=>by rw[List.length_cons] at hsn;omega
  have hg:=Tx (o:=o) (all:=all) hi
  unfold kG at h
  have hW:∀p,aO p (gW (o::os))=false→o.dst≠some p∧aO p (gW os)=false:=fun p hp=>Tz hp
  have hq':∀(ρ1:aK) (st1:MS R.T) (y:V) (σ1:ah),(∀p,o.dst≠some p→aQ (qd E o) p st ρ σ st1 ρ1 σ1)→σ.next≤σ1.next→∀ρ' st' fr' σ',aB ρ' (au+1+os.length) st' fr' σ'→σ1.next≤σ'.next→Kp (os.all (qd E)) (gW os) st1 (fr.put o.dst y) σ1 ρ1 st' fr' σ' ρ'→k st'=some x→Q fr' σ':=fun ρ1 st1 y σ1 hkp h1 ρ' st' fr' σ' hi' hn rH hk=>
   hq ρ' st' fr' σ' (by rw[List.length_cons,Nat.add_comm os.length,←Nat.add_assoc];exact hi') (Nat.le_trans h1 hn) (((Kp.op (fun p hp=>(hW p hp).1) hkp).nr (Dy:=(o::os).all (qd E)) (fun e=>by rw[List.all_cons,Bool.and_eq_true] at e;exact e.1)).trans ((rH.mono fun p hp=>(hW p hp).2).nr (fun e=>by rw[List.all_cons,Bool.and_eq_true] at e;exact e.2))) hk
  have run:∀(st1:MS R.T),st1.ob=st.ob→aB ρ au st1 fr σ→bS all fr o=some true→(bif oN E st1 o then (bif iI E st1 o then none else xC R M o st1 (fun st'=>kG E R om F M ms all os st' (fs++[lS E om all st1 o true]) k)) else bif iI E st1 o then rC R F o st1 (fun st'=>kG E R om F M ms all os st' (fs++[CX all o]) k) else bif !(uj E st1 o) then none else runM E R om F o st1 (fun st'=>kG E R om F M ms all os st' (fs++[lS E om all st1 o true]) k))=some x→bJ E ms all au (o::os) fr σ (fs.map (bA.mv ρ.om)) Q:=by
   intro st1 qR hi hg h
   have hkq:∀(st':MS R.T) (ρ':aK) (σ':ah),(∀p,o.dst≠some p→aQ true p st1 ρ σ st' ρ' σ')→∀p,o.dst≠some p→aQ true p st ρ σ st' ρ' σ':=fun st' ρ' σ' h p hp=>(h p hp).from qR
   cases himp:oN E st1 o with
   |true=>
    rw[himp,cond_true] at h
    cases hown:iI E st1 o with
    |true=>rw[hown] at h;cases h
    |false=>
    rw[hown,cond_false] at h
    have cu:=Dw hi hown
    obtain⟨c,f,g',a,vb,f1,f2,f3,f4,n',v,σ',f5,st2,i1,i2,i3,i4⟩:=L6 hR hM hi (by omega) h
    have hf:=ac2 (om:=om) (all:=all) hi himp cu f1 f2 f3 f4
    refine bJ.zl hg f1 f2 f3 f4 ⟨n',v,σ',f5, ?_⟩ (Me cu f1 f2 f3)
    have:=Ay hF hM os (au+1) ρ st2 _ σ' _ hW1 aW i1 (nT i2) i4 (hq' ρ st2 v σ' (fun p _=>by rw[Md himp];exact(i3 p).from qR) i2)
    rw[List.map_append,List.map_cons,List.map_nil,hf] at this
    exact this
   |false=>
   rw[himp,cond_false] at h
   cases hown:iI E st1 o with
   |true=>
    rw[hown,cond_true] at h
    refine acT hR hF hi h hown hg (fun ρ' st' y σ' hi' hn hkp hk=> ?_)
    have:=Ay hF hM os (au+1) ρ' st' _ σ' _ hW1 ((congrArg Cx.om (xP hkp)).trans aW) hi' (nT (Nat.le_of_eq hn.symm)) hk (hq' ρ' st' y σ' (fun p hp=>(hkq st' ρ' σ' hkp p hp).of) (Nat.le_of_eq hn.symm))
    rw[xP hkp,List.map_append,List.map_cons,List.map_nil,ac3 hi h hown] at this
    exact this
   |false=>
   rw[hown,cond_false] at h
   cases hd:uj E st1 o
   ·rw[hd] at h;cases h
   ·rw[hd] at h
    have h':runM E R om F o st1 (fun st'=>kG E R om F M ms all os st' (fs++[lS E om all st1 o true]) k)=some x:=h
    have hf:=ac1 hR (all:=all) aW dP hi h' hd
    exact L8 hR hF aW dP hi h' (rest:=fun fr' σ'=>bJ E ms all (au+1) os fr' σ' (fs.map (bA.mv ρ.om)++[dA E all fr o true]) Q) (fun y σ' hst hr=>hst.2 (Dw hi (by unfold uj at hd;rw[Bool.and_eq_true,Bool.not_eq_true'] at hd;exact hd.1)) ms all os (fs.map (bA.mv ρ.om)) Q hg hr) (fun ρ' st' y σ' hi' hn hkp hk=>by
     have:=Ay hF hM os (au+1) ρ' st' _ σ' _ hW1 ((congrArg Cx.om (xP hkp)).trans aW) hi' (nT (Nat.le_of_eq hn.symm)) hk (hq' ρ' st' y σ' (fun p hp=>(hkq st' ρ' σ' hkp p hp).of) (Nat.le_of_eq hn.symm))
     rw[xP hkp,List.map_append,List.map_cons,List.map_nil,hf] at this
     exact this)
  split at h
  ·rename_i hgm
   rw[hgm] at hg
   exact run st rfl hi hg h
  ·rename_i hgm
   rw[hgm] at hg
   have:=Ay hF hM os (au+1) ρ _ _ σ _ hW1 aW ((hi.le (Nat.le_succ _)).dH o.dst (by unfold Rl;rfl)) (nT (Nat.le_refl _)) h (hq' ρ _ aA σ (fun p _=>aQ.same (by first|exact jK|rfl)) (Nat.le_refl _))
   rw[List.map_append,List.map_cons,List.map_nil,TH (fr:=fr)] at this
   exact bJ.skip hg this
  ·rename_i j w c g hgm
   rw[hgm] at hg
   obtain⟨⟨n,hn⟩,hg2⟩:=hg
   obtain⟨e1,e2,e3⟩:=xO hi n j w c g hn
   cases c with
   |true=>
    obtain⟨l1,l2⟩:=GR hi (e1 rfl).2 (GU hi n j w g hn)
    exact run (st.jg g) l2 l1 hg2 h
   |false=>
    obtain⟨l1,l2⟩:=L9 hi hn
    have:=Ay hF hM os (au+1) ρ _ _ σ _ hW1 aW ((l1.le (Nat.le_succ _)).dH o.dst (by unfold Rl;rfl)) (nT (Nat.le_refl _)) h (hq' ρ _ aA σ (fun p _=>aQ.same (jK.trans l2)) (Nat.le_refl _))
    rw[List.map_append,List.map_cons,List.map_nil,TH (fr:=fr)] at this
    exact bJ.skip hg2 this
  ·cases h
end
end Aq
end
section
namespace Aq
open Go
section
variable {E:Env} {fr:Fr} {σ:ah}
def ah.enter (σ:ah) (fr:Fr) (ps:Array Tmp) (bB body:Code):ah:=({σ with next:=σ.next+1}:ah).dG σ.next {st:=0,pend:=none,fr:=fr,ps:=ps.toList,bB:=bB,body:=body}
def uE (E:Env) (l:Nat) (args:List V) (σ:ah) (b:Bool) (σ':ah):Prop:=∃n,pI (aX E n) l args σ=some (.bool b,σ')
theorem CW.range {f:Operand} {ps:Array Tmp} {bB body:Code} {g:FuncId} {a b:List V} {Q:Ex→Fr→ah→Prop} (hf:fr.ev E f= .fn (.func g) a b) (hi:E.imp g=true)
 (h:mg E g (a++[.fn (.yield σ.next) [] []]++b) (fr.d+1) (σ.enter fr ps bB body) (fun _ σ2=> ∃r,σ2.loops σ.next=some r∧r.st≠1∧Q (match r.pend with|none=>.normal|some e=>e) fr (σ2.jL σ.next))):CW E (.rangeFunc f ps bB body) fr σ Q:=by
 obtain⟨n,v,σ2,h1,r,h2,h3,h4⟩:=h
 refine⟨n,_,fr,_, ?_,h4⟩
 have h1':gK E (aX E n) fr.d (σ.enter fr ps bB body) (.fn (.func g) a b) [.fn (.yield σ.next) [] []]=some (v,σ2):=by
  unfold gK;simp only[hi,if_true];exact h1
 unfold bN
 rw[hf]
 simp only[yG,if_true]
 unfold ah.enter at h1'
 rw[h1']
 simp only[Option.bind_some,h2,if_neg h3]
 cases r.pend<;>rfl
theorem uE.of {l:Nat} {args:List V} {r:lu} {b:Bool} {σ':ah} (hl:σ.loops l=some r) (hst:r.st=0) (hlen:r.ps.length=args.length)
 (h:CW E r.bB {r.fr with tm:=(r.ps.zip args).foldl (fun tm (p,a)=>upd tm p a) r.fr.tm} σ (fun e aP σ1=>e= .normal∧∃r1,σ1.loops l=some r1∧r1.st=0∧
   CW E r.body aP (σ1.dG l {r1 with st:=1}) (fun e _ σ2=> ∃r2,σ2.loops l=some r2∧r2.st=1∧match e with
    |.normal=>b=true∧σ'=σ2.dG l {r2 with st:=0,pend:=none}
    |e=>b=false∧σ'=σ2.dG l {r2 with st:=2,pend:=some e}))):uE E l args σ b σ':=by
 obtain⟨n,e,aP,σ1,h1,rfl,r1,hl1,hs1,m,e2,bZ,σ2,h2,r2,hl2,hs2,h3⟩:=h
 have h1':(aX E (max n m+1)).code r.bB {r.fr with tm:=(r.ps.zip args).foldl (fun tm (p,a)=>upd tm p a) r.fr.tm} σ=some (.normal,aP,σ1):=wW (jo (Nat.le_max_left n m)) _ _ _ _ h1
 have h2':(aX E (max n m+1)).code r.body aP (σ1.dG l {r1 with st:=1})=some (e2,bZ,σ2):=wW (jo (Nat.le_max_right n m)) _ _ _ _ h2
 refine⟨max n m+1, ?_⟩
 unfold pI
 simp only[hl,Option.bind_some,hst,hlen,and_self,if_true,h1',hl1,hs1,h2',hl2,hs2]
 cases e2 with
 |normal=>obtain⟨rfl,rfl⟩:=h3;rfl
 |exit i=>obtain⟨rfl,rfl⟩:=h3;rfl
 |ret=>obtain⟨rfl,rfl⟩:=h3;rfl
theorem OW.yield {all:List Oper} {st:Nat} {o:Oper} {os:List Oper} {Q:Fr→ah→Prop} {c:Call} {f:Operand} {l:Nat} {b:Bool} {σ1:ah} (hw:bS all fr o=some true) (ho:o.op= .call c) (cZ:c.callee= .value f)
 (hf:fr.ev E f= .fn (.yield l) [] []) (hr:uE E l (c.args.toList.map (fr.ev E)) σ b σ1) (h:OW E all (st+1) os (fr.put o.dst (.bool b)) σ1 Q):OW E all st (o::os) fr σ Q:=by
 obtain⟨n,fr',σ',h1,h2⟩:=h
 obtain⟨m,hm⟩:=hr
 have hm':=Ql (jo (Nat.le_max_right n m)) hm
 have h1':=Co (jo (Nat.le_max_left n m)) _ _ _ _ _ _ h1
 refine⟨max n m,fr',σ', ?_,h2⟩
 have:gK E (aX E (max n m)) fr.d σ (.fn (.yield l) [] []) (c.args.toList.map (fr.ev E))=some (.bool b,σ1):=by
  unfold gK;exact hm'
 have cu:iO E fr o f=false:=by unfold iO;rw[hf]
 simp only[opsE,hw,Option.bind_some,if_true,opC,ho,cZ,cu,Bool.false_eq_true,if_false,hf,this,Option.map_some,h1']
structure Shift (d:Nat) (σ σ':ah):Prop where
 next:σ.next≤σ'.next
 top:∀s,s<σ.next→σ'.top s=σ.top s
 loops:∀l,l<σ.next→σ'.loops l=σ.loops l
 obj:∀a o,a≤d→σ'.obj (a,o)=σ.obj (a,o)
theorem Shift.refl {d:Nat} {σ:ah}:Shift d σ σ:=⟨Nat.le_refl _,fun _ _=>rfl,fun _ _=>rfl,fun _ _ _=>rfl⟩
theorem Shift.trans {d:Nat} {σ σ' jh:ah} (h:Shift d σ σ') (g:Shift d σ' jh):Shift d σ jh:=
 ⟨Nat.le_trans h.next g.next,fun s hs=>(g.top s (Nat.lt_of_lt_of_le hs h.next)).trans (h.top s hs),fun s hs=>(g.loops s (Nat.lt_of_lt_of_le hs h.next)).trans (h.loops s hs),fun a o ha=>(g.obj a o ha).trans (h.obj a o ha)⟩
def Dz (E:Env) (f:FuncId) (a b:List V) (L:List (List V)):Prop:=∀(d l:Nat) (σ:ah) (J:List (List V)→ah→Prop) (D:ah→Prop),
 (∀xs σ σ',l<σ.next→J xs σ→Shift d σ σ'→J xs σ')→(∀σ σ',l<σ.next→D σ→Shift d σ σ'→D σ')→
 (∀x xs σ,l<σ.next→J (x::xs) σ→∃c σ',uE E l x σ c σ'∧σ.next≤σ'.next∧(∀a o,d<a→σ'.obj (a,o)=σ.obj (a,o))∧(∀s,s<σ.next→σ'.loops s=σ.loops s∨s=l)∧(c=true→J xs σ')∧(c=false→D σ'))→
 l<σ.next→J L σ→mg E f (a++[.fn (.yield l) [] []]++b) (d+1) σ fun _ σ'=>σ.next≤σ'.next∧(J [] σ'∨D σ')
end
end Aq
end
