/- Part of the proof of a law. -/
import Derived.Test.YtdcnajadcbedkaaGreatDoorS810
set_option linter.all false
set_option linter.unusedSimpArgs false
set_option linter.unusedSectionVars false
section
namespace Aq
open Go
set_option linter.unusedSectionVars false
set_option linter.unusedVariables false
section
variable {R:fU} {E:Env}
variable {ρ:aL} {b aD:Nat} {st:MS R.T} {fr:Fr} {σ:ah} {o:Oper}
theorem ahu {j:Nat} {t:Bool} (h:aZ [] st (.tmp j)=some (.bool t)):look st.fr j=some (.bool t):=by
 unfold aZ at h
 dsimp only at h
 split at h
 ·rename_i v hv
  cases v<;>first| (cases h;exact hv)| (simp[HV,look] at h;done)
 ·cases h
variable (hR:lZ R)
include hR
omit hR in
theorem X8 {β:Type} {top:Nat→Nat} {x z:TV R.T} {v zv:V} {k:TV R.T→Bool→Option β} {res:β} (hx:Rl R ρ top x v) (hz:Rl R ρ top z zv):∀{ks vs:List (TV R.T)} {kl vl:List V},Iq x ks vs z k=some res→aB R ρ top ks kl→aB R ρ top vs vl→
 ∃y b w r,Rl R ρ top y w∧l9 v kl vl=some r∧((r=none→w=zv∧b=false)∧∀u,r=some u→w=u∧b=true)∧k y b=some res
 | [],[],kl,vl,h,h1,h2=>by
   rw[h1.eH,h2.eH]
   exact⟨z,false,zv,none,hz,rfl,⟨fun _=>⟨rfl,rfl⟩,fun u h=>by cases h⟩,h⟩
 | [],_::_,_,_,h,_,_=>by cases h
 |_::_,[],_,_,h,_,_=>by cases h
 |a::ks,b::vs,kl,vl,h,h1,h2=>by
  obtain⟨k0,k',rfl,g1,g2⟩:=h1.dH
  obtain⟨l0,l',rfl,g3,g4⟩:=h2.dH
  unfold Iq at h
  split at h
  ·rename_i c hc
   have he:=XK hc hx g1
   cases c with
   |true=>exact⟨b,true,l0,some l0,g3,by simp[l9,he],⟨fun h=>(by cases h),fun u h=>by cases h;exact⟨rfl,rfl⟩⟩,h⟩
   |false=>
    obtain⟨y,bb,w,r,e1,e2,e3,e4⟩:=X8 hx hz h g2 g4
    exact⟨y,bb,w,r,e1,by simp[l9,he,e2],e3,e4⟩
  ·cases h
theorem PO {om:Bool} {β:Type} {F:Nat→List (FR R)} (hF:aW E F) (bg:ρ.om.om=om) (dX:∀d,o.dst=some d→d<F0) (hi:aH ρ aD st fr σ) {k:MS R.T→Option β} {x:β} (h:runM E R om F o st k=some x) {G:Prop} {rest:Fr→ah→Prop}
 (hs:∀y σ',j4 E fr σ aD o y σ'→rest (fr.put o.dst y) σ'→G) (hk:∀ρ' st' y σ',aH ρ' (aD+1) st' (fr.put o.dst y) σ'→σ'.next=σ.next→(∀p,o.dst≠some p→aV true p st ρ σ st' ρ' σ')→k st'=some x→rest (fr.put o.dst y) σ'):G:=by
 have hi1:=hi.le (Nat.le_succ aD)
 unfold runM at h
 split at h
 ·rename_i c a' b' hop
  split at h
  ·rename_i t hc
   have hc':=(aY (E:=E) hi .nil hc).qI
   split at h
   ·rename_i v hv
    refine hs _ _ (.gL (zR hop hc')) (hk ρ _ _ σ (hi1.dQ o.dst ?_) rfl (fun p _=>aV.same (by first|exact kI|rfl)) h)
    cases t
    ·exact aY (E:=E) hi .nil hv
    ·exact aY (E:=E) hi .nil hv
   ·cases h
  ·rename_i t hc
   have hc':=(aY (E:=E) hi .nil hc).oM
   split at h
   ·rename_i j
    have hj:=hc'
    rw[yJ] at hj
    split at h
    ·rename_i x' y' hx hy
     split at h
     ·rename_i v hv
      refine hs _ _ (.gL (zR hop hc')) (hk ρ _ _ σ (hi1.dQ o.dst ?_) rfl (fun p _=>aV.same (by first|exact kI|rfl)) h)
      cases t
      ·exact XJ hv (aY (E:=E) hi (.cons hj .nil) hy)
      ·exact XI hv (aY (E:=E) hi (.cons hj .nil) hx)
     ·cases t
      ·exact hs _ _ (.gL (zR hop hc')) (hk ρ _ _ σ ((hi1.learn hj).dQ o.dst (aY (E:=E) hi (.cons hj .nil) hy)) rfl (fun p _=>aV.same (by first|exact kI|rfl)) h)
      ·exact hs _ _ (.gL (zR hop hc')) (hk ρ _ _ σ ((hi1.learn hj).dQ o.dst (aY (E:=E) hi (.cons hj .nil) hx)) rfl (fun p _=>aV.same (by first|exact kI|rfl)) h)
    ·cases h
   ·cases h
  ·cases h
 ·rename_i t a y hop
  split at h
  ·rename_i τ p i off l v hst
   unfold Oy at hst
   split at hst
   ·rename_i p' τ1 i' off' v' ha hv
    split at hst
    ·rename_i τ' l0 sz hl hsz
     split at hst
     ·rename_i l1 hl1
      obtain⟨hc,hst⟩:=dA hst
      cases hst
      obtain⟨e,e2⟩:=pV hl1;subst e;cases e2
      simp only[Bool.and_eq_true] at hc
      obtain⟨⟨⟨c1,c2⟩,c3⟩,c4⟩:=hc
      obtain⟨z,hz,h⟩:=Option.bind_eq_some_iff.1 h
      split at h
      ·rename_i y' hu
       obtain⟨s,h1,_,h2⟩:=(aY (E:=E) hi .nil ha).wV
       obtain⟨h6,h7⟩:=rF c4 (aY (E:=E) hi .nil hv)
       have hO:=hi.ob _ _ hl
       obtain⟨cs,k1,k2,k3,k4⟩:=agM hR hO h1 hz h6 (Nat.le_of_ble_eq_true c2) hu
       refine hs aC (σ.setObj (ρ.om.lc p) s (.cells (dZ cs (i.toNat*bW R τ'+off) (fr.ev E y).cells))) (.gL (o:=o) ?_) (hk ρ _ aC _ ((hi1.set p s (x:=.arr τ' (wP l0 i y')) (a:=.cells (dZ cs (i.toNat*bW R τ'+off) (fr.ev E y).cells)) ⟨k4.trans hO.1,.inr ⟨s,_,h1,qX _ _ _ _,k3⟩⟩).dQ o.dst (x:=.undef) (by unfold Rl;rfl)) rfl (fun q _=>(aV.set hl rfl).congr kI) h)
       simp only[aX,hop,h2,k1,Option.bind_some]
       rw[if_pos ⟨by rw[hsz,h6.length,dI c1],k2,CZ c3 h6⟩]
      ·cases h
     ·cases hst
    ·cases hst
   ·cases hst
  ·split at h
   ·rename_i v st' hr
    rw[←hop] at hr
    obtain⟨y,σ',ρ',h1,h2,h3,h4,h5⟩:=rG hR hF bg dX .nil hi hr
    exact hs y σ' h1 (hk ρ' _ y σ' (h2.dQ o.dst h4) h3 (fun p hp=>(h5 p hp).congr kI) h)
   ·cases h
 ·rename_i t m y ok hop
  split at h
  ·rename_i ks vs q z hsm
   unfold Ox at hsm
   split at hsm
   ·rename_i p hm
    split at hsm
    ·rename_i ks' vs' hl
     split at hsm
     ·rename_i q' kt et hq ht
      split at hsm
      ·rename_i z' hz
       obtain⟨hkey,hsm⟩:=dA hsm
       cases hsm
       obtain⟨s,a1,a2⟩:=(aY (E:=E) hi .nil hm).sQ
       obtain⟨s',k0,l0,b1,b2,b3,b4⟩:=hi.rd hl
       rw[a1] at b1;cases b1
       have hqr:=aY (E:=E) hi .nil hq
       obtain⟨zv,z1,z2⟩:=zM (ρ:=ρ) (top:=σ.top) hz
       obtain⟨v,bb,w,r,c1,c2,c3,c4⟩:=X8 hqr z2 h b3 b4
       have hlk:qO E.P σ t (fr.ev E m) (fr.ev E y) ok=some (if ok then .bA [w,.bool bb] else w):=by
        rw[Xf,ht];simp only[Option.bind_some]
        rw[if_pos (XL hkey hqr),a2]
        show (σ.eD (ρ.om.lc p) s).bind _=_
        rw[b2];simp only[Option.bind_some,c2]
        cases r with
        |none=>simp only[z1,Option.map_some];obtain⟨e1,e2⟩:=c3.1 rfl;rw[e1,e2]
        |some u=>simp only[Option.map_some];obtain⟨e1,e2⟩:=c3.2 u rfl;rw[e1,e2]
       refine hs _ σ (.gL (o:=o) ?_) (hk ρ _ (if ok then .bA [w,.bool bb] else w) σ (hi1.dQ o.dst ?_) rfl (fun p _=>aV.same (by first|exact kI|rfl)) c4)
       ·simp only[aX,hop,hlk,Option.map_some]
       ·cases ok
        ·exact c1
        ·rw[cond_true,if_pos rfl];unfold Rl;exact⟨_,rfl,.cons' c1 (.cons' (by unfold Rl;rfl) rfl)⟩
      ·cases hsm
     ·cases hsm
    ·cases hsm
   ·cases hsm
  ·split at h
   ·rename_i v hr
    rw[←hop] at hr
    obtain⟨y,h1,h2⟩:=rG hR hF bg dX .nil hi hr
    exact hs y σ h1 (hk ρ _ y σ (hi1.dQ o.dst h2) rfl (fun p _=>aV.same (by first|exact kI|rfl)) h)
   ·cases h
 ·split at h
  ·rename_i v hr
   obtain⟨y,h1,h2⟩:=rG hR hF bg dX .nil hi hr
   exact hs y σ h1 (hk ρ _ y σ (hi1.dQ o.dst h2) rfl (fun p _=>aV.same (by first|exact kI|rfl)) h)
  ·rename_i c v hr
   obtain⟨hc,h⟩:=dA h
   obtain⟨y,h1,h2⟩:=rG hR hF bg dX .nil hi hr hc
   exact hs y σ h1 (hk ρ _ y σ (hi1.dQ o.dst h2) rfl (fun p _=>aV.same (by first|exact kI|rfl)) h)
  ·rename_i v st' hr
   obtain⟨y,σ',ρ',h1,h2,h3,h4,h5⟩:=rG hR hF bg dX .nil hi hr
   exact hs y σ' h1 (hk ρ' _ y σ' (h2.dQ o.dst h4) h3 (fun p hp=>(h5 p hp).congr kI) h)
  ·rename_i c v st' hr
   obtain⟨hc,h⟩:=dA h
   obtain⟨y,σ',ρ',h1,h2,h3,h4,h5⟩:=rG hR hF bg dX .nil hi hr hc
   exact hs y σ' h1 (hk ρ' _ y σ' (h2.dQ o.dst h4) h3 (fun p hp=>(h5 p hp).congr kI) h)
  ·rename_i α z q f hr
   obtain⟨a,ha,h⟩:=Option.bind_eq_some_iff.1 h
   obtain⟨y,h1,h2⟩:=rG hR hF bg dX .nil hi hr a ha
   exact hs y σ h1 (hk ρ _ y σ (hi1.dQ o.dst h2) rfl (fun p _=>aV.same (by first|exact kI|rfl)) h)
  ·cases h
omit hR in
theorem xk (hi:aH ρ b st fr σ):∀(n j:Nat) (w c:Bool) (g:List (Nat×Bool)),lG st n j w=some (c,g)→(c=true→fr.tm j= .bool w∧mV fr g)∧(c=false→fr.tm j= .bool (!w)∨fr.tm j=aC)∧(g=[(j,w)]→c=false→fr.tm j= .bool (!w))
 |0,j,w,c,g,h=>by cases h
 |n+1,j,w,c,g,h=>by
  have key:∀(i:Nat) (u a:Bool) (y:TV R.T),look st.fr j=some (.opt i u y)→(∀v,Rl R ρ σ.top y v→v= .bool a)→(match lG st n i u with
   |some (c,g)=>some (Ow c (zm a w),(j,w)::g)
   |none=>none)=some (c,g)→(c=true→fr.tm j= .bool w∧mV fr g)∧(c=false→fr.tm j= .bool (!w)∨fr.tm j=aC)∧(g=[(j,w)]→c=false→fr.tm j= .bool (!w)):=by
   intro i u a y hl hy h
   split at h
   ·rename_i c0 g0 he
    cases h
    obtain⟨h1,h2,h3⟩:=xk hi n i u c0 g0 he
    have hr:=hi.fr _ _ hl
    have hg0:g0≠[]:=by
     rintro rfl
     cases n with
     |zero=>cases he
     |succ n=>
      unfold lG at he
      split at he
      ·cases he
      ·split at he<;>cases he
      ·split at he<;>cases he
      ·cases he
    refine⟨fun hc=> ?_,fun hc=> ?_,fun hg=>absurd (by simpa using hg) hg0⟩
    ·cases c0 with
     |false=>cases hc
     |true=>
      obtain⟨a1,a2⟩:=h1 rfl
      have hv:=hy _ (hr.1 a1)
      have hc':zm a w=true:=hc
      have:a=w:=by cases a<;>cases w<;>first|rfl|cases hc'
      subst this
      exact⟨hv,.cons hv a2⟩
    ·cases c0 with
     |false=>exact .inr (hr.2 (h2 rfl))
     |true=>
      obtain⟨a1,a2⟩:=h1 rfl
      have hv:=hy _ (hr.1 a1)
      have hc':zm a w=false:=hc
      have:a= !w:=by cases a<;>cases w<;>first|rfl|cases hc'
      subst this
      exact .inl hv
   ·cases h
  unfold lG at h
  split at h
  ·rename_i a hl
   cases h
   have hv:=(show Rl R ρ σ.top (.bool a) (fr.tm j) from hi.fr _ _ hl).oM
   refine⟨fun hc=> ?_,fun hc=>.inl ?_,fun _ hc=> ?_⟩
   ·have:a=w:=by cases a<;>cases w<;>first|rfl|cases hc
    subst this;exact⟨hv,.cons hv .nil⟩
   ·have:a= !w:=by cases a<;>cases w<;>first|rfl|cases hc
    subst this;exact hv
   ·have:a= !w:=by cases a<;>cases w<;>first|rfl|cases hc
    subst this;exact hv
  ·rename_i i u a hl;exact key i u a _ hl (fun v hv=>hv.oM) h
  ·rename_i i u a hl;exact key i u a _ hl (fun v hv=>hv.qI) h
  ·cases h
omit hR in
theorem X9 {all:List Oper} (hi:aH ρ b st fr σ):match Ip all st o with
 |.run=>dL all fr o=some true
 |.skip=>dL all fr o=some false
 |.dyn j w c g=>(∃n,lG st n j w=some (c,g))∧dL all fr o=some c
 |.no=>True:=by
 unfold Ip dL
 cases hg:o.guard with
 |none=>rfl
 |some p=>
  obtain⟨j,w⟩:=p
  dsimp only
  cases hj:all[j]? with
  |none=>rfl
  |some p=>
   simp only[Option.bind_some]
   cases hd:p.dst with
   |none=>rfl
   |some t=>
    dsimp only
    have dyn:∀c g,lG st 12 t w=some (c,g)→(match fr.tm t with
     |.bool b=>some (b==w)
     |.raw _=>none
     |_=>some false)=some c:=by
     intro c g he
     obtain⟨h1,h2,_⟩:=xk hi 12 t w c g he
     cases c with
     |true=>rw[(h1 rfl).1];simp
     |false=>
      rcases h2 rfl with h2|h2
      ·rw[h2];cases w<;>rfl
      ·rw[h2];rfl
    cases hl:look st.fr t with
    |none=>
     dsimp only
     cases he:lG st 12 t w with
     |none=>trivial
     |some q=>exact⟨⟨12,he⟩,dyn _ _ he⟩
    |some v=>
     have hr:=hi.fr _ _ hl
     cases v with
     |fH c=>
      have:=(show Rl R ρ σ.top (.fH c) (fr.tm t) from hr).qI
      rw[this]
      cases c<;>cases w<;>rfl
     |undef=>
      have:=(show Rl R ρ σ.top .undef (fr.tm t) from hr).V8
      rw[this];rfl
     |_=>
      dsimp only
      cases he:lG st 12 t w with
      |none=>trivial
      |some q=>exact⟨⟨12,he⟩,dyn _ _ he⟩
omit hR in
theorem Jh (hi:aH ρ b st fr σ):∀{g:List (Nat×Bool)},mV fr g→(∀j u,(j,u)∈g→fr.tm j= .bool u)→aH ρ b (st.kG g) fr σ∧(st.kG g).ob=st.ob
 | [],_,_=>⟨hi,rfl⟩
 | (j,w)::g,hg,hm=>by
   obtain⟨h1,h2⟩:=Jh hi (g:=g) (fun i u h=>by
    exact hm i u (by
     have:∀g:List (Nat×Bool),look g i=some u→(i,u)∈g:=by
      intro g
      induction g with
      |nil=>intro h;cases h
      |cons p g ih=>
       intro h
       obtain⟨k,v⟩:=p
       by_cases e:i=k
       ·subst e;rw[iI] at h;cases h;simp
       ·rw[fC _ _ e] at h;simp[ih h]
     exact List.mem_cons_of_mem _ (this g h))) (fun i u h=>hm i u (by simp[h]))
   exact⟨h1.learn (hm j w (by simp)),h2⟩
omit hR in
theorem Ji (hi:aH ρ b st fr σ):∀(n j:Nat) (w:Bool) (g:List (Nat×Bool)),lG st n j w=some (true,g)→∀i u,(i,u)∈g→fr.tm i= .bool u
 |0,j,w,g,h=>by cases h
 |n+1,j,w,g,h=>by
  have hj:=((xk hi (n+1) j w true g h).1 rfl).1
  unfold lG at h
  split at h
  ·simp only[Option.some.injEq,Prod.mk.injEq] at h
   obtain⟨_,rfl⟩:=h
   intro i u hm;simp at hm;obtain⟨rfl,rfl⟩:=hm;exact hj
  all_goals first
   | (split at h
      ·rename_i c0 g0 he
       simp only[Option.some.injEq,Prod.mk.injEq] at h
       obtain⟨hc,rfl⟩:=h
       cases c0 with
       |false=>cases hc
       |true=>
        intro i u hm
        rcases List.mem_cons.1 hm with hm|hm
        ·cases hm;exact hj
        ·exact Ji hi n _ _ g0 he i u hm
      ·cases h)
   |cases h
omit hR in
theorem PS (hi:aH ρ b st fr σ) {n j:Nat} {w:Bool} {g:List (Nat×Bool)} (hj:lG st n j w=some (false,g)):aH ρ b (st.sN g) fr σ∧(st.sN g).ob=st.ob:=by
 obtain⟨_,_,e3⟩:=xk hi n j w false g hj
 rcases g with _| ⟨⟨j',w'⟩,_| ⟨p,g⟩⟩
 ·exact⟨hi,rfl⟩
 ·have hj':j'=j∧w'=w:=by
   cases n with
   |zero=>cases hj
   |succ n=>
    unfold lG at hj
    split at hj
    ·simp only[Option.some.injEq,Prod.mk.injEq,List.cons.injEq] at hj
     exact⟨hj.2.1.1.symm,hj.2.1.2.symm⟩
    ·split at hj
     ·simp only[Option.some.injEq,Prod.mk.injEq,List.cons.injEq] at hj
      exact⟨hj.2.1.1.symm,hj.2.1.2.symm⟩
     ·exact absurd hj (by simp)
    ·split at hj
     ·simp only[Option.some.injEq,Prod.mk.injEq,List.cons.injEq] at hj
      exact⟨hj.2.1.1.symm,hj.2.1.2.symm⟩
     ·exact absurd hj (by simp)
    ·exact absurd hj (by simp)
  obtain⟨rfl,rfl⟩:=hj'
  exact⟨hi.learn (e3 rfl rfl),rfl⟩
 ·exact⟨hi,rfl⟩
theorem ahv {om:Bool} {β:Type} {F:Nat→List (FR R)} (hF:aW E F) (bg:ρ.om.om=om) (dX:∀d,o.dst=some d→d<F0) (hi:aH ρ aD st fr σ) {j n:Nat} {w c:Bool} {g:List (Nat×Bool)} (hj:lG st n j w=some (c,g)) {k:MS R.T→Option β} {x:β} (h:Oz E R om F o j w c g st k=some x) {G:Prop} {rest:Fr→ah→Prop}
 (hs:c=true→∀y σ',j4 E fr σ aD o y σ'→rest (fr.put o.dst y) σ'→G) (hs':c=false→rest (fr.put o.dst aC) σ→G)
 (hk:∀ρ' st' y σ',aH ρ' (aD+1) st' (fr.put o.dst y) σ'→σ'.next=σ.next→(∀p,o.dst≠some p→aV true p st ρ σ st' ρ' σ')→k st'=some x→rest (fr.put o.dst y) σ'):G:=by
 have hi1:=hi.le (Nat.le_succ aD)
 obtain⟨e1,e2,e3⟩:=xk hi n j w c g hj
 have PU:(bif c then runM E R om F o (st.kG g) k else k ((st.sN g).dQ o.dst .undef))=some x→G:=by
  intro h
  cases c with
  |true=>
   obtain⟨l1,l2⟩:=Jh hi (e1 rfl).2 (Ji hi n j w g hj)
   exact PO hR hF bg dX l1 h (hs rfl) (fun ρ' st' y σ' a b c d=>hk ρ' st' y σ' a b (fun p hp=>(c p hp).from l2) d)
  |false=>
   obtain⟨n1,n2⟩:=PS hi hj
   have hN:aH ρ (aD+1) (st.sN g) fr σ∧(st.sN g).ob=st.ob:=⟨n1.le (Nat.le_succ _),n2⟩
   refine hs' rfl (hk ρ _ aC σ (hN.1.dQ o.dst (by unfold Rl;rfl)) rfl (fun p _=>aV.same (kI.trans hN.2)) h)
 unfold Oz at h
 split at h
 ·rename_i d hd
  have hput:aP d (g.map (·.1))=false→∀(v:TV R.T) (y:V),(c=true→Rl R ρ σ.top v y)→(c=false→y=aC)→aH ρ (aD+1) (st.put d (.opt j w v)) (fr.put o.dst y) σ:=by
   intro hdj v y h1 h2
   have hne:(fr.set d y).tm j=fr.tm j:=by
    refine Cj _ _ ?_
    cases n with
    |zero=>cases hj
    |succ n=>
     have hmem:aP d (g.map (·.1))=false:=hdj
     have:∃g',g=(j,w)::g':=by
      unfold lG at hj
      split at hj
      ·cases hj;exact⟨[],rfl⟩
      all_goals first
       | (split at hj
          ·simp only[Option.some.injEq,Prod.mk.injEq] at hj
           exact⟨_,hj.2.symm⟩
          ·cases hj)
       |cases hj
     obtain⟨g',rfl⟩:=this
     have h':(Nat.beq d j||aP d (g'.map (·.1)))=false:=hmem
     rw[Bool.or_eq_false_iff] at h'
     simpa using (IE h'.1).symm
   rw[hd,yH]
   refine hi1.put d ⟨fun hc=> ?_,fun hc=> ?_⟩
   ·rw[hne] at hc
    refine h1 ?_
    cases c with
    |true=>rfl
    |false=>
     rcases e2 rfl with e|e
     ·rw[e] at hc;cases w<;>cases hc
     ·rw[e] at hc;cases hc
   ·rw[hne] at hc
    refine h2 ?_
    cases c with
    |false=>rfl
    |true=>
     rw[(e1 rfl).1] at hc
     rcases hc with hc|hc
     ·cases w<;>cases hc
     ·cases hc
  cases hdj:aP d (g.map (·.1))
  ·rw[hdj] at h
   simp only[cond_false] at h
   split at h
   ·rename_i v hr
    cases c with
    |true=>
     obtain⟨y,h1,h2⟩:=rG hR hF bg dX (e1 rfl).2 hi hr
     exact hs rfl y σ h1 (hk ρ _ y σ (hput hdj v y (fun _=>h2) (fun h=>by cases h)) rfl (fun p _=>aV.same rfl) h)
    |false=>exact hs' rfl (hk ρ _ aC σ (hput hdj v aC (fun h=>by cases h) (fun _=>rfl)) rfl (fun p _=>aV.same rfl) h)
   ·rename_i q v hr
    obtain⟨hq,hh⟩:=dA h
    clear h
    cases c with
    |true=>
     obtain⟨y,h1,h2⟩:=rG hR hF bg dX (e1 rfl).2 hi hr hq
     exact hs rfl y σ h1 (hk ρ _ y σ (hput hdj v y (fun _=>h2) (fun h=>by cases h)) rfl (fun p _=>aV.same rfl) hh)
    |false=>exact hs' rfl (hk ρ _ aC σ (hput hdj v aC (fun h=>by cases h) (fun _=>rfl)) rfl (fun p _=>aV.same rfl) hh)
   ·rename_i α z q f hr
    obtain⟨a,ha,hh⟩:=Option.bind_eq_some_iff.1 h
    clear h
    cases c with
    |true=>
     obtain⟨y,h1,h2⟩:=rG hR hF bg dX (e1 rfl).2 hi hr a ha
     exact hs rfl y σ h1 (hk ρ _ y σ (hput hdj _ y (fun _=>h2) (fun h=>by cases h)) rfl (fun p _=>aV.same rfl) hh)
    |false=>exact hs' rfl (hk ρ _ aC σ (hput hdj _ aC (fun h=>by cases h) (fun _=>rfl)) rfl (fun p _=>aV.same rfl) hh)
   ·exact PU h
  ·rw[hdj] at h
   exact PU h
 ·exact PU h
omit hR in
theorem Dj {ρ':aL} {st':MS R.T} {σ':ah} (h:∀p,o.dst≠some p→aV true p st ρ σ st' ρ' σ'):ρ'.om=ρ.om:=by
 cases hd:o.dst with
 |none=>exact(h 0 (by rw[hd];simp)).om
 |some d=>exact(h (d+1) (by rw[hd];simp)).om
omit hR in
theorem Ya {os:List Oper} {p:Nat} (h:aP p (iV (o::os))=false):o.dst≠some p∧aP p (iV os)=false:=by
 unfold iV at h
 split at h
 ·rename_i d hd
  have h':(Nat.beq p d||aP p (iV os))=false:=h
  rw[Bool.or_eq_false_iff] at h'
  refine⟨fun e=> ?_,h'.2⟩
  rw[hd] at e;cases e;rw[Nat.beq_refl] at h';exact absurd h'.1 (by simp)
 ·rename_i hd
  refine⟨fun e=> ?_,h⟩
  rw[hd] at e;cases e
omit hR in
theorem Dk (hi:aH ρ b st fr σ) (h:mP E st o=false):qJ E fr o=false:=by
 unfold mP at h
 unfold qJ
 split at h
 ·rename_i c hc
  rw[hc]
  dsimp only
  split at h
  ·rename_i f hf
   rw[hf]
   dsimp only
   split at h
   ·rename_i g a' b' hv
    obtain⟨va,vb,h1,_,_⟩:=(aY (E:=E) hi .nil hv).l5
    unfold jR
    rw[h1]
    split at h
    ·rename_i d hd;rw[hd];exact h
    ·rename_i hd;rw[hd]
   ·cases h
  ·rename_i hne
   split
   ·rename_i f hf;exact absurd hf (hne f)
   ·rfl
 ·rename_i hne
  split
  ·rename_i c hc;exact absurd hc (hne c)
  ·rfl
theorem ahw {k k':Sk} {l:List Sk} {c:TV R.T} {cs:List (TV R.T)} {p:aA R.T (k::k'::l)} (h:eX R (k::k'::l) (c::cs)=some p):
 ∃x q,pk R k c=some x∧eX R (k'::l) cs=some q∧p=(x,q):=by
 have h':(match pk R k c with
  |some x=>match eX R (k'::l) cs with
   |some p=>some (x,p)
   |none=>none
  |none=>none)=some p:=h
 cases hu:pk R k c with
 |none=>rw[hu] at h';cases h'
 |some u=>
  rw[hu] at h';dsimp only at h'
  cases hq:eX R (k'::l) cs with
  |none=>rw[hq] at h';cases h'
  |some q=>rw[hq] at h';cases h';exact⟨u,q,rfl,rfl,rfl⟩
theorem Yb {F:Nat→List (FR R)} (hF:aW E F) {f:Nat} {args:List (TV R.T)} {Dl:List V} (ha:aB R ρ σ.top args Dl) (hi:aH ρ b st fr σ):∀{l:List (FR R)} {τ:Ty} {x:Option (List (Den R.T τ))},(∀r∈l,r∈F f)→zn R args (lW st args) l=some ⟨τ,x⟩→
 ∀y,x=some y→∃as,su (E.sj f) σ Dl=some as∧Dl.all (fun x=>aF (er x))=true∧lU E f as (bW R τ) (y.map (aG R τ))
 | [],τ,x,_,h=>by cases h
 | ⟨as,res,G,d0,own⟩::l,τ,x,hl,h=>by
   have rest:zn R args (lW st args) l=some ⟨τ,x⟩→∀y,x=some y→∃as,su (E.sj f) σ Dl=some as∧Dl.all (fun x=>aF (er x))=true∧lU E f as (bW R τ) (y.map (aG R τ)):=fun h=>Yb hF ha hi (fun r hr=>hl r (List.mem_cons_of_mem _ hr)) h
   unfold zn at h
   split at h
   ·cases h
   ·rename_i as' τ' G' d' l' heq
    obtain⟨e1,e2⟩:=List.cons.inj heq
    subst e2
    cases e1
    split at h
    ·rename_i p hp
     obtain⟨hc,h⟩:=dA h
     cases h
     simp only[Bool.and_eq_true] at hc
     obtain⟨⟨c1,c2⟩,c3⟩:=hc
     intro y hy
     have hb:=(hF f ⟨as,[.d (.slice τ)],G',d',true⟩ (hl _ (List.mem_cons_self ..)) p y hy).2 rfl τ rfl y rfl
     cases hn:gJ as with
     |true=>
      obtain⟨b1,b2⟩:=hb.1 hn
      obtain⟨vs',v1,v2⟩:=C9 hR hi ha
      have Db:=p8 hR as p (lW st args) _ hn hp v1 20 σ (by have:=Nat.le_of_ble_eq_true c2;omega)
      exact⟨_,by rw[b1];unfold su;rw[if_neg (by simp)];exact(v2 16).trans Db,Da hR c3 ha,b2⟩
     |false=>
      obtain⟨b1,b2⟩:=hb.2 hn
      rw[hn,Bool.false_or] at c1
      cases as with
      |nil=>cases c1
      |cons k as=>
      cases k<;>first| (cases c1;done)|skip
      cases as with
      |nil=>cases c1
      |cons k' as=>
      cases args with
      |nil=>exact absurd (show none=some p from hp) (by simp)
      |cons c args=>
      obtain⟨v,vs,rfl,h1,h2⟩:=ha.dH
      have hp0:eX R (.dW::k'::as) (wL st c::lW st args)=some p:=by simpa only[lW] using hp
      obtain⟨u,q,hu,q1,hpq⟩:=ahw hR hp0
      have hc:c= .dW:=by
       have hp':(pk R .dW (wL st c)).isSome=true:=by rw[hu];rfl
       cases c<;>first|rfl|skip
       all_goals
        exfalso
        revert hp'
        unfold wL qZ
        repeat' split
        all_goals (intro h;cases h)
      subst hc
      have q2:XA (bD R (.dW::k'::as) p)= .aj .nil []::bD R (k'::as) q:=by rw[hpq];rfl
      rw[h1.nQ]
      obtain⟨vs',v1,v2⟩:=C9 hR hi h2
      have Db:=p8 hR (k'::as) q (lW st args) _ c1 q1 v1 20 σ (by have h9:=Nat.le_of_ble_eq_true c2;rw[mO] at h9;omega)
      rw[q2] at b2
      refine⟨_,by rw[b1];unfold su;rw[if_pos rfl];dsimp only;rw[v2 16,Db];rfl, ?_,b2⟩
      have:=Da hR c3 ha
      rw[h1.nQ] at this
      exact this
    ·exact rest h
   ·rename_i heq
    obtain⟨_,e2⟩:=List.cons.inj heq
    subst e2
    exact rest h
theorem ahx {β:Type} {F:Nat→List (FR R)} (hF:aW E F) (hi:aH ρ aD st fr σ) {k:MS R.T→Option β} {x:β} (h:OA R F o st k=some x) (hown:mP E st o=true) {all os:List Oper} {Q:Fr→ah→Prop} (hw:dL all fr o=some true)
 (hk:∀(ρ':aL) (st':MS R.T) (y:V) (σ':ah),aH ρ' (aD+1) st' (fr.put o.dst y) σ'→σ'.next=σ.next→(∀p,o.dst≠some p→aV true p st ρ σ st' ρ' σ')→k st'=some x→OW E all (aD+1) os (fr.put o.dst y) σ' Q):OW E all aD (o::os) fr σ Q:=by
 unfold OA at h
 split at h
 ·rename_i c d ho hd
  split at h
  ·rename_i f eU
   split at h
   ·rename_i g a' b' vs hf hvs
    split at h
    ·rename_i τ xo hfo
     obtain⟨l,hl,h⟩:=Option.bind_eq_some_iff.1 h
     obtain⟨va,vb,h1,h2,h3⟩:=(aY (E:=E) hi .nil hf).l5
     have hrel:=(h2.append (sU (E:=E) hi .nil hvs)).append h3
     obtain⟨as,has,hcl,hO⟩:=Yb hR hF hrel hi (fun _ hr=>hr) hfo l hl
     have hg:E.own g d=true:=by
      unfold mP at hown
      rw[ho] at hown
      dsimp only at hown
      rw[eU] at hown
      dsimp only at hown
      rw[hf] at hown
      dsimp only at hown
      rw[hd] at hown
      exact hown
     have hdp:∀y:V,fr.put o.dst y=fr.set d y:=fun y=>by rw[hd];rfl
     refine OW.own hw ho eU h1 hd hg has hO hcl (fun cp hcp=> ?_) ?_
     ·refine hk (ρ.fJ d aD) _ _ σ ?_ rfl ?_ h
      ·have e:σ.bV aD (σ.top aD)=σ:=by
        unfold ah.bV
        have:upd σ.top aD (σ.top aD)=σ.top:=by
         funext j;unfold upd;split
         ·rename_i e;rw[e]
         ·rfl
        rw[this]
       have:=hi.wk d aD (σ.top aD) (Nat.le_succ _) (Nat.lt_succ_self _) hi.nx (fun u _ hu=>by have:=hi.lt u _ hu;omega)
       rw[e] at this
       rw[hdp]
       refine this.put d (.of ?_)
       unfold Rl
       exact⟨cp,rfl,by rcases hcp with rfl|rfl;exact .inl rfl;exact .inr (.inl rfl)⟩
      ·intro p hp
       have e:σ.bV aD (σ.top aD)=σ:=by
        unfold ah.bV
        have:upd σ.top aD (σ.top aD)=σ.top:=by
         funext j;unfold upd;split
         ·rename_i e;rw[e]
         ·rfl
        rw[this]
       have:=(aV.wk (nr:=true) (p:=p) (t:=d) (s:=aD) (n:=σ.top aD) (ρ:=ρ) (st:=st) (σ:=σ) hi.nx)
       rw[e] at this
       exact this.congr rfl
     ·refine hk (ρ.fJ d aD) _ _ _ ?_ rfl ?_ h
      ·rw[hdp]
       have:=hi.wk d aD (l.map (aG R τ)).length (Nat.le_succ _) (Nat.lt_succ_self _) hi.nx (fun u _ hu=>by have:=hi.lt u _ hu;omega)
       refine this.put d (.of ?_)
       unfold Rl
       exact⟨_,rfl,.inr (.inr ⟨aD,rfl,by simp[aL.fJ,upd],by rw[Ck,List.length_map]⟩)⟩
      ·intro p hp
       exact(aV.wk (nr:=true) (p:=p) hi.nx).congr rfl
    ·cases h
   ·cases h
  ·cases h
 ·cases h
omit hR in
theorem Yc {o:Oper} {os:List Oper} {d:Nat} (h:o.dst=some d):aP d (iV (o::os))=true:=by
 unfold iV
 rw[h]
 show (Nat.beq d d||_)=true
 rw[Nat.beq_refl];rfl
omit hR in
theorem Yd {o:Oper} {os:List Oper} {d:Nat} (h:aP d (iV os)=true):aP d (iV (o::os))=true:=by
 unfold iV
 cases o.dst with
 |none=>exact h
 |some e=>show (Nat.beq d e||aP d (iV os))=true;rw[h,Bool.or_true]
omit hR in
theorem aV.of {nr:Bool} {o:Nat} {st st':MS R.T} {ρ ρ':aL} {σ σ':ah} (h:aV true o st ρ σ st' ρ' σ'):aV nr o st ρ σ st' ρ' σ':=⟨h.ob,h.ln,h.om,h.nx,h.lp,fun L _=>h.dp L (.inl rfl),h.ro⟩
omit hR in
theorem Kp.nr {nr Dm:Bool} {W:List Nat} {st st':MS R.T} {fr fr':Fr} {ρ ρ':aL} {σ σ':ah} (hn:Dm=true→nr=true) (h:Kp nr W st fr σ ρ st' fr' σ' ρ'):Kp Dm W st fr σ ρ st' fr' σ' ρ':=⟨h.fr,fun o ho=>⟨(h.ob o ho).ob,(h.ob o ho).ln,(h.ob o ho).om,(h.ob o ho).nx,(h.ob o ho).lp,fun L hL=>(h.ob o ho).dp L (hL.imp hn id),(h.ob o ho).ro⟩⟩
omit hR in
theorem PV (h:pU E st o=true):qG E o=false:=by
 unfold pU at h
 unfold qG
 split at h
 ·rename_i c hc
  (try rw[hc]);(try dsimp only)
  split at h
  ·rename_i f hf
   (try rw[hf])
   cases f with
   |func g=>
    have h':E.imp g=true:=h
    (try dsimp only);rw[h'];rfl
   |tmp _=>rfl
   |const _=>rfl
   | «global» _=>rfl
  ·cases h
 ·cases h
omit hR in
theorem PW {c:Call} {f:Operand} {g:FuncId} {a vb:List V} (h:qJ E fr o=false) (h1:o.op= .call c) (h2:c.callee= .value f) (h3:fr.ev E f= .fn (.func g) a vb):∀d,o.dst=some d→E.own g d=false:=by
 intro d hd
 unfold qJ at h
 rw[h1] at h;dsimp only at h
 rw[h2] at h;dsimp only at h
 unfold jR at h
 rw[h3,hd] at h
 exact h
theorem vF {om:Bool} {β:Type} {F:Nat→List (FR R)} (hF:aW E F) {M:Nat→List (FM R)} (hM:Jf E M) {all:List Oper} {k:MS R.T→Option β} {x:β} {Q:Fr→ah→Prop}:∀(os:List Oper) (aD:Nat) (ρ:aL) (st:MS R.T) (fr:Fr) (σ:ah),(∀d,aP d (iV os)=true→d<F0)→ρ.om.om=om→aH ρ aD st fr σ→aD+os.length≤σ.next→qH E R om F M all os st k=some x→
 (∀ρ' st' fr' σ',aH ρ' (aD+os.length) st' fr' σ'→σ.next≤σ'.next→Kp (os.all (qG E)) (iV os) st fr σ ρ st' fr' σ' ρ'→k st'=some x→Q fr' σ')→OW E all aD os fr σ Q
 | [],aD,ρ,st,fr,σ,hW0,bg,hi,hsn,h,hq=>OW.nil (hq ρ st fr σ hi (Nat.le_refl _) .refl h)
 |o::os,aD,ρ,st,fr,σ,hW0,bg,hi,hsn,h,hq=>by
  have dX:∀d,o.dst=some d→d<F0:=fun d hd=>hW0 d (Yc hd)
  have hW1:∀d,aP d (iV os)=true→d<F0:=fun d hd=>hW0 d (Yd hd)
  have p9:∀{σ':ah},σ.next≤σ'.next→aD+1+os.length≤σ'.next:=fun h=>by rw[List.length_cons] at hsn;omega
  have hg:=X9 (o:=o) (all:=all) hi
  unfold qH at h
  have hW:∀p,aP p (iV (o::os))=false→o.dst≠some p∧aP p (iV os)=false:=fun p hp=>Ya hp
  have hq':∀(ρ1:aL) (st1:MS R.T) (y:V) (σ1:ah),(∀p,o.dst≠some p→aV (qG E o) p st ρ σ st1 ρ1 σ1)→σ.next≤σ1.next→∀ρ' st' fr' σ',aH ρ' (aD+1+os.length) st' fr' σ'→σ1.next≤σ'.next→Kp (os.all (qG E)) (iV os) st1 (fr.put o.dst y) σ1 ρ1 st' fr' σ' ρ'→k st'=some x→Q fr' σ':=fun ρ1 st1 y σ1 hkp h1 ρ' st' fr' σ' hi' hn rH hk=>
   hq ρ' st' fr' σ' (by rw[List.length_cons,Nat.add_comm os.length,←Nat.add_assoc];exact hi') (Nat.le_trans h1 hn) (((Kp.op (fun p hp=>(hW p hp).1) hkp).nr (Dm:=(o::os).all (qG E)) (fun e=>by rw[List.all_cons,Bool.and_eq_true] at e;exact e.1)).trans ((rH.mono fun p hp=>(hW p hp).2).nr (fun e=>by rw[List.all_cons,Bool.and_eq_true] at e;exact e.2))) hk
  split at h
  ·rename_i hgm
   rw[hgm] at hg
   cases hown:mP E st o with
   |true=>
    rw[hown,cond_true] at h
    exact ahx hR hF hi h hown hg (fun ρ' st' y σ' hi' hn hkp hk=>vF hF hM os (aD+1) ρ' st' _ σ' hW1 ((congrArg Cx.om (Dj hkp)).trans bg) hi' (p9 (Nat.le_of_eq hn.symm)) hk (hq' ρ' st' y σ' (fun p hp=>(hkp p hp).of) (Nat.le_of_eq hn.symm)))
   |false=>
   rw[hown,cond_false] at h
   have dM:=Dk hi hown
   cases himp:pU E st o with
   |true=>
    rw[himp,cond_true] at h
    obtain⟨c,f,g,a,vb,e1,e2,e3,e4,n,v,σ',e5,st1,i1,i2,i3,i4⟩:=PN hR hM hi (by omega) h
    exact OW.Hl hg e1 e2 e3 e4 ⟨n,v,σ',e5,vF hF hM os (aD+1) ρ st1 _ σ' hW1 bg i1 (p9 i2) i4 (hq' ρ st1 v σ' (fun p _=>by rw[PV himp];exact i3 p) i2)⟩ (PW dM e1 e2 e3)
   |false=>
   rw[himp,cond_false] at h
   exact PO hR hF bg dX hi h (rest:=fun fr' σ'=>OW E all (aD+1) os fr' σ' Q) (fun y σ' hst hr=>hst.1 dM all os Q hg hr) (fun ρ' st' y σ' hi' hn hkp hk=>vF hF hM os (aD+1) ρ' st' _ σ' hW1 ((congrArg Cx.om (Dj hkp)).trans bg) hi' (p9 (Nat.le_of_eq hn.symm)) hk (hq' ρ' st' y σ' (fun p hp=>(hkp p hp).of) (Nat.le_of_eq hn.symm)))
  ·rename_i hgm
   rw[hgm] at hg
   refine OW.skip hg (vF hF hM os (aD+1) ρ _ _ σ hW1 bg ?_ (p9 (Nat.le_refl _)) h (hq' ρ _ aC σ (fun p _=>aV.same (by first|exact kI|rfl)) (Nat.le_refl _)))
   exact(hi.le (Nat.le_succ _)).dQ o.dst (by unfold Rl;rfl)
  ·rename_i j w c g hgm
   rw[hgm] at hg
   obtain⟨⟨n,hn⟩,hg2⟩:=hg
   cases hown:(mP E st o||mP E (st.kG g) o) with
   |true=>rw[hown] at h;cases h
   |false=>
   rw[hown,cond_false] at h
   rw[Bool.or_eq_false_iff] at hown
   have dM:=Dk hi hown.1
   cases himp:pU E (st.kG g) o with
   |true=>
    rw[himp,cond_true] at h
    obtain⟨e1,e2,e3⟩:=xk hi n j w c g hn
    cases c with
    |true=>
     rw[cond_true] at h
     obtain⟨l1,l2⟩:=Jh hi (e1 rfl).2 (Ji hi n j w g hn)
     obtain⟨c,f,g',a,vb,f1,f2,f3,f4,n',v,σ',f5,st1,i1,i2,i3,i4⟩:=PN hR hM l1 (by omega) h
     exact OW.Hl hg2 f1 f2 f3 f4 ⟨n',v,σ',f5,vF hF hM os (aD+1) ρ st1 _ σ' hW1 bg i1 (p9 i2) i4 (hq' ρ st1 v σ' (fun p _=>by rw[PV himp];exact(i3 p).from l2) i2)⟩ (PW dM f1 f2 f3)
    |false=>
     rw[cond_false] at h
     obtain⟨l1,l2⟩:=PS hi hn
     exact OW.skip hg2 (vF hF hM os (aD+1) ρ _ _ σ hW1 bg ((l1.le (Nat.le_succ _)).dQ o.dst (by unfold Rl;rfl)) (p9 (Nat.le_refl _)) h (hq' ρ _ aC σ (fun p _=>aV.same (kI.trans l2)) (Nat.le_refl _)))
   |false=>
   rw[himp,cond_false] at h
   exact ahv hR hF bg dX hi hn h (rest:=fun fr' σ'=>OW E all (aD+1) os fr' σ' Q) (fun e y σ' hst hr=>hst.1 dM all os Q (by rw[hg2,e]) hr) (fun e hr=>OW.skip (by rw[hg2,e]) hr)
    (fun ρ' st' y σ' hi' hn hkp hk=>vF hF hM os (aD+1) ρ' st' _ σ' hW1 ((congrArg Cx.om (Dj hkp)).trans bg) hi' (p9 (Nat.le_of_eq hn.symm)) hk (hq' ρ' st' y σ' (fun p hp=>(hkp p hp).of) (Nat.le_of_eq hn.symm)))
  ·cases h
def Key.mv (c:Cx):Key→Key
 |.obj l=>.obj (c.lc l.2)
 |k=>k
def bP.mv (c:Cx) (f:bP):bP:=⟨f.qo,f.mh,f.t.map (Key.mv c),f.w.map (Key.mv c)⟩
omit hR in
theorem ahy (c:Cx) (a b:Key):(a.mv c).eq (b.mv c)=a.nm.eq b.nm:=by
 cases a<;>cases b<;>try rfl
 rename_i l m
 show nZ (c.lc l.2) (c.lc m.2)=nZ (1,l.2) (1,m.2)
 by_cases e:l.2=m.2
 ·rw[e,NJ];unfold nZ;simp
 ·rw[OM c e,NJ];simp[e]
omit hR in
theorem ahz (c:Cx) (f g:bP):clash (f.mv c) (g.mv c)=clash f.nm g.nm:=by
 have hr:∀k:Key,(k.mv c).eq .rest=k.nm.eq .rest:=fun k=>by cases k<;>rfl
 have hs:∀k:Key,(k.mv c).state=k.nm.state:=fun k=>by cases k<;>rfl
 unfold clash bP.mv bP.nm
 dsimp only
 simp only[List.any_map,Function.comp_def,ahy,hr,hs]
omit hR in
theorem getD_map (h:bP→bP) (ha:h dV=dV):∀(fs:List bP) (i:Nat),(fs.map h).getD i dV=h (fs.getD i dV)
 | [],i=>by simp[ha]
 |f::fs,0=>rfl
 |f::fs,i+1=>by simpa using getD_map h ha fs i
omit hR in
theorem ahA (c:Cx) (ms:List Nat) (fs:List bP):sw ms (fs.map (bP.mv c))=sw ms (fs.map bP.nm):=by
 unfold sw Mf
 simp only[List.length_map,getD_map (bP.mv c) rfl,getD_map bP.nm rfl,ahz]
omit hR in
theorem nT (c:Cx) (l:List Key):(lq l).mv c=lq (l.map (Key.mv c)):=rfl
omit hR in
theorem rJ (c:Cx) (l:List Key):(kr l).mv c=kr (l.map (Key.mv c)):=rfl
omit hR in
theorem mv_nil (c:Cx):(lq []).mv c=lq []:=rfl
omit hR in
theorem ahB (c:Cx):dV.mv c=dV:=rfl
omit hR in
theorem ahC {top:Nat→Nat} {x:TV R.T} {v:V} (hg:x≠ .gone) (hv:∀o t,x≠ .vw o t) (h:Rl R ρ top x v):fT v=(V6 x).map (Key.mv ρ.om):=by
 cases x with
 |gone=>exact absurd rfl hg
 |opt j w y=>exact h.V9.elim
 |agg cs=>obtain⟨l,rfl,_⟩:=h.jA;rfl
 |bA cs=>obtain⟨l,rfl,_⟩:=h.Iz;rfl
 |aj c t l=>obtain⟨l,rfl,_⟩:=h.jO;rfl
 |ref p off=>obtain⟨s,_,rfl⟩:=h.mR;rfl
 |bN p=>obtain⟨s,_,rfl⟩:=h.sQ;rfl
 |aI l p=>obtain⟨s,rfl,_⟩:=h.rE;rfl
 |fn f a b=>obtain⟨a',b',rfl,_⟩:=h.l5;rfl
 |vw o t=>exact absurd rfl (hv o t)
 |jk p t i off=>obtain⟨s,_,_,rfl⟩:=h.wV;rfl
 |sv p off k n lo hi=>obtain⟨s,_,_,rfl⟩:=h.vo;rfl
 |sel p off k n i m=>obtain⟨s,_,_,_,rfl⟩:=h.CS;rfl
 |oz k n y i=>obtain⟨_,_,rfl⟩:=h.IB;rfl
 |_=>unfold Rl at h;subst h;rfl
omit hR in
theorem Ye {x:TV R.T} (h:zx x=true):x≠ .gone∧∀o t,x≠ .vw o t:=⟨(by rintro rfl;cases h),(by rintro o t rfl;cases h)⟩
omit hR in
theorem j5 (hi:aH ρ b st fr σ) {x:Operand} {v:TV R.T} (h:aZ [] st x=some v) (hg:zx v=true):(sP st x).map (Key.mv ρ.om)=fT (fr.ev E x):=by
 unfold sP
 rw[h]
 exact(ahC (Ye hg).1 (Ye hg).2 (aY hi .nil h)).symm
omit hR in
theorem Yf (hi:aH ρ b st fr σ):∀{l:List Operand} {vs:List (TV R.T)},lF [] st l=some vs→vs.all zx=true→(l.flatMap (fun x=>sP st x)).map (Key.mv ρ.om)=l.flatMap fun x=>fT (fr.ev E x)
 | [],vs,h,_=>rfl
 |x::l,vs,h,hg=>by
  unfold lF at h
  cases h1:aZ [] st x with
  |none=>simp only[h1] at h;cases h
  |some a=>
   cases h2:lF [] st l with
   |none=>simp only[h1,h2] at h;cases h
   |some as=>
    simp only[h1,h2] at h;cases h
    rw[List.all_cons,Bool.and_eq_true] at hg
    rw[List.flatMap_cons,List.flatMap_cons,List.map_append,j5 (E:=E) hi h1 hg.1,Yf hi h2 hg.2]
omit hR in
theorem ahD {om:Bool} {β:Type} {F:Nat→List (FR R)} {k:MS R.T→Option β} {x:β} (h:runM E R om F o st k=some x) (hp:∀c a b,o.op≠ .pick c a b) (hl:∀t m y ok,o.op≠ .lookup t m y ok) (hst:∀t a y,o.op≠ .store t a y):∃r,rz E R om F [] o.dst o.op st=some r:=by
 unfold runM at h
 split at h
 ·rename_i c a b hop;exact absurd hop (hp _ _ _)
 ·rename_i t a y hop;exact absurd hop (hst _ _ _)
 ·rename_i t m y ok hop;exact absurd hop (hl _ _ _ _)
 ·cases hr:rz E R om F [] o.dst o.op st with
  |some r=>exact⟨r,rfl⟩
  |none=>rw[hr] at h;cases h
omit hR in
theorem tH {om:Bool} {F:Nat→List (FR R)} {g:List (Nat×Bool)} {d:Option Nat} {op:Op} {r:dG R} (h:rz E R om F g d op st=some r):nO E R g d op st=some r∨oL E R om F g d op st=some r:=by
 unfold rz at h
 split at h
 ·rename_i r' hx;cases h;exact .inl hx
 ·exact .inr h
omit hR in
theorem Yg {top:Nat→Nat}:∀{x:List (TV R.T)} {v:List V},Iw x=true→aB R ρ top x v→v.all (fun a=>aF (er a))=false
 | [],_,h,_=>by cases h
 |x::l,v,h,hr=>by
  obtain⟨y,ys,rfl,h1,h2⟩:=hr.dH
  rw[List.all_cons]
  by_cases e:∃o off k n lo hi,x= .sv o off k n lo hi
  ·obtain⟨o,off,k,n,lo,hi,rfl⟩:=e
   obtain⟨s,_,_,rfl⟩:=h1.vo
   simp[er,aF]
  ·have h':Iw l=true:=by
    cases x<;>first|exact h|exact absurd ⟨_,_,_,_,_,_,rfl⟩ e
   rw[Yg h' h2,Bool.and_false]
omit hR in
theorem Jj (hi:aH ρ b st fr σ) (dX:∀d,o.dst=some d→d<F0):(Iu o).map (Key.mv ρ.om)=og fr o:=by
 unfold Iu og
 cases hd:o.dst with
 |none=>rfl
 |some d=>dsimp only;rw[hi.at (dX d hd)];rfl
theorem ahE {om:Bool} {β:Type} {F:Nat→List (FR R)} (bg:ρ.om.om=om) (dX:∀d,o.dst=some d→d<F0) (hi:aH ρ b st fr σ) {k:MS R.T→Option β} {x:β} (h:runM E R om F o st k=some x) (hd:vk E st o=true):(CJ E om st o).mv ρ.om=gD E fr o:=by
 unfold CJ gD
 have hop:=ahD h
 cases ho:o.op<;>rw[ho] at hop<;>dsimp only<;>(try exact mv_nil _)<;>(try exact ahB _)
 case load t a=>
  obtain⟨r,hr⟩:=hop (by simp) (by simp) (by simp)
  rcases tH hr with hr|hr
  ·unfold nO at hr;dsimp only at hr
   split at hr
   ·rename_i gl _
    split at hr
    ·rename_i k n v hg
     obtain⟨cs,_,g1,_⟩:=Py hg
     have e1:sP st (Operand.global gl)=[]:=rfl
     have e2:fT (fr.ev E (.global gl))=[]:=by rw[PD hR g1];rfl
     rw[nT,e1,e2];rfl
    ·cases hr
   ·split at hr
    ·rename_i hv;rw[nT,j5 (E:=E) hi hv rfl]
    ·rename_i hv;rw[nT,j5 (E:=E) hi hv rfl]
    ·rename_i hv;rw[nT,j5 (E:=E) hi hv rfl]
    ·cases hr
  unfold oL at hr;dsimp only at hr
  split at hr
  ·rename_i hv;rw[nT,j5 (E:=E) hi hv rfl]
  ·rename_i hv;rw[nT,j5 (E:=E) hi hv rfl]
  ·rename_i hv;rw[nT,j5 (E:=E) hi hv rfl]
  ·cases hr
 case store t a y=>
  have h':=h
  unfold runM at h'
  rw[ho] at h'
  dsimp only at h'
  split at h'
  ·rename_i hst
   unfold Oy at hst
   split at hst
   ·rename_i hv _;rw[rJ,j5 (E:=E) hi hv rfl]
   ·cases hst
  ·split at h'
   ·rename_i hr
    rcases tH hr with hr|hr
    ·unfold nO at hr;dsimp only at hr
     split at hr
     ·rename_i hv _;rw[rJ,j5 (E:=E) hi hv rfl]
     ·rename_i hv _;rw[rJ,j5 (E:=E) hi hv rfl]
     ·cases hr
    unfold oL at hr;dsimp only at hr
    split at hr
    ·rename_i hv _;rw[rJ,j5 (E:=E) hi hv rfl]
    ·cases hr
   ·cases h'
 case convert a b' y=>
  obtain⟨r,hr⟩:=hop (by simp) (by simp) (by simp)
  rcases tH hr with hr|hr
  ·unfold nO at hr;dsimp only at hr
   split at hr
   ·rename_i hv;rw[nT,j5 (E:=E) hi hv rfl]
   ·cases hr
  unfold oL at hr;dsimp only at hr
  split at hr
  ·rename_i v hv
   rw[nT,j5 (E:=E) hi hv (by
    unfold Ic at hr
    split at hr<;>first|rfl|cases hr)]
  ·cases hr
 case slice t y lo hi' mx=>
  obtain⟨r,hr⟩:=hop (by simp) (by simp) (by simp)
  cases mx with
  |some m=>
   rcases tH hr with hr|hr
   ·cases hi' with
    |none=>unfold nO at hr;cases hr
    |some h1=>
     unfold nO at hr
     dsimp only at hr
     split at hr
     ·rename_i hv _ _ _;rw[nT,j5 (E:=E) hi hv rfl]
     ·cases hr
   ·unfold oL at hr;cases hr
  |none=>
   rcases tH hr with hr|hr
   ·unfold nO at hr;dsimp only at hr
    split at hr
    ·rename_i v hv
     have key:∀lo hi,u7 E R t v lo hi st=some r→zx v=true:=by
      intro lo hi hs
      unfold u7 at hs
      split at hs<;>first|rfl|cases hs
     rw[nT,j5 (E:=E) hi hv (by
      split at hr
      ·exact key _ _ hr
      ·split at hr
       ·exact key _ _ hr
       ·cases hr
      ·split at hr
       ·exact key _ _ hr
       ·cases hr
      ·split at hr
       ·exact key _ _ hr
       ·cases hr)]
    ·cases hr
   unfold oL at hr;dsimp only at hr
   split at hr
   ·rename_i v hv
    have key:∀lo hi,uX E R t v lo hi=some r→zx v=true:=by
     intro lo hi hs
     unfold uX at hs
     split at hs
     ·split at hs<;>first|rfl|cases hs
     ·cases hs
    rw[nT,j5 (E:=E) hi hv (by
     split at hr
     ·exact key _ _ hr
     ·split at hr
      ·exact key _ _ hr
      ·cases hr
     ·split at hr
      ·exact key _ _ hr
      ·cases hr
     ·split at hr
      ·exact key _ _ hr
      ·cases hr)]
   ·cases hr
 case lookup t m y ok=>
  have h':=h
  unfold runM at h'
  rw[ho] at h'
  dsimp only at h'
  split at h'
  ·rename_i hsm
   unfold Ox at hsm
   split at hsm
   ·rename_i hv;rw[nT,j5 (E:=E) hi hv rfl]
   ·cases hsm
  ·split at h'
   ·rename_i hr
    rcases tH hr with hr|hr
    ·unfold nO at hr;cases hr
    unfold oL at hr;dsimp only at hr
    split at hr
    ·rename_i hv _
     rw[nT,j5 (E:=E) hi hv (by
      unfold Ie at hr
      split at hr<;>first|rfl|cases hr)]
    ·cases hr
   ·cases h'
 case mapUpdate t m k' v=>
  obtain⟨r,hr⟩:=hop (by simp) (by simp) (by simp)
  rcases tH hr with hr|hr
  ·unfold nO at hr;cases hr
  unfold oL at hr;dsimp only at hr
  split at hr
  ·rename_i hv _ _
   rw[rJ,j5 (E:=E) hi hv (by
    unfold za at hr
    split at hr<;>first|rfl|cases hr)]
  ·cases hr
 case insert t m k' v=>
  obtain⟨r,hr⟩:=hop (by simp) (by simp) (by simp)
  rcases tH hr with hr|hr
  ·unfold nO at hr;cases hr
  unfold oL at hr;dsimp only at hr
  split at hr
  ·rename_i hv _ _
   rw[rJ,j5 (E:=E) hi hv (by
    unfold za at hr
    split at hr<;>first|rfl|cases hr)]
  ·cases hr
 case alloc t=>rw[rJ];exact congrArg kr (Jj hi dX)
 case box t y=>rw[rJ];exact congrArg kr (Jj hi dX)
 case makeMap t y=>rw[rJ];exact congrArg kr (Jj hi dX)
 case makeSlice t y z=>rw[rJ];exact congrArg kr (congrArg (Key.top:: ·) (Jj hi dX))
 case call c=>
  obtain⟨r,hr⟩:=hop (by simp) (by simp) (by simp)
  unfold vk at hd;rw[Bool.and_eq_true,Bool.not_eq_true'] at hd
  obtain⟨hown,hd⟩:=hd
  rw[ho] at hd;dsimp only at hd
  cases hc:c.callee with
  |invoke y m=>rfl
  |builtin bi=>
   rw[hc] at hd;dsimp only at hd
   split at hd
   ·rename_i vs hvs
    have:=Yf (E:=E) hi hvs hd
    cases bi<;>dsimp only<;>(try rw[←this])<;>(try rfl)
    rw[hi.om,bg];cases om<;>rfl
   ·cases hd
  |value f=>
   rcases tH hr with hr|hr
   ·unfold nO at hr;dsimp only at hr;rw[hc] at hr;cases hr
   unfold oL at hr;dsimp only at hr
   rw[hc] at hd hr;dsimp only at hd hr
   split at hd
   ·rename_i f' a' b' vs hf hvs
    simp only[hf,hvs] at hr
    cases himp:E.imp f' with
    |true=>rw[himp] at hr;cases hr
    |false=>
     obtain⟨va,vb,h1,h2,h3⟩:=(aY (E:=E) hi .nil hf).l5
     dsimp only;rw[hf,h1];dsimp only
     have dM:jR E fr o f=false:=by
      have:=Dk hi hown
      unfold qJ at this
      rw[ho] at this;dsimp only at this
      rw[hc] at this;exact this
     simp only[himp,dM,Bool.false_eq_true,if_false]
     rw[hvs];dsimp only
     have hrel:=(h2.append (sU (E:=E) hi .nil hvs)).append h3
     cases hcl:uV (a'++vs++b') with
     |true=>rw[Da hR hcl hrel];rfl
     |false=>
      rw[hcl,Bool.false_or] at hd
      rw[Yg hd hrel];rfl
   ·cases hd
omit hR in
theorem PX (c:Cx) (all:List Oper) (o:Oper):(qp all o).map (Key.mv c)=qp all o:=by
 have key:∀l:List Key,(∀k∈l,∃t,k= .slot t)→l.map (Key.mv c)=l:=by
  intro l
  induction l with
  |nil=>intro _;rfl
  |cons k l ih=>
   intro h
   obtain⟨t,e⟩:=h k (List.mem_cons_self ..)
   rw[List.map_cons,ih fun k hk=>h k (List.mem_cons_of_mem _ hk),e];rfl
 refine key _ fun k hk=> ?_
 unfold qp at hk
 rw[List.mem_append] at hk
 rcases hk with hk|hk
 ·rw[List.mem_filterMap] at hk
  obtain⟨a,_,ha⟩:=hk
  split at ha
  ·cases ha;exact⟨_,rfl⟩
  ·cases ha
 ·split at hk
  ·split at hk
   ·exact⟨_,List.mem_singleton.1 hk⟩
   ·cases hk
  ·cases hk
omit hR in
theorem PY (c:Cx) (o:Oper):(ku o).map (Key.mv c)=ku o:=by
 unfold ku
 cases o.dst<;>rfl
omit hR in
theorem Yh {c:Cx} (f:bP) (a b:List Key) (ha:a.map (Key.mv c)=a) (hb:b.map (Key.mv c)=b):bP.mv c ⟨f.qo,f.mh,a++f.t,b++f.w⟩=⟨(f.mv c).qo,(f.mv c).mh,a++(f.mv c).t,b++(f.mv c).w⟩:=by
 unfold bP.mv
 dsimp only
 rw[List.map_append,List.map_append,ha,hb]
theorem ahF {om:Bool} {β:Type} {F:Nat→List (FR R)} (bg:ρ.om.om=om) (dX:∀d,o.dst=some d→d<F0) (hi:aH ρ b st fr σ) {k:MS R.T→Option β} {x:β} {all:List Oper} (h:runM E R om F o st k=some x) (hd:vk E st o=true):(mQ E om all st o true).mv ρ.om=eP E all fr o true:=by
 have key:=ahE hR bg dX hi h hd
 unfold mQ eP
 rw[if_pos rfl,if_pos rfl,←key]
 exact Yh _ _ _ (PX _ _ _) (PY _ _)
omit hR in
theorem Yi {om:Bool} {all:List Oper} {c:Cx}:(mQ E om all st o false).mv c=eP E all fr o false:=by
 unfold mQ eP bP.mv
 rw[if_neg (by simp),if_neg (by simp)]
 dsimp only
 rw[PX,PY]
omit hR in
theorem ahG {om:Bool} {all:List Oper} {c:Call} {f:Operand} {g:FuncId} {a vb:List V} (hi:aH ρ b st fr σ) (himp:pU E st o=true) (dM:qJ E fr o=false) (h1:o.op= .call c) (h2:c.callee= .value f) (h3:fr.ev E f= .fn (.func g) a vb) (h4:E.imp g=true):(mQ E om all st o true).mv ρ.om=eP E all fr o true:=by
 have key:(CJ E om st o).mv ρ.om=gD E fr o:=by
  unfold pU at himp
  rw[h1] at himp;dsimp only at himp
  rw[h2] at himp;dsimp only at himp
  unfold qJ at dM
  rw[h1] at dM;dsimp only at dM
  rw[h2] at dM;dsimp only at dM
  unfold CJ gD
  rw[h1];dsimp only
  rw[h2];dsimp only
  rw[dM,h3]
  split at himp
  ·rename_i g' a' b' hf
   (try rw[hf])
   (try dsimp only)
   rw[if_pos himp,if_neg (by simp)]
   (try dsimp only)
   rw[if_pos h4]
   rfl
  ·cases himp
 unfold mQ eP
 rw[if_pos rfl,if_pos rfl,←key]
 exact Yh _ _ _ (PX _ _ _) (PY _ _)
theorem Dn {om:Bool} {β:Type} {F:Nat→List (FR R)} (hF:aW E F) {M:Nat→List (FM R)} (hM:Jf E M) {ms:List Nat} {all:List Oper} {k:MS R.T→Option β} {x:β} {Q:Fr→ah→Prop}:∀(os:List Oper) (aD:Nat) (ρ:aL) (st:MS R.T) (fr:Fr) (σ:ah) (fs:List bP),(∀d,aP d (iV os)=true→d<F0)→ρ.om.om=om→aH ρ aD st fr σ→aD+os.length≤σ.next→nP E R om F M ms all os st fs k=some x→
 (∀ρ' st' fr' σ',aH ρ' (aD+os.length) st' fr' σ'→σ.next≤σ'.next→Kp (os.all (qG E)) (iV os) st fr σ ρ st' fr' σ' ρ'→k st'=some x→Q fr' σ')→dN E ms all aD os fr σ (fs.map (bP.mv ρ.om)) Q
 | [],aD,ρ,st,fr,σ,fs,hW0,bg,hi,hsn,h,hq=>by
   unfold nP at h
   obtain⟨h1,h⟩:=dA h
   exact dN.nil (by rw[ahA];exact h1) (hq ρ st fr σ hi (Nat.le_refl _) .refl h)
 |o::os,aD,ρ,st,fr,σ,fs,hW0,bg,hi,hsn,h,hq=>by
  have dX:∀d,o.dst=some d→d<F0:=fun d hd=>hW0 d (Yc hd)
  have hW1:∀d,aP d (iV os)=true→d<F0:=fun d hd=>hW0 d (Yd hd)
  have p9:∀{σ':ah},σ.next≤σ'.next→aD+1+os.length≤σ'.next:=fun h=>by rw[List.length_cons] at hsn;omega
  have hg:=X9 (o:=o) (all:=all) hi
  unfold nP at h
  have hW:∀p,aP p (iV (o::os))=false→o.dst≠some p∧aP p (iV os)=false:=fun p hp=>Ya hp
  have hq':∀(ρ1:aL) (st1:MS R.T) (y:V) (σ1:ah),(∀p,o.dst≠some p→aV (qG E o) p st ρ σ st1 ρ1 σ1)→σ.next≤σ1.next→∀ρ' st' fr' σ',aH ρ' (aD+1+os.length) st' fr' σ'→σ1.next≤σ'.next→Kp (os.all (qG E)) (iV os) st1 (fr.put o.dst y) σ1 ρ1 st' fr' σ' ρ'→k st'=some x→Q fr' σ':=fun ρ1 st1 y σ1 hkp h1 ρ' st' fr' σ' hi' hn rH hk=>
   hq ρ' st' fr' σ' (by rw[List.length_cons,Nat.add_comm os.length,←Nat.add_assoc];exact hi') (Nat.le_trans h1 hn) (((Kp.op (fun p hp=>(hW p hp).1) hkp).nr (Dm:=(o::os).all (qG E)) (fun e=>by rw[List.all_cons,Bool.and_eq_true] at e;exact e.1)).trans ((rH.mono fun p hp=>(hW p hp).2).nr (fun e=>by rw[List.all_cons,Bool.and_eq_true] at e;exact e.2))) hk
  have run:∀(st1:MS R.T),st1.ob=st.ob→aH ρ aD st1 fr σ→dL all fr o=some true→(bif pU E st1 o then (bif mP E st1 o then none else wR R M o st1 (fun st'=>nP E R om F M ms all os st' (fs++[mQ E om all st1 o true]) k)) else bif !(vk E st1 o) then none else runM E R om F o st1 (fun st'=>nP E R om F M ms all os st' (fs++[mQ E om all st1 o true]) k))=some x→dN E ms all aD (o::os) fr σ (fs.map (bP.mv ρ.om)) Q:=by
   intro st1 uL hi hg h
   have hkq:∀(st':MS R.T) (ρ':aL) (σ':ah),(∀p,o.dst≠some p→aV true p st1 ρ σ st' ρ' σ')→∀p,o.dst≠some p→aV true p st ρ σ st' ρ' σ':=fun st' ρ' σ' h p hp=>(h p hp).from uL
   cases himp:pU E st1 o with
   |true=>
    rw[himp,cond_true] at h
    cases hown:mP E st1 o with
    |true=>rw[hown] at h;cases h
    |false=>
    rw[hown,cond_false] at h
    have dM:=Dk hi hown
    obtain⟨c,f,g',a,vb,f1,f2,f3,f4,n',v,σ',f5,st2,i1,i2,i3,i4⟩:=PN hR hM hi (by omega) h
    have hf:=ahG (om:=om) (all:=all) hi himp dM f1 f2 f3 f4
    refine dN.Hl hg f1 f2 f3 f4 ⟨n',v,σ',f5, ?_⟩ (PW dM f1 f2 f3)
    have:=Dn hF hM os (aD+1) ρ st2 _ σ' _ hW1 bg i1 (p9 i2) i4 (hq' ρ st2 v σ' (fun p _=>by rw[PV himp];exact(i3 p).from uL) i2)
    rw[List.map_append,List.map_cons,List.map_nil,hf] at this
    exact this
   |false=>
   rw[himp,cond_false] at h
   cases hd:vk E st1 o
   ·rw[hd] at h;cases h
   ·rw[hd] at h
    have h':runM E R om F o st1 (fun st'=>nP E R om F M ms all os st' (fs++[mQ E om all st1 o true]) k)=some x:=h
    have hf:=ahF hR (all:=all) bg dX hi h' hd
    exact PO hR hF bg dX hi h' (rest:=fun fr' σ'=>dN E ms all (aD+1) os fr' σ' (fs.map (bP.mv ρ.om)++[eP E all fr o true]) Q) (fun y σ' hst hr=>hst.2 (Dk hi (by unfold vk at hd;rw[Bool.and_eq_true,Bool.not_eq_true'] at hd;exact hd.1)) ms all os (fs.map (bP.mv ρ.om)) Q hg hr) (fun ρ' st' y σ' hi' hn hkp hk=>by
     have:=Dn hF hM os (aD+1) ρ' st' _ σ' _ hW1 ((congrArg Cx.om (Dj hkp)).trans bg) hi' (p9 (Nat.le_of_eq hn.symm)) hk (hq' ρ' st' y σ' (fun p hp=>(hkq st' ρ' σ' hkp p hp).of) (Nat.le_of_eq hn.symm))
     rw[Dj hkp,List.map_append,List.map_cons,List.map_nil,hf] at this
     exact this)
  split at h
  ·rename_i hgm
   rw[hgm] at hg
   exact run st rfl hi hg h
  ·rename_i hgm
   rw[hgm] at hg
   have:=Dn hF hM os (aD+1) ρ _ _ σ _ hW1 bg ((hi.le (Nat.le_succ _)).dQ o.dst (by unfold Rl;rfl)) (p9 (Nat.le_refl _)) h (hq' ρ _ aC σ (fun p _=>aV.same (by first|exact kI|rfl)) (Nat.le_refl _))
   rw[List.map_append,List.map_cons,List.map_nil,Yi (fr:=fr)] at this
   exact dN.skip hg this
  ·rename_i j w c g hgm
   rw[hgm] at hg
   obtain⟨⟨n,hn⟩,hg2⟩:=hg
   obtain⟨e1,e2,e3⟩:=xk hi n j w c g hn
   cases c with
   |true=>
    obtain⟨l1,l2⟩:=Jh hi (e1 rfl).2 (Ji hi n j w g hn)
    exact run (st.kG g) l2 l1 hg2 h
   |false=>
    obtain⟨l1,l2⟩:=PS hi hn
    have:=Dn hF hM os (aD+1) ρ _ _ σ _ hW1 bg ((l1.le (Nat.le_succ _)).dQ o.dst (by unfold Rl;rfl)) (p9 (Nat.le_refl _)) h (hq' ρ _ aC σ (fun p _=>aV.same (kI.trans l2)) (Nat.le_refl _))
    rw[List.map_append,List.map_cons,List.map_nil,Yi (fr:=fr)] at this
    exact dN.skip hg2 this
  ·cases h
end
end Aq
end
section
namespace Aq
open Go
section
variable {E:Env} {fr:Fr} {σ:ah}
def ah.enter (σ:ah) (fr:Fr) (ps:Array Tmp) (dB body:Code):ah:=({σ with next:=σ.next+1}:ah).eB σ.next {st:=0,pend:=none,fr:=fr,ps:=ps.toList,dB:=dB,body:=body}
def vG (E:Env) (l:Nat) (args:List V) (σ:ah) (b:Bool) (σ':ah):Prop:=∃n,qm (dw E n) l args σ=some (.bool b,σ')
theorem CW.range {f:Operand} {ps:Array Tmp} {dB body:Code} {g:FuncId} {a b:List V} {Q:Ex→Fr→ah→Prop} (hf:fr.ev E f= .fn (.func g) a b) (hi:E.imp g=true)
 (h:kE E g (a++[.fn (.yield σ.next) [] []]++b) (fr.d+1) (σ.enter fr ps dB body) (fun _ σ2=> ∃r,σ2.loops σ.next=some r∧r.st≠1∧Q (match r.pend with|none=>.normal|some e=>e) fr (σ2.kK σ.next))):CW E (.rangeFunc f ps dB body) fr σ Q:=by
 obtain⟨n,v,σ2,h1,r,h2,h3,h4⟩:=h
 refine⟨n,_,fr,_, ?_,h4⟩
 have h1':gH E (dw E n) fr.d (σ.enter fr ps dB body) (.fn (.func g) a b) [.fn (.yield σ.next) [] []]=some (v,σ2):=by
  unfold gH;simp only[hi,if_true];exact h1
 unfold bZ
 rw[hf]
 simp only[Mg,if_true]
 unfold ah.enter at h1'
 rw[h1']
 simp only[Option.bind_some,h2,if_neg h3]
 cases r.pend<;>rfl
theorem vG.of {l:Nat} {args:List V} {r:l8} {b:Bool} {σ':ah} (hl:σ.loops l=some r) (hst:r.st=0) (hlen:r.ps.length=args.length)
 (h:CW E r.dB {r.fr with tm:=(r.ps.zip args).foldl (fun tm (p,a)=>upd tm p a) r.fr.tm} σ (fun e bQ σ1=>e= .normal∧∃r1,σ1.loops l=some r1∧r1.st=0∧
   CW E r.body bQ (σ1.eB l {r1 with st:=1}) (fun e _ σ2=> ∃r2,σ2.loops l=some r2∧r2.st=1∧match e with
    |.normal=>b=true∧σ'=σ2.eB l {r2 with st:=0,pend:=none}
    |e=>b=false∧σ'=σ2.eB l {r2 with st:=2,pend:=some e}))):vG E l args σ b σ':=by
 obtain⟨n,e,bQ,σ1,h1,rfl,r1,hl1,hs1,m,e2,d9,σ2,h2,r2,hl2,hs2,h3⟩:=h
 have h1':(dw E (max n m+1)).code r.dB {r.fr with tm:=(r.ps.zip args).foldl (fun tm (p,a)=>upd tm p a) r.fr.tm} σ=some (.normal,bQ,σ1):=wE (jK (Nat.le_max_left n m)) _ _ _ _ h1
 have h2':(dw E (max n m+1)).code r.body bQ (σ1.eB l {r1 with st:=1})=some (e2,d9,σ2):=wE (jK (Nat.le_max_right n m)) _ _ _ _ h2
 refine⟨max n m+1, ?_⟩
 unfold qm
 simp only[hl,Option.bind_some,hst,hlen,and_self,if_true,h1',hl1,hs1,h2',hl2,hs2]
 cases e2 with
 |normal=>obtain⟨rfl,rfl⟩:=h3;rfl
 |exit i=>obtain⟨rfl,rfl⟩:=h3;rfl
 |ret=>obtain⟨rfl,rfl⟩:=h3;rfl
theorem OW.yield {all:List Oper} {st:Nat} {o:Oper} {os:List Oper} {Q:Fr→ah→Prop} {c:Call} {f:Operand} {l:Nat} {b:Bool} {σ1:ah} (hw:dL all fr o=some true) (ho:o.op= .call c) (eU:c.callee= .value f)
 (hf:fr.ev E f= .fn (.yield l) [] []) (hr:vG E l (c.args.toList.map (fr.ev E)) σ b σ1) (h:OW E all (st+1) os (fr.put o.dst (.bool b)) σ1 Q):OW E all st (o::os) fr σ Q:=by
 obtain⟨n,fr',σ',h1,h2⟩:=h
 obtain⟨m,hm⟩:=hr
 have hm':=NC (jK (Nat.le_max_right n m)) hm
 have h1':=Ci (jK (Nat.le_max_left n m)) _ _ _ _ _ _ h1
 refine⟨max n m,fr',σ', ?_,h2⟩
 have:gH E (dw E (max n m)) fr.d σ (.fn (.yield l) [] []) (c.args.toList.map (fr.ev E))=some (.bool b,σ1):=by
  unfold gH;exact hm'
 have dM:jR E fr o f=false:=by unfold jR;rw[hf]
 simp only[opsE,hw,Option.bind_some,if_true,opC,ho,eU,dM,Bool.false_eq_true,if_false,hf,this,Option.map_some,h1']
structure Shift (d:Nat) (σ σ':ah):Prop where
 next:σ.next≤σ'.next
 top:∀s,s<σ.next→σ'.top s=σ.top s
 loops:∀l,l<σ.next→σ'.loops l=σ.loops l
 obj:∀a o,a≤d→σ'.obj (a,o)=σ.obj (a,o)
theorem Shift.refl {d:Nat} {σ:ah}:Shift d σ σ:=⟨Nat.le_refl _,fun _ _=>rfl,fun _ _=>rfl,fun _ _ _=>rfl⟩
theorem Shift.trans {d:Nat} {σ σ' jE:ah} (h:Shift d σ σ') (g:Shift d σ' jE):Shift d σ jE:=
 ⟨Nat.le_trans h.next g.next,fun s hs=>(g.top s (Nat.lt_of_lt_of_le hs h.next)).trans (h.top s hs),fun s hs=>(g.loops s (Nat.lt_of_lt_of_le hs h.next)).trans (h.loops s hs),fun a o ha=>(g.obj a o ha).trans (h.obj a o ha)⟩
def Dp (E:Env) (f:FuncId) (a b:List V) (L:List (List V)):Prop:=∀(d l:Nat) (σ:ah) (J:List (List V)→ah→Prop) (D:ah→Prop),
 (∀xs σ σ',l<σ.next→J xs σ→Shift d σ σ'→J xs σ')→(∀σ σ',l<σ.next→D σ→Shift d σ σ'→D σ')→
 (∀x xs σ,l<σ.next→J (x::xs) σ→∃c σ',vG E l x σ c σ'∧σ.next≤σ'.next∧(∀a o,d<a→σ'.obj (a,o)=σ.obj (a,o))∧(∀s,s<σ.next→σ'.loops s=σ.loops s∨s=l)∧(c=true→J xs σ')∧(c=false→D σ'))→
 l<σ.next→J L σ→kE E f (a++[.fn (.yield l) [] []]++b) (d+1) σ fun _ σ'=>σ.next≤σ'.next∧(J [] σ'∨D σ')
end
end Aq
end
