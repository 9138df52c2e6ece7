/- Part of the proof of a law. -/
import Derived.Test.YtdcnajadcbedkaaGreatDoorS1210
set_option linter.all false
section
namespace Aq
open Go
section
variable {R:iH} {E:Env}
variable {ρ:aN} {b ay:Nat} {st:MS R.T} {fr:Fr} {σ:ah} {o:Oper}
theorem ajv {j:Nat} {t:Bool} (h:bB [] st (.tmp j)=some (.bool t)):look st.fr j=some (.bool t):=by
 unfold bB at h
 dsimp only at h
 split at h
 ·rename_i v hv
  cases v<;>first| (cases h;exact hv)| (simp[K7,look] at h;done)
 ·cases h
variable (hR:nR R)
include hR
omit hR in
theorem ZW {β:Type} {top:Nat->Nat} {x z:TV R.T} {v zv:V} {k:TV R.T->Bool->Option β} {res:β} (hx:Rl R ρ top x v) (hz:Rl R ρ top z zv):∀{ks vs:List (TV R.T)} {kl vl:List V},Lx x ks vs z k=some res->au R ρ top ks kl->au R ρ top vs vl->
 ∃y b w r,Rl R ρ top y w/\og v kl vl=some r/\((r=none->w=zv/\b=false)/\∀u,r=some u->w=u/\b=true)/\k y b=some res
 | [],[],kl,vl,h,h1,h2=>by
   rw[h1.fB,h2.fB]
   exact⟨z,false,zv,none,hz,rfl,⟨fun _=>⟨rfl,rfl⟩,fun u h=>by cases h⟩,h⟩
 | [],_::_,_,_,h,_,_=>by cases h
 |_::_,[],_,_,h,_,_=>by cases h
 |a::ks,b::vs,kl,vl,h,h1,h2=>by
  obtain⟨k0,k',rfl,g1,g2⟩:=h1.dN
  obtain⟨l0,l',rfl,g3,g4⟩:=h2.dN
  unfold Lx at h
  split at h
  ·rename_i c hc
   have he:=ZB hc hx g1
   cases c with
   |true=>exact⟨b,true,l0,some l0,g3,by simp[og,he],⟨fun h=>(by cases h),fun u h=>by cases h;exact⟨rfl,rfl⟩⟩,h⟩
   |false=>
    obtain⟨y,bb,w,r,e1,e2,e3,e4⟩:=ZW hx hz h g2 g4
    exact⟨y,bb,w,r,e1,by simp[og,he,e2],e3,e4⟩
  ·cases h
theorem Tw {om:Bool} {β:Type} {F:Nat->List (FR R)} (hF:bH E F) (bq:ρ.om.om=om) (fH:∀d,o.dst=some d->d<F0) (hi:aH ρ ay st fr σ) {k:MS R.T->Option β} {x:β} (h:runM E R om F o st k=some x) {G:Prop} {rest:Fr->ah->Prop}
 (hs:∀y σ',lQ E fr σ ay o y σ'->rest (fr.put o.dst y) σ'->G) (hk:∀ρ' st' y σ',aH ρ' (ay+1) st' (fr.put o.dst y) σ'->σ'.next=σ.next->(∀p,o.dst≠some p->aY true p st ρ σ st' ρ' σ')->k st'=some x->rest (fr.put o.dst y) σ'):G:=by
 have hi1:=hi.le (adh ay)
 unfold runM at h
 split at h
 ·rename_i c a' b' hop
  split at h
  ·rename_i t hc
   have hc':=(bf (E:=E) hi .nil hc).tJ
   split at h
   ·rename_i v hv
    refine hs _ _ (.gV (Dn hop hc')) (hk ρ _ _ σ (hi1.fA o.dst ?_) rfl (fun p _=>aY.same (by first|exact l6|rfl)) h)
    cases t
    ·exact bf (E:=E) hi .nil hv
    ·exact bf (E:=E) hi .nil hv
   ·cases h
  ·rename_i t hc
   have hc':=(bf (E:=E) hi .nil hc).pY
   split at h
   ·rename_i j
    have hj:=hc'
    rw[BR] at hj
    split at h
    ·rename_i x' y' hx hy
     split at h
     ·rename_i v hv
      refine hs _ _ (.gV (Dn hop hc')) (hk ρ _ _ σ (hi1.fA o.dst ?_) rfl (fun p _=>aY.same (by first|exact l6|rfl)) h)
      cases t
      ·exact ZA hv (bf (E:=E) hi (.cons hj .nil) hy)
      ·exact Zz hv (bf (E:=E) hi (.cons hj .nil) hx)
     ·cases t
      ·exact hs _ _ (.gV (Dn hop hc')) (hk ρ _ _ σ ((hi1.learn hj).fA o.dst (bf (E:=E) hi (.cons hj .nil) hy)) rfl (fun p _=>aY.same (by first|exact l6|rfl)) h)
      ·exact hs _ _ (.gV (Dn hop hc')) (hk ρ _ _ σ ((hi1.learn hj).fA o.dst (bf (E:=E) hi (.cons hj .nil) hx)) rfl (fun p _=>aY.same (by first|exact l6|rfl)) h)
    ·cases h
   ·cases h
  ·cases h
 ·rename_i t a y hop
  split at h
  ·rename_i τ p i off l v hst
   unfold RZ at hst
   split at hst
   ·rename_i p' τ1 i' off' v' ha hv
    split at hst
    ·rename_i τ' l0 sz hl hsz
     split at hst
     ·rename_i l1 hl1
      obtain⟨hc,hst⟩:=dO hst
      cases hst
      obtain⟨e,e2⟩:=qP hl1;subst e;cases e2
      simp only[aan] at hc
      obtain⟨⟨⟨c1,c2⟩,c3⟩,c4⟩:=hc
      obtain⟨z,hz,h⟩:=iR.1 h
      split at h
      ·rename_i y' hu
       obtain⟨s,h1,_,h2⟩:=(bf (E:=E) hi .nil ha).zM
       obtain⟨h6,h7⟩:=uJ c4 (bf (E:=E) hi .nil hv)
       have hO:=hi.ob _ _ hl
       obtain⟨cs,k1,k2,k3,k4⟩:=aiP hR hO h1 hz h6 (ae3 c2) hu
       refine hs aC (σ.setObj (ρ.om.lc p) s (.cells (fT cs (i.toNat*dx R τ'+off) (fr.ev E y).cells))) (.gV (o:=o) ?_) (hk ρ _ aC _ ((hi1.set p s (x:=.arr τ' (aW l0 i y')) (a:=.cells (fT cs (i.toNat*dx R τ'+off) (fr.ev E y).cells)) ⟨k4.trans hO.1,.inr ⟨s,_,h1,vG _ _ _ _,k3⟩⟩).fA o.dst (x:=.undef) (by unfold Rl;rfl)) rfl (fun q _=>(aY.set hl rfl).congr l6) h)
       simp only[bg,hop,h2,k1,Option.bind_some]
       rw[if_pos ⟨by rw[hsz,h6.length,d9 c1],k2,Gx c3 h6⟩]
      ·cases h
     ·cases hst
    ·cases hst
   ·cases hst
  ·split at h
   ·rename_i v st' hr
    rw[<-hop] at hr
    obtain⟨y,σ',ρ',h1,h2,h3,h4,h5⟩:=uK hR hF bq fH .nil hi hr
    exact hs y σ' h1 (hk ρ' _ y σ' (h2.fA o.dst h4) h3 (fun p hp=>(h5 p hp).congr l6) h)
   ·cases h
 ·rename_i t m y ok hop
  split at h
  ·rename_i ks vs q z hsm
   unfold RY at hsm
   split at hsm
   ·rename_i p hm
    split at hsm
    ·rename_i ks' vs' hl
     split at hsm
     ·rename_i q' kt et hq ht
      split at hsm
      ·rename_i z' hz
       obtain⟨hkey,hsm⟩:=dO hsm
       cases hsm
       obtain⟨s,a1,a2⟩:=(bf (E:=E) hi .nil hm).vT
       obtain⟨s',k0,l0,b1,b2,b3,b4⟩:=hi.rd hl
       rw[a1] at b1;cases b1
       have hqr:=bf (E:=E) hi .nil hq
       obtain⟨zv,z1,z2⟩:=Df (ρ:=ρ) (top:=σ.top) hz
       obtain⟨v,bb,w,r,c1,c2,c3,c4⟩:=ZW hqr z2 h b3 b4
       have hlk:ug E.P σ t (fr.ev E m) (fr.ev E y) ok=some (if ok then .bE [w,.bool bb] else w):=by
        rw[Y0,ht];simp only[Option.bind_some]
        rw[if_pos (ZC hkey hqr),a2]
        show (σ.fP (ρ.om.lc p) s).bind _=_
        rw[b2];simp only[Option.bind_some,c2]
        cases r with
        |none=>simp only[z1,Option.map_some];obtain⟨e1,e2⟩:=c3.1 rfl;rw[e1,e2]
        |some u=>simp only[Option.map_some];obtain⟨e1,e2⟩:=c3.2 u rfl;rw[e1,e2]
       refine hs _ σ (.gV (o:=o) ?_) (hk ρ _ (if ok then .bE [w,.bool bb] else w) σ (hi1.fA o.dst ?_) rfl (fun p _=>aY.same (by first|exact l6|rfl)) c4)
       ·simp only[bg,hop,hlk,Option.map_some]
       ·cases ok
        ·exact c1
        ·rw[cond_true,if_pos rfl];unfold Rl;exact⟨_,rfl,.cons' c1 (.cons' (by unfold Rl;rfl) rfl)⟩
      ·cases hsm
     ·cases hsm
    ·cases hsm
   ·cases hsm
  ·split at h
   ·rename_i v hr
    rw[<-hop] at hr
    obtain⟨y,h1,h2⟩:=uK hR hF bq fH .nil hi hr
    exact hs y σ h1 (hk ρ _ y σ (hi1.fA o.dst h2) rfl (fun p _=>aY.same (by first|exact l6|rfl)) h)
   ·cases h
 ·split at h
  ·rename_i v hr
   obtain⟨y,h1,h2⟩:=uK hR hF bq fH .nil hi hr
   exact hs y σ h1 (hk ρ _ y σ (hi1.fA o.dst h2) rfl (fun p _=>aY.same (by first|exact l6|rfl)) h)
  ·rename_i c v hr
   obtain⟨hc,h⟩:=dO h
   obtain⟨y,h1,h2⟩:=uK hR hF bq fH .nil hi hr hc
   exact hs y σ h1 (hk ρ _ y σ (hi1.fA o.dst h2) rfl (fun p _=>aY.same (by first|exact l6|rfl)) h)
  ·rename_i v st' hr
   obtain⟨y,σ',ρ',h1,h2,h3,h4,h5⟩:=uK hR hF bq fH .nil hi hr
   exact hs y σ' h1 (hk ρ' _ y σ' (h2.fA o.dst h4) h3 (fun p hp=>(h5 p hp).congr l6) h)
  ·rename_i c v st' hr
   obtain⟨hc,h⟩:=dO h
   obtain⟨y,σ',ρ',h1,h2,h3,h4,h5⟩:=uK hR hF bq fH .nil hi hr hc
   exact hs y σ' h1 (hk ρ' _ y σ' (h2.fA o.dst h4) h3 (fun p hp=>(h5 p hp).congr l6) h)
  ·rename_i α z q f hr
   obtain⟨a,ha,h⟩:=iR.1 h
   obtain⟨y,h1,h2⟩:=uK hR hF bq fH .nil hi hr a ha
   exact hs y σ h1 (hk ρ _ y σ (hi1.fA o.dst h2) rfl (fun p _=>aY.same (by first|exact l6|rfl)) h)
  ·cases h
omit hR in
theorem zS (hi:aH ρ b st fr σ):∀(n j:Nat) (w c:Bool) (g:List (Nat×Bool)),nu st n j w=some (c,g)->(c=true->fr.tm j= .bool w/\oL fr g)/\(c=false->fr.tm j= .bool (!w)\/fr.tm j=aC)/\(g=[(j,w)]->c=false->fr.tm j= .bool (!w))
 |0,j,w,c,g,h=>by cases h
 |n+1,j,w,c,g,h=>by
  have key:∀(i:Nat) (u a:Bool) (y:TV R.T),look st.fr j=some (.opt i u y)->(∀v,Rl R ρ σ.top y v->v= .bool a)->(match nu st n i u with
   |some (c,g)=>some (RX c (CJ a w),(j,w)::g)
   |none=>none)=some (c,g)->(c=true->fr.tm j= .bool w/\oL fr g)/\(c=false->fr.tm j= .bool (!w)\/fr.tm j=aC)/\(g=[(j,w)]->c=false->fr.tm j= .bool (!w)):=by
   intro i u a y hl hy h
   split at h
   ·rename_i c0 g0 he
    cases h
    obtain⟨h1,h2,h3⟩:=zS hi n i u c0 g0 he
    have hr:=hi.fr _ _ hl
    have hg0:g0≠[]:=by
     rintro rfl
     cases n with
     |zero=>cases he
     |succ n=>
      unfold nu at he
      split at he
      ·cases he
      ·split at he<;>cases he
      ·split at he<;>cases he
      ·cases he
    refine⟨fun hc=> ?_,fun hc=> ?_,fun hg=>absurd (by simpa using hg) hg0⟩
    ·cases c0 with
     |false=>cases hc
     |true=>
      obtain⟨a1,a2⟩:=h1 rfl
      have hv:=hy _ (hr.1 a1)
      have hc':CJ a w=true:=hc
      have:a=w:=by cases a<;>cases w<;>first|rfl|cases hc'
      subst this
      exact⟨hv,.cons hv a2⟩
    ·cases c0 with
     |false=>exact .inr (hr.2 (h2 rfl))
     |true=>
      obtain⟨a1,a2⟩:=h1 rfl
      have hv:=hy _ (hr.1 a1)
      have hc':CJ a w=false:=hc
      have:a= !w:=by cases a<;>cases w<;>first|rfl|cases hc'
      subst this
      exact .inl hv
   ·cases h
  unfold nu at h
  split at h
  ·rename_i a hl
   cases h
   have hv:=(show Rl R ρ σ.top (.bool a) (fr.tm j) from hi.fr _ _ hl).pY
   refine⟨fun hc=> ?_,fun hc=>.inl ?_,fun _ hc=> ?_⟩
   ·have:a=w:=by cases a<;>cases w<;>first|rfl|cases hc
    subst this;exact⟨hv,.cons hv .nil⟩
   ·have:a= !w:=by cases a<;>cases w<;>first|rfl|cases hc
    subst this;exact hv
   ·have:a= !w:=by cases a<;>cases w<;>first|rfl|cases hc
    subst this;exact hv
  ·rename_i i u a hl;exact key i u a _ hl (fun v hv=>hv.pY) h
  ·rename_i i u a hl;exact key i u a _ hl (fun v hv=>hv.tJ) h
  ·cases h
omit hR in
theorem ZX {all:List Oper} (hi:aH ρ b st fr σ):match Lv all st o with
 |.run=>eT all fr o=some true
 |.skip=>eT all fr o=some false
 |.dyn j w c g=>(∃n,nu st n j w=some (c,g))/\eT all fr o=some c
 |.no=>True:=by
 unfold Lv eT
 cases hg:o.guard with
 |none=>rfl
 |some p=>
  obtain⟨j,w⟩:=p
  dsimp only
  cases hj:all[j]? with
  |none=>rfl
  |some p=>
   simp only[Option.bind_some]
   cases hd:p.dst with
   |none=>rfl
   |some t=>
    dsimp only
    have dyn:∀c g,nu st 12 t w=some (c,g)->(match fr.tm t with
     |.bool b=>some (b==w)
     |.raw _=>none
     |_=>some false)=some c:=by
     intro c g he
     obtain⟨h1,h2,_⟩:=zS hi 12 t w c g he
     cases c with
     |true=>rw[(h1 rfl).1];simp
     |false=>
      rcases h2 rfl with h2|h2
      ·rw[h2];cases w<;>rfl
      ·rw[h2];rfl
    cases hl:look st.fr t with
    |none=>
     dsimp only
     cases he:nu st 12 t w with
     |none=>trivial
     |some q=>exact⟨⟨12,he⟩,dyn _ _ he⟩
    |some v=>
     have hr:=hi.fr _ _ hl
     cases v with
     |gQ c=>
      have:=(show Rl R ρ σ.top (.gQ c) (fr.tm t) from hr).tJ
      rw[this]
      cases c<;>cases w<;>rfl
     |undef=>
      have:=(show Rl R ρ σ.top .undef (fr.tm t) from hr).Yd
      rw[this];rfl
     |_=>
      dsimp only
      cases he:nu st 12 t w with
      |none=>trivial
      |some q=>exact⟨⟨12,he⟩,dyn _ _ he⟩
omit hR in
theorem Mr (hi:aH ρ b st fr σ):∀{g:List (Nat×Bool)},oL fr g->(∀j u,(j,u)∈g->fr.tm j= .bool u)->aH ρ b (st.lq g) fr σ/\(st.lq g).ob=st.ob
 | [],_,_=>⟨hi,rfl⟩
 | (j,w)::g,hg,hm=>by
   obtain⟨h1,h2⟩:=Mr hi (g:=g) (fun i u h=>by
    exact hm i u (by
     have:∀g:List (Nat×Bool),look g i=some u->(i,u)∈g:=by
      intro g
      induction g with
      |nil=>intro h;cases h
      |cons p g ih=>
       intro h
       obtain⟨k,v⟩:=p
       by_cases e:i=k
       ·subst e;rw[jq] at h;cases h;simp
       ·rw[gD _ _ e] at h;simp[ih h]
     exact adF _ (this g h))) (fun i u h=>hm i u (by simp[h]))
   exact⟨h1.learn (hm j w (by simp)),h2⟩
omit hR in
theorem Ms (hi:aH ρ b st fr σ):∀(n j:Nat) (w:Bool) (g:List (Nat×Bool)),nu st n j w=some (true,g)->∀i u,(i,u)∈g->fr.tm i= .bool u
 |0,j,w,g,h=>by cases h
 |n+1,j,w,g,h=>by
  have hj:=((zS hi (n+1) j w true g h).1 rfl).1
  unfold nu at h
  split at h
  ·simp only[iE,mF] at h
   obtain⟨_,rfl⟩:=h
   intro i u hm;simp at hm;obtain⟨rfl,rfl⟩:=hm;exact hj
  all_goals first
   | (split at h
      ·rename_i c0 g0 he
       simp only[iE,mF] at h
       obtain⟨hc,rfl⟩:=h
       cases c0 with
       |false=>cases hc
       |true=>
        intro i u hm
        rcases adf.1 hm with hm|hm
        ·cases hm;exact hj
        ·exact Ms hi n _ _ g0 he i u hm
      ·cases h)
   |cases h
omit hR in
theorem Tx (hi:aH ρ b st fr σ) {n j:Nat} {w:Bool} {g:List (Nat×Bool)} (hj:nu st n j w=some (false,g)):aH ρ b (st.vN g) fr σ/\(st.vN g).ob=st.ob:=by
 obtain⟨_,_,e3⟩:=zS hi n j w false g hj
 rcases g with _| ⟨⟨j',w'⟩,_| ⟨p,g⟩⟩
 ·exact⟨hi,rfl⟩
 ·have hj':j'=j/\w'=w:=by
   cases n with
   |zero=>cases hj
   |succ n=>
    unfold nu at hj
    split at hj
    ·simp only[iE,mF,ajj] at hj
     exact⟨hj.2.1.1.symm,hj.2.1.2.symm⟩
    ·split at hj
     ·simp only[iE,mF,ajj] at hj
      exact⟨hj.2.1.1.symm,hj.2.1.2.symm⟩
     ·exact absurd hj (by simp)
    ·split at hj
     ·simp only[iE,mF,ajj] at hj
      exact⟨hj.2.1.1.symm,hj.2.1.2.symm⟩
     ·exact absurd hj (by simp)
    ·exact absurd hj (by simp)
  obtain⟨rfl,rfl⟩:=hj'
  exact⟨hi.learn (e3 rfl rfl),rfl⟩
 ·exact⟨hi,rfl⟩
theorem ajw {om:Bool} {β:Type} {F:Nat->List (FR R)} (hF:bH E F) (bq:ρ.om.om=om) (fH:∀d,o.dst=some d->d<F0) (hi:aH ρ ay st fr σ) {j n:Nat} {w c:Bool} {g:List (Nat×Bool)} (hj:nu st n j w=some (c,g)) {k:MS R.T->Option β} {x:β} (h:R3 E R om F o j w c g st k=some x) {G:Prop} {rest:Fr->ah->Prop}
 (hs:c=true->∀y σ',lQ E fr σ ay o y σ'->rest (fr.put o.dst y) σ'->G) (hs':c=false->rest (fr.put o.dst aC) σ->G)
 (hk:∀ρ' st' y σ',aH ρ' (ay+1) st' (fr.put o.dst y) σ'->σ'.next=σ.next->(∀p,o.dst≠some p->aY true p st ρ σ st' ρ' σ')->k st'=some x->rest (fr.put o.dst y) σ'):G:=by
 have hi1:=hi.le (adh ay)
 obtain⟨e1,e2,e3⟩:=zS hi n j w c g hj
 have Tz:(bif c then runM E R om F o (st.lq g) k else k ((st.vN g).fA o.dst .undef))=some x->G:=by
  intro h
  cases c with
  |true=>
   obtain⟨l1,l2⟩:=Mr hi (e1 rfl).2 (Ms hi n j w g hj)
   exact Tw hR hF bq fH l1 h (hs rfl) (fun ρ' st' y σ' a b c d=>hk ρ' st' y σ' a b (fun p hp=>(c p hp).from l2) d)
  |false=>
   obtain⟨n1,n2⟩:=Tx hi hj
   have hN:aH ρ (ay+1) (st.vN g) fr σ/\(st.vN g).ob=st.ob:=⟨n1.le (adh _),n2⟩
   refine hs' rfl (hk ρ _ aC σ (hN.1.fA o.dst (by unfold Rl;rfl)) rfl (fun p _=>aY.same (l6.trans hN.2)) h)
 unfold R3 at h
 split at h
 ·rename_i d hd
  have hput:aR d (g.map (·.1))=false->∀(v:TV R.T) (y:V),(c=true->Rl R ρ σ.top v y)->(c=false->y=aC)->aH ρ (ay+1) (st.put d (.opt j w v)) (fr.put o.dst y) σ:=by
   intro hdj v y h1 h2
   have hne:(fr.set d y).tm j=fr.tm j:=by
    refine FX _ _ ?_
    cases n with
    |zero=>cases hj
    |succ n=>
     have hmem:aR d (g.map (·.1))=false:=hdj
     have:∃g',g=(j,w)::g':=by
      unfold nu at hj
      split at hj
      ·cases hj;exact⟨[],rfl⟩
      all_goals first
       | (split at hj
          ·simp only[iE,mF] at hj
           exact⟨_,hj.2.symm⟩
          ·cases hj)
       |cases hj
     obtain⟨g',rfl⟩:=this
     have h':(Nat.beq d j||aR d (g'.map (·.1)))=false:=hmem
     rw[ajk] at h'
     simpa using (LJ h'.1).symm
   rw[hd,XE]
   refine hi1.put d ⟨fun hc=> ?_,fun hc=> ?_⟩
   ·rw[hne] at hc
    refine h1 ?_
    cases c with
    |true=>rfl
    |false=>
     rcases e2 rfl with e|e
     ·rw[e] at hc;cases w<;>cases hc
     ·rw[e] at hc;cases hc
   ·rw[hne] at hc
    refine h2 ?_
    cases c with
    |false=>rfl
    |true=>
     rw[(e1 rfl).1] at hc
     rcases hc with hc|hc
     ·cases w<;>cases hc
     ·cases hc
  cases hdj:aR d (g.map (·.1))
  ·rw[hdj] at h
   simp only[cond_false] at h
   split at h
   ·rename_i v hr
    cases c with
    |true=>
     obtain⟨y,h1,h2⟩:=uK hR hF bq fH (e1 rfl).2 hi hr
     exact hs rfl y σ h1 (hk ρ _ y σ (hput hdj v y (fun _=>h2) (fun h=>by cases h)) rfl (fun p _=>aY.same rfl) h)
    |false=>exact hs' rfl (hk ρ _ aC σ (hput hdj v aC (fun h=>by cases h) (fun _=>rfl)) rfl (fun p _=>aY.same rfl) h)
   ·rename_i q v hr
    obtain⟨hq,hh⟩:=dO h
    clear h
    cases c with
    |true=>
     obtain⟨y,h1,h2⟩:=uK hR hF bq fH (e1 rfl).2 hi hr hq
     exact hs rfl y σ h1 (hk ρ _ y σ (hput hdj v y (fun _=>h2) (fun h=>by cases h)) rfl (fun p _=>aY.same rfl) hh)
    |false=>exact hs' rfl (hk ρ _ aC σ (hput hdj v aC (fun h=>by cases h) (fun _=>rfl)) rfl (fun p _=>aY.same rfl) hh)
   ·rename_i α z q f hr
    obtain⟨a,ha,hh⟩:=iR.1 h
    clear h
    cases c with
    |true=>
     obtain⟨y,h1,h2⟩:=uK hR hF bq fH (e1 rfl).2 hi hr a ha
     exact hs rfl y σ h1 (hk ρ _ y σ (hput hdj _ y (fun _=>h2) (fun h=>by cases h)) rfl (fun p _=>aY.same rfl) hh)
    |false=>exact hs' rfl (hk ρ _ aC σ (hput hdj _ aC (fun h=>by cases h) (fun _=>rfl)) rfl (fun p _=>aY.same rfl) hh)
   ·exact Tz h
  ·rw[hdj] at h
   exact Tz h
 ·exact Tz h
omit hR in
theorem zT {ρ':aN} {st':MS R.T} {σ':ah} (h:∀p,o.dst≠some p->aY true p st ρ σ st' ρ' σ'):ρ'.om=ρ.om:=by
 cases hd:o.dst with
 |none=>exact(h 0 (by rw[hd];simp)).om
 |some d=>exact(h (d+1) (by rw[hd];simp)).om
omit hR in
theorem ZY {os:List Oper} {p:Nat} (h:aR p (jL (o::os))=false):o.dst≠some p/\aR p (jL os)=false:=by
 unfold jL at h
 split at h
 ·rename_i d hd
  have h':(Nat.beq p d||aR p (jL os))=false:=h
  rw[ajk] at h'
  refine⟨fun e=> ?_,h'.2⟩
  rw[hd] at e;cases e;rw[ajl] at h';exact absurd h'.1 (by simp)
 ·rename_i hd
  refine⟨fun e=> ?_,h⟩
  rw[hd] at e;cases e
omit hR in
theorem GQ (hi:aH ρ b st fr σ) (h:kG E st o=false):tL E fr o=false:=by
 unfold kG at h
 unfold tL
 split at h
 ·rename_i c hc
  rw[hc]
  dsimp only
  split at h
  ·rename_i f hf
   rw[hf]
   dsimp only
   split at h
   ·rename_i g a' b' hv
    obtain⟨va,vb,h1,_,_⟩:=(bf (E:=E) hi .nil hv).mP
    unfold jP
    rw[h1]
    split at h
    ·rename_i d hd;rw[hd];exact h
    ·rename_i hd;rw[hd]
   ·cases h
  ·rename_i hne
   split
   ·rename_i f hf;exact absurd hf (hne f)
   ·rfl
 ·rename_i hne
  split
  ·rename_i c hc;exact absurd hc (hne c)
  ·rfl
theorem ajx {k k':Sk} {l:List Sk} {c:TV R.T} {cs:List (TV R.T)} {p:aA R.T (k::k'::l)} (h:fU R (k::k'::l) (c::cs)=some p):
 ∃x q,pk R k c=some x/\fU R (k'::l) cs=some q/\p=(x,q):=by
 have h':(match pk R k c with
  |some x=>match fU R (k'::l) cs with
   |some p=>some (x,p)
   |none=>none
  |none=>none)=some p:=h
 cases hu:pk R k c with
 |none=>rw[hu] at h';cases h'
 |some u=>
  rw[hu] at h';dsimp only at h'
  cases hq:fU R (k'::l) cs with
  |none=>rw[hq] at h';cases h'
  |some q=>rw[hq] at h';cases h';exact⟨u,q,rfl,rfl,rfl⟩
theorem TA {F:Nat->List (FR R)} (hF:bH E F) {f:Nat} {args:List (TV R.T)} {GR:List V} (ha:au R ρ σ.top args GR) (hi:aH ρ b st fr σ):∀{l:List (FR R)} {τ:Ty} {x:Option (List (Den R.T τ))},(∀r∈l,r∈F f)->CK R args (nQ st args) l=some ⟨τ,x⟩->
 ∀y,x=some y->∃as,qB (E.vB f) σ GR=some as/\GR.all (fun x=>aF (er x))=true/\oC E f as (dx R τ) (y.map (aG R τ))
 | [],τ,x,_,h=>by cases h
 | ⟨as,res,G,d0,own⟩::l,τ,x,hl,h=>by
   have rest:CK R args (nQ st args) l=some ⟨τ,x⟩->∀y,x=some y->∃as,qB (E.vB f) σ GR=some as/\GR.all (fun x=>aF (er x))=true/\oC E f as (dx R τ) (y.map (aG R τ)):=fun h=>TA hF ha hi (fun r hr=>hl r (adF _ hr)) h
   unfold CK at h
   split at h
   ·cases h
   ·rename_i as' τ' G' d' l' heq
    obtain⟨e1,e2⟩:=List.cons.inj heq
    subst e2
    cases e1
    split at h
    ·rename_i p hp
     obtain⟨hc,h⟩:=dO h
     cases h
     simp only[aan] at hc
     obtain⟨⟨c1,c2⟩,c3⟩:=hc
     intro y hy
     have hb:=(hF f ⟨as,[.d (.slice τ)],G',d',true⟩ (hl _ (adg ..)) p y hy).2 rfl τ rfl y rfl
     cases hn:iO as with
     |true=>
      obtain⟨b1,b2⟩:=hb.1 hn
      obtain⟨vs',v1,v2⟩:=GA hR hi ha
      have GH:=rZ hR as p (nQ st args) _ hn hp v1 20 σ (by have:=ae3 c2;omega)
      exact⟨_,by rw[b1];unfold qB;rw[if_neg (by simp)];exact(v2 16).trans GH,GD hR c3 ha,b2⟩
     |false=>
      obtain⟨b1,b2⟩:=hb.2 hn
      rw[hn,Bool.false_or] at c1
      cases as with
      |nil=>cases c1
      |cons k as=>
      cases k<;>first| (cases c1;done)|skip
      cases as with
      |nil=>cases c1
      |cons k' as=>
      cases args with
      |nil=>exact absurd (show none=some p from hp) (by simp)
      |cons c args=>
      obtain⟨v,vs,rfl,h1,h2⟩:=ha.dN
      have hp0:fU R (.dX::k'::as) (zC st c::nQ st args)=some p:=by simpa only[nQ] using hp
      obtain⟨u,q,hu,q1,hpq⟩:=ajx hR hp0
      have hc:c= .dX:=by
       have hp':(pk R .dX (zC st c)).isSome=true:=by rw[hu];rfl
       cases c<;>first|rfl|skip
       all_goals
        exfalso
        revert hp'
        unfold zC uD
        repeat' split
        all_goals (intro h;cases h)
      subst hc
      have q2:Zp (bG R (.dX::k'::as) p)= .aj .nil []::bG R (k'::as) q:=by rw[hpq];rfl
      rw[h1.p8]
      obtain⟨vs',v1,v2⟩:=GA hR hi h2
      have GH:=rZ hR (k'::as) q (nQ st args) _ c1 q1 v1 20 σ (by have h9:=ae3 c2;rw[oH] at h9;omega)
      rw[q2] at b2
      refine⟨_,by rw[b1];unfold qB;rw[if_pos rfl];dsimp only;rw[v2 16,GH];rfl, ?_,b2⟩
      have:=GD hR c3 ha
      rw[h1.p8] at this
      exact this
    ·exact rest h
   ·rename_i heq
    obtain⟨_,e2⟩:=List.cons.inj heq
    subst e2
    exact rest h
theorem ajy {β:Type} {F:Nat->List (FR R)} (hF:bH E F) (hi:aH ρ ay st fr σ) {k:MS R.T->Option β} {x:β} (h:uH R F o st k=some x) (hown:kG E st o=true) {all os:List Oper} {Q:Fr->ah->Prop} (hw:eT all fr o=some true)
 (hk:∀(ρ':aN) (st':MS R.T) (y:V) (σ':ah),aH ρ' (ay+1) st' (fr.put o.dst y) σ'->σ'.next=σ.next->(∀p,o.dst≠some p->aY true p st ρ σ st' ρ' σ')->k st'=some x->OW E all (ay+1) os (fr.put o.dst y) σ' Q):OW E all ay (o::os) fr σ Q:=by
 unfold uH at h
 split at h
 ·rename_i c d ho hd
  split at h
  ·rename_i f fu
   split at h
   ·rename_i g a' b' vs hf hvs
    split at h
    ·rename_i τ xo hfo
     obtain⟨l,hl,h⟩:=iR.1 h
     obtain⟨va,vb,h1,h2,h3⟩:=(bf (E:=E) hi .nil hf).mP
     have hrel:=(h2.append (uI (E:=E) hi .nil hvs)).append h3
     obtain⟨as,has,hcl,hO⟩:=TA hR hF hrel hi (fun _ hr=>hr) hfo l hl
     have hg:E.own g d=true:=by
      unfold kG at hown
      rw[ho] at hown
      dsimp only at hown
      rw[fu] at hown
      dsimp only at hown
      rw[hf] at hown
      dsimp only at hown
      rw[hd] at hown
      exact hown
     have hdp:∀y:V,fr.put o.dst y=fr.set d y:=fun y=>by rw[hd];rfl
     refine OW.own hw ho fu h1 hd hg has hO hcl (fun cp hcp=> ?_) ?_
     ·refine hk (ρ.gF d ay) _ _ σ ?_ rfl ?_ h
      ·have e:σ.bU ay (σ.top ay)=σ:=by
        unfold ah.bU
        have:upd σ.top ay (σ.top ay)=σ.top:=by
         funext j;unfold upd;split
         ·rename_i e;rw[e]
         ·rfl
        rw[this]
       have:=hi.wk d ay (σ.top ay) (adh _) (ake _) hi.nx (fun u _ hu=>by have:=hi.lt u _ hu;omega)
       rw[e] at this
       rw[hdp]
       refine this.put d (.of ?_)
       unfold Rl
       exact⟨cp,rfl,by rcases hcp with rfl|rfl;exact .inl rfl;exact .inr (.inl rfl)⟩
      ·intro p hp
       have e:σ.bU ay (σ.top ay)=σ:=by
        unfold ah.bU
        have:upd σ.top ay (σ.top ay)=σ.top:=by
         funext j;unfold upd;split
         ·rename_i e;rw[e]
         ·rfl
        rw[this]
       have:=(aY.wk (nr:=true) (p:=p) (t:=d) (s:=ay) (n:=σ.top ay) (ρ:=ρ) (st:=st) (σ:=σ) hi.nx)
       rw[e] at this
       exact this.congr rfl
     ·refine hk (ρ.gF d ay) _ _ _ ?_ rfl ?_ h
      ·rw[hdp]
       have:=hi.wk d ay (l.map (aG R τ)).length (adh _) (ake _) hi.nx (fun u _ hu=>by have:=hi.lt u _ hu;omega)
       refine this.put d (.of ?_)
       unfold Rl
       exact⟨_,rfl,.inr (.inr ⟨ay,rfl,by simp[aN.gF,upd],by rw[BS,aau]⟩)⟩
      ·intro p hp
       exact(aY.wk (nr:=true) (p:=p) hi.nx).congr rfl
    ·cases h
   ·cases h
  ·cases h
 ·cases h
theorem ajz {β:Type} {F:Nat->List (FR R)} (hF:bH E F) (hi:aH ρ ay st fr σ) {k:MS R.T->Option β} {x:β} (h:uH R F o st k=some x) (hown:kG E st o=true) {ms:List Nat} {fs:List bV} {all os:List Oper} {Q:Fr->ah->Prop} (hw:eT all fr o=some true)
 (hk:∀(ρ':aN) (st':MS R.T) (y:V) (σ':ah),aH ρ' (ay+1) st' (fr.put o.dst y) σ'->σ'.next=σ.next->(∀p,o.dst≠some p->aY true p st ρ σ st' ρ' σ')->k st'=some x->dU E ms all (ay+1) os (fr.put o.dst y) σ' (fs++[fq E all fr o true]) Q):dU E ms all ay (o::os) fr σ fs Q:=by
 unfold uH at h
 split at h
 ·rename_i c d ho hd
  split at h
  ·rename_i f fu
   split at h
   ·rename_i g a' b' vs hf hvs
    split at h
    ·rename_i τ xo hfo
     obtain⟨l,hl,h⟩:=iR.1 h
     obtain⟨va,vb,h1,h2,h3⟩:=(bf (E:=E) hi .nil hf).mP
     have hrel:=(h2.append (uI (E:=E) hi .nil hvs)).append h3
     obtain⟨as,has,hcl,hO⟩:=TA hR hF hrel hi (fun _ hr=>hr) hfo l hl
     have hg:E.own g d=true:=by
      unfold kG at hown
      rw[ho] at hown
      dsimp only at hown
      rw[fu] at hown
      dsimp only at hown
      rw[hf] at hown
      dsimp only at hown
      rw[hd] at hown
      exact hown
     have hdp:∀y:V,fr.put o.dst y=fr.set d y:=fun y=>by rw[hd];rfl
     refine dU.own hw ho fu h1 hd hg has hO hcl (fun cp hcp=> ?_) ?_
     ·refine hk (ρ.gF d ay) _ _ σ ?_ rfl ?_ h
      ·have e:σ.bU ay (σ.top ay)=σ:=by
        unfold ah.bU
        have:upd σ.top ay (σ.top ay)=σ.top:=by
         funext j;unfold upd;split
         ·rename_i e;rw[e]
         ·rfl
        rw[this]
       have:=hi.wk d ay (σ.top ay) (adh _) (ake _) hi.nx (fun u _ hu=>by have:=hi.lt u _ hu;omega)
       rw[e] at this
       rw[hdp]
       refine this.put d (.of ?_)
       unfold Rl
       exact⟨cp,rfl,by rcases hcp with rfl|rfl;exact .inl rfl;exact .inr (.inl rfl)⟩
      ·intro p hp
       have e:σ.bU ay (σ.top ay)=σ:=by
        unfold ah.bU
        have:upd σ.top ay (σ.top ay)=σ.top:=by
         funext j;unfold upd;split
         ·rename_i e;rw[e]
         ·rfl
        rw[this]
       have:=(aY.wk (nr:=true) (p:=p) (t:=d) (s:=ay) (n:=σ.top ay) (ρ:=ρ) (st:=st) (σ:=σ) hi.nx)
       rw[e] at this
       exact this.congr rfl
     ·refine hk (ρ.gF d ay) _ _ _ ?_ rfl ?_ h
      ·rw[hdp]
       have:=hi.wk d ay (l.map (aG R τ)).length (adh _) (ake _) hi.nx (fun u _ hu=>by have:=hi.lt u _ hu;omega)
       refine this.put d (.of ?_)
       unfold Rl
       exact⟨_,rfl,.inr (.inr ⟨ay,rfl,by simp[aN.gF,upd],by rw[BS,aau]⟩)⟩
      ·intro p hp
       exact(aY.wk (nr:=true) (p:=p) hi.nx).congr rfl
    ·cases h
   ·cases h
  ·cases h
 ·cases h
omit hR in
theorem Z0 {o:Oper} {os:List Oper} {d:Nat} (h:o.dst=some d):aR d (jL (o::os))=true:=by
 unfold jL
 rw[h]
 show (Nat.beq d d||_)=true
 rw[ajl];rfl
omit hR in
theorem Z4 {o:Oper} {os:List Oper} {d:Nat} (h:aR d (jL os)=true):aR d (jL (o::os))=true:=by
 unfold jL
 cases o.dst with
 |none=>exact h
 |some e=>show (Nat.beq d e||aR d (jL os))=true;rw[h,Bool.or_true]
omit hR in
theorem aY.of {nr:Bool} {o:Nat} {st st':MS R.T} {ρ ρ':aN} {σ σ':ah} (h:aY true o st ρ σ st' ρ' σ'):aY nr o st ρ σ st' ρ' σ':=⟨h.ob,h.ln,h.om,h.nx,h.lp,fun L _=>h.dp L (.inl rfl),h.ro⟩
omit hR in
theorem Kp.nr {nr GU:Bool} {W:List Nat} {st st':MS R.T} {fr fr':Fr} {ρ ρ':aN} {σ σ':ah} (hn:GU=true->nr=true) (h:Kp nr W st fr σ ρ st' fr' σ' ρ'):Kp GU W st fr σ ρ st' fr' σ' ρ':=⟨h.fr,fun o ho=>⟨(h.ob o ho).ob,(h.ob o ho).ln,(h.ob o ho).om,(h.ob o ho).nx,(h.ob o ho).lp,fun L hL=>(h.ob o ho).dp L (hL.imp hn id),(h.ob o ho).ro⟩⟩
omit hR in
theorem TB (h:rU E st o=true):tC E o=false:=by
 unfold rU at h
 unfold tC
 split at h
 ·rename_i c hc
  (try rw[hc]);(try dsimp only)
  split at h
  ·rename_i f hf
   (try rw[hf])
   cases f with
   |func g=>
    have h':E.imp g=true:=h
    (try dsimp only);rw[h'];rfl
   |tmp _=>rfl
   |const _=>rfl
   | «global» _=>rfl
  ·cases h
 ·cases h
omit hR in
theorem TD {c:Call} {f:Operand} {g:FuncId} {a vb:List V} (h:tL E fr o=false) (h1:o.op= .call c) (h2:c.callee= .value f) (h3:fr.ev E f= .fn (.func g) a vb):∀d,o.dst=some d->E.own g d=false:=by
 intro d hd
 unfold tL at h
 rw[h1] at h;dsimp only at h
 rw[h2] at h;dsimp only at h
 unfold jP at h
 rw[h3,hd] at h
 exact h
theorem yu {om:Bool} {β:Type} {F:Nat->List (FR R)} (hF:bH E F) {M:Nat->List (FM R)} (hM:Mk E M) {all:List Oper} {k:MS R.T->Option β} {x:β} {Q:Fr->ah->Prop}:∀(os:List Oper) (ay:Nat) (ρ:aN) (st:MS R.T) (fr:Fr) (σ:ah),(∀d,aR d (jL os)=true->d<F0)->ρ.om.om=om->aH ρ ay st fr σ->ay+os.length<=σ.next->tH E R om F M all os st k=some x->
 (∀ρ' st' fr' σ',aH ρ' (ay+os.length) st' fr' σ'->σ.next<=σ'.next->Kp (os.all (tC E)) (jL os) st fr σ ρ st' fr' σ' ρ'->k st'=some x->Q fr' σ')->OW E all ay os fr σ Q
 | [],ay,ρ,st,fr,σ,hW0,bq,hi,hsn,h,hq=>OW.nil (hq ρ st fr σ hi (RS _) .refl h)
 |o::os,ay,ρ,st,fr,σ,hW0,bq,hi,hsn,h,hq=>by
  have fH:∀d,o.dst=some d->d<F0:=fun d hd=>hW0 d (Z0 hd)
  have hW1:∀d,aR d (jL os)=true->d<F0:=fun d hd=>hW0 d (Z4 hd)
  have qR:∀{σ':ah},σ.next<=σ'.next->ay+1+os.length<=σ'.next:=fun h=>by rw[List.length_cons] at hsn;omega
  have hg:=ZX (o:=o) (all:=all) hi
  unfold tH at h
  have hW:∀p,aR p (jL (o::os))=false->o.dst≠some p/\aR p (jL os)=false:=fun p hp=>ZY hp
  have hq':∀(ρ1:aN) (st1:MS R.T) (y:V) (σ1:ah),(∀p,o.dst≠some p->aY (tC E o) p st ρ σ st1 ρ1 σ1)->σ.next<=σ1.next->∀ρ' st' fr' σ',aH ρ' (ay+1+os.length) st' fr' σ'->σ1.next<=σ'.next->Kp (os.all (tC E)) (jL os) st1 (fr.put o.dst y) σ1 ρ1 st' fr' σ' ρ'->k st'=some x->Q fr' σ':=fun ρ1 st1 y σ1 hkp h1 ρ' st' fr' σ' hi' hn uL hk=>
   hq ρ' st' fr' σ' (by rw[List.length_cons,Nat.add_comm os.length,<-agh];exact hi') (aav h1 hn) (((Kp.op (fun p hp=>(hW p hp).1) hkp).nr (GU:=(o::os).all (tC E)) (fun e=>by rw[List.all_cons,aan] at e;exact e.1)).trans ((uL.mono fun p hp=>(hW p hp).2).nr (fun e=>by rw[List.all_cons,aan] at e;exact e.2))) hk
  split at h
  ·rename_i hgm
   rw[hgm] at hg
   cases hown:kG E st o with
   |true=>
    rw[hown,cond_true] at h
    exact ajy hR hF hi h hown hg (fun ρ' st' y σ' hi' hn hkp hk=>yu hF hM os (ay+1) ρ' st' _ σ' hW1 ((congrArg Cx.om (zT hkp)).trans bq) hi' (qR (aj2 hn.symm)) hk (hq' ρ' st' y σ' (fun p hp=>(hkp p hp).of) (aj2 hn.symm)))
   |false=>
   rw[hown,cond_false] at h
   have dW:=GQ hi hown
   cases himp:rU E st o with
   |true=>
    rw[himp,cond_true] at h
    obtain⟨c,f,g,a,vb,e1,e2,e3,e4,n,v,σ',e5,st1,i1,i2,i3,i4⟩:=Tv hR hM hi (by omega) h
    exact OW.KW hg e1 e2 e3 e4 ⟨n,v,σ',e5,yu hF hM os (ay+1) ρ st1 _ σ' hW1 bq i1 (qR i2) i4 (hq' ρ st1 v σ' (fun p _=>by rw[TB himp];exact i3 p) i2)⟩ (TD dW e1 e2 e3)
   |false=>
   rw[himp,cond_false] at h
   exact Tw hR hF bq fH hi h (rest:=fun fr' σ'=>OW E all (ay+1) os fr' σ' Q) (fun y σ' hst hr=>hst.1 dW all os Q hg hr) (fun ρ' st' y σ' hi' hn hkp hk=>yu hF hM os (ay+1) ρ' st' _ σ' hW1 ((congrArg Cx.om (zT hkp)).trans bq) hi' (qR (aj2 hn.symm)) hk (hq' ρ' st' y σ' (fun p hp=>(hkp p hp).of) (aj2 hn.symm)))
  ·rename_i hgm
   rw[hgm] at hg
   refine OW.skip hg (yu hF hM os (ay+1) ρ _ _ σ hW1 bq ?_ (qR (RS _)) h (hq' ρ _ aC σ (fun p _=>aY.same (by first|exact l6|rfl)) (RS _)))
   exact(hi.le (adh _)).fA o.dst (by unfold Rl;rfl)
  ·rename_i j w c g hgm
   rw[hgm] at hg
   obtain⟨⟨n,hn⟩,hg2⟩:=hg
   cases hown:(kG E st o||kG E (st.lq g) o) with
   |true=>rw[hown] at h;cases h
   |false=>
   rw[hown,cond_false] at h
   rw[ajk] at hown
   have dW:=GQ hi hown.1
   cases himp:rU E (st.lq g) o with
   |true=>
    rw[himp,cond_true] at h
    obtain⟨e1,e2,e3⟩:=zS hi n j w c g hn
    cases c with
    |true=>
     rw[cond_true] at h
     obtain⟨l1,l2⟩:=Mr hi (e1 rfl).2 (Ms hi n j w g hn)
     obtain⟨c,f,g',a,vb,f1,f2,f3,f4,n',v,σ',f5,st1,i1,i2,i3,i4⟩:=Tv hR hM l1 (by omega) h
     exact OW.KW hg2 f1 f2 f3 f4 ⟨n',v,σ',f5,yu hF hM os (ay+1) ρ st1 _ σ' hW1 bq i1 (qR i2) i4 (hq' ρ st1 v σ' (fun p _=>by rw[TB himp];exact(i3 p).from l2) i2)⟩ (TD dW f1 f2 f3)
    |false=>
     rw[cond_false] at h
     obtain⟨l1,l2⟩:=Tx hi hn
     exact OW.skip hg2 (yu hF hM os (ay+1) ρ _ _ σ hW1 bq ((l1.le (adh _)).fA o.dst (by unfold Rl;rfl)) (qR (RS _)) h (hq' ρ _ aC σ (fun p _=>aY.same (l6.trans l2)) (RS _)))
   |false=>
   rw[himp,cond_false] at h
   exact ajw hR hF bq fH hi hn h (rest:=fun fr' σ'=>OW E all (ay+1) os fr' σ' Q) (fun e y σ' hst hr=>hst.1 dW all os Q (by rw[hg2,e]) hr) (fun e hr=>OW.skip (by rw[hg2,e]) hr)
    (fun ρ' st' y σ' hi' hn hkp hk=>yu hF hM os (ay+1) ρ' st' _ σ' hW1 ((congrArg Cx.om (zT hkp)).trans bq) hi' (qR (aj2 hn.symm)) hk (hq' ρ' st' y σ' (fun p hp=>(hkp p hp).of) (aj2 hn.symm)))
  ·cases h
def Key.mv (c:Cx):Key->Key
 |.obj l=>.obj (c.lc l.2)
 |k=>k
def bV.mv (c:Cx) (f:bV):bV:=⟨f.sO,f.oq,f.t.map (Key.mv c),f.w.map (Key.mv c)⟩
omit hR in
theorem ajA (c:Cx) (a b:Key):(a.mv c).eq (b.mv c)=a.nm.eq b.nm:=by
 cases a<;>cases b<;>try rfl
 rename_i l m
 show qC (c.lc l.2) (c.lc m.2)=qC (1,l.2) (1,m.2)
 by_cases e:l.2=m.2
 ·rw[e,Rj];unfold qC;simp
 ·rw[Si c e,Rj];simp[e]
omit hR in
theorem ajB (c:Cx) (f g:bV):clash (f.mv c) (g.mv c)=clash f.nm g.nm:=by
 have hr:∀k:Key,(k.mv c).eq .rest=k.nm.eq .rest:=fun k=>by cases k<;>rfl
 have hs:∀k:Key,(k.mv c).state=k.nm.state:=fun k=>by cases k<;>rfl
 unfold clash bV.mv bV.nm
 dsimp only
 simp only[List.any_map,Function.comp_def,ajA,hr,hs]
omit hR in
theorem getD_map (h:bV->bV) (ha:h fQ=fQ):∀(fs:List bV) (i:Nat),(fs.map h).getD i fQ=h (fs.getD i fQ)
 | [],i=>by simp[ha]
 |f::fs,0=>rfl
 |f::fs,i+1=>by simpa using getD_map h ha fs i
omit hR in
theorem ajC (c:Cx) (ms:List Nat) (fs:List bV):vD ms (fs.map (bV.mv c))=vD ms (fs.map bV.nm):=by
 unfold vD P6
 simp only[aau,getD_map (bV.mv c) rfl,getD_map bV.nm rfl,ajB]
omit hR in
theorem qc (c:Cx) (l:List Key):(mE l).mv c=mE (l.map (Key.mv c)):=rfl
omit hR in
theorem uM (c:Cx) (l:List Key):(j6 l).mv c=j6 (l.map (Key.mv c)):=rfl
omit hR in
theorem mv_nil (c:Cx):(mE []).mv c=mE []:=rfl
omit hR in
theorem ajD (c:Cx):fQ.mv c=fQ:=rfl
omit hR in
theorem ajE {top:Nat->Nat} {x:TV R.T} {v:V} (hg:x≠ .gone) (hv:∀o t,x≠ .vw o t) (h:Rl R ρ top x v):gB v=(Yb x).map (Key.mv ρ.om):=by
 cases x with
 |gone=>exact absurd rfl hg
 |opt j w y=>exact h.Ye.elim
 |agg cs=>obtain⟨l,rfl,_⟩:=h.kI;rfl
 |bE cs=>obtain⟨l,rfl,_⟩:=h.LD;rfl
 |aj c t l=>obtain⟨l,rfl,_⟩:=h.kJ;rfl
 |ref p off=>obtain⟨s,_,rfl⟩:=h.oJ;rfl
 |bP p=>obtain⟨s,_,rfl⟩:=h.vT;rfl
 |aK l p=>obtain⟨s,rfl,_⟩:=h.tK;rfl
 |fn f a b=>obtain⟨a',b',rfl,_⟩:=h.mP;rfl
 |vw o t=>exact absurd rfl (hv o t)
 |jW p t i off=>obtain⟨s,_,_,rfl⟩:=h.zM;rfl
 |sv p off k n lo hi=>obtain⟨s,_,_,rfl⟩:=h.xV;rfl
 |sel p off k n i m=>obtain⟨s,_,_,_,rfl⟩:=h.Gs;rfl
 |qK k n y i=>obtain⟨_,_,rfl⟩:=h.LG;rfl
 |_=>unfold Rl at h;subst h;rfl
omit hR in
theorem Z5 {x:TV R.T} (h:CS x=true):x≠ .gone/\∀o t,x≠ .vw o t:=⟨(by rintro rfl;cases h),(by rintro o t rfl;cases h)⟩
omit hR in
theorem lS (hi:aH ρ b st fr σ) {x:Operand} {v:TV R.T} (h:bB [] st x=some v) (hg:CS v=true):(vP st x).map (Key.mv ρ.om)=gB (fr.ev E x):=by
 unfold vP
 rw[h]
 exact(ajE (Z5 hg).1 (Z5 hg).2 (bf hi .nil h)).symm
omit hR in
theorem Z6 (hi:aH ρ b st fr σ):∀{l:List Operand} {vs:List (TV R.T)},ng [] st l=some vs->vs.all CS=true->(l.flatMap (fun x=>vP st x)).map (Key.mv ρ.om)=l.flatMap fun x=>gB (fr.ev E x)
 | [],vs,h,_=>rfl
 |x::l,vs,h,hg=>by
  unfold ng at h
  cases h1:bB [] st x with
  |none=>simp only[h1] at h;cases h
  |some a=>
   cases h2:ng [] st l with
   |none=>simp only[h1,h2] at h;cases h
   |some as=>
    simp only[h1,h2] at h;cases h
    rw[List.all_cons,aan] at hg
    rw[afn,afn,afr,lS (E:=E) hi h1 hg.1,Z6 hi h2 hg.2]
omit hR in
theorem ajF {om:Bool} {β:Type} {F:Nat->List (FR R)} {k:MS R.T->Option β} {x:β} (h:runM E R om F o st k=some x) (hp:∀c a b,o.op≠ .pick c a b) (hl:∀t m y ok,o.op≠ .lookup t m y ok) (hst:∀t a y,o.op≠ .store t a y):∃r,uG E R om F [] o.dst o.op st=some r:=by
 unfold runM at h
 split at h
 ·rename_i c a b hop;exact absurd hop (hp _ _ _)
 ·rename_i t a y hop;exact absurd hop (hst _ _ _)
 ·rename_i t m y ok hop;exact absurd hop (hl _ _ _ _)
 ·cases hr:uG E R om F [] o.dst o.op st with
  |some r=>exact⟨r,rfl⟩
  |none=>rw[hr] at h;cases h
omit hR in
theorem wm {om:Bool} {F:Nat->List (FR R)} {g:List (Nat×Bool)} {d:Option Nat} {op:Op} {r:dV R} (h:uG E R om F g d op st=some r):pX E R g d op st=some r\/qO E R om F g d op st=some r:=by
 unfold uG at h
 split at h
 ·rename_i r' hx;cases h;exact .inl hx
 ·exact .inr h
omit hR in
theorem Z7 {top:Nat->Nat}:∀{x:List (TV R.T)} {v:List V},LC x=true->au R ρ top x v->v.all (fun a=>aF (er a))=false
 | [],_,h,_=>by cases h
 |x::l,v,h,hr=>by
  obtain⟨y,ys,rfl,h1,h2⟩:=hr.dN
  rw[List.all_cons]
  by_cases e:∃o off k n lo hi,x= .sv o off k n lo hi
  ·obtain⟨o,off,k,n,lo,hi,rfl⟩:=e
   obtain⟨s,_,_,rfl⟩:=h1.xV
   simp[er,aF]
  ·have h':LC l=true:=by
    cases x<;>first|exact h|exact absurd ⟨_,_,_,_,_,_,rfl⟩ e
   rw[Z7 h' h2,Bool.and_false]
omit hR in
theorem Mt (hi:aH ρ b st fr σ) (fH:∀d,o.dst=some d->d<F0):(LB o).map (Key.mv ρ.om)=qD fr o:=by
 unfold LB qD
 cases hd:o.dst with
 |none=>rfl
 |some d=>dsimp only;rw[hi.at (fH d hd)];rfl
theorem ajG {om:Bool} {β:Type} {F:Nat->List (FR R)} (bq:ρ.om.om=om) (fH:∀d,o.dst=some d->d<F0) (hi:aH ρ b st fr σ) {k:MS R.T->Option β} {x:β} (h:runM E R om F o st k=some x) (hd:vQ E st o=true):(Gj E om st o).mv ρ.om=gP E fr o:=by
 unfold Gj gP
 have hop:=ajF h
 cases ho:o.op<;>rw[ho] at hop<;>dsimp only<;>(try exact mv_nil _)<;>(try exact ajD _)
 case move y=>
  unfold vQ at hd;rw[aan] at hd
  have hd:=hd.2
  rw[ho] at hd;dsimp only at hd
  have hz:qA E o.dst=false:=by simpa using hd
  rw[hz];exact mv_nil _
 case load t a=>
  obtain⟨r,hr⟩:=hop (by simp) (by simp) (by simp)
  rcases wm hr with hr|hr
  ·unfold pX at hr;dsimp only at hr
   split at hr
   ·rename_i gl _
    split at hr
    ·rename_i k n v hg
     obtain⟨cs,_,g1,_⟩:=Tg hg
     have e1:vP st (Operand.global gl)=[]:=rfl
     have e2:gB (fr.ev E (.global gl))=[]:=by rw[Tj hR g1];rfl
     rw[qc,e1,e2];rfl
    ·cases hr
   ·split at hr
    ·rename_i hv;rw[qc,lS (E:=E) hi hv rfl]
    ·rename_i hv;rw[qc,lS (E:=E) hi hv rfl]
    ·rename_i hv;rw[qc,lS (E:=E) hi hv rfl]
    ·cases hr
  unfold qO at hr;dsimp only at hr
  split at hr
  ·rename_i hv;rw[qc,lS (E:=E) hi hv rfl]
  ·rename_i hv;rw[qc,lS (E:=E) hi hv rfl]
  ·rename_i hv;rw[qc,lS (E:=E) hi hv rfl]
  ·cases hr
 case store t a y=>
  have h':=h
  unfold runM at h'
  rw[ho] at h'
  dsimp only at h'
  split at h'
  ·rename_i hst
   unfold RZ at hst
   split at hst
   ·rename_i hv _;rw[uM,lS (E:=E) hi hv rfl]
   ·cases hst
  ·split at h'
   ·rename_i hr
    rcases wm hr with hr|hr
    ·unfold pX at hr;dsimp only at hr
     split at hr
     ·rename_i hv _;rw[uM,lS (E:=E) hi hv rfl]
     ·rename_i hv _;rw[uM,lS (E:=E) hi hv rfl]
     ·cases hr
    unfold qO at hr;dsimp only at hr
    split at hr
    ·rename_i hv _;rw[uM,lS (E:=E) hi hv rfl]
    ·cases hr
   ·cases h'
 case convert a b' y=>
  obtain⟨r,hr⟩:=hop (by simp) (by simp) (by simp)
  rcases wm hr with hr|hr
  ·unfold pX at hr;dsimp only at hr
   split at hr
   ·rename_i hv;rw[qc,lS (E:=E) hi hv rfl]
   ·cases hr
  unfold qO at hr;dsimp only at hr
  split at hr
  ·rename_i v hv
   rw[qc,lS (E:=E) hi hv (by
    unfold Lg at hr
    split at hr<;>first|rfl|cases hr)]
  ·cases hr
 case slice t y lo hi' mx=>
  obtain⟨r,hr⟩:=hop (by simp) (by simp) (by simp)
  cases mx with
  |some m=>
   rcases wm hr with hr|hr
   ·cases hi' with
    |none=>unfold pX at hr;cases hr
    |some h1=>
     unfold pX at hr
     dsimp only at hr
     split at hr
     ·rename_i hv _ _ _;rw[qc,lS (E:=E) hi hv rfl]
     ·cases hr
   ·unfold qO at hr;cases hr
  |none=>
   rcases wm hr with hr|hr
   ·unfold pX at hr;dsimp only at hr
    split at hr
    ·rename_i v hv
     have key:∀lo hi,xR E R t v lo hi st=some r->CS v=true:=by
      intro lo hi hs
      unfold xR at hs
      split at hs<;>first|rfl|cases hs
     rw[qc,lS (E:=E) hi hv (by
      split at hr
      ·exact key _ _ hr
      ·split at hr
       ·exact key _ _ hr
       ·cases hr
      ·split at hr
       ·exact key _ _ hr
       ·cases hr
      ·split at hr
       ·exact key _ _ hr
       ·cases hr)]
    ·cases hr
   unfold qO at hr;dsimp only at hr
   split at hr
   ·rename_i v hv
    have key:∀lo hi,xM E R t v lo hi=some r->CS v=true:=by
     intro lo hi hs
     unfold xM at hs
     split at hs
     ·split at hs<;>first|rfl|cases hs
     ·cases hs
    rw[qc,lS (E:=E) hi hv (by
     split at hr
     ·exact key _ _ hr
     ·split at hr
      ·exact key _ _ hr
      ·cases hr
     ·split at hr
      ·exact key _ _ hr
      ·cases hr
     ·split at hr
      ·exact key _ _ hr
      ·cases hr)]
   ·cases hr
 case lookup t m y ok=>
  have h':=h
  unfold runM at h'
  rw[ho] at h'
  dsimp only at h'
  split at h'
  ·rename_i hsm
   unfold RY at hsm
   split at hsm
   ·rename_i hv;rw[qc,lS (E:=E) hi hv rfl]
   ·cases hsm
  ·split at h'
   ·rename_i hr
    rcases wm hr with hr|hr
    ·unfold pX at hr;cases hr
    unfold qO at hr;dsimp only at hr
    split at hr
    ·rename_i hv _
     rw[qc,lS (E:=E) hi hv (by
      unfold Lh at hr
      split at hr<;>first|rfl|cases hr)]
    ·cases hr
   ·cases h'
 case mapUpdate t m k' v=>
  obtain⟨r,hr⟩:=hop (by simp) (by simp) (by simp)
  rcases wm hr with hr|hr
  ·unfold pX at hr;cases hr
  unfold qO at hr;dsimp only at hr
  split at hr
  ·rename_i hv _ _
   rw[uM,lS (E:=E) hi hv (by
    unfold Cv at hr
    split at hr<;>first|rfl|cases hr)]
  ·cases hr
 case insert t m k' v=>
  obtain⟨r,hr⟩:=hop (by simp) (by simp) (by simp)
  rcases wm hr with hr|hr
  ·unfold pX at hr;cases hr
  unfold qO at hr;dsimp only at hr
  split at hr
  ·rename_i hv _ _
   rw[uM,lS (E:=E) hi hv (by
    unfold Cv at hr
    split at hr<;>first|rfl|cases hr)]
  ·cases hr
 case alloc t=>rw[uM];exact congrArg j6 (Mt hi fH)
 case box t y=>rw[uM];exact congrArg j6 (Mt hi fH)
 case makeMap t y=>rw[uM];exact congrArg j6 (Mt hi fH)
 case makeSlice t y z=>rw[uM];exact congrArg j6 (congrArg (Key.top:: ·) (Mt hi fH))
 case call c=>
  obtain⟨r,hr⟩:=hop (by simp) (by simp) (by simp)
  unfold vQ at hd;rw[aan,ajp] at hd
  obtain⟨hown,hd⟩:=hd
  rw[ho] at hd;dsimp only at hd
  cases hc:c.callee with
  |invoke y m=>rfl
  |builtin bi=>
   rw[hc] at hd;dsimp only at hd
   split at hd
   ·rename_i vs hvs
    have:=Z6 (E:=E) hi hvs hd
    cases bi<;>dsimp only<;>(try rw[<-this])<;>(try rfl)
    rw[hi.om,bq];cases om<;>rfl
   ·cases hd
  |value f=>
   rcases wm hr with hr|hr
   ·unfold pX at hr;dsimp only at hr;rw[hc] at hr;cases hr
   unfold qO at hr;dsimp only at hr
   rw[hc] at hd hr;dsimp only at hd hr
   split at hd
   ·rename_i f' a' b' vs hf hvs
    simp only[hf,hvs] at hr
    cases himp:E.imp f' with
    |true=>rw[himp] at hr;cases hr
    |false=>
     obtain⟨va,vb,h1,h2,h3⟩:=(bf (E:=E) hi .nil hf).mP
     dsimp only;rw[hf,h1];dsimp only
     have dW:jP E fr o f=false:=by
      have:=GQ hi hown
      unfold tL at this
      rw[ho] at this;dsimp only at this
      rw[hc] at this;exact this
     simp only[himp,dW,aap,if_false]
     rw[hvs];dsimp only
     have hrel:=(h2.append (uI (E:=E) hi .nil hvs)).append h3
     cases hcl:xK (a'++vs++b') with
     |true=>rw[GD hR hcl hrel];rfl
     |false=>
      rw[hcl,Bool.false_or] at hd
      rw[Z7 hd hrel];rfl
   ·cases hd
omit hR in
theorem Mv (c:Cx) (all:List Oper) (o:Oper):(ru all o).map (Key.mv c)=ru all o:=by
 have key:∀l:List Key,(∀k∈l,∃t,k= .slot t)->l.map (Key.mv c)=l:=by
  intro l
  induction l with
  |nil=>intro _;rfl
  |cons k l ih=>
   intro h
   obtain⟨t,e⟩:=h k (adg ..)
   rw[ac7,ih fun k hk=>h k (adF _ hk),e];rfl
 refine key _ fun k hk=> ?_
 unfold ru at hk
 rw[agj] at hk
 rcases hk with hk|hk
 ·rw[List.mem_filterMap] at hk
  obtain⟨a,_,ha⟩:=hk
  split at ha
  ·cases ha;exact⟨_,rfl⟩
  ·cases ha
 ·split at hk
  ·split at hk
   ·exact⟨_,adu.1 hk⟩
   ·cases hk
  ·cases hk
omit hR in
theorem Mw (c:Cx) (o:Oper):(lD o).map (Key.mv c)=lD o:=by
 unfold lD
 cases o.dst<;>rfl
omit hR in
theorem TF {c:Cx} (f:bV) (a b:List Key) (ha:a.map (Key.mv c)=a) (hb:b.map (Key.mv c)=b):bV.mv c ⟨f.sO,f.oq,a++f.t,b++f.w⟩=⟨(f.mv c).sO,(f.mv c).oq,a++(f.mv c).t,b++(f.mv c).w⟩:=by
 unfold bV.mv
 dsimp only
 rw[afr,afr,ha,hb]
theorem ajH {om:Bool} {β:Type} {F:Nat->List (FR R)} (bq:ρ.om.om=om) (fH:∀d,o.dst=some d->d<F0) (hi:aH ρ b st fr σ) {k:MS R.T->Option β} {x:β} {all:List Oper} (h:runM E R om F o st k=some x) (hd:vQ E st o=true):(oI E om all st o true).mv ρ.om=fq E all fr o true:=by
 have key:=ajG hR bq fH hi h hd
 unfold oI fq
 rw[if_pos rfl,if_pos rfl,<-key]
 exact TF _ _ _ (Mv _ _ _) (Mw _ _)
omit hR in
theorem Z8 {om:Bool} {all:List Oper} {c:Cx}:(oI E om all st o false).mv c=fq E all fr o false:=by
 unfold oI fq bV.mv
 rw[if_neg (by simp),if_neg (by simp)]
 dsimp only
 rw[Mv,Mw]
omit hR in
theorem ajI {om:Bool} {all:List Oper} {c:Call} {f:Operand} {g:FuncId} {a vb:List V} (hi:aH ρ b st fr σ) (himp:rU E st o=true) (dW:tL E fr o=false) (h1:o.op= .call c) (h2:c.callee= .value f) (h3:fr.ev E f= .fn (.func g) a vb) (h4:E.imp g=true):(oI E om all st o true).mv ρ.om=fq E all fr o true:=by
 have key:(Gj E om st o).mv ρ.om=gP E fr o:=by
  unfold rU at himp
  rw[h1] at himp;dsimp only at himp
  rw[h2] at himp;dsimp only at himp
  unfold tL at dW
  rw[h1] at dW;dsimp only at dW
  rw[h2] at dW;dsimp only at dW
  unfold Gj gP
  rw[h1];dsimp only
  rw[h2];dsimp only
  rw[dW,h3]
  split at himp
  ·rename_i g' a' b' hf
   (try rw[hf])
   (try dsimp only)
   rw[if_pos himp,if_neg (by simp)]
   (try dsimp only)
   rw[if_pos h4]
   rfl
  ·cases himp
 unfold oI fq
 rw[if_pos rfl,if_pos rfl,<-key]
 exact TF _ _ _ (Mv _ _ _) (Mw _ _)
omit hR in
theorem ajJ {β:Type} {F:Nat->List (FR R)} {k:MS R.T->Option β} {x:β} {all:List Oper} (hi:aH ρ b st fr σ) (h:uH R F o st k=some x) (hown:kG E st o=true):(Gl all o).mv ρ.om=fq E all fr o true:=by
 have key:gP E fr o=j6 [.top]:=by
  unfold uH at h
  split at h
  ·rename_i c d ho hd
   split at h
   ·rename_i f fu
    split at h
    ·rename_i g a' b' vs hf hvs
     obtain⟨va,vb,h1,_,_⟩:=(bf (E:=E) hi .nil hf).mP
     have hg:E.own g d=true:=by
      unfold kG at hown
      rw[ho] at hown
      dsimp only at hown
      rw[fu] at hown
      dsimp only at hown
      rw[hf] at hown
      dsimp only at hown
      rw[hd] at hown
      exact hown
     have dW:jP E fr o f=true:=by unfold jP;rw[h1,hd];exact hg
     unfold gP
     rw[ho];dsimp only
     rw[fu];dsimp only
     rw[if_pos dW]
    ·cases h
   ·cases h
  ·cases h
 unfold Gl fq
 rw[if_pos rfl,key]
 exact TF ⟨false,false,[],[.top]⟩ _ _ (Mv _ _ _) (Mw _ _)
theorem Dp {om:Bool} {β:Type} {F:Nat->List (FR R)} (hF:bH E F) {M:Nat->List (FM R)} (hM:Mk E M) {ms:List Nat} {all:List Oper} {k:MS R.T->Option β} {x:β} {Q:Fr->ah->Prop}:∀(os:List Oper) (ay:Nat) (ρ:aN) (st:MS R.T) (fr:Fr) (σ:ah) (fs:List bV),(∀d,aR d (jL os)=true->d<F0)->ρ.om.om=om->aH ρ ay st fr σ->ay+os.length<=σ.next->ny E R om F M ms all os st fs k=some x->
 (∀ρ' st' fr' σ',aH ρ' (ay+os.length) st' fr' σ'->σ.next<=σ'.next->Kp (os.all (tC E)) (jL os) st fr σ ρ st' fr' σ' ρ'->k st'=some x->Q fr' σ')->dU E ms all ay os fr σ (fs.map (bV.mv ρ.om)) Q
 | [],ay,ρ,st,fr,σ,fs,hW0,bq,hi,hsn,h,hq=>by
   unfold ny at h
   obtain⟨h1,h⟩:=dO h
   exact dU.nil (by rw[ajC];exact h1) (hq ρ st fr σ hi (RS _) .refl h)
 |o::os,ay,ρ,st,fr,σ,fs,hW0,bq,hi,hsn,h,hq=>by
  have fH:∀d,o.dst=some d->d<F0:=fun d hd=>hW0 d (Z0 hd)
  have hW1:∀d,aR d (jL os)=true->d<F0:=fun d hd=>hW0 d (Z4 hd)
  have qR:∀{σ':ah},σ.next<=σ'.next->ay+1+os.length<=σ'.next:=fun h=>by rw[List.length_cons] at hsn;omega
  have hg:=ZX (o:=o) (all:=all) hi
  unfold ny at h
  have hW:∀p,aR p (jL (o::os))=false->o.dst≠some p/\aR p (jL os)=false:=fun p hp=>ZY hp
  have hq':∀(ρ1:aN) (st1:MS R.T) (y:V) (σ1:ah),(∀p,o.dst≠some p->aY (tC E o) p st ρ σ st1 ρ1 σ1)->σ.next<=σ1.next->∀ρ' st' fr' σ',aH ρ' (ay+1+os.length) st' fr' σ'->σ1.next<=σ'.next->Kp (os.all (tC E)) (jL os) st1 (fr.put o.dst y) σ1 ρ1 st' fr' σ' ρ'->k st'=some x->Q fr' σ':=fun ρ1 st1 y σ1 hkp h1 ρ' st' fr' σ' hi' hn uL hk=>
   hq ρ' st' fr' σ' (by rw[List.length_cons,Nat.add_comm os.length,<-agh];exact hi') (aav h1 hn) (((Kp.op (fun p hp=>(hW p hp).1) hkp).nr (GU:=(o::os).all (tC E)) (fun e=>by rw[List.all_cons,aan] at e;exact e.1)).trans ((uL.mono fun p hp=>(hW p hp).2).nr (fun e=>by rw[List.all_cons,aan] at e;exact e.2))) hk
  have run:∀(st1:MS R.T),st1.ob=st.ob->aH ρ ay st1 fr σ->eT all fr o=some true->(bif rU E st1 o then (bif kG E st1 o then none else zI R M o st1 (fun st'=>ny E R om F M ms all os st' (fs++[oI E om all st1 o true]) k)) else bif kG E st1 o then uH R F o st1 (fun st'=>ny E R om F M ms all os st' (fs++[Gl all o]) k) else bif !(vQ E st1 o) then none else runM E R om F o st1 (fun st'=>ny E R om F M ms all os st' (fs++[oI E om all st1 o true]) k))=some x->dU E ms all ay (o::os) fr σ (fs.map (bV.mv ρ.om)) Q:=by
   intro st1 xu hi hg h
   have hkq:∀(st':MS R.T) (ρ':aN) (σ':ah),(∀p,o.dst≠some p->aY true p st1 ρ σ st' ρ' σ')->∀p,o.dst≠some p->aY true p st ρ σ st' ρ' σ':=fun st' ρ' σ' h p hp=>(h p hp).from xu
   cases himp:rU E st1 o with
   |true=>
    rw[himp,cond_true] at h
    cases hown:kG E st1 o with
    |true=>rw[hown] at h;cases h
    |false=>
    rw[hown,cond_false] at h
    have dW:=GQ hi hown
    obtain⟨c,f,g',a,vb,f1,f2,f3,f4,n',v,σ',f5,st2,i1,i2,i3,i4⟩:=Tv hR hM hi (by omega) h
    have hf:=ajI (om:=om) (all:=all) hi himp dW f1 f2 f3 f4
    refine dU.KW hg f1 f2 f3 f4 ⟨n',v,σ',f5, ?_⟩ (TD dW f1 f2 f3)
    have:=Dp hF hM os (ay+1) ρ st2 _ σ' _ hW1 bq i1 (qR i2) i4 (hq' ρ st2 v σ' (fun p _=>by rw[TB himp];exact(i3 p).from xu) i2)
    rw[afr,ac7,List.map_nil,hf] at this
    exact this
   |false=>
   rw[himp,cond_false] at h
   cases hown:kG E st1 o with
   |true=>
    rw[hown,cond_true] at h
    refine ajz hR hF hi h hown hg (fun ρ' st' y σ' hi' hn hkp hk=> ?_)
    have:=Dp hF hM os (ay+1) ρ' st' _ σ' _ hW1 ((congrArg Cx.om (zT hkp)).trans bq) hi' (qR (aj2 hn.symm)) hk (hq' ρ' st' y σ' (fun p hp=>(hkq st' ρ' σ' hkp p hp).of) (aj2 hn.symm))
    rw[zT hkp,afr,ac7,List.map_nil,ajJ hi h hown] at this
    exact this
   |false=>
   rw[hown,cond_false] at h
   cases hd:vQ E st1 o
   ·rw[hd] at h;cases h
   ·rw[hd] at h
    have h':runM E R om F o st1 (fun st'=>ny E R om F M ms all os st' (fs++[oI E om all st1 o true]) k)=some x:=h
    have hf:=ajH hR (all:=all) bq fH hi h' hd
    exact Tw hR hF bq fH hi h' (rest:=fun fr' σ'=>dU E ms all (ay+1) os fr' σ' (fs.map (bV.mv ρ.om)++[fq E all fr o true]) Q) (fun y σ' hst hr=>hst.2 (GQ hi (by unfold vQ at hd;rw[aan,ajp] at hd;exact hd.1)) ms all os (fs.map (bV.mv ρ.om)) Q hg hr) (fun ρ' st' y σ' hi' hn hkp hk=>by
     have:=Dp hF hM os (ay+1) ρ' st' _ σ' _ hW1 ((congrArg Cx.om (zT hkp)).trans bq) hi' (qR (aj2 hn.symm)) hk (hq' ρ' st' y σ' (fun p hp=>(hkq st' ρ' σ' hkp p hp).of) (aj2 hn.symm))
     rw[zT hkp,afr,ac7,List.map_nil,hf] at this
     exact this)
  split at h
  ·rename_i hgm
   rw[hgm] at hg
   exact run st rfl hi hg h
  ·rename_i hgm
   rw[hgm] at hg
   have:=Dp hF hM os (ay+1) ρ _ _ σ _ hW1 bq ((hi.le (adh _)).fA o.dst (by unfold Rl;rfl)) (qR (RS _)) h (hq' ρ _ aC σ (fun p _=>aY.same (by first|exact l6|rfl)) (RS _))
   rw[afr,ac7,List.map_nil,Z8 (fr:=fr)] at this
   exact dU.skip hg this
  ·rename_i j w c g hgm
   rw[hgm] at hg
   obtain⟨⟨n,hn⟩,hg2⟩:=hg
   obtain⟨e1,e2,e3⟩:=zS hi n j w c g hn
   cases c with
   |true=>
    obtain⟨l1,l2⟩:=Mr hi (e1 rfl).2 (Ms hi n j w g hn)
    exact run (st.lq g) l2 l1 hg2 h
   |false=>
    obtain⟨l1,l2⟩:=Tx hi hn
    have:=Dp hF hM os (ay+1) ρ _ _ σ _ hW1 bq ((l1.le (adh _)).fA o.dst (by unfold Rl;rfl)) (qR (RS _)) h (hq' ρ _ aC σ (fun p _=>aY.same (l6.trans l2)) (RS _))
    rw[afr,ac7,List.map_nil,Z8 (fr:=fr)] at this
    exact dU.skip hg2 this
  ·cases h
end
end Aq
end
section
namespace Aq
open Go
section
variable {E:Env} {fr:Fr} {σ:ah}
def ah.enter (σ:ah) (fr:Fr) (ps:Array Tmp) (dS body:Code):ah:=({σ with next:=σ.next+1}:ah).fO σ.next {st:=0,pend:=none,fr:=fr,ps:=ps.toList,dS:=dS,body:=body}
def yw (E:Env) (l:Nat) (args:List V) (σ:ah) (b:Bool) (σ':ah):Prop:=∃n,sN (dK E n) l args σ=some (.bool b,σ')
theorem CW.range {f:Operand} {ps:Array Tmp} {dS body:Code} {g:FuncId} {a b:List V} {Q:Ex->Fr->ah->Prop} (hf:fr.ev E f= .fn (.func g) a b) (hi:E.imp g=true)
 (h:qJ E g (a++[.fn (.yield σ.next) [] []]++b) (fr.d+1) (σ.enter fr ps dS body) (fun _ σ2=> ∃r,σ2.loops σ.next=some r/\r.st≠1/\Q (match r.pend with|none=>.normal|some e=>e) fr (σ2.mg σ.next))):CW E (.rangeFunc f ps dS body) fr σ Q:=by
 obtain⟨n,v,σ2,h1,r,h2,h3,h4⟩:=h
 refine⟨n,_,fr,_, ?_,h4⟩
 have h1':iL E (dK E n) fr.d (σ.enter fr ps dS body) (.fn (.func g) a b) [.fn (.yield σ.next) [] []]=some (v,σ2):=by
  unfold iL;simp only[hi,if_true];exact h1
 unfold bZ
 rw[hf]
 simp only[P7,if_true]
 unfold ah.enter at h1'
 rw[h1']
 simp only[Option.bind_some,h2,if_neg h3]
 cases r.pend<;>rfl
theorem yw.of {l:Nat} {args:List V} {r:nY} {b:Bool} {σ':ah} (hl:σ.loops l=some r) (hst:r.st=0) (hlen:r.ps.length=args.length)
 (h:CW E r.dS {r.fr with tm:=(r.ps.zip args).foldl (fun tm (p,a)=>upd tm p a) r.fr.tm} σ (fun e bQ σ1=>e= .normal/\∃r1,σ1.loops l=some r1/\r1.st=0/\
   CW E r.body bQ (σ1.fO l {r1 with st:=1}) (fun e _ σ2=> ∃r2,σ2.loops l=some r2/\r2.st=1/\match e with
    |.normal=>b=true/\σ'=σ2.fO l {r2 with st:=0,pend:=none}
    |e=>b=false/\σ'=σ2.fO l {r2 with st:=2,pend:=some e}))):yw E l args σ b σ':=by
 obtain⟨n,e,bQ,σ1,h1,rfl,r1,hl1,hs1,m,e2,fK,σ2,h2,r2,hl2,hs2,h3⟩:=h
 have h1':(dK E (max n m+1)).code r.dS {r.fr with tm:=(r.ps.zip args).foldl (fun tm (p,a)=>upd tm p a) r.fr.tm} σ=some (.normal,bQ,σ1):=zu (kC (ajR n m)) _ _ _ _ h1
 have h2':(dK E (max n m+1)).code r.body bQ (σ1.fO l {r1 with st:=1})=some (e2,fK,σ2):=zu (kC (ajL n m)) _ _ _ _ h2
 refine⟨max n m+1, ?_⟩
 unfold sN
 simp only[hl,Option.bind_some,hst,hlen,and_self,if_true,h1',hl1,hs1,h2',hl2,hs2]
 cases e2 with
 |normal=>obtain⟨rfl,rfl⟩:=h3;rfl
 |exit i=>obtain⟨rfl,rfl⟩:=h3;rfl
 |ret=>obtain⟨rfl,rfl⟩:=h3;rfl
theorem OW.yield {all:List Oper} {st:Nat} {o:Oper} {os:List Oper} {Q:Fr->ah->Prop} {c:Call} {f:Operand} {l:Nat} {b:Bool} {σ1:ah} (hw:eT all fr o=some true) (ho:o.op= .call c) (fu:c.callee= .value f)
 (hf:fr.ev E f= .fn (.yield l) [] []) (hr:yw E l (c.args.toList.map (fr.ev E)) σ b σ1) (h:OW E all (st+1) os (fr.put o.dst (.bool b)) σ1 Q):OW E all st (o::os) fr σ Q:=by
 obtain⟨n,fr',σ',h1,h2⟩:=h
 obtain⟨m,hm⟩:=hr
 have hm':=Rh (kC (ajL n m)) hm
 have h1':=FV (kC (ajR n m)) _ _ _ _ _ _ h1
 refine⟨max n m,fr',σ', ?_,h2⟩
 have:iL E (dK E (max n m)) fr.d σ (.fn (.yield l) [] []) (c.args.toList.map (fr.ev E))=some (.bool b,σ1):=by
  unfold iL;exact hm'
 have dW:jP E fr o f=false:=by unfold jP;rw[hf]
 simp only[opsE,hw,Option.bind_some,if_true,opC,ho,fu,dW,aap,if_false,hf,this,Option.map_some,h1']
structure Shift (d:Nat) (σ σ':ah):Prop where
 next:σ.next<=σ'.next
 top:∀s,s<σ.next->σ'.top s=σ.top s
 loops:∀l,l<σ.next->σ'.loops l=σ.loops l
 obj:∀a o,a<=d->σ'.obj (a,o)=σ.obj (a,o)
theorem Shift.refl {d:Nat} {σ:ah}:Shift d σ σ:=⟨RS _,fun _ _=>rfl,fun _ _=>rfl,fun _ _ _=>rfl⟩
theorem Shift.trans {d:Nat} {σ σ' lC:ah} (h:Shift d σ σ') (g:Shift d σ' lC):Shift d σ lC:=
 ⟨aav h.next g.next,fun s hs=>(g.top s (adV hs h.next)).trans (h.top s hs),fun s hs=>(g.loops s (adV hs h.next)).trans (h.loops s hs),fun a o ha=>(g.obj a o ha).trans (h.obj a o ha)⟩
def Z9 (E:Env) (f:FuncId) (a b:List V) (L:List (List V)):Prop:=∀(d l:Nat) (σ:ah) (J:List (List V)->ah->Prop) (D:ah->Prop),
 (∀xs σ σ',l<σ.next->J xs σ->Shift d σ σ'->J xs σ')->(∀σ σ',l<σ.next->D σ->Shift d σ σ'->D σ')->
 (∀x xs σ,l<σ.next->J (x::xs) σ->∃c σ',yw E l x σ c σ'/\σ.next<=σ'.next/\(∀a o,d<a->σ'.obj (a,o)=σ.obj (a,o))/\(∀s,s<σ.next->σ'.loops s=σ.loops s\/s=l)/\(c=true->J xs σ')/\(c=false->D σ'))->
 l<σ.next->J L σ->qJ E f (a++[.fn (.yield l) [] []]++b) (d+1) σ fun _ σ'=>σ.next<=σ'.next/\(J [] σ'\/D σ')
end
end Aq
end
