import Derived.Test.YtabmooekodficaaGreatDoorF4412
set_option linter.all false
section
namespace Aq
open Go
section
variable {R:Reg} {E:Env}
variable {ρ:au} {b aj:Nat} {st:MS R.T} {fr:Fr} {σ:Sig} {o:Oper}
theorem Zj {j:Nat} {t:Bool} (h:evM [] st (.tmp j)=some (.bool t)):look st.fr j=some (.bool t):=by
 unfold evM at h
 dsimp only at h
 split at h
 ·rename_i v hv
  cases v<;>first| (cases h;exact hv)| (simp[resG,look] at h;done)
 ·cases h
variable (hR:RegOK R)
include hR
omit hR in
theorem Oy {β:Type} {top:Nat->Nat} {x z:TV R.T} {v zv:V} {k:TV R.T->Bool->Option β} {res:β} (hx:Rl R ρ top x v) (hz:Rl R ρ top z zv):∀{ks vs:List (TV R.T)} {kl vl:List V},lookS x ks vs z k=some res->RlL R ρ top ks kl->RlL R ρ top vs vl->
 ∃y b w r,Rl R ρ top y w/\gQ v kl vl=some r/\((r=none->w=zv/\b=false)/\∀u,r=some u->w=u/\b=true)/\k y b=some res
 | [],[],kl,vl,h,h1,h2=>by
   rw[h1.inv_nil,h2.inv_nil]
   exact⟨z,false,zv,none,hz,rfl,⟨fun _=>⟨rfl,rfl⟩,fun u h=>by cases h⟩,h⟩
 | [],_::_,_,_,h,_,_=>by cases h
 |_::_,[],_,_,h,_,_=>by cases h
 |a::ks,b::vs,kl,vl,h,h1,h2=>by
  obtain⟨k0,k',rfl,g1,g2⟩:=h1.inv_cons
  obtain⟨l0,l',rfl,g3,g4⟩:=h2.inv_cons
  unfold lookS at h
  split at h
  ·rename_i c hc
   have he:=NW hc hx g1
   cases c with
   |true=>exact⟨b,true,l0,some l0,g3,by simp[gQ,he],⟨fun h=>(by cases h),fun u h=>by cases h;exact⟨rfl,rfl⟩⟩,h⟩
   |false=>
    obtain⟨y,bb,w,r,e1,e2,e3,e4⟩:=Oy hx hz h g2 g4
    exact⟨y,bb,w,r,e1,by simp[gQ,he,e2],e3,e4⟩
  ·cases h
theorem HZ {om:Bool} {β:Type} {F:Nat->List (FR R)} (hF:RegsOK E F) (hom:ρ.om.om=om) (aZ:∀d,o.dst=some d->d<F0) (hi:ak ρ aj st fr σ) {k:MS R.T->Option β} {x:β} (h:runM E R om F o st k=some x) {G:Prop} {rest:Fr->Sig->Prop}
 (hs:∀y σ',eD E fr σ aj o y σ'->rest (fr.put o.dst y) σ'->G) (hk:∀ρ' st' y σ',ak ρ' (aj+1) st' (fr.put o.dst y) σ'->σ'.next=σ.next->(∀p,ND E o p->ay true p st ρ σ st' ρ' σ')->k st'=some x->rest (fr.put o.dst y) σ'):G:=by
 have hi1:=hi.le (aeB aj)
 unfold runM at h
 split at h
 ·rename_i c a' b' hop
  split at h
  ·rename_i t hc
   have hc':=(aF (E:=E) hi .nil hc).ji
   split at h
   ·rename_i v hv
    refine hs _ _ (.bP (uf hop hc')) (hk ρ _ _ σ (hi1.putO o.dst ?_) rfl (fun p _=>ay.same (by first|exact eZ|rfl)) h)
    cases t
    ·exact aF (E:=E) hi .nil hv
    ·exact aF (E:=E) hi .nil hv
   ·cases h
  ·rename_i t hc
   have hc':=(aF (E:=E) hi .nil hc).gK
   split at h
   ·rename_i j
    have hj:=hc'
    rw[sS] at hj
    split at h
    ·rename_i x' y' hx hy
     split at h
     ·rename_i v hv
      refine hs _ _ (.bP (uf hop hc')) (hk ρ _ _ σ (hi1.putO o.dst ?_) rfl (fun p _=>ay.same (by first|exact eZ|rfl)) h)
      cases t
      ·exact NV hv (aF (E:=E) hi (.cons hj .nil) hy)
      ·exact NU hv (aF (E:=E) hi (.cons hj .nil) hx)
     ·cases t
      ·exact hs _ _ (.bP (uf hop hc')) (hk ρ _ _ σ ((hi1.learn hj).putO o.dst (aF (E:=E) hi (.cons hj .nil) hy)) rfl (fun p _=>ay.same (by first|exact eZ|rfl)) h)
      ·exact hs _ _ (.bP (uf hop hc')) (hk ρ _ _ σ ((hi1.learn hj).putO o.dst (aF (E:=E) hi (.cons hj .nil) hx)) rfl (fun p _=>ay.same (by first|exact eZ|rfl)) h)
    ·cases h
   ·cases h
  ·cases h
 ·rename_i t a y hop
  split at h
  ·rename_i τ p i off l v hst
   unfold elSt at hst
   split at hst
   ·rename_i p' τ1 i' off' v' ha hv
    split at hst
    ·rename_i τ' l0 sz hl hsz
     split at hst
     ·rename_i l1 hl1
      obtain⟨hc,hst⟩:=aM hst
      cases hst
      obtain⟨e,e2⟩:=iJ hl1;subst e;cases e2
      simp only[RS] at hc
      obtain⟨⟨⟨c1,c2⟩,c3⟩,c4⟩:=hc
      obtain⟨z,hz,h⟩:=iR.1 h
      split at h
      ·rename_i y' hu
       obtain⟨s,h1,_,h2⟩:=(aF (E:=E) hi .nil ha).qc
       obtain⟨h6,h7⟩:=iL c4 (aF (E:=E) hi .nil hv)
       have hO:=hi.ob _ _ hl
       obtain⟨cs,k1,k2,k3,k4⟩:=Ym hR hO h1 hz h6 (ae2 c2) hu
       refine hs undefV (σ.setObj (ρ.om.lc p) s (.cells (spliceL cs (i.toNat*szD R τ'+off) (fr.ev E y).cells))) (.bP (o:=o) ?_) (hk ρ _ undefV _ ((hi1.set p s (x:=.arr τ' (setL l0 i y')) (a:=.cells (spliceL cs (i.toNat*szD R τ'+off) (fr.ev E y).cells)) ⟨k4.trans hO.1,.inr ⟨s,_,h1,cells_eq _ _ _ _,k3⟩⟩).putO o.dst (x:=.undef) (by unfold Rl;rfl)) rfl (fun q _=>(ay.set hl rfl).congr eZ) h)
       simp only[opV,hop,h2,k1,Option.bind_some]
       rw[if_pos ⟨by rw[hsz,h6.length,aP c1],k2,tL c3 h6⟩]
      ·cases h
     ·cases hst
    ·cases hst
   ·cases hst
  ·split at h
   ·rename_i v st' hr
    rw[<-hop] at hr
    obtain⟨y,σ',ρ',h1,h2,h3,h4,h5⟩:=lg hR hF hom aZ .nil hi hr
    exact hs y σ' h1 (hk ρ' _ y σ' (h2.putO o.dst h4) h3 (fun p hp=>(h5 p hp).congr eZ) h)
   ·cases h
 ·rename_i t m y ok hop
  split at h
  ·rename_i ks vs q z hsm
   unfold lookSM at hsm
   split at hsm
   ·rename_i p hm
    split at hsm
    ·rename_i ks' vs' hl
     split at hsm
     ·rename_i q' kt et hq ht
      split at hsm
      ·rename_i z' hz
       obtain⟨hkey,hsm⟩:=aM hsm
       cases hsm
       obtain⟨s,a1,a2⟩:=(aF (E:=E) hi .nil hm).mK
       obtain⟨s',k0,l0,b1,b2,b3,b4⟩:=hi.rd hl
       rw[a1] at b1;cases b1
       have hqr:=aF (E:=E) hi .nil hq
       obtain⟨zv,z1,z2⟩:=qp (ρ:=ρ) (top:=σ.top) hz
       obtain⟨v,bb,w,r,c1,c2,c3,c4⟩:=Oy hqr z2 h b3 b4
       have hlk:kP E.P σ t (fr.ev E m) (fr.ev E y) ok=some (if ok then .tup [w,.bool bb] else w):=by
        rw[Nc,ht];simp only[Option.bind_some]
        rw[if_pos (NY hkey hqr),a2]
        show (σ.bg (ρ.om.lc p) s).bind _=_
        rw[b2];simp only[Option.bind_some,c2]
        cases r with
        |none=>simp only[z1,Option.map_some];obtain⟨e1,e2⟩:=c3.1 rfl;rw[e1,e2]
        |some u=>simp only[Option.map_some];obtain⟨e1,e2⟩:=c3.2 u rfl;rw[e1,e2]
       refine hs _ σ (.bP (o:=o) ?_) (hk ρ _ (if ok then .tup [w,.bool bb] else w) σ (hi1.putO o.dst ?_) rfl (fun p _=>ay.same (by first|exact eZ|rfl)) c4)
       ·simp only[opV,hop,hlk,Option.map_some]
       ·cases ok
        ·exact c1
        ·rw[cond_true,if_pos rfl];unfold Rl;exact⟨_,rfl,.cons' c1 (.cons' (by unfold Rl;rfl) rfl)⟩
      ·cases hsm
     ·cases hsm
    ·cases hsm
   ·cases hsm
  ·split at h
   ·rename_i v hr
    rw[<-hop] at hr
    obtain⟨y,h1,h2⟩:=lg hR hF hom aZ .nil hi hr
    exact hs y σ h1 (hk ρ _ y σ (hi1.putO o.dst h2) rfl (fun p _=>ay.same (by first|exact eZ|rfl)) h)
   ·cases h
 ·split at h
  ·rename_i v hr
   obtain⟨y,h1,h2⟩:=lg hR hF hom aZ .nil hi hr
   exact hs y σ h1 (hk ρ _ y σ (hi1.putO o.dst h2) rfl (fun p _=>ay.same (by first|exact eZ|rfl)) h)
  ·rename_i c v hr
   obtain⟨hc,h⟩:=aM h
   obtain⟨y,h1,h2⟩:=lg hR hF hom aZ .nil hi hr hc
   exact hs y σ h1 (hk ρ _ y σ (hi1.putO o.dst h2) rfl (fun p _=>ay.same (by first|exact eZ|rfl)) h)
  ·rename_i v st' hr
   obtain⟨y,σ',ρ',h1,h2,h3,h4,h5⟩:=lg hR hF hom aZ .nil hi hr
   exact hs y σ' h1 (hk ρ' _ y σ' (h2.putO o.dst h4) h3 (fun p hp=>(h5 p hp).congr eZ) h)
  ·rename_i c v st' hr
   obtain⟨hc,h⟩:=aM h
   obtain⟨y,σ',ρ',h1,h2,h3,h4,h5⟩:=lg hR hF hom aZ .nil hi hr hc
   exact hs y σ' h1 (hk ρ' _ y σ' (h2.putO o.dst h4) h3 (fun p hp=>(h5 p hp).congr eZ) h)
  ·rename_i α z q f hr
   obtain⟨a,ha,h⟩:=iR.1 h
   obtain⟨y,h1,h2⟩:=lg hR hF hom aZ .nil hi hr a ha
   exact hs y σ h1 (hk ρ _ y σ (hi1.putO o.dst h2) rfl (fun p _=>ay.same (by first|exact eZ|rfl)) h)
  ·cases h
omit hR in
theorem qy (hi:ak ρ b st fr σ):∀(n j:Nat) (w c:Bool) (g:List (Nat×Bool)),effM st n j w=some (c,g)->(c=true->fr.tm j= .bool w/\gZ fr g)/\(c=false->fr.tm j= .bool (!w)\/fr.tm j=undefV)/\(g=[(j,w)]->c=false->fr.tm j= .bool (!w))
 |0,j,w,c,g,h=>by cases h
 |n+1,j,w,c,g,h=>by
  have key:∀(i:Nat) (u a:Bool) (y:TV R.T),look st.fr j=some (.opt i u y)->(∀v,Rl R ρ σ.top y v->v= .bool a)->(match effM st n i u with
   |some (c,g)=>some (andB c (eqw a w),(j,w)::g)
   |none=>none)=some (c,g)->(c=true->fr.tm j= .bool w/\gZ fr g)/\(c=false->fr.tm j= .bool (!w)\/fr.tm j=undefV)/\(g=[(j,w)]->c=false->fr.tm j= .bool (!w)):=by
   intro i u a y hl hy h
   split at h
   ·rename_i c0 g0 he
    cases h
    obtain⟨h1,h2,h3⟩:=qy hi n i u c0 g0 he
    have hr:=hi.fr _ _ hl
    have hg0:g0≠[]:=by
     rintro rfl
     cases n with
     |zero=>cases he
     |succ n=>
      unfold effM at he
      split at he
      ·cases he
      ·split at he<;>cases he
      ·split at he<;>cases he
      ·cases he
    refine⟨fun hc=>?_,fun hc=>?_,fun hg=>absurd (by simpa using hg) hg0⟩
    ·cases c0 with
     |false=>cases hc
     |true=>
      obtain⟨a1,a2⟩:=h1 rfl
      have hv:=hy _ (hr.1 a1)
      have hc':eqw a w=true:=hc
      have:a=w:=by cases a<;>cases w<;>first|rfl|cases hc'
      subst this
      exact⟨hv,.cons hv a2⟩
    ·cases c0 with
     |false=>exact .inr (hr.2 (h2 rfl))
     |true=>
      obtain⟨a1,a2⟩:=h1 rfl
      have hv:=hy _ (hr.1 a1)
      have hc':eqw a w=false:=hc
      have:a= !w:=by cases a<;>cases w<;>first|rfl|cases hc'
      subst this
      exact .inl hv
   ·cases h
  unfold effM at h
  split at h
  ·rename_i a hl
   cases h
   have hv:=(show Rl R ρ σ.top (.bool a) (fr.tm j) from hi.fr _ _ hl).gK
   refine⟨fun hc=>?_,fun hc=>.inl ?_,fun _ hc=>?_⟩
   ·have:a=w:=by cases a<;>cases w<;>first|rfl|cases hc
    subst this;exact⟨hv,.cons hv .nil⟩
   ·have:a= !w:=by cases a<;>cases w<;>first|rfl|cases hc
    subst this;exact hv
   ·have:a= !w:=by cases a<;>cases w<;>first|rfl|cases hc
    subst this;exact hv
  ·rename_i i u a hl;exact key i u a _ hl (fun v hv=>hv.gK) h
  ·rename_i i u a hl;exact key i u a _ hl (fun v hv=>hv.ji) h
  ·cases h
omit hR in
theorem Oz {all:List Oper} (hi:ak ρ b st fr σ):match guardM all st o with
 |.run=>aO all fr o=some true
 |.skip=>aO all fr o=some false
 |.dyn j w c g=>(∃n,effM st n j w=some (c,g))/\aO all fr o=some c
 |.no=>True:=by
 unfold guardM aO
 cases hg:o.guard with
 |none=>rfl
 |some p=>
  obtain⟨j,w⟩:=p
  dsimp only
  cases hj:all[j]? with
  |none=>rfl
  |some p=>
   simp only[Option.bind_some]
   cases hd:p.dst with
   |none=>rfl
   |some t=>
    dsimp only
    have dyn:∀c g,effM st 12 t w=some (c,g)->(match fr.tm t with
     |.bool b=>some (b==w)
     |.raw _=>none
     |_=>some false)=some c:=by
     intro c g he
     obtain⟨h1,h2,_⟩:=qy hi 12 t w c g he
     cases c with
     |true=>rw[(h1 rfl).1];simp
     |false=>
      rcases h2 rfl with h2|h2
      ·rw[h2];cases w<;>rfl
      ·rw[h2];rfl
    cases hl:look st.fr t with
    |none=>
     dsimp only
     cases he:effM st 12 t w with
     |none=>trivial
     |some q=>exact⟨⟨12,he⟩,dyn _ _ he⟩
    |some v=>
     have hr:=hi.fr _ _ hl
     cases v with
     |blit c=>
      have:=(show Rl R ρ σ.top (.blit c) (fr.tm t) from hr).ji
      rw[this]
      cases c<;>cases w<;>rfl
     |undef=>
      have:=(show Rl R ρ σ.top .undef (fr.tm t) from hr).Ma
      rw[this];rfl
     |_=>
      dsimp only
      cases he:effM st 12 t w with
      |none=>trivial
      |some q=>exact⟨⟨12,he⟩,dyn _ _ he⟩
omit hR in
theorem BX (hi:ak ρ b st fr σ):∀{g:List (Nat×Bool)},gZ fr g->(∀j u,(j,u)∈g->fr.tm j= .bool u)->ak ρ b (st.learnG g) fr σ/\(st.learnG g).ob=st.ob
 | [],_,_=>⟨hi,rfl⟩
 | (j,w)::g,hg,hm=>by
   obtain⟨h1,h2⟩:=BX hi (g:=g) (fun i u h=>by
    exact hm i u (by
     have:∀g:List (Nat×Bool),look g i=some u->(i,u)∈g:=by
      intro g
      induction g with
      |nil=>intro h;cases h
      |cons p g ih=>
       intro h
       obtain⟨k,v⟩:=p
       by_cases e:i=k
       ·subst e;rw[bX] at h;cases h;simp
       ·rw[bf _ _ e] at h;simp[ih h]
     exact ae0 _ (this g h))) (fun i u h=>hm i u (by simp[h]))
   exact⟨h1.learn (hm j w (by simp)),h2⟩
omit hR in
theorem BZ (hi:ak ρ b st fr σ):∀(n j:Nat) (w:Bool) (g:List (Nat×Bool)),effM st n j w=some (true,g)->∀i u,(i,u)∈g->fr.tm i= .bool u
 |0,j,w,g,h=>by cases h
 |n+1,j,w,g,h=>by
  have hj:=((qy hi (n+1) j w true g h).1 rfl).1
  unfold effM at h
  split at h
  ·simp only[iE,mF] at h
   obtain⟨_,rfl⟩:=h
   intro i u hm;simp at hm;obtain⟨rfl,rfl⟩:=hm;exact hj
  all_goals first
   | (split at h
      ·rename_i c0 g0 he
       simp only[iE,mF] at h
       obtain⟨hc,rfl⟩:=h
       cases c0 with
       |false=>cases hc
       |true=>
        intro i u hm
        rcases aeQ.1 hm with hm|hm
        ·cases hm;exact hj
        ·exact BZ hi n _ _ g0 he i u hm
      ·cases h)
   |cases h
omit hR in
theorem H6 (hi:ak ρ b st fr σ) {n j:Nat} {w:Bool} {g:List (Nat×Bool)} (hj:effM st n j w=some (false,g)):ak ρ b (st.learnN g) fr σ/\(st.learnN g).ob=st.ob:=by
 obtain⟨_,_,e3⟩:=qy hi n j w false g hj
 rcases g with _| ⟨⟨j',w'⟩,_| ⟨p,g⟩⟩
 ·exact⟨hi,rfl⟩
 ·have hj':j'=j/\w'=w:=by
   cases n with
   |zero=>cases hj
   |succ n=>
    unfold effM at hj
    split at hj
    ·simp only[iE,mF,afg] at hj
     exact⟨hj.2.1.1.symm,hj.2.1.2.symm⟩
    ·split at hj
     ·simp only[iE,mF,afg] at hj
      exact⟨hj.2.1.1.symm,hj.2.1.2.symm⟩
     ·exact absurd hj (by simp)
    ·split at hj
     ·simp only[iE,mF,afg] at hj
      exact⟨hj.2.1.1.symm,hj.2.1.2.symm⟩
     ·exact absurd hj (by simp)
    ·exact absurd hj (by simp)
  obtain⟨rfl,rfl⟩:=hj'
  exact⟨hi.learn (e3 rfl rfl),rfl⟩
 ·exact⟨hi,rfl⟩
theorem Zk {om:Bool} {β:Type} {F:Nat->List (FR R)} (hF:RegsOK E F) (hom:ρ.om.om=om) (aZ:∀d,o.dst=some d->d<F0) (hi:ak ρ aj st fr σ) {j n:Nat} {w c:Bool} {g:List (Nat×Bool)} (hj:effM st n j w=some (c,g)) {k:MS R.T->Option β} {x:β} (h:dynM E R om F o j w c g st k=some x) {G:Prop} {rest:Fr->Sig->Prop}
 (hs:c=true->∀y σ',eD E fr σ aj o y σ'->rest (fr.put o.dst y) σ'->G) (hs':c=false->rest (fr.put o.dst undefV) σ->G)
 (hk:∀ρ' st' y σ',ak ρ' (aj+1) st' (fr.put o.dst y) σ'->σ'.next=σ.next->(∀p,ND E o p->ay true p st ρ σ st' ρ' σ')->k st'=some x->rest (fr.put o.dst y) σ'):G:=by
 have hi1:=hi.le (aeB aj)
 obtain⟨e1,e2,e3⟩:=qy hi n j w c g hj
 have H7:(bif c then runM E R om F o (st.learnG g) k else k ((st.learnN g).putO o.dst .undef))=some x->G:=by
  intro h
  cases c with
  |true=>
   obtain⟨l1,l2⟩:=BX hi (e1 rfl).2 (BZ hi n j w g hj)
   exact HZ hR hF hom aZ l1 h (hs rfl) (fun ρ' st' y σ' a b c d=>hk ρ' st' y σ' a b (fun p hp=>(c p hp).from l2) d)
  |false=>
   obtain⟨n1,n2⟩:=H6 hi hj
   have hN:ak ρ (aj+1) (st.learnN g) fr σ/\(st.learnN g).ob=st.ob:=⟨n1.le (aeB _),n2⟩
   refine hs' rfl (hk ρ _ undefV σ (hN.1.putO o.dst (by unfold Rl;rfl)) rfl (fun p _=>ay.same (eZ.trans hN.2)) h)
 unfold dynM at h
 split at h
 ·rename_i d hd
  have hput:memN d (g.map (·.1))=false->∀(v:TV R.T) (y:V),(c=true->Rl R ρ σ.top v y)->(c=false->y=undefV)->ak ρ (aj+1) (st.put d (.opt j w v)) (fr.put o.dst y) σ:=by
   intro hdj v y h1 h2
   have hne:(fr.set d y).tm j=fr.tm j:=by
    refine xu _ _ ?_
    cases n with
    |zero=>cases hj
    |succ n=>
     have hmem:memN d (g.map (·.1))=false:=hdj
     have:∃g',g=(j,w)::g':=by
      unfold effM at hj
      split at hj
      ·cases hj;exact⟨[],rfl⟩
      all_goals first
       | (split at hj
          ·simp only[iE,mF] at hj
           exact⟨_,hj.2.symm⟩
          ·cases hj)
       |cases hj
     obtain⟨g',rfl⟩:=this
     have h':(Nat.beq d j||memN d (g'.map (·.1)))=false:=hmem
     rw[ae8] at h'
     simpa using (qg h'.1).symm
   rw[hd,nS]
   refine hi1.put d ⟨fun hc=>?_,fun hc=>?_⟩
   ·rw[hne] at hc
    refine h1 ?_
    cases c with
    |true=>rfl
    |false=>
     rcases e2 rfl with e|e
     ·rw[e] at hc;cases w<;>cases hc
     ·rw[e] at hc;cases hc
   ·rw[hne] at hc
    refine h2 ?_
    cases c with
    |false=>rfl
    |true=>
     rw[(e1 rfl).1] at hc
     rcases hc with hc|hc
     ·cases w<;>cases hc
     ·cases hc
  cases hdj:memN d (g.map (·.1))
  ·rw[hdj] at h
   simp only[cond_false] at h
   split at h
   ·rename_i v hr
    cases c with
    |true=>
     obtain⟨y,h1,h2⟩:=lg hR hF hom aZ (e1 rfl).2 hi hr
     exact hs rfl y σ h1 (hk ρ _ y σ (hput hdj v y (fun _=>h2) (fun h=>by cases h)) rfl (fun p _=>ay.same rfl) h)
    |false=>exact hs' rfl (hk ρ _ undefV σ (hput hdj v undefV (fun h=>by cases h) (fun _=>rfl)) rfl (fun p _=>ay.same rfl) h)
   ·rename_i q v hr
    obtain⟨hq,hh⟩:=aM h
    clear h
    cases c with
    |true=>
     obtain⟨y,h1,h2⟩:=lg hR hF hom aZ (e1 rfl).2 hi hr hq
     exact hs rfl y σ h1 (hk ρ _ y σ (hput hdj v y (fun _=>h2) (fun h=>by cases h)) rfl (fun p _=>ay.same rfl) hh)
    |false=>exact hs' rfl (hk ρ _ undefV σ (hput hdj v undefV (fun h=>by cases h) (fun _=>rfl)) rfl (fun p _=>ay.same rfl) hh)
   ·rename_i α z q f hr
    obtain⟨a,ha,hh⟩:=iR.1 h
    clear h
    cases c with
    |true=>
     obtain⟨y,h1,h2⟩:=lg hR hF hom aZ (e1 rfl).2 hi hr a ha
     exact hs rfl y σ h1 (hk ρ _ y σ (hput hdj _ y (fun _=>h2) (fun h=>by cases h)) rfl (fun p _=>ay.same rfl) hh)
    |false=>exact hs' rfl (hk ρ _ undefV σ (hput hdj _ undefV (fun h=>by cases h) (fun _=>rfl)) rfl (fun p _=>ay.same rfl) hh)
   ·exact H7 h
  ·rw[hdj] at h
   exact H7 h
 ·exact H7 h
omit hR in
theorem qz {ρ':au} {st':MS R.T} {σ':Sig} (h:∀p,ND E o p->ay true p st ρ σ st' ρ' σ'):ρ'.om=ρ.om:=by
 cases hd:o.dst with
 |none=>exact(h 0 ⟨by rw[hd];simp,fun d e=>by rw[hd] at e;cases e⟩).om
 |some d=>exact(h (d+E.cn d+1) ⟨fun e=>by rw[hd] at e;exact absurd (aeF e) (ae4 (Nat.lt_succ_of_le (aeG d (E.cn d)))),fun d' e=>by rw[hd] at e;cases e;exact ae4 (Nat.lt_succ_of_le (Nat.le_add_left (E.cn d) d))⟩).om
omit hR in
theorem H9 {ρ':au} {st':MS R.T} {σ':Sig} (h:∀p,ND E o p->ay false p st ρ σ st' ρ' σ'):ρ'.om=ρ.om:=by
 cases hd:o.dst with
 |none=>exact(h 0 ⟨by rw[hd];simp,fun d e=>by rw[hd] at e;cases e⟩).om
 |some d=>exact(h (d+E.cn d+1) ⟨fun e=>by rw[hd] at e;exact absurd (aeF e) (ae4 (Nat.lt_succ_of_le (aeG d (E.cn d)))),fun d' e=>by rw[hd] at e;cases e;exact ae4 (Nat.lt_succ_of_le (Nat.le_add_left (E.cn d) d))⟩).om
omit hR in
theorem OA {os:List Oper} {p:Nat} (h:memN p (dstsL E (o::os))=false):ND E o p/\memN p (dstsL E os)=false:=by
 unfold dstsL at h
 split at h
 ·rename_i d hd
  have h':(Nat.beq p d||(Nat.beq p (E.cn d)||memN p (dstsL E os)))=false:=h
  rw[ae8,ae8] at h'
  refine⟨⟨fun e=>?_,fun d' e e2=>?_⟩,h'.2.2⟩
  ·rw[hd] at e;cases e;rw[afi] at h';exact absurd h'.1 (by simp)
  ·rw[hd] at e;cases e;rw[e2,afi] at h';exact absurd h'.2.1 (by simp)
 ·rename_i hd
  refine⟨⟨fun e=>?_,fun d' e=>?_⟩,h⟩
  ·rw[hd] at e;cases e
  ·rw[hd] at e;cases e
omit hR in
theorem yt (hi:ak ρ b st fr σ) (h:isOwnM E st o=false):kE E fr o=false:=by
 unfold isOwnM at h
 unfold kE
 split at h
 ·rename_i c hc
  rw[hc]
  dsimp only
  split at h
  ·rename_i f hf
   rw[hf]
   dsimp only
   split at h
   ·rename_i g a' b' hv
    obtain⟨va,vb,h1,_,_⟩:=(aF (E:=E) hi .nil hv).eB
    unfold dJ
    rw[h1]
    split at h
    ·rename_i d hd;rw[hd];exact h
    ·rename_i hd;rw[hd]
   ·cases h
  ·rename_i hne
   split
   ·rename_i f hf;exact absurd hf (hne f)
   ·rfl
 ·rename_i hne
  split
  ·rename_i c hc;exact absurd hc (hne c)
  ·rfl
theorem Zl {k k':Sk} {l:List Sk} {c:TV R.T} {cs:List (TV R.T)} {p:PayL R.T (k::k'::l)} (h:pkL R (k::k'::l) (c::cs)=some p):
 ∃x q,pk R k c=some x/\pkL R (k'::l) cs=some q/\p=(x,q):=by
 have h':(match pk R k c with
  |some x=>match pkL R (k'::l) cs with
   |some p=>some (x,p)
   |none=>none
  |none=>none)=some p:=h
 cases hu:pk R k c with
 |none=>rw[hu] at h';cases h'
 |some u=>
  rw[hu] at h';dsimp only at h'
  cases hq:pkL R (k'::l) cs with
  |none=>rw[hq] at h';cases h'
  |some q=>rw[hq] at h';cases h';exact⟨u,q,rfl,rfl,rfl⟩
theorem Ia {F:Nat->List (FR R)} (hF:RegsOK E F) {f:Nat} {args:List (TV R.T)} {yu:List V} (ha:RlL R ρ σ.top args yu) (hi:ak ρ b st fr σ):∀{l:List (FR R)} {τ:Ty} {x:Option (List (Den R.T τ))},(∀r∈l,r∈F f)->findO R args (cloMs st args) l=some ⟨τ,x⟩->
 ∀y,x=some y->∃as,iX (E.ownN f) σ yu=some as/\yu.all (fun x=>pclean (er x))=true/\gY E f as (szD R τ) (y.map (encD R τ))
 | [],τ,x,_,h=>by cases h
 | ⟨as,res,G,d0,own⟩::l,τ,x,hl,h=>by
   have rest:findO R args (cloMs st args) l=some ⟨τ,x⟩->∀y,x=some y->∃as,iX (E.ownN f) σ yu=some as/\yu.all (fun x=>pclean (er x))=true/\gY E f as (szD R τ) (y.map (encD R τ)):=fun h=>Ia hF ha hi (fun r hr=>hl r (ae0 _ hr)) h
   unfold findO at h
   split at h
   ·cases h
   ·rename_i as' τ' G' d' l' heq
    obtain⟨e1,e2⟩:=List.cons.inj heq
    subst e2
    cases e1
    split at h
    ·rename_i p hp
     obtain⟨hc,h⟩:=aM h
     cases h
     simp only[RS] at hc
     obtain⟨⟨c1,c2⟩,c3⟩:=hc
     intro y hy
     have hb:=(hF f ⟨as,[.d (.slice τ)],G',d',true⟩ (hl _ (aeW ..)) p y hy).2 rfl τ rfl y rfl
     cases hn:cSkL as with
     |true=>
      obtain⟨b1,b2⟩:=hb.1 hn
      obtain⟨vs',v1,v2⟩:=xM hR hi ha
      have xR:=iN hR as p (cloMs st args) _ hn hp v1 20 σ (by have:=ae2 c2;omega)
      exact⟨_,by rw[b1];unfold iX;rw[if_neg (by simp)];exact(v2 16).trans xR,xQ hR c3 ha,b2⟩
     |false=>
      obtain⟨b1,b2⟩:=hb.2 hn
      rw[hn,Bool.false_or] at c1
      cases as with
      |nil=>cases c1
      |cons k as=>
      cases k<;>first| (cases c1;done)|skip
      cases as with
      |nil=>cases c1
      |cons k' as=>
      cases args with
      |nil=>exact absurd (show none=some p from hp) (by simp)
      |cons c args=>
      obtain⟨v,vs,rfl,h1,h2⟩:=ha.inv_cons
      have hp0:pkL R (.nils::k'::as) (cloM st c::cloMs st args)=some p:=by simpa only[cloMs] using hp
      obtain⟨u,q,hu,q1,hpq⟩:=Zl hR hp0
      have hc:c= .nils:=by
       have hp':(pk R .nils (cloM st c)).isSome=true:=by rw[hu];rfl
       cases c<;>first|rfl|skip
       all_goals
        exfalso
        revert hp'
        unfold cloM clo1
        repeat' split
        all_goals (intro h;cases h)
      subst hc
      have q2:NA (encSL R (.nils::k'::as) p)= .lst .nil []::encSL R (k'::as) q:=by rw[hpq];rfl
      rw[h1.fF]
      obtain⟨vs',v1,v2⟩:=xM hR hi h2
      have xR:=iN hR (k'::as) q (cloMs st args) _ c1 q1 v1 20 σ (by have h9:=ae2 c2;rw[depL] at h9;omega)
      rw[q2] at b2
      refine⟨_,by rw[b1];unfold iX;rw[if_pos rfl];dsimp only;rw[v2 16,xR];rfl,?_,b2⟩
      have:=xQ hR c3 ha
      rw[h1.fF] at this
      exact this
    ·exact rest h
   ·rename_i heq
    obtain⟨_,e2⟩:=List.cons.inj heq
    subst e2
    exact rest h
theorem Zm {β:Type} {F:Nat->List (FR R)} (hF:RegsOK E F) (hi:ak ρ aj st fr σ) {k:MS R.T->Option β} {x:β} (h:ownM R F o st k=some x) (hown:isOwnM E st o=true) {all os:List Oper} {Q:Fr->Sig->Prop} (hw:aO all fr o=some true)
 (hk:∀(ρ':au) (st':MS R.T) (y:V) (σ':Sig),ak ρ' (aj+1) st' (fr.put o.dst y) σ'->σ'.next=σ.next->(∀p,ND E o p->ay true p st ρ σ st' ρ' σ')->k st'=some x->OW E all (aj+1) os (fr.put o.dst y) σ' Q):OW E all aj (o::os) fr σ Q:=by
 unfold ownM at h
 split at h
 ·rename_i c d ho hd
  split at h
  ·rename_i f aQ
   split at h
   ·rename_i g a' b' vs hf hvs
    split at h
    ·rename_i τ xo hfo
     obtain⟨l,hl,h⟩:=iR.1 h
     obtain⟨va,vb,h1,h2,h3⟩:=(aF (E:=E) hi .nil hf).eB
     have hrel:=(h2.append (kY (E:=E) hi .nil hvs)).append h3
     obtain⟨as,has,hcl,hO⟩:=Ia hR hF hrel hi (fun _ hr=>hr) hfo l hl
     have hg:E.own g d=true:=by
      unfold isOwnM at hown
      rw[ho] at hown
      dsimp only at hown
      rw[aQ] at hown
      dsimp only at hown
      rw[hf] at hown
      dsimp only at hown
      rw[hd] at hown
      exact hown
     have hdp:∀y:V,fr.put o.dst y=fr.set d y:=fun y=>by rw[hd];rfl
     refine OW.own hw ho aQ h1 hd hg has hO hcl (fun cp hcp=>?_) ?_
     ·refine hk (ρ.bK d aj) _ _ σ ?_ rfl ?_ h
      ·have e:σ.aI aj (σ.top aj)=σ:=by
        unfold Sig.aI
        have:upd σ.top aj (σ.top aj)=σ.top:=by
         funext j;unfold upd;split
         ·rename_i e;rw[e]
         ·rfl
        rw[this]
       have:=hi.wk d aj (σ.top aj) (aeB _) (afw _) hi.nx (fun u _ hu=>by have:=hi.lt u _ hu;omega)
       rw[e] at this
       rw[hdp]
       refine this.put d (.of ?_)
       unfold Rl
       exact⟨cp,rfl,by rcases hcp with rfl|rfl;exact .inl rfl;exact .inr (.inl rfl)⟩
      ·intro p hp
       have e:σ.aI aj (σ.top aj)=σ:=by
        unfold Sig.aI
        have:upd σ.top aj (σ.top aj)=σ.top:=by
         funext j;unfold upd;split
         ·rename_i e;rw[e]
         ·rfl
        rw[this]
       have:=(ay.wk (nr:=true) (p:=p) (t:=d) (s:=aj) (n:=σ.top aj) (ρ:=ρ) (st:=st) (σ:=σ) hi.nx)
       rw[e] at this
       exact this.congr rfl
     ·refine hk (ρ.bK d aj) _ _ _ ?_ rfl ?_ h
      ·rw[hdp]
       have:=hi.wk d aj (l.map (encD R τ)).length (aeB _) (afw _) hi.nx (fun u _ hu=>by have:=hi.lt u _ hu;omega)
       refine this.put d (.of ?_)
       unfold Rl
       exact⟨_,rfl,.inr (.inr ⟨aj,rfl,by simp[au.bK,upd],by rw[sU,ab3]⟩)⟩
      ·intro p hp
       exact(ay.wk (nr:=true) (p:=p) hi.nx).congr rfl
    ·cases h
   ·cases h
  ·cases h
 ·cases h
theorem Zn {β:Type} {F:Nat->List (FR R)} (hF:RegsOK E F) (hi:ak ρ aj st fr σ) {k:MS R.T->Option β} {x:β} (h:ownM R F o st k=some x) (hown:isOwnM E st o=true) {ms:List Nat} {fs:List Foot} {all os:List Oper} {Q:Fr->Sig->Prop} (hw:aO all fr o=some true)
 (hk:∀(ρ':au) (st':MS R.T) (y:V) (σ':Sig),ak ρ' (aj+1) st' (fr.put o.dst y) σ'->σ'.next=σ.next->(∀p,ND E o p->ay true p st ρ σ st' ρ' σ')->k st'=some x->FW' E ms all (aj+1) os (fr.put o.dst y) σ' (fs++[footI E all fr o true]) Q):FW' E ms all aj (o::os) fr σ fs Q:=by
 unfold ownM at h
 split at h
 ·rename_i c d ho hd
  split at h
  ·rename_i f aQ
   split at h
   ·rename_i g a' b' vs hf hvs
    split at h
    ·rename_i τ xo hfo
     obtain⟨l,hl,h⟩:=iR.1 h
     obtain⟨va,vb,h1,h2,h3⟩:=(aF (E:=E) hi .nil hf).eB
     have hrel:=(h2.append (kY (E:=E) hi .nil hvs)).append h3
     obtain⟨as,has,hcl,hO⟩:=Ia hR hF hrel hi (fun _ hr=>hr) hfo l hl
     have hg:E.own g d=true:=by
      unfold isOwnM at hown
      rw[ho] at hown
      dsimp only at hown
      rw[aQ] at hown
      dsimp only at hown
      rw[hf] at hown
      dsimp only at hown
      rw[hd] at hown
      exact hown
     have hdp:∀y:V,fr.put o.dst y=fr.set d y:=fun y=>by rw[hd];rfl
     refine FW'.own hw ho aQ h1 hd hg has hO hcl (fun cp hcp=>?_) ?_
     ·refine hk (ρ.bK d aj) _ _ σ ?_ rfl ?_ h
      ·have e:σ.aI aj (σ.top aj)=σ:=by
        unfold Sig.aI
        have:upd σ.top aj (σ.top aj)=σ.top:=by
         funext j;unfold upd;split
         ·rename_i e;rw[e]
         ·rfl
        rw[this]
       have:=hi.wk d aj (σ.top aj) (aeB _) (afw _) hi.nx (fun u _ hu=>by have:=hi.lt u _ hu;omega)
       rw[e] at this
       rw[hdp]
       refine this.put d (.of ?_)
       unfold Rl
       exact⟨cp,rfl,by rcases hcp with rfl|rfl;exact .inl rfl;exact .inr (.inl rfl)⟩
      ·intro p hp
       have e:σ.aI aj (σ.top aj)=σ:=by
        unfold Sig.aI
        have:upd σ.top aj (σ.top aj)=σ.top:=by
         funext j;unfold upd;split
         ·rename_i e;rw[e]
         ·rfl
        rw[this]
       have:=(ay.wk (nr:=true) (p:=p) (t:=d) (s:=aj) (n:=σ.top aj) (ρ:=ρ) (st:=st) (σ:=σ) hi.nx)
       rw[e] at this
       exact this.congr rfl
     ·refine hk (ρ.bK d aj) _ _ _ ?_ rfl ?_ h
      ·rw[hdp]
       have:=hi.wk d aj (l.map (encD R τ)).length (aeB _) (afw _) hi.nx (fun u _ hu=>by have:=hi.lt u _ hu;omega)
       refine this.put d (.of ?_)
       unfold Rl
       exact⟨_,rfl,.inr (.inr ⟨aj,rfl,by simp[au.bK,upd],by rw[sU,ab3]⟩)⟩
      ·intro p hp
       exact(ay.wk (nr:=true) (p:=p) hi.nx).congr rfl
    ·cases h
   ·cases h
  ·cases h
 ·cases h
omit hR in
theorem OB {o:Oper} {os:List Oper} {d:Nat} (h:o.dst=some d):memN d (dstsL E (o::os))=true:=by
 unfold dstsL
 rw[h]
 show (Nat.beq d d||_)=true
 rw[afi];rfl
omit hR in
theorem OC {o:Oper} {os:List Oper} {d:Nat} (h:memN d (dstsL E os)=true):memN d (dstsL E (o::os))=true:=by
 unfold dstsL
 cases o.dst with
 |none=>exact h
 |some e=>show (Nat.beq d e||(Nat.beq d (E.cn e)||memN d (dstsL E os)))=true;rw[h,Bool.or_true,Bool.or_true]
omit hR in
theorem ay.of {nr:Bool} {o:Nat} {st st':MS R.T} {ρ ρ':au} {σ σ':Sig} (h:ay true o st ρ σ st' ρ' σ'):ay nr o st ρ σ st' ρ' σ':=⟨h.ob,h.ln,h.om,h.nx,h.lp,fun L _=>h.dp L (.inl rfl),h.ro⟩
omit hR in
theorem Kp.nr {nr yw:Bool} {W:List Nat} {st st':MS R.T} {fr fr':Fr} {ρ ρ':au} {σ σ':Sig} (hn:yw=true->nr=true) (h:Kp nr W st fr σ ρ st' fr' σ' ρ'):Kp yw W st fr σ ρ st' fr' σ' ρ':=⟨h.fr,fun o ho=>⟨(h.ob o ho).ob,(h.ob o ho).ln,(h.ob o ho).om,(h.ob o ho).nx,(h.ob o ho).lp,fun L hL=>(h.ob o ho).dp L (hL.imp hn id),(h.ob o ho).ro⟩⟩
omit hR in
theorem Ib (h:isImpM E st o=true):nrOp E o=false:=by
 unfold isImpM at h
 unfold nrOp
 split at h
 ·rename_i c hc
  (try rw[hc]);(try dsimp only)
  split at h
  ·rename_i f hf
   (try rw[hf])
   cases f with
   |func g=>
    have h':E.imp g=true:=h
    (try dsimp only);rw[h'];rfl
   |tmp _=>rfl
   |const _=>rfl
   | «global» _=>rfl
  ·cases h
 ·cases h
omit hR in
theorem Ic {c:Call} {f:Operand} {g:FuncId} {a vb:List V} (h:kE E fr o=false) (h1:o.op= .call c) (h2:c.callee= .value f) (h3:fr.ev E f= .fn (.func g) a vb):∀d,o.dst=some d->E.own g d=false:=by
 intro d hd
 unfold kE at h
 rw[h1] at h;dsimp only at h
 rw[h2] at h;dsimp only at h
 unfold dJ at h
 rw[h3,hd] at h
 exact h
theorem oD {om:Bool} {β:Type} {F:Nat->List (FR R)} (hF:RegsOK E F) {M:Nat->List (FM R)} (hM:BP E M) {all:List Oper} {k:MS R.T->Option β} {x:β} {Q:Fr->Sig->Prop}:∀(os:List Oper) (aj:Nat) (ρ:au) (st:MS R.T) (fr:Fr) (σ:Sig),(∀d,memN d (dstsL E os)=true->d<F0)->ρ.om.om=om->ak ρ aj st fr σ->aj+os.length<=σ.next->opsM E R om F M all os st k=some x->
 (∀ρ' st' fr' σ',ak ρ' (aj+os.length) st' fr' σ'->σ.next<=σ'.next->Kp (os.all (nrOp E)) (dstsL E os) st fr σ ρ st' fr' σ' ρ'->k st'=some x->Q fr' σ')->OW E all aj os fr σ Q
 | [],aj,ρ,st,fr,σ,hW0,hom,hi,hsn,h,hq=>OW.nil (hq ρ st fr σ hi (iP _) .refl h)
 |o::os,aj,ρ,st,fr,σ,hW0,hom,hi,hsn,h,hq=>by
  have aZ:∀d,o.dst=some d->d<F0:=fun d hd=>hW0 d (OB hd)
  have hW1:∀d,memN d (dstsL E os)=true->d<F0:=fun d hd=>hW0 d (OC hd)
  have jl:∀{σ':Sig},σ.next<=σ'.next->aj+1+os.length<=σ'.next:=fun h=>by rw[List.length_cons] at hsn;omega
  have hg:=Oz (o:=o) (all:=all) hi
  unfold opsM at h
  have hW:∀p,memN p (dstsL E (o::os))=false->ND E o p/\memN p (dstsL E os)=false:=fun p hp=>OA hp
  have hq':∀(ρ1:au) (st1:MS R.T) (y:V) (σ1:Sig),(∀p,ND E o p->ay (nrOp E o) p st ρ σ st1 ρ1 σ1)->σ.next<=σ1.next->∀ρ' st' fr' σ',ak ρ' (aj+1+os.length) st' fr' σ'->σ1.next<=σ'.next->Kp (os.all (nrOp E)) (dstsL E os) st1 (fr.put o.dst y) σ1 ρ1 st' fr' σ' ρ'->k st'=some x->Q fr' σ':=fun ρ1 st1 y σ1 hkp h1 ρ' st' fr' σ' hi' hn lq hk=>
   hq ρ' st' fr' σ' (by rw[List.length_cons,Nat.add_comm os.length,<-ae9];exact hi') (aaI h1 hn) (((Kp.op (Q:=fun p=>ND E o p) (fun p hp=>⟨(hW p hp).1.1,(hW p hp).1⟩) hkp).nr (yw:=(o::os).all (nrOp E)) (fun e=>by rw[List.all_cons,RS] at e;exact e.1)).trans ((lq.mono fun p hp=>(hW p hp).2).nr (fun e=>by rw[List.all_cons,RS] at e;exact e.2))) hk
  split at h
  ·rename_i hgm
   rw[hgm] at hg
   cases hown:isOwnM E st o with
   |true=>
    rw[hown,cond_true] at h
    exact Zm hR hF hi h hown hg (fun ρ' st' y σ' hi' hn hkp hk=>oD hF hM os (aj+1) ρ' st' _ σ' hW1 ((congrArg Cx.om (qz hkp)).trans hom) hi' (jl (afu hn.symm)) hk (hq' ρ' st' y σ' (fun p hp=>(hkp p hp).of) (afu hn.symm)))
   |false=>
   rw[hown,cond_false] at h
   have aN:=yt hi hown
   cases himp:isImpM E st o with
   |true=>
    rw[himp,cond_true] at h
    obtain⟨c,f,g,a,vb,e1,e2,e3,e4,n,v,σ',e5,ρ1,st1,i1,i2,i3,i4⟩:=HY hR hM aZ hi (by omega) h
    exact OW.mJ hg e1 e2 e3 e4 ⟨n,v,σ',e5,oD hF hM os (aj+1) ρ1 st1 _ _ hW1 ((congrArg Cx.om (H9 i3)).trans hom) i1 (jl i2) i4 (hq' ρ1 st1 _ _ (fun p hp=>by rw[Ib himp];exact i3 p hp) i2)⟩ (Ic aN e1 e2 e3)
   |false=>
   rw[himp,cond_false] at h
   exact HZ hR hF hom aZ hi h (rest:=fun fr' σ'=>OW E all (aj+1) os fr' σ' Q) (fun y σ' hst hr=>hst.1 aN all os Q hg hr) (fun ρ' st' y σ' hi' hn hkp hk=>oD hF hM os (aj+1) ρ' st' _ σ' hW1 ((congrArg Cx.om (qz hkp)).trans hom) hi' (jl (afu hn.symm)) hk (hq' ρ' st' y σ' (fun p hp=>(hkp p hp).of) (afu hn.symm)))
  ·rename_i hgm
   rw[hgm] at hg
   refine OW.skip hg (oD hF hM os (aj+1) ρ _ _ σ hW1 hom ?_ (jl (iP _)) h (hq' ρ _ undefV σ (fun p _=>ay.same (by first|exact eZ|rfl)) (iP _)))
   exact(hi.le (aeB _)).putO o.dst (by unfold Rl;rfl)
  ·rename_i j w c g hgm
   rw[hgm] at hg
   obtain⟨⟨n,hn⟩,hg2⟩:=hg
   cases hown:(isOwnM E st o||isOwnM E (st.learnG g) o) with
   |true=>rw[hown] at h;cases h
   |false=>
   rw[hown,cond_false] at h
   rw[ae8] at hown
   have aN:=yt hi hown.1
   cases himp:isImpM E (st.learnG g) o with
   |true=>
    rw[himp,cond_true] at h
    obtain⟨e1,e2,e3⟩:=qy hi n j w c g hn
    cases c with
    |true=>
     rw[cond_true] at h
     obtain⟨l1,l2⟩:=BX hi (e1 rfl).2 (BZ hi n j w g hn)
     obtain⟨c,f,g',a,vb,f1,f2,f3,f4,n',v,σ',f5,ρ1,st1,i1,i2,i3,i4⟩:=HY hR hM aZ l1 (by omega) h
     exact OW.mJ hg2 f1 f2 f3 f4 ⟨n',v,σ',f5,oD hF hM os (aj+1) ρ1 st1 _ _ hW1 ((congrArg Cx.om (H9 i3)).trans hom) i1 (jl i2) i4 (hq' ρ1 st1 _ _ (fun p hp=>by rw[Ib himp];exact(i3 p hp).from l2) i2)⟩ (Ic aN f1 f2 f3)
    |false=>
     rw[cond_false] at h
     obtain⟨l1,l2⟩:=H6 hi hn
     exact OW.skip hg2 (oD hF hM os (aj+1) ρ _ _ σ hW1 hom ((l1.le (aeB _)).putO o.dst (by unfold Rl;rfl)) (jl (iP _)) h (hq' ρ _ undefV σ (fun p _=>ay.same (eZ.trans l2)) (iP _)))
   |false=>
   rw[himp,cond_false] at h
   exact Zk hR hF hom aZ hi hn h (rest:=fun fr' σ'=>OW E all (aj+1) os fr' σ' Q) (fun e y σ' hst hr=>hst.1 aN all os Q (by rw[hg2,e]) hr) (fun e hr=>OW.skip (by rw[hg2,e]) hr)
    (fun ρ' st' y σ' hi' hn hkp hk=>oD hF hM os (aj+1) ρ' st' _ σ' hW1 ((congrArg Cx.om (qz hkp)).trans hom) hi' (jl (afu hn.symm)) hk (hq' ρ' st' y σ' (fun p hp=>(hkp p hp).of) (afu hn.symm)))
  ·cases h
def Key.mv (c:Cx):Key->Key
 |.obj l=>.obj (c.lc l.2)
 |k=>k
def Foot.mv (c:Cx) (f:Foot):Foot:=⟨f.tAll,f.wAll,f.t.map (Key.mv c),f.w.map (Key.mv c)⟩
omit hR in
theorem Zo (c:Cx) (a b:Key):(a.mv c).eq (b.mv c)=a.nm.eq b.nm:=by
 cases a<;>cases b<;>try rfl
 rename_i l m
 show gy (c.lc l.2) (c.lc m.2)=gy (1,l.2) (1,m.2)
 by_cases e:l.2=m.2
 ·rw[e,F3];unfold gy;simp
 ·rw[Gl c e,F3];simp[e]
omit hR in
theorem Zp (c:Cx) (f g:Foot):clash (f.mv c) (g.mv c)=clash f.nm g.nm:=by
 have hr:∀k:Key,(k.mv c).eq .rest=k.nm.eq .rest:=fun k=>by cases k<;>rfl
 have hs:∀k:Key,(k.mv c).state=k.nm.state:=fun k=>by cases k<;>rfl
 unfold clash Foot.mv Foot.nm
 dsimp only
 simp only[List.any_map,Function.comp_def,Zo,hr,hs]
omit hR in
theorem getD_map (h:Foot->Foot) (ha:h allF=allF):∀(fs:List Foot) (i:Nat),(fs.map h).getD i allF=h (fs.getD i allF)
 | [],i=>by simp[ha]
 |f::fs,0=>rfl
 |f::fs,i+1=>by simpa using getD_map h ha fs i
omit hR in
theorem Zq (c:Cx) (ms:List Nat) (fs:List Foot):pairsOK ms (fs.map (Foot.mv c))=pairsOK ms (fs.map Foot.nm):=by
 unfold pairsOK En
 simp only[ab3,getD_map (Foot.mv c) rfl,getD_map Foot.nm rfl,Zp]
omit hR in
theorem iO (c:Cx) (l:List Key):(rdF l).mv c=rdF (l.map (Key.mv c)):=rfl
omit hR in
theorem lu (c:Cx) (l:List Key):(wrF l).mv c=wrF (l.map (Key.mv c)):=rfl
omit hR in
theorem mv_nil (c:Cx):(rdF []).mv c=rdF []:=rfl
omit hR in
theorem OD (c:Cx):allF.mv c=allF:=rfl
omit hR in
theorem Zr {top:Nat->Nat} {x:TV R.T} {v:V} (hg:x≠ .gone) (hv:(∀o t,x≠ .vw o t)/\∀o t a b,x≠ .sub o t a b) (h:Rl R ρ top x v):refK v=(refKM x).map (Key.mv ρ.om):=by
 cases x with
 |gone=>exact absurd rfl hg
 |opt j w y=>exact h.Mc.elim
 |agg cs=>obtain⟨l,rfl,_⟩:=h.dL;rfl
 |tup cs=>obtain⟨l,rfl,_⟩:=h.sW;rfl
 |lst c t l=>obtain⟨l,rfl,_⟩:=h.dB;rfl
 |ref p off=>obtain⟨s,_,rfl⟩:=h.fU;rfl
 |mapr p=>obtain⟨s,_,rfl⟩:=h.mK;rfl
 |cref l p=>obtain⟨s,rfl,_⟩:=h.iI;rfl
 |fn f a b=>obtain⟨a',b',rfl,_⟩:=h.eB;rfl
 |vw o t=>exact absurd rfl (hv.1 o t)
 |sub o t a b=>exact absurd rfl (hv.2 o t a b)
 |eref p t i off=>obtain⟨s,_,_,rfl⟩:=h.qc;rfl
 |sv p off k n lo hi=>obtain⟨s,_,_,rfl⟩:=h.nX;rfl
 |sel p off k n i m=>obtain⟨s,_,_,_,rfl⟩:=h.xD;rfl
 |gel k n y i=>obtain⟨_,_,rfl⟩:=h.Bl;rfl
 |_=>unfold Rl at h;subst h;rfl
omit hR in
theorem OE {x:TV R.T} (h:notV x=true):x≠ .gone/\(∀o t,x≠ .vw o t)/\∀o t a b,x≠ .sub o t a b:=⟨(by rintro rfl;cases h),(by rintro o t rfl;cases h),(by rintro o t a b rfl;cases h)⟩
omit hR in
theorem eT (hi:ak ρ b st fr σ) {x:Operand} {v:TV R.T} (h:evM [] st x=some v) (hg:notV v=true):(rkM st x).map (Key.mv ρ.om)=refK (fr.ev E x):=by
 unfold rkM
 rw[h]
 exact(Zr (OE hg).1 (OE hg).2 (aF hi .nil h)).symm
omit hR in
theorem OG (hi:ak ρ b st fr σ):∀{l:List Operand} {vs:List (TV R.T)},evMs [] st l=some vs->vs.all notV=true->(l.flatMap (fun x=>rkM st x)).map (Key.mv ρ.om)=l.flatMap fun x=>refK (fr.ev E x)
 | [],vs,h,_=>rfl
 |x::l,vs,h,hg=>by
  unfold evMs at h
  cases h1:evM [] st x with
  |none=>simp only[h1] at h;cases h
  |some a=>
   cases h2:evMs [] st l with
   |none=>simp only[h1,h2] at h;cases h
   |some as=>
    simp only[h1,h2] at h;cases h
    rw[List.all_cons,RS] at hg
    rw[ae1,ae1,afj,eT (E:=E) hi h1 hg.1,OG hi h2 hg.2]
omit hR in
theorem Zt {om:Bool} {β:Type} {F:Nat->List (FR R)} {k:MS R.T->Option β} {x:β} (h:runM E R om F o st k=some x) (hp:∀c a b,o.op≠ .pick c a b) (hl:∀t m y ok,o.op≠ .lookup t m y ok) (hst:∀t a y,o.op≠ .store t a y):∃r,opM E R om F [] o.dst o.op st=some r:=by
 unfold runM at h
 split at h
 ·rename_i c a b hop;exact absurd hop (hp _ _ _)
 ·rename_i t a y hop;exact absurd hop (hst _ _ _)
 ·rename_i t m y ok hop;exact absurd hop (hl _ _ _ _)
 ·cases hr:opM E R om F [] o.dst o.op st with
  |some r=>exact⟨r,rfl⟩
  |none=>rw[hr] at h;cases h
omit hR in
theorem mU {om:Bool} {F:Nat->List (FR R)} {g:List (Nat×Bool)} {d:Option Nat} {op:Op} {r:Res R} (h:opM E R om F g d op st=some r):opX E R g d op st=some r\/opO E R om F g d op st=some r:=by
 unfold opM at h
 split at h
 ·rename_i r' hx;cases h;exact .inl hx
 ·exact .inr h
omit hR in
theorem OH {top:Nat->Nat}:∀{x:List (TV R.T)} {v:List V},anySv x=true->RlL R ρ top x v->v.all (fun a=>pclean (er a))=false
 | [],_,h,_=>by cases h
 |x::l,v,h,hr=>by
  obtain⟨y,ys,rfl,h1,h2⟩:=hr.inv_cons
  rw[List.all_cons]
  by_cases e:∃o off k n lo hi,x= .sv o off k n lo hi
  ·obtain⟨o,off,k,n,lo,hi,rfl⟩:=e
   obtain⟨s,_,_,rfl⟩:=h1.nX
   simp[er,pclean]
  ·by_cases e2:∃o off,x= .ref o off
   ·obtain⟨o,off,rfl⟩:=e2
    obtain⟨s,_,rfl⟩:=h1.fU
    simp[er,pclean]
   have h':anySv l=true:=by
    cases x<;>first|exact h|exact absurd ⟨_,_,_,_,_,_,rfl⟩ e|exact absurd ⟨_,_,rfl⟩ e2
   rw[OH h' h2,Bool.and_false]
omit hR in
theorem Ca (hi:ak ρ b st fr σ) (aZ:∀d,o.dst=some d->d<F0):(dstKM o).map (Key.mv ρ.om)=dstK fr o:=by
 unfold dstKM dstK
 cases hd:o.dst with
 |none=>rfl
 |some d=>dsimp only;rw[hi.at (aZ d hd)];rfl
theorem Zu {om:Bool} {β:Type} {F:Nat->List (FR R)} (hom:ρ.om.om=om) (aZ:∀d,o.dst=some d->d<F0) (hi:ak ρ b st fr σ) {k:MS R.T->Option β} {x:β} (h:runM E R om F o st k=some x) (hd:drOK E om st o=true):(footSM E om st o).mv ρ.om=footS E fr o:=by
 unfold footSM footS
 have hop:=Zt h
 cases ho:o.op<;>rw[ho] at hop<;>dsimp only<;>(try exact mv_nil _)<;>(try exact OD _)
 case move y=>
  unfold drOK at hd;rw[RS] at hd
  have hd:=hd.2
  rw[ho] at hd;dsimp only at hd
  have hz:fzM E o.dst=false:=by simpa using hd
  rw[hz];exact mv_nil _
 case buildSlice t len ps=>
  cases hz:bsM E o.dst
  ·exact mv_nil _
  ·exact OD _
 case load t a=>
  obtain⟨r,hr⟩:=hop (by simp) (by simp) (by simp)
  rcases mU hr with hr|hr
  ·unfold opX at hr;dsimp only at hr
   split at hr
   ·rename_i gl _
    split at hr
    ·rename_i k n v hg
     obtain⟨cs,_,g1,_⟩:=Hg hg
     have e1:rkM st (Operand.global gl)=[]:=rfl
     have e2:refK (fr.ev E (.global gl))=[]:=by rw[Hq hR g1];rfl
     rw[iO,e1,e2];rfl
    ·cases hr
   ·split at hr
    ·rename_i hv;rw[iO,eT (E:=E) hi hv rfl]
    ·rename_i hv;rw[iO,eT (E:=E) hi hv rfl]
    ·rename_i hv;rw[iO,eT (E:=E) hi hv rfl]
    ·cases hr
  unfold opO at hr;dsimp only at hr
  split at hr
  ·rename_i hv;rw[iO,eT (E:=E) hi hv rfl]
  ·rename_i hv;rw[iO,eT (E:=E) hi hv rfl]
  ·rename_i hv;rw[iO,eT (E:=E) hi hv rfl]
  ·cases hr
 case store t a y=>
  have h':=h
  unfold runM at h'
  rw[ho] at h'
  dsimp only at h'
  split at h'
  ·rename_i hst
   unfold elSt at hst
   split at hst
   ·rename_i hv _;rw[lu,eT (E:=E) hi hv rfl]
   ·cases hst
  ·split at h'
   ·rename_i hr
    rcases mU hr with hr|hr
    ·unfold opX at hr;dsimp only at hr
     split at hr
     ·rename_i hv _;rw[lu,eT (E:=E) hi hv rfl]
     ·rename_i hv _;rw[lu,eT (E:=E) hi hv rfl]
     ·cases hr
    unfold opO at hr;dsimp only at hr
    split at hr
    ·rename_i hv _;rw[lu,eT (E:=E) hi hv rfl]
    ·cases hr
   ·cases h'
 case convert a b' y=>
  obtain⟨r,hr⟩:=hop (by simp) (by simp) (by simp)
  rcases mU hr with hr|hr
  ·unfold opX at hr;dsimp only at hr
   split at hr
   ·rename_i hv;rw[iO,eT (E:=E) hi hv rfl]
   ·cases hr
  unfold opO at hr;dsimp only at hr
  split at hr
  ·rename_i v hv
   rw[iO,eT (E:=E) hi hv (by
    unfold convM at hr
    split at hr<;>first|rfl|cases hr)]
  ·cases hr
 case slice t y lo hi' mx=>
  obtain⟨r,hr⟩:=hop (by simp) (by simp) (by simp)
  cases mx with
  |some m=>
   rcases mU hr with hr|hr
   ·cases hi' with
    |none=>unfold opX at hr;cases hr
    |some h1=>
     unfold opX at hr
     dsimp only at hr
     split at hr
     ·rename_i hv _ _ _;rw[iO,eT (E:=E) hi hv rfl]
     ·cases hr
   ·unfold opO at hr;cases hr
  |none=>
   rcases mU hr with hr|hr
   ·unfold opX at hr;dsimp only at hr
    split at hr
    ·rename_i v hv
     have key:∀lo hi,slicG E R t v lo hi st=some r->notV v=true:=by
      intro lo hi hs
      unfold slicG at hs
      split at hs<;>first|rfl|cases hs
     rw[iO,eT (E:=E) hi hv (by
      split at hr
      ·exact key _ _ hr
      ·split at hr
       ·exact key _ _ hr
       ·cases hr
      ·split at hr
       ·exact key _ _ hr
       ·cases hr
      ·split at hr
       ·exact key _ _ hr
       ·cases hr)]
    ·cases hr
   unfold opO at hr;dsimp only at hr
   split at hr
   ·rename_i v hv
    have hw:asW st v=none:=by
     unfold drOK at hd;rw[RS] at hd
     have hd:=hd.2
     rw[ho] at hd;dsimp only at hd
     rw[hv] at hd;simpa using hd
    have key:∀lo hi,sliceX E R t v lo hi st=some r->notV v=true:=by
     intro lo hi hs
     unfold sliceX slcW at hs
     rw[hw] at hs
     dsimp only at hs
     unfold sliceM at hs
     split at hs
     ·split at hs<;>first|rfl|cases hs
     ·cases hs
    rw[iO,eT (E:=E) hi hv (by
     split at hr
     ·exact key _ _ hr
     ·split at hr
      ·exact key _ _ hr
      ·cases hr
     ·split at hr
      ·exact key _ _ hr
      ·cases hr
     ·split at hr
      ·exact key _ _ hr
      ·cases hr)]
   ·cases hr
 case lookup t m y ok=>
  have h':=h
  unfold runM at h'
  rw[ho] at h'
  dsimp only at h'
  split at h'
  ·rename_i hsm
   unfold lookSM at hsm
   split at hsm
   ·rename_i hv;rw[iO,eT (E:=E) hi hv rfl]
   ·cases hsm
  ·split at h'
   ·rename_i hr
    rcases mU hr with hr|hr
    ·unfold opX at hr;cases hr
    unfold opO at hr;dsimp only at hr
    split at hr
    ·rename_i hv _
     rw[iO,eT (E:=E) hi hv (by
      unfold lookupM at hr
      split at hr<;>first|rfl|cases hr)]
    ·cases hr
   ·cases h'
 case mapUpdate t m k' v=>
  obtain⟨r,hr⟩:=hop (by simp) (by simp) (by simp)
  rcases mU hr with hr|hr
  ·unfold opX at hr;cases hr
  unfold opO at hr;dsimp only at hr
  split at hr
  ·rename_i hv _ _
   rw[lu,eT (E:=E) hi hv (by
    unfold updateM at hr
    split at hr<;>first|rfl|cases hr)]
  ·cases hr
 case insert t m k' v=>
  obtain⟨r,hr⟩:=hop (by simp) (by simp) (by simp)
  rcases mU hr with hr|hr
  ·unfold opX at hr;cases hr
  unfold opO at hr;dsimp only at hr
  split at hr
  ·rename_i hv _ _
   rw[lu,eT (E:=E) hi hv (by
    unfold updateM at hr
    split at hr<;>first|rfl|cases hr)]
  ·cases hr
 case alloc t=>rw[lu];exact congrArg wrF (Ca hi aZ)
 case box t y=>rw[lu];exact congrArg wrF (Ca hi aZ)
 case makeMap t y=>rw[lu];exact congrArg wrF (Ca hi aZ)
 case makeSlice t y z=>rw[lu];exact congrArg wrF (congrArg (Key.top:: ·) (Ca hi aZ))
 case call c=>
  obtain⟨r,hr⟩:=hop (by simp) (by simp) (by simp)
  unfold drOK at hd;rw[RS,aff] at hd
  obtain⟨hown,hd⟩:=hd
  rw[ho] at hd;dsimp only at hd
  cases hc:c.callee with
  |invoke y m=>rfl
  |builtin bi=>
   rw[hc] at hd;dsimp only at hd
   rw[afp] at hd
   rcases hd with hd|hd
   ·cases bi<;>dsimp only at hd⊢ <;>(try cases hd)
    rw[hi.om,hom];rfl
   split at hd
   ·rename_i vs hvs
    have:=OG (E:=E) hi hvs hd
    cases bi<;>dsimp only<;>(try rw[<-this])<;>(try rfl)
    rw[hi.om,hom];cases om<;>rfl
   ·cases hd
  |value f=>
   rcases mU hr with hr|hr
   ·unfold opX at hr;dsimp only at hr;rw[hc] at hr;cases hr
   unfold opO at hr;dsimp only at hr
   rw[hc] at hd hr;dsimp only at hd hr
   split at hd
   ·rename_i f' a' b' vs hf hvs
    simp only[hf,hvs] at hr
    cases himp:E.imp f' with
    |true=>rw[himp] at hr;cases hr
    |false=>
     obtain⟨va,vb,h1,h2,h3⟩:=(aF (E:=E) hi .nil hf).eB
     dsimp only;rw[hf,h1];dsimp only
     have aN:dJ E fr o f=false:=by
      have:=yt hi hown
      unfold kE at this
      rw[ho] at this;dsimp only at this
      rw[hc] at this;exact this
     simp only[himp,aN,aaB,if_false]
     rw[hvs];dsimp only
     have hrel:=(h2.append (kY (E:=E) hi .nil hvs)).append h3
     cases hcl:clVs (a'++vs++b') with
     |true=>rw[xQ hR hcl hrel];rfl
     |false=>
      rw[hcl,Bool.false_or] at hd
      rw[OH hd hrel];rfl
   ·cases hd
omit hR in
theorem Cb (c:Cx) (all:List Oper) (o:Oper):(slotsT all o).map (Key.mv c)=slotsT all o:=by
 have key:∀l:List Key,(∀k∈l,∃t,k= .slot t)->l.map (Key.mv c)=l:=by
  intro l
  induction l with
  |nil=>intro _;rfl
  |cons k l ih=>
   intro h
   obtain⟨t,e⟩:=h k (aeW ..)
   rw[aez,ih fun k hk=>h k (ae0 _ hk),e];rfl
 refine key _ fun k hk=>?_
 unfold slotsT at hk
 rw[afP] at hk
 rcases hk with hk|hk
 ·rw[List.mem_filterMap] at hk
  obtain⟨a,_,ha⟩:=hk
  split at ha
  ·cases ha;exact⟨_,rfl⟩
  ·cases ha
 ·split at hk
  ·split at hk
   ·exact⟨_,aeH.1 hk⟩
   ·cases hk
  ·cases hk
omit hR in
theorem Cc (c:Cx) (o:Oper):(slotsW o).map (Key.mv c)=slotsW o:=by
 unfold slotsW
 cases o.dst<;>rfl
omit hR in
theorem Ie {c:Cx} (f:Foot) (a b:List Key) (ha:a.map (Key.mv c)=a) (hb:b.map (Key.mv c)=b):Foot.mv c ⟨f.tAll,f.wAll,a++f.t,b++f.w⟩=⟨(f.mv c).tAll,(f.mv c).wAll,a++(f.mv c).t,b++(f.mv c).w⟩:=by
 unfold Foot.mv
 dsimp only
 rw[afj,afj,ha,hb]
theorem Zv {om:Bool} {β:Type} {F:Nat->List (FR R)} (hom:ρ.om.om=om) (aZ:∀d,o.dst=some d->d<F0) (hi:ak ρ b st fr σ) {k:MS R.T->Option β} {x:β} {all:List Oper} (h:runM E R om F o st k=some x) (hd:drOK E om st o=true):(footM E om all st o true).mv ρ.om=footI E all fr o true:=by
 have key:=Zu hR hom aZ hi h hd
 unfold footM footI
 rw[if_pos rfl,if_pos rfl,<-key]
 exact Ie _ _ _ (Cb _ _ _) (Cc _ _)
omit hR in
theorem OI {om:Bool} {all:List Oper} {c:Cx}:(footM E om all st o false).mv c=footI E all fr o false:=by
 unfold footM footI Foot.mv
 rw[if_neg (by simp),if_neg (by simp)]
 dsimp only
 rw[Cb,Cc]
omit hR in
theorem Zw {om:Bool} {all:List Oper} {c:Call} {f:Operand} {g:FuncId} {a vb:List V} (hi:ak ρ b st fr σ) (himp:isImpM E st o=true) (aN:kE E fr o=false) (h1:o.op= .call c) (h2:c.callee= .value f) (h3:fr.ev E f= .fn (.func g) a vb) (h4:E.imp g=true):(footM E om all st o true).mv ρ.om=footI E all fr o true:=by
 have key:(footSM E om st o).mv ρ.om=footS E fr o:=by
  unfold isImpM at himp
  rw[h1] at himp;dsimp only at himp
  rw[h2] at himp;dsimp only at himp
  unfold kE at aN
  rw[h1] at aN;dsimp only at aN
  rw[h2] at aN;dsimp only at aN
  unfold footSM footS
  rw[h1];dsimp only
  rw[h2];dsimp only
  rw[aN,h3]
  split at himp
  ·rename_i g' a' b' hf
   (try rw[hf])
   (try dsimp only)
   rw[if_pos himp,if_neg (by simp)]
   (try dsimp only)
   rw[if_pos h4]
   rfl
  ·cases himp
 unfold footM footI
 rw[if_pos rfl,if_pos rfl,<-key]
 exact Ie _ _ _ (Cb _ _ _) (Cc _ _)
omit hR in
theorem Zx {β:Type} {F:Nat->List (FR R)} {k:MS R.T->Option β} {x:β} {all:List Oper} (hi:ak ρ b st fr σ) (h:ownM R F o st k=some x) (hown:isOwnM E st o=true):(ownFt all o).mv ρ.om=footI E all fr o true:=by
 have key:footS E fr o=wrF [.top]:=by
  unfold ownM at h
  split at h
  ·rename_i c d ho hd
   split at h
   ·rename_i f aQ
    split at h
    ·rename_i g a' b' vs hf hvs
     obtain⟨va,vb,h1,_,_⟩:=(aF (E:=E) hi .nil hf).eB
     have hg:E.own g d=true:=by
      unfold isOwnM at hown
      rw[ho] at hown
      dsimp only at hown
      rw[aQ] at hown
      dsimp only at hown
      rw[hf] at hown
      dsimp only at hown
      rw[hd] at hown
      exact hown
     have aN:dJ E fr o f=true:=by unfold dJ;rw[h1,hd];exact hg
     unfold footS
     rw[ho];dsimp only
     rw[aQ];dsimp only
     rw[if_pos aN]
    ·cases h
   ·cases h
  ·cases h
 unfold ownFt footI
 rw[if_pos rfl,key]
 exact Ie ⟨false,false,[],[.top]⟩ _ _ (Cb _ _ _) (Cc _ _)
theorem uh {om:Bool} {β:Type} {F:Nat->List (FR R)} (hF:RegsOK E F) {M:Nat->List (FM R)} (hM:BP E M) {ms:List Nat} {all:List Oper} {k:MS R.T->Option β} {x:β} {Q:Fr->Sig->Prop}:∀(os:List Oper) (aj:Nat) (ρ:au) (st:MS R.T) (fr:Fr) (σ:Sig) (fs:List Foot),(∀d,memN d (dstsL E os)=true->d<F0)->ρ.om.om=om->ak ρ aj st fr σ->aj+os.length<=σ.next->opsDM E R om F M ms all os st fs k=some x->
 (∀ρ' st' fr' σ',ak ρ' (aj+os.length) st' fr' σ'->σ.next<=σ'.next->Kp (os.all (nrOp E)) (dstsL E os) st fr σ ρ st' fr' σ' ρ'->k st'=some x->Q fr' σ')->FW' E ms all aj os fr σ (fs.map (Foot.mv ρ.om)) Q
 | [],aj,ρ,st,fr,σ,fs,hW0,hom,hi,hsn,h,hq=>by
   unfold opsDM at h
   obtain⟨h1,h⟩:=aM h
   exact FW'.nil (by rw[Zq];exact h1) (hq ρ st fr σ hi (iP _) .refl h)
 |o::os,aj,ρ,st,fr,σ,fs,hW0,hom,hi,hsn,h,hq=>by
  have aZ:∀d,o.dst=some d->d<F0:=fun d hd=>hW0 d (OB hd)
  have hW1:∀d,memN d (dstsL E os)=true->d<F0:=fun d hd=>hW0 d (OC hd)
  have jl:∀{σ':Sig},σ.next<=σ'.next->aj+1+os.length<=σ'.next:=fun h=>by rw[List.length_cons] at hsn;omega
  have hg:=Oz (o:=o) (all:=all) hi
  unfold opsDM at h
  have hW:∀p,memN p (dstsL E (o::os))=false->ND E o p/\memN p (dstsL E os)=false:=fun p hp=>OA hp
  have hq':∀(ρ1:au) (st1:MS R.T) (y:V) (σ1:Sig),(∀p,ND E o p->ay (nrOp E o) p st ρ σ st1 ρ1 σ1)->σ.next<=σ1.next->∀ρ' st' fr' σ',ak ρ' (aj+1+os.length) st' fr' σ'->σ1.next<=σ'.next->Kp (os.all (nrOp E)) (dstsL E os) st1 (fr.put o.dst y) σ1 ρ1 st' fr' σ' ρ'->k st'=some x->Q fr' σ':=fun ρ1 st1 y σ1 hkp h1 ρ' st' fr' σ' hi' hn lq hk=>
   hq ρ' st' fr' σ' (by rw[List.length_cons,Nat.add_comm os.length,<-ae9];exact hi') (aaI h1 hn) (((Kp.op (Q:=fun p=>ND E o p) (fun p hp=>⟨(hW p hp).1.1,(hW p hp).1⟩) hkp).nr (yw:=(o::os).all (nrOp E)) (fun e=>by rw[List.all_cons,RS] at e;exact e.1)).trans ((lq.mono fun p hp=>(hW p hp).2).nr (fun e=>by rw[List.all_cons,RS] at e;exact e.2))) hk
  have run:∀(st1:MS R.T),st1.ob=st.ob->ak ρ aj st1 fr σ->aO all fr o=some true->(bif isImpM E st1 o then (bif isOwnM E st1 o then none else impM E R M o st1 (fun st'=>opsDM E R om F M ms all os st' (fs++[footM E om all st1 o true]) k)) else bif isOwnM E st1 o then ownM R F o st1 (fun st'=>opsDM E R om F M ms all os st' (fs++[ownFt all o]) k) else bif !(drOK E om st1 o) then none else runM E R om F o st1 (fun st'=>opsDM E R om F M ms all os st' (fs++[footM E om all st1 o true]) k))=some x->FW' E ms all aj (o::os) fr σ (fs.map (Foot.mv ρ.om)) Q:=by
   intro st1 nP hi hg h
   have hkq:∀(st':MS R.T) (ρ':au) (σ':Sig),(∀p,ND E o p->ay true p st1 ρ σ st' ρ' σ')->∀p,ND E o p->ay true p st ρ σ st' ρ' σ':=fun st' ρ' σ' h p hp=>(h p hp).from nP
   cases himp:isImpM E st1 o with
   |true=>
    rw[himp,cond_true] at h
    cases hown:isOwnM E st1 o with
    |true=>rw[hown] at h;cases h
    |false=>
    rw[hown,cond_false] at h
    have aN:=yt hi hown
    obtain⟨c,f,g',a,vb,f1,f2,f3,f4,n',v,σ',f5,ρ1,st2,i1,i2,i3,i4⟩:=HY hR hM aZ hi (by omega) h
    have hf:=Zw (om:=om) (all:=all) hi himp aN f1 f2 f3 f4
    refine FW'.mJ hg f1 f2 f3 f4 ⟨n',v,σ',f5,?_⟩ (Ic aN f1 f2 f3)
    have OJ:=H9 i3
    have:=uh hF hM os (aj+1) ρ1 st2 _ _ _ hW1 ((congrArg Cx.om OJ).trans hom) i1 (jl i2) i4 (hq' ρ1 st2 _ _ (fun p hp=>by rw[Ib himp];exact(i3 p hp).from nP) i2)
    rw[OJ,afj,aez,List.map_nil,hf] at this
    exact this
   |false=>
   rw[himp,cond_false] at h
   cases hown:isOwnM E st1 o with
   |true=>
    rw[hown,cond_true] at h
    refine Zn hR hF hi h hown hg (fun ρ' st' y σ' hi' hn hkp hk=>?_)
    have:=uh hF hM os (aj+1) ρ' st' _ σ' _ hW1 ((congrArg Cx.om (qz hkp)).trans hom) hi' (jl (afu hn.symm)) hk (hq' ρ' st' y σ' (fun p hp=>(hkq st' ρ' σ' hkp p hp).of) (afu hn.symm))
    rw[qz hkp,afj,aez,List.map_nil,Zx hi h hown] at this
    exact this
   |false=>
   rw[hown,cond_false] at h
   cases hd:drOK E om st1 o
   ·rw[hd] at h;cases h
   ·rw[hd] at h
    have h':runM E R om F o st1 (fun st'=>opsDM E R om F M ms all os st' (fs++[footM E om all st1 o true]) k)=some x:=h
    have hf:=Zv hR (all:=all) hom aZ hi h' hd
    exact HZ hR hF hom aZ hi h' (rest:=fun fr' σ'=>FW' E ms all (aj+1) os fr' σ' (fs.map (Foot.mv ρ.om)++[footI E all fr o true]) Q) (fun y σ' hst hr=>hst.2 (yt hi (by unfold drOK at hd;rw[RS,aff] at hd;exact hd.1)) ms all os (fs.map (Foot.mv ρ.om)) Q hg hr) (fun ρ' st' y σ' hi' hn hkp hk=>by
     have:=uh hF hM os (aj+1) ρ' st' _ σ' _ hW1 ((congrArg Cx.om (qz hkp)).trans hom) hi' (jl (afu hn.symm)) hk (hq' ρ' st' y σ' (fun p hp=>(hkq st' ρ' σ' hkp p hp).of) (afu hn.symm))
     rw[qz hkp,afj,aez,List.map_nil,hf] at this
     exact this)
  split at h
  ·rename_i hgm
   rw[hgm] at hg
   exact run st rfl hi hg h
  ·rename_i hgm
   rw[hgm] at hg
   have:=uh hF hM os (aj+1) ρ _ _ σ _ hW1 hom ((hi.le (aeB _)).putO o.dst (by unfold Rl;rfl)) (jl (iP _)) h (hq' ρ _ undefV σ (fun p _=>ay.same (by first|exact eZ|rfl)) (iP _))
   rw[afj,aez,List.map_nil,OI (fr:=fr)] at this
   exact FW'.skip hg this
  ·rename_i j w c g hgm
   rw[hgm] at hg
   obtain⟨⟨n,hn⟩,hg2⟩:=hg
   obtain⟨e1,e2,e3⟩:=qy hi n j w c g hn
   cases c with
   |true=>
    obtain⟨l1,l2⟩:=BX hi (e1 rfl).2 (BZ hi n j w g hn)
    exact run (st.learnG g) l2 l1 hg2 h
   |false=>
    obtain⟨l1,l2⟩:=H6 hi hn
    have:=uh hF hM os (aj+1) ρ _ _ σ _ hW1 hom ((l1.le (aeB _)).putO o.dst (by unfold Rl;rfl)) (jl (iP _)) h (hq' ρ _ undefV σ (fun p _=>ay.same (eZ.trans l2)) (iP _))
    rw[afj,aez,List.map_nil,OI (fr:=fr)] at this
    exact FW'.skip hg2 this
  ·cases h
end
end Aq
end
section
namespace Aq
open Go
section
variable {E:Env} {fr:Fr} {σ:Sig}
def Sig.enter (σ:Sig) (fr:Fr) (ps:Array Tmp) (aS body:Code):Sig:=({σ with next:=σ.next+1}:Sig).bC σ.next {st:=0,pend:=none,fr:=fr,ps:=ps.toList,aS:=aS,body:=body}
def mV (E:Env) (l:Nat) (args:List V) (σ:Sig) (b:Bool) (σ':Sig):Prop:=∃n,jZ (evl E n) l args σ=some (.bool b,σ')
theorem CW.range {f:Operand} {ps:Array Tmp} {aS body:Code} {g:FuncId} {a b:List V} {Q:Ex->Fr->Sig->Prop} (hf:fr.ev E f= .fn (.func g) a b) (hi:E.imp g=true)
 (h:Imp E g (a++[.fn (.yield σ.next) [] []]++b) (fr.d+1) (σ.enter fr ps aS body) (fun _ σ2=>∃r,σ2.loops σ.next=some r/\r.st≠1/\Q (match r.pend with|none=>.normal|some e=>e) fr (σ2.fA σ.next))):CW E (.rangeFunc f ps aS body) fr σ Q:=by
 obtain⟨n,v,σ2,h1,r,h2,h3,h4⟩:=h
 refine⟨n,_,fr,_,?_,h4⟩
 have h1':cu E (evl E n) fr.d none (σ.enter fr ps aS body) (.fn (.func g) a b) [.fn (.yield σ.next) [] []]=some (v,σ2):=by
  unfold cu;simp only[hi,if_true];rw[h1];exact congrArg some Uy
 unfold aK
 rw[hf]
 simp only[Eo,if_true]
 unfold Sig.enter at h1'
 rw[h1']
 simp only[Option.bind_some,h2,if_neg h3]
 cases r.pend<;>rfl
theorem mV.of {l:Nat} {args:List V} {r:gq} {b:Bool} {σ':Sig} (hl:σ.loops l=some r) (hst:r.st=0) (hlen:r.ps.length=args.length)
 (h:CW E r.aS {r.fr with tm:=(r.ps.zip args).foldl (fun tm (p,a)=>upd tm p a) r.fr.tm} σ (fun e aD σ1=>e= .normal/\∃r1,σ1.loops l=some r1/\r1.st=0/\
   CW E r.body aD (σ1.bC l {r1 with st:=1}) (fun e _ σ2=>∃r2,σ2.loops l=some r2/\r2.st=1/\match e with
    |.normal=>b=true/\σ'=σ2.bC l {r2 with st:=0,pend:=none}
    |e=>b=false/\σ'=σ2.bC l {r2 with st:=2,pend:=some e}))):mV E l args σ b σ':=by
 obtain⟨n,e,aD,σ1,h1,rfl,r1,hl1,hs1,m,e2,bA,σ2,h2,r2,hl2,hs2,h3⟩:=h
 have h1':(evl E (max n m+1)).code r.aS {r.fr with tm:=(r.ps.zip args).foldl (fun tm (p,a)=>upd tm p a) r.fr.tm} σ=some (.normal,aD,σ1):=kU (cK (afl n m)) _ _ _ _ h1
 have h2':(evl E (max n m+1)).code r.body aD (σ1.bC l {r1 with st:=1})=some (e2,bA,σ2):=kU (cK (afh n m)) _ _ _ _ h2
 refine⟨max n m+1,?_⟩
 unfold jZ
 simp only[hl,Option.bind_some,hst,hlen,and_self,if_true,h1',hl1,hs1,h2',hl2,hs2]
 cases e2 with
 |normal=>obtain⟨rfl,rfl⟩:=h3;rfl
 |exit i=>obtain⟨rfl,rfl⟩:=h3;rfl
 |ret=>obtain⟨rfl,rfl⟩:=h3;rfl
theorem OW.yield {all:List Oper} {st:Nat} {o:Oper} {os:List Oper} {Q:Fr->Sig->Prop} {c:Call} {f:Operand} {l:Nat} {b:Bool} {σ1:Sig} (hw:aO all fr o=some true) (ho:o.op= .call c) (aQ:c.callee= .value f)
 (hf:fr.ev E f= .fn (.yield l) [] []) (hr:mV E l (c.args.toList.map (fr.ev E)) σ b σ1) (h:OW E all (st+1) os (fr.put o.dst (.bool b)) σ1 Q):OW E all st (o::os) fr σ Q:=by
 obtain⟨n,fr',σ',h1,h2⟩:=h
 obtain⟨m,hm⟩:=hr
 have hm':=LD (cK (afh n m)) hm
 have h1':=xk (cK (afl n m)) _ _ _ _ _ _ h1
 refine⟨max n m,fr',σ',?_,h2⟩
 have:cu E (evl E (max n m)) fr.d (o.dst.map E.cn) σ (.fn (.yield l) [] []) (c.args.toList.map (fr.ev E))=some (.bool b,σ1):=by
  unfold cu;exact hm'
 have aN:dJ E fr o f=false:=by unfold dJ;rw[hf]
 simp only[opsE,hw,Option.bind_some,if_true,opC,ho,aQ,aN,aaB,if_false,hf,this,Option.map_some,h1']
structure Shift (d:Nat) (σ σ':Sig):Prop where
 next:σ.next<=σ'.next
 top:∀s,s<σ.next->σ'.top s=σ.top s
 loops:∀l,l<σ.next->σ'.loops l=σ.loops l
 obj:∀a o,a<=d->σ'.obj (a,o)=σ.obj (a,o)
theorem Shift.refl {d:Nat} {σ:Sig}:Shift d σ σ:=⟨iP _,fun _ _=>rfl,fun _ _=>rfl,fun _ _ _=>rfl⟩
theorem Shift.trans {d:Nat} {σ σ' cO:Sig} (h:Shift d σ σ') (g:Shift d σ' cO):Shift d σ cO:=
 ⟨aaI h.next g.next,fun s hs=>(g.top s (aeD hs h.next)).trans (h.top s hs),fun s hs=>(g.loops s (aeD hs h.next)).trans (h.loops s hs),fun a o ha=>(g.obj a o ha).trans (h.obj a o ha)⟩
def IterOK (E:Env) (f:FuncId) (a b:List V) (L:List (List V)):Prop:=∀(d l:Nat) (σ:Sig) (J:List (List V)->Sig->Prop) (D:Sig->Prop),
 (∀xs σ σ',l<σ.next->J xs σ->Shift d σ σ'->J xs σ')->(∀σ σ',l<σ.next->D σ->Shift d σ σ'->D σ')->
 (∀x xs σ,l<σ.next->J (x::xs) σ->∃c σ',mV E l x σ c σ'/\σ.next<=σ'.next/\(∀a o,d<a->σ'.obj (a,o)=σ.obj (a,o))/\(∀s,s<σ.next->σ'.loops s=σ.loops s\/s=l)/\(c=true->J xs σ')/\(c=false->D σ'))->
 l<σ.next->J L σ->Imp E f (a++[.fn (.yield l) [] []]++b) (d+1) σ fun _ σ'=>σ.next<=σ'.next/\(J [] σ'\/D σ')
structure ShiftG (d:Nat) (L0:Option Loc) (σ σ':Sig):Prop where
 next:σ.next<=σ'.next
 top:∀s,s<σ.next->σ'.top s=σ.top s
 loops:∀l,l<σ.next->σ'.loops l=σ.loops l
 obj:∀L:Loc,L.1<=d->L0≠some L->σ'.obj L=σ.obj L
theorem Shift.G {d:Nat} {L0:Option Loc} {σ σ':Sig} (h:Shift d σ σ'):ShiftG d L0 σ σ':=⟨h.next,h.top,h.loops,fun L hL _=>h.obj L.1 L.2 hL⟩
theorem ShiftG.trans {d:Nat} {L0:Option Loc} {σ σ' cO:Sig} (h:ShiftG d L0 σ σ') (g:ShiftG d L0 σ' cO):ShiftG d L0 σ cO:=
 ⟨aaI h.next g.next,fun s hs=>(g.top s (aeD hs h.next)).trans (h.top s hs),fun s hs=>(g.loops s (aeD hs h.next)).trans (h.loops s hs),fun L hL hn=>(g.obj L hL hn).trans (h.obj L hL hn)⟩
def Ig (E:Env) (k:Bool) (f:FuncId) (a b:List V) (L0:Option Loc) (pre:Sig->Prop) (L:List (List V)):Prop:=∀(d l:Nat) (σ:Sig) (J:List (List V)->Sig->Prop) (D:Sig->Prop),(∀loc,L0=some loc->loc.1<=d)->
 (∀xs σ σ',l<σ.next->J xs σ->ShiftG d L0 σ σ'->J xs σ')->(∀σ σ',l<σ.next->D σ->ShiftG d L0 σ σ'->D σ')->
 (∀x xs σ,l<σ.next->J (x::xs) σ->∃c σ',mV E l x σ c σ'/\σ.next<=σ'.next/\(k=true->∀a o,d<a->σ'.obj (a,o)=σ.obj (a,o))/\(∀loc,L0=some loc->∀s,σ'.cellsAt loc s=σ.cellsAt loc s)/\(∀s,s<σ.next->σ'.loops s=σ.loops s\/s=l)/\(c=true->J xs σ')/\(c=false->D σ'))->
 l<σ.next->pre σ->J L σ->Imp E f (a++[.fn (.yield l) [] []]++b) (d+1) σ fun _ σ'=>σ.next<=σ'.next/\(J [] σ'\/D σ')
theorem IterOK.G {f:FuncId} {a b:List V} {L:List (List V)} (h:IterOK E f a b L):Ig E true f a b none (fun _=>True) L:=fun d l σ J D _ hJ hD hr hl _ h0=>
 h d l σ J D (fun xs σ σ' hl hj hs=>hJ xs σ σ' hl hj hs.G) (fun σ σ' hl hd hs=>hD σ σ' hl hd hs.G) (fun x xs σ hl hj=>by
   obtain⟨c,σ',h1,h2,h3,_,h4,h5,h6⟩:=hr x xs σ hl hj
   exact⟨c,σ',h1,h2,h3 rfl,h4,h5,h6⟩) hl h0
def IterO (E:Env) (k:Bool) (f:FuncId) (a b cs:List V) (L:List (List V)):Prop:=∀(loc:Loc) (s:Nat),Ig E k f a (.ref loc s 0::b) (some loc) (fun σ=>σ.cellsAt loc s=some cs) L
end
end Aq
end
