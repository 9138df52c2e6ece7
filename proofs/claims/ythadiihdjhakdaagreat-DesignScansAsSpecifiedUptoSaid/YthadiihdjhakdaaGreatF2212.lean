import Derived.Test.YthadiihdjhakdaaGreatF2211
set_option linter.all false
section
namespace aR
open Go
section
variable {R:iI}{E:Env}
variable {ρ:aV}{b aK:Nat}{st:aH R.T}{fr:Fr}{σ:ak}{o:Oper}
theorem auw {j:Nat}{t:Bool}(h:dF [] st (.tmp j)=some (.bool t)):look st.fr j=some (.bool t):=by
 unfold dF at h;dsimp only at h;split at h
 ·rename_i v hv
  cases v<;>first| (cases h;exact hv)| (simp[Vj,look] at h;done)
 ·cases h
variable (hR:qE R)
include hR
omit hR in
theorem ahN {β:Type}{top:Nat->Nat}{x z:au R.T}{v zv:V}{k:au R.T->Bool->Option β}{res:β}(hx:aB R ρ top x v)(hz:aB R ρ top z zv):∀{ks vs:List (au R.T)}{kl vl:List V},VD x ks vs z k=some res->aI R ρ top ks kl->aI R ρ top vs vl->
 ∃y b w r,aB R ρ top y w/\rT v kl vl=some r/\((r=none->w=zv/\b=false)/\∀u,r=some u->w=u/\b=true)/\k y b=some res
 | [],[],kl,vl,h,h1,h2=>by rw[h1.iq,h2.iq];exact⟨z,false,zv,none,hz,rfl,⟨fun _=>⟨rfl,rfl⟩,fun u h=>bL⟩,h⟩
 | [],_::_,_,_,h,_,_=>bL|_::_,[],_,_,h,_,_=>bL|a::ks,b::vs,kl,vl,h,h1,h2=>by
  obtain⟨k0,k',rfl,g1,g2⟩:=h1.dS;obtain⟨l0,l',rfl,g3,g4⟩:=h2.dS;unfold VD at h;split at h
  ·rename_i c hc
   have he:=ahv hc hx g1;cases c with
   |true=>exact⟨b,true,l0,some l0,g3,by simp[rT,he],⟨fun h=>bL,fun u h=>by cases h;exact⟨rfl,rfl⟩⟩,h⟩
   |false=>obtain⟨y,bb,w,r,e1,e2,e3,e4⟩:=ahN hx hz h g2 g4;exact⟨y,bb,w,r,e1,by simp[rT,he,e2],e3,e4⟩
  ·cases h
theorem aaX {aj:Bool}{β:Type}{F:Nat->List (fC R)}(hF:aZ E F)(bO:ρ.aj.aj=aj)(gW:∀d,o.dst=some d->d<F0)(hi:aO ρ aK st fr σ){k:aH R.T->Option β}{x:β}(h:runM E R aj F o st k=some x){G:Prop}{rest:Fr->ak->Prop}(hs:∀y σ',l9 E fr σ aK o y σ'->rest (fr.put o.dst y) σ'->G)(hk:∀ρ' st' y σ',aO ρ' (aK+1) st' (fr.put o.dst y) σ'->σ'.next=σ.next->(∀p,nA E o p->bF true p st ρ σ st' ρ' σ')->k st'=some x->rest (fr.put o.dst y) σ'):G:=by
 have hi1:=hi.le (j4 aK);unfold runM at h;split at h
 ·rename_i c a' b' hop
  split at h
  ·rename_i t hc
   have hc':=(dw (E:=E) hi .nil hc).vv;split at h
   ·rename_i v hv
    refine hs _ _ (.mJ (Ja hop hc')) (hk ρ _ _ σ (hi1.gN o.dst ?_) rfl (fun p _=>bF.same vT) h);cases t
    ·exact dw (E:=E) hi .nil hv
    ·exact dw (E:=E) hi .nil hv
   ·cases h
  ·rename_i t hc
   have hc':=(dw (E:=E) hi .nil hc).q9;split at h
   ·rename_i j
    have hj:=hc';rw[Od] at hj;split at h
    ·rename_i x' y' hx hy
     split at h
     ·rename_i v hv
      refine hs _ _ (.mJ (Ja hop hc')) (hk ρ _ _ σ (hi1.gN o.dst ?_) rfl (fun p _=>bF.same vT) h);cases t
      ·exact ahu hv (dw (E:=E) hi (.cons hj .nil) hy)
      ·exact aht hv (dw (E:=E) hi (.cons hj .nil) hx)
     ·cases t
      ·exact hs _ _ (.mJ (Ja hop hc')) (hk ρ _ _ σ ((hi1.learn hj).gN o.dst (dw (E:=E) hi (.cons hj .nil) hy)) rfl (fun p _=>bF.same vT) h)
      ·exact hs _ _ (.mJ (Ja hop hc')) (hk ρ _ _ σ ((hi1.learn hj).gN o.dst (dw (E:=E) hi (.cons hj .nil) hx)) rfl (fun p _=>bF.same vT) h)
    ·cases h
   ·cases h
  ·cases h
 ·rename_i t a y hop
  split at h
  ·rename_i τ p i off l v hst
   unfold Z7 at hst;split at hst
   ·rename_i p' aEE i' off' v' ha hv
    split at hst
    ·rename_i gq l0 sz hl hsz
     split at hst
     ·rename_i l1 hl1
      obtain⟨hc,hst⟩:=gH hst;cases hst;obtain⟨e,e2⟩:=vB hl1;subst e;cases e2;simp only[aT] at hc;obtain⟨⟨⟨c1,c2⟩,c3⟩,c4⟩:=hc;obtain⟨z,hz,h⟩:=iR.1 h;split at h
      ·rename_i y' hu
       obtain⟨s,h1,_,h2⟩:=(dw (E:=E) hi .nil ha).Fp;obtain⟨h6,h7⟩:=yJ c4 (dw (E:=E) hi .nil hv);have hO:=hi.ob _ _ hl;obtain⟨cs,k1,k2,k3,k4⟩:=atQ hR hO h1 hz h6 (lN c2) hu;refine hs aL (σ.setObj (ρ.aj.lc p) s (.cells (iT cs (i.toNat*dA R gq+off) (fr.ev E y).cells))) (.mJ (o:=o) ?_) (hk ρ _ aL _ ((hi1.set p s (x:=.arr gq (dH l0 i y')) (a:=.cells (iT cs (i.toNat*dA R gq+off) (fr.ev E y).cells)) ⟨k4.trans hO.1,.inr ⟨s,_,h1,zP _ _ _ _,k3⟩⟩).gN o.dst (x:=.undef) iY) rfl (fun q _=>(bF.set hl rfl).congr AY) h);simp only[d9,hop,h2,k1,Option.bind_some];rw[if_pos ⟨by rw[hsz,h6.length,iK c1],k2,OT c3 h6⟩]
      ·cases h
     ·cases hst
    ·cases hst
   ·cases hst
  ·split at h
   ·rename_i v st' hr
    rw[<-hop] at hr;obtain⟨y,σ',ρ',h1,h2,h3,h4,h5⟩:=yK hR hF bO gW .nil hi hr;exact hs y σ' h1 (hk ρ' _ y σ' (h2.gN o.dst h4) h3 (fun p hp=>(h5 p hp).congr AY) h)
   ·cases h
 ·rename_i t m y ok hop
  split at h
  ·rename_i ks vs q z hsm
   unfold Z6 at hsm;split at hsm
   ·rename_i p hm
    split at hsm
    ·rename_i ks' vs' hl
     split at hsm
     ·rename_i q' kt et hq ht
      split at hsm
      ·rename_i z' hz
       obtain⟨hkey,hsm⟩:=gH hsm;cases hsm;obtain⟨s,a1,a2⟩:=(dw (E:=E) hi .nil hm).zZ;obtain⟨s',k0,l0,b1,b2,b3,b4⟩:=hi.rd hl;rw[a1] at b1;cases b1;have hqr:=dw (E:=E) hi .nil hq;obtain⟨zv,z1,z2⟩:=V4 (ρ:=ρ) (top:=σ.top) hz;obtain⟨v,bb,w,r,c1,c2,c3,c4⟩:=ahN hqr z2 h b3 b4;have hlk:zB E.P σ t (fr.ev E m) (fr.ev E y) ok=some (if ok then .bB [w,.bool bb] else w):=by
        rw[ag2,ht];simp only[Option.bind_some];rw[if_pos (ahw hkey hqr),a2];show (σ.gB (ρ.aj.lc p) s).bind _=_;rw[b2];simp only[Option.bind_some,c2];cases r with
        |none=>simp only[z1,Option.map_some];obtain⟨e1,e2⟩:=c3.1 rfl;rw[e1,e2]
        |some u=>simp only[Option.map_some];obtain⟨e1,e2⟩:=c3.2 u rfl;rw[e1,e2]
       refine hs _ σ (.mJ (o:=o) ?_) (hk ρ _ (if ok then .bB [w,.bool bb] else w) σ (hi1.gN o.dst ?_) rfl (fun p _=>bF.same vT) c4)
       ·simp only[d9,hop,hlk,Option.map_some]
       ·cases ok
        ·exact c1
        ·rw[cond_true,if_pos rfl];unfold aB;exact⟨_,rfl,.cons' c1 (.cons' iY rfl)⟩
      ·cases hsm
     ·cases hsm
    ·cases hsm
   ·cases hsm
  ·split at h
   ·rename_i v hr
    rw[<-hop] at hr;obtain⟨y,h1,h2⟩:=yK hR hF bO gW .nil hi hr;exact hs y σ h1 (hk ρ _ y σ (hi1.gN o.dst h2) rfl (fun p _=>bF.same vT) h)
   ·cases h
 ·split at h
  ·rename_i v hr
   obtain⟨y,h1,h2⟩:=yK hR hF bO gW .nil hi hr;exact hs y σ h1 (hk ρ _ y σ (hi1.gN o.dst h2) rfl (fun p _=>bF.same vT) h)
  ·rename_i c v hr
   obtain⟨hc,h⟩:=gH h;obtain⟨y,h1,h2⟩:=yK hR hF bO gW .nil hi hr hc;exact hs y σ h1 (hk ρ _ y σ (hi1.gN o.dst h2) rfl (fun p _=>bF.same vT) h)
  ·rename_i v st' hr
   obtain⟨y,σ',ρ',h1,h2,h3,h4,h5⟩:=yK hR hF bO gW .nil hi hr;exact hs y σ' h1 (hk ρ' _ y σ' (h2.gN o.dst h4) h3 (fun p hp=>(h5 p hp).congr AY) h)
  ·rename_i c v st' hr
   obtain⟨hc,h⟩:=gH h;obtain⟨y,σ',ρ',h1,h2,h3,h4,h5⟩:=yK hR hF bO gW .nil hi hr hc;exact hs y σ' h1 (hk ρ' _ y σ' (h2.gN o.dst h4) h3 (fun p hp=>(h5 p hp).congr AY) h)
  ·rename_i α z q f hr
   obtain⟨a,ha,h⟩:=iR.1 h;obtain⟨y,h1,h2⟩:=yK hR hF bO gW .nil hi hr a ha;exact hs y σ h1 (hk ρ _ y σ (hi1.gN o.dst h2) rfl (fun p _=>bF.same vT) h)
  ·rename_i l hr
   obtain⟨v,y,h0,h1,h2⟩:=yK hR hF bO gW .nil hi hr _ (fun v=>k (st.gN o.dst v)) x h;exact hs y σ h1 (hk ρ _ y σ (hi1.gN o.dst h2) rfl (fun p _=>bF.same vT) h0)
  ·cases h
omit hR in
theorem Dx (hi:aO ρ b st fr σ):∀(n j:Nat)(w c:Bool)(g:List (Nat×Bool)),qC st n j w=some (c,g)->(c=true->fr.tm j= .bool w/\sH fr g)/\(c=false->fr.tm j= .bool (!w)\/fr.tm j=aL)/\(g=[(j,w)]->c=false->fr.tm j= .bool (!w))
 |0,j,w,c,g,h=>bL|n+1,j,w,c,g,h=>by
  have key:∀(i:Nat)(u a:Bool)(y:au R.T),look st.fr j=some (.opt i u y)->(∀v,aB R ρ σ.top y v->v= .bool a)->(match qC st n i u with
   |some (c,g)=>some (Z5 c (II a w),(j,w)::g)|none=>none)=some (c,g)->(c=true->fr.tm j= .bool w/\sH fr g)/\(c=false->fr.tm j= .bool (!w)\/fr.tm j=aL)/\(g=[(j,w)]->c=false->fr.tm j= .bool (!w)):=by
   intro i u a y hl hy h;split at h
   ·rename_i c0 g0 he
    cases h;obtain⟨h1,h2,h3⟩:=Dx hi n i u c0 g0 he;have hr:=hi.fr _ _ hl;have hg0:g0≠[]:=by
     rintro rfl;cases n with
     |zero=>cases he|succ n=>
      unfold qC at he;split at he
      ·cases he
      ·split at he<;>cases he
      ·split at he<;>cases he
      ·cases he
    refine⟨fun hc=>?_,fun hc=>?_,fun hg=>absurd (by simpa using hg) hg0⟩
    ·cases c0 with
     |false=>cases hc|true=>obtain⟨a1,a2⟩:=h1 rfl;have hv:=hy _ (hr.1 a1);have hc':II a w=true:=hc;have:a=w:=(by cases a<;>cases w<;>first|rfl|cases hc');subst this;exact⟨hv,.cons hv a2⟩
    ·cases c0 with
     |false=>exact .inr (hr.2 (h2 rfl))|true=>obtain⟨a1,a2⟩:=h1 rfl;have hv:=hy _ (hr.1 a1);have hc':II a w=false:=hc;have:a= !w:=(by cases a<;>cases w<;>first|rfl|cases hc');subst this;exact .inl hv
   ·cases h
  unfold qC at h;split at h
  ·rename_i a hl
   cases h;have hv:=(show aB R ρ σ.top (.bool a) (fr.tm j) from hi.fr _ _ hl).q9;refine⟨fun hc=>?_,fun hc=>.inl ?_,fun _ hc=>?_⟩
   ·have:a=w:=by cases a<;>cases w<;>first|rfl|cases hc
    subst this;exact⟨hv,.cons hv .nil⟩
   ·have:a= !w:=by cases a<;>cases w<;>first|rfl|cases hc
    subst this;exact hv
   ·have:a= !w:=by cases a<;>cases w<;>first|rfl|cases hc
    subst this;exact hv
  ·rename_i i u a hl;exact key i u a _ hl (fun v hv=>hv.q9) h
  ·rename_i i u a hl;exact key i u a _ hl (fun v hv=>hv.vv) h
  ·cases h
omit hR in
theorem ahO {all:List Oper}(hi:aO ρ b st fr σ):match VB all st o with
 |.run=>iU all fr o=some true|.skip=>iU all fr o=some false|.dyn j w c g=>(∃n,qC st n j w=some (c,g))/\iU all fr o=some c|.no=>True:=by
 unfold VB iU;cases hg:o.guard with
 |none=>rfl|some p=>
  obtain⟨j,w⟩:=p;dsimp only;cases hj:all[j]? with
  |none=>rfl|some p=>
   simp only[Option.bind_some];cases hd:p.dst with
   |none=>rfl|some t=>
    dsimp only;have dyn:∀c g,qC st 12 t w=some (c,g)->(match fr.tm t with
     |.bool b=>some (b==w)|.raw _=>none|_=>some false)=some c:=by
     intro c g he;obtain⟨h1,h2,_⟩:=Dx hi 12 t w c g he;cases c with
     |true=>rw[(h1 rfl).1];simp|false=>
      rcases h2 rfl with h2|h2
      ·rw[h2];cases w<;>rfl
      ·rw[h2];rfl
    cases hl:look st.fr t with
    |none=>
     dsimp only;cases he:qC st 12 t w with
     |none=>trivial|some q=>exact⟨⟨12,he⟩,dyn _ _ he⟩
    |some v=>
     have hr:=hi.fr _ _ hl;cases v with
     |jA c=>have:=(show aB R ρ σ.top (.jA c) (fr.tm t) from hr).vv;rw[this];cases c<;>cases w<;>rfl|undef=>have:=(show aB R ρ σ.top .undef (fr.tm t) from hr).agh;rw[this];rfl|_=>
      dsimp only;cases he:qC st 12 t w with
      |none=>trivial|some q=>exact⟨⟨12,he⟩,dyn _ _ he⟩
omit hR in
theorem O8 (hi:aO ρ b st fr σ):∀{g:List (Nat×Bool)},sH fr g->(∀j u,(j,u)∈g->fr.tm j= .bool u)->aO ρ b (st.nu g) fr σ/\(st.nu g).ob=st.ob
 | [],_,_=>⟨hi,rfl⟩| (j,w)::g,hg,hm=>by
   obtain⟨h1,h2⟩:=O8 hi (g:=g) (fun i u h=>by
    exact hm i u (by
     have:∀g:List (Nat×Bool),look g i=some u->(i,u)∈g:=by
      intro g;induction g with
      |nil=>intro h;cases h|cons p g ih=>
       intro h;obtain⟨k,v⟩:=p;by_cases e:i=k
       ·subst e;rw[kZ] at h;cases h;simp
       ·rw[jh _ _ e] at h;simp[ih h]
     exact iZ _ (this g h))) (fun i u h=>hm i u Cx)
   exact⟨h1.learn (hm j w aD),h2⟩
omit hR in
theorem O9 (hi:aO ρ b st fr σ):∀(n j:Nat)(w:Bool)(g:List (Nat×Bool)),qC st n j w=some (true,g)->∀i u,(i,u)∈g->fr.tm i= .bool u
 |0,j,w,g,h=>bL|n+1,j,w,g,h=>by
  have hj:=((Dx hi (n+1) j w true g h).1 rfl).1;unfold qC at h;split at h
  ·simp only[iE,mF] at h
   obtain⟨_,rfl⟩:=h;intro i u hm;simp at hm;obtain⟨rfl,rfl⟩:=hm;exact hj
  all_goals first
   | (split at h
      ·rename_i c0 g0 he
       simp only[iE,mF] at h;obtain⟨hc,rfl⟩:=h;cases c0 with
       |false=>cases hc|true=>
        intro i u hm;rcases fV.1 hm with hm|hm
        ·cases hm;exact hj
        ·exact O9 hi n _ _ g0 he i u hm
      ·cases h)
   |cases h
omit hR in
theorem aaY (hi:aO ρ b st fr σ){n j:Nat}{w:Bool}{g:List (Nat×Bool)}(hj:qC st n j w=some (false,g)):aO ρ b (st.Bv g) fr σ/\(st.Bv g).ob=st.ob:=by
 obtain⟨_,_,e3⟩:=Dx hi n j w false g hj;rcases g with _| ⟨⟨j',w'⟩,_| ⟨p,g⟩⟩
 ·exact⟨hi,rfl⟩
 ·have hj':j'=j/\w'=w:=by
   cases n with
   |zero=>cases hj|succ n=>
    unfold qC at hj;split at hj
    ·simp only[iE,mF,qO] at hj
     exact⟨hj.2.1.1.symm,hj.2.1.2.symm⟩
    ·split at hj
     ·simp only[iE,mF,qO] at hj
      exact⟨hj.2.1.1.symm,hj.2.1.2.symm⟩
     ·exact absurd hj aD
    ·split at hj
     ·simp only[iE,mF,qO] at hj
      exact⟨hj.2.1.1.symm,hj.2.1.2.symm⟩
     ·exact absurd hj aD
    ·exact absurd hj aD
  obtain⟨rfl,rfl⟩:=hj';exact⟨hi.learn (e3 rfl rfl),rfl⟩
 ·exact⟨hi,rfl⟩
theorem auy {aj:Bool}{β:Type}{F:Nat->List (fC R)}(hF:aZ E F)(bO:ρ.aj.aj=aj)(gW:∀d,o.dst=some d->d<F0)(hi:aO ρ aK st fr σ){j n:Nat}{w c:Bool}{g:List (Nat×Bool)}(hj:qC st n j w=some (c,g)){k:aH R.T->Option β}{x:β}(h:Z8 E R aj F o j w c g st k=some x){G:Prop}{rest:Fr->ak->Prop}(hs:c=true->∀y σ',l9 E fr σ aK o y σ'->rest (fr.put o.dst y) σ'->G)(hs':c=false->rest (fr.put o.dst aL) σ->G)(hk:∀ρ' st' y σ',aO ρ' (aK+1) st' (fr.put o.dst y) σ'->σ'.next=σ.next->(∀p,nA E o p->bF true p st ρ σ st' ρ' σ')->k st'=some x->rest (fr.put o.dst y) σ'):G:=by
 have hi1:=hi.le (j4 aK);obtain⟨e1,e2,e3⟩:=Dx hi n j w c g hj;have aaZ:(bif c then runM E R aj F o (st.nu g) k else k ((st.Bv g).gN o.dst .undef))=some x->G:=by
  intro h;cases c with
  |true=>obtain⟨l1,l2⟩:=O8 hi (e1 rfl).2 (O9 hi n j w g hj);exact aaX hR hF bO gW l1 h (hs rfl) (fun ρ' st' y σ' a b c d=>hk ρ' st' y σ' a b (fun p hp=>(c p hp).from l2) d)
  |false=>obtain⟨n1,n2⟩:=aaY hi hj;have hN:aO ρ (aK+1) (st.Bv g) fr σ/\(st.Bv g).ob=st.ob:=⟨n1.le (j4 _),n2⟩;refine hs' rfl (hk ρ _ aL σ (hN.1.gN o.dst iY) rfl (fun p _=>bF.same (AY.trans hN.2)) h)
 unfold Z8 at h;split at h
 ·rename_i d hd
  have hput:bg d (g.map (·.1))=false->∀(v:au R.T)(y:V),(c=true->aB R ρ σ.top v y)->(c=false->y=aL)->aO ρ (aK+1) (st.put d (.opt j w v)) (fr.put o.dst y) σ:=by
   intro hdj v y h1 h2;have hne:(fr.set d y).tm j=fr.tm j:=by
    refine fZ _ _ ?_;cases n with
    |zero=>cases hj|succ n=>
     have hmem:bg d (g.map (·.1))=false:=hdj;have:∃g',g=(j,w)::g':=by
      unfold qC at hj;split at hj
      ·cases hj;exact⟨[],rfl⟩
      all_goals first
       | (split at hj
          ·simp only[iE,mF] at hj
           exact⟨_,hj.2.symm⟩
          ·cases hj)
       |cases hj
     obtain⟨g',rfl⟩:=this;have h':(Nat.beq d j||bg d (g'.map (·.1)))=false:=hmem;rw[rR] at h';simpa using (Fq h'.1).symm
   rw[hd,Oc];refine hi1.put d ⟨fun hc=>?_,fun hc=>?_⟩
   ·rw[hne] at hc
    refine h1 ?_;cases c with
    |true=>rfl|false=>
     rcases e2 rfl with e|e
     ·rw[e] at hc;cases w<;>cases hc
     ·rw[e] at hc;cases hc
   ·rw[hne] at hc
    refine h2 ?_;cases c with
    |false=>rfl|true=>
     rw[(e1 rfl).1] at hc;rcases hc with hc|hc
     ·cases w<;>cases hc
     ·cases hc
  cases hdj:bg d (g.map (·.1))
  ·rw[hdj] at h
   simp only[cond_false] at h;split at h
   ·rename_i v hr
    cases c with
    |true=>obtain⟨y,h1,h2⟩:=yK hR hF bO gW (e1 rfl).2 hi hr;exact hs rfl y σ h1 (hk ρ _ y σ (hput hdj v y (fun _=>h2) (fun h=>bL)) rfl (fun p _=>bF.same rfl) h)
    |false=>exact hs' rfl (hk ρ _ aL σ (hput hdj v aL (fun h=>bL) (fun _=>rfl)) rfl (fun p _=>bF.same rfl) h)
   ·rename_i q v hr
    obtain⟨hq,hh⟩:=gH h;clear h;cases c with
    |true=>obtain⟨y,h1,h2⟩:=yK hR hF bO gW (e1 rfl).2 hi hr hq;exact hs rfl y σ h1 (hk ρ _ y σ (hput hdj v y (fun _=>h2) (fun h=>bL)) rfl (fun p _=>bF.same rfl) hh)
    |false=>exact hs' rfl (hk ρ _ aL σ (hput hdj v aL (fun h=>bL) (fun _=>rfl)) rfl (fun p _=>bF.same rfl) hh)
   ·rename_i α z q f hr
    obtain⟨a,ha,hh⟩:=iR.1 h;clear h;cases c with
    |true=>obtain⟨y,h1,h2⟩:=yK hR hF bO gW (e1 rfl).2 hi hr a ha;exact hs rfl y σ h1 (hk ρ _ y σ (hput hdj _ y (fun _=>h2) (fun h=>bL)) rfl (fun p _=>bF.same rfl) hh)
    |false=>exact hs' rfl (hk ρ _ aL σ (hput hdj _ aL (fun h=>bL) (fun _=>rfl)) rfl (fun p _=>bF.same rfl) hh)
   ·exact aaZ h
  ·rw[hdj] at h
   exact aaZ h
 ·exact aaZ h
omit hR in
theorem Dy {ρ':aV}{st':aH R.T}{σ':ak}(h:∀p,nA E o p->bF true p st ρ σ st' ρ' σ'):ρ'.aj=ρ.aj:=by
 cases hd:o.dst with
 |none=>exact(h 0 ⟨by rw[hd];simp,fun d e=>by rw[hd] at e;cases e⟩).aj
 |some d=>exact(h (d+E.cn d+1) ⟨fun e=>by rw[hd] at e;exact absurd (jP e) (kF (Nat.lt_succ_of_le (gF d (E.cn d)))),fun d' e=>by rw[hd] at e;cases e;exact kF (Nat.lt_succ_of_le (Nat.le_add_left (E.cn d) d))⟩).aj
omit hR in
theorem aa0 {ρ':aV}{st':aH R.T}{σ':ak}(h:∀p,nA E o p->bF false p st ρ σ st' ρ' σ'):ρ'.aj=ρ.aj:=by
 cases hd:o.dst with
 |none=>exact(h 0 ⟨by rw[hd];simp,fun d e=>by rw[hd] at e;cases e⟩).aj
 |some d=>exact(h (d+E.cn d+1) ⟨fun e=>by rw[hd] at e;exact absurd (jP e) (kF (Nat.lt_succ_of_le (gF d (E.cn d)))),fun d' e=>by rw[hd] at e;cases e;exact kF (Nat.lt_succ_of_le (Nat.le_add_left (E.cn d) d))⟩).aj
omit hR in
theorem ahP {os:List Oper}{p:Nat}(h:bg p (kT E (o::os))=false):nA E o p/\bg p (kT E os)=false:=by
 unfold kT at h;split at h
 ·rename_i d hd
  have h':(Nat.beq p d||(Nat.beq p (E.cn d)||bg p (kT E os)))=false:=h;rw[rR,rR] at h';refine⟨⟨fun e=>?_,fun d' e e2=>?_⟩,h'.2.2⟩
  ·rw[hd] at e;cases e;rw[vS] at h';exact absurd h'.1 aD
  ·rw[hd] at e;cases e;rw[e2,vS] at h';exact absurd h'.2.1 aD
 ·rename_i hd
  refine⟨⟨fun e=>?_,fun d' e=>?_⟩,h⟩
  ·rw[hd] at e;cases e
  ·rw[hd] at e;cases e
omit hR in
theorem Pb (hi:aO ρ b st fr σ)(h:ny E st o=false):w9 E fr o=false:=by
 unfold ny at h;unfold w9;split at h
 ·rename_i c hc
  rw[hc];dsimp only;split at h
  ·rename_i f hf
   rw[hf];dsimp only;split at h
   ·rename_i g a' b' hv
    obtain⟨va,vb,h1,_,_⟩:=(dw (E:=E) hi .nil hv).lG;unfold lq;rw[h1];split at h
    ·rename_i d hd;rw[hd];exact h
    ·rename_i hd;rw[hd]
   ·cases h
  ·rename_i hne
   split
   ·rename_i f hf;exact absurd hf (hne f)
   ·rfl
 ·rename_i hne
  split
  ·rename_i c hc;exact absurd hc (hne c)
  ·rfl
theorem auz {k k':aC}{l:List aC}{c:au R.T}{cs:List (au R.T)}{p:av R.T (k::k'::l)}(h:dQ R (k::k'::l) (c::cs)=some p):
 ∃x q,pk R k c=some x/\dQ R (k'::l) cs=some q/\p=(x,q):=by
 have h':(match pk R k c with
  |some x=>match dQ R (k'::l) cs with
   |some p=>some (x,p)|none=>none
  |none=>none)=some p:=h
 cases hu:pk R k c with
 |none=>rw[hu] at h';cases h'|some u=>
  rw[hu] at h';dsimp only at h';cases hq:dQ R (k'::l) cs with
  |none=>rw[hq] at h';cases h'|some q=>rw[hq] at h';cases h';exact⟨u,q,rfl,rfl,rfl⟩
theorem aa1 {F:Nat->List (fC R)}(hF:aZ E F){f:Nat}{args:List (au R.T)}{Pd:List V}(ha:aI R ρ σ.top args Pd)(hi:aO ρ b st fr σ):∀{l:List (fC R)}{τ:Ty}{x:Option (List (Den R.T τ))},(∀r∈l,r∈F f)->IJ R args (ng st args) l=some ⟨τ,x⟩->
 ∀y,x=some y->∃dz,rX (E.zC f) σ Pd=some dz/\Pd.all (fun x=>aW (er x))=true/\wO E f dz (dA R τ) (y.map (aP R τ))
 | [],τ,x,_,h=>bL| ⟨dz,res,G,d0,own,al⟩::l,τ,x,hl,h=>by
   have rest:IJ R args (ng st args) l=some ⟨τ,x⟩->∀y,x=some y->∃dz,rX (E.zC f) σ Pd=some dz/\Pd.all (fun x=>aW (er x))=true/\wO E f dz (dA R τ) (y.map (aP R τ)):=fun h=>aa1 hF ha hi (fun r hr=>hl r (iZ _ hr)) h;unfold IJ at h;split at h
   ·cases h
   ·rename_i as' gq G' d' al' l' heq
    obtain⟨e1,e2⟩:=List.cons.inj heq;subst e2;cases e1;split at h
    ·rename_i p hp
     obtain⟨hc,h⟩:=gH h;cases h;simp only[aT] at hc;obtain⟨⟨c1,c2⟩,c3⟩:=hc;intro y hy;have hb:=(hF f ⟨dz,[.d (.slice τ)],G',d',true,_⟩ (hl _ (iw ..)) p y hy).2 rfl τ rfl y rfl;cases hn:gP dz with
     |true=>obtain⟨b1,b2⟩:=hb.1 hn;obtain⟨vs',v1,v2⟩:=I9 hR hi ha;have OW:=qb hR dz p (ng st args) _ hn hp v1 20 σ (by have:=lN c2;omega);exact⟨_,by rw[b1];unfold rX;rw[if_neg aD];exact(v2 16).trans OW,OV hR c3 ha,b2⟩
     |false=>
      obtain⟨b1,b2⟩:=hb.2 hn;rw[hn,Bool.false_or] at c1;cases dz with
      |nil=>cases c1|cons k dz=>
      cases k<;>first| (cases c1;done)|skip
      cases dz with
      |nil=>cases c1|cons k' dz=>
      cases args with
      |nil=>exact absurd (show none=some p from hp) aD|cons c args=>
      obtain⟨v,vs,rfl,h1,h2⟩:=ha.dS;have hp0:dQ R (.fF::k'::dz) (EU st c::ng st args)=some p:=(by simpa only[ng] using hp);obtain⟨u,q,hu,q1,hpq⟩:=auz hR hp0;have hc:c= .fF:=by
       have hp':(pk R .fF (EU st c)).isSome=true:=(by rw[hu];rfl);cases c<;>first|rfl|skip
       all_goals
        exfalso;revert hp';unfold EU zS
        repeat' split
        all_goals (intro h;cases h)
      subst hc;have q2:aho (aF R (.fF::k'::dz) p)= .ay .nil []::aF R (k'::dz) q:=(by rw[hpq];rfl);rw[h1.p8];obtain⟨vs',v1,v2⟩:=I9 hR hi h2;have OW:=qb hR (k'::dz) q (ng st args) _ c1 q1 v1 20 σ (by have h9:=lN c2;rw[l8] at h9;omega);rw[q2] at b2;refine⟨_,by rw[b1];unfold rX;rw[if_pos rfl];dsimp only;rw[v2 16,OW];rfl,?_,b2⟩;have:=OV hR c3 ha;rw[h1.p8] at this;exact this
    ·exact rest h
   ·rename_i heq
    obtain⟨_,e2⟩:=List.cons.inj heq;subst e2;exact rest h
theorem auA {β:Type}{F:Nat->List (fC R)}(hF:aZ E F)(hi:aO ρ aK st fr σ){k:aH R.T->Option β}{x:β}(h:wU R F o st k=some x)(hown:ny E st o=true)(hgi:∀g a b c f,fr.ev E f= .fn (.func g) a b->o.op= .call c->c.callee= .value f->E.imp g=false){all os:List Oper}{Q:Fr->ak->Prop}(hw:iU all fr o=some true)(hk:∀(ρ':aV) (st':aH R.T) (y:V) (σ':ak),aO ρ' (aK+1) st' (fr.put o.dst y) σ'->σ'.next=σ.next->(∀p,nA E o p->bF true p st ρ σ st' ρ' σ')->k st'=some x->bW E all (aK+1) os (fr.put o.dst y) σ' Q):bW E all aK (o::os) fr σ Q:=by
 unfold wU at h;split at h
 ·rename_i c d ho hd
  split at h
  ·rename_i f fE
   split at h
   ·rename_i g a' b' vs hf hvs
    split at h
    ·rename_i τ xo hfo
     obtain⟨l,hl,h⟩:=iR.1 h;obtain⟨va,vb,h1,h2,h3⟩:=(dw (E:=E) hi .nil hf).lG;have hrel:=(h2.append (BD (E:=E) hi .nil hvs)).append h3;obtain⟨dz,has,hcl,hO⟩:=aa1 hR hF hrel hi (fun _ hr=>hr) hfo l hl;have hg:E.own g d=true:=(by unfold ny at hown;rw[ho] at hown;dsimp only at hown;rw[fE] at hown;dsimp only at hown;rw[hf] at hown;dsimp only at hown;rw[hd] at hown;exact hown);have hdp:∀y:V,fr.put o.dst y=fr.set d y:=fun y=>by rw[hd];rfl
     refine bW.own hw ho fE h1 hd hg has hO hcl (fun cp hcp=>?_) ?_ (hgi g va vb c f h1 ho fE)
     ·refine hk (ρ.jM d aK) _ _ σ ?_ rfl ?_ h
      ·have e:σ.dR aK (σ.top aK)=σ:=by
        unfold ak.dR;have:upd σ.top aK (σ.top aK)=σ.top:=by
         funext j;unfold upd;split
         ·rename_i e;rw[e]
         ·rfl
        rw[this]
       have:=hi.wk d aK (σ.top aK) (j4 _) (Cz _) hi.nx (fun u _ hu=>MW);rw[e] at this;rw[hdp];refine this.put d (.of ?_);unfold aB;exact⟨cp,rfl,by rcases hcp with rfl|rfl;exact .inl rfl;exact .inr (.inl rfl)⟩
      ·intro p hp
       have e:σ.dR aK (σ.top aK)=σ:=by
        unfold ak.dR;have:upd σ.top aK (σ.top aK)=σ.top:=by
         funext j;unfold upd;split
         ·rename_i e;rw[e]
         ·rfl
        rw[this]
       have:=(bF.wk (nr:=true) (p:=p) (t:=d) (s:=aK) (n:=σ.top aK) (ρ:=ρ) (st:=st) (σ:=σ) hi.nx);rw[e] at this;exact this.congr rfl
     ·refine hk (ρ.jM d aK) _ _ _ ?_ rfl ?_ h
      ·rw[hdp]
       have:=hi.wk d aK (l.map (aP R τ)).length (j4 _) (Cz _) hi.nx (fun u _ hu=>MW);refine this.put d (.of ?_);unfold aB;exact⟨_,rfl,.inr (.inr ⟨aK,rfl,by simp[aV.jM,upd],by rw[Oe,iG]⟩)⟩
      ·intro p hp
       exact(bF.wk (nr:=true) (p:=p) hi.nx).congr rfl
    ·cases h
   ·cases h
  ·cases h
 ·cases h
theorem auB {β:Type}{F:Nat->List (fC R)}(hF:aZ E F)(hi:aO ρ aK st fr σ){k:aH R.T->Option β}{x:β}(h:wU R F o st k=some x)(hown:ny E st o=true)(hgi:∀g a b c f,fr.ev E f= .fn (.func g) a b->o.op= .call c->c.callee= .value f->E.imp g=false){ms:List Nat}{fs:List dO}{all os:List Oper}{Q:Fr->ak->Prop}(hw:iU all fr o=some true)(hk:∀(ρ':aV) (st':aH R.T) (y:V) (σ':ak),aO ρ' (aK+1) st' (fr.put o.dst y) σ'->σ'.next=σ.next->(∀p,nA E o p->bF true p st ρ σ st' ρ' σ')->k st'=some x->je E ms all (aK+1) os (fr.put o.dst y) σ' (fs++[iD E all fr o true]) Q):je E ms all aK (o::os) fr σ fs Q:=by
 unfold wU at h;split at h
 ·rename_i c d ho hd
  split at h
  ·rename_i f fE
   split at h
   ·rename_i g a' b' vs hf hvs
    split at h
    ·rename_i τ xo hfo
     obtain⟨l,hl,h⟩:=iR.1 h;obtain⟨va,vb,h1,h2,h3⟩:=(dw (E:=E) hi .nil hf).lG;have hrel:=(h2.append (BD (E:=E) hi .nil hvs)).append h3;obtain⟨dz,has,hcl,hO⟩:=aa1 hR hF hrel hi (fun _ hr=>hr) hfo l hl;have hg:E.own g d=true:=(by unfold ny at hown;rw[ho] at hown;dsimp only at hown;rw[fE] at hown;dsimp only at hown;rw[hf] at hown;dsimp only at hown;rw[hd] at hown;exact hown);have hdp:∀y:V,fr.put o.dst y=fr.set d y:=fun y=>by rw[hd];rfl
     refine je.own hw ho fE h1 hd hg has hO hcl (fun cp hcp=>?_) ?_ (hgi g va vb c f h1 ho fE)
     ·refine hk (ρ.jM d aK) _ _ σ ?_ rfl ?_ h
      ·have e:σ.dR aK (σ.top aK)=σ:=by
        unfold ak.dR;have:upd σ.top aK (σ.top aK)=σ.top:=by
         funext j;unfold upd;split
         ·rename_i e;rw[e]
         ·rfl
        rw[this]
       have:=hi.wk d aK (σ.top aK) (j4 _) (Cz _) hi.nx (fun u _ hu=>MW);rw[e] at this;rw[hdp];refine this.put d (.of ?_);unfold aB;exact⟨cp,rfl,by rcases hcp with rfl|rfl;exact .inl rfl;exact .inr (.inl rfl)⟩
      ·intro p hp
       have e:σ.dR aK (σ.top aK)=σ:=by
        unfold ak.dR;have:upd σ.top aK (σ.top aK)=σ.top:=by
         funext j;unfold upd;split
         ·rename_i e;rw[e]
         ·rfl
        rw[this]
       have:=(bF.wk (nr:=true) (p:=p) (t:=d) (s:=aK) (n:=σ.top aK) (ρ:=ρ) (st:=st) (σ:=σ) hi.nx);rw[e] at this;exact this.congr rfl
     ·refine hk (ρ.jM d aK) _ _ _ ?_ rfl ?_ h
      ·rw[hdp]
       have:=hi.wk d aK (l.map (aP R τ)).length (j4 _) (Cz _) hi.nx (fun u _ hu=>MW);refine this.put d (.of ?_);unfold aB;exact⟨_,rfl,.inr (.inr ⟨aK,rfl,by simp[aV.jM,upd],by rw[Oe,iG]⟩)⟩
      ·intro p hp
       exact(bF.wk (nr:=true) (p:=p) hi.nx).congr rfl
    ·cases h
   ·cases h
  ·cases h
 ·cases h
omit hR in
theorem ahQ (himp:q8 E st o=false)(hi:aO ρ b st fr σ){F:Nat->List (fC R)}{β:Type}{k:aH R.T->Option β}{x:β}(h:wU R F o st k=some x):∀g a b c f,fr.ev E f= .fn (.func g) a b->o.op= .call c->c.callee= .value f->E.imp g=false:=by
 intro g a b c f h1 h2 h3;unfold wU at h;rw[h2] at h;split at h
 ·rename_i c' d' ho' hd'
  cases ho';rw[h3] at h;dsimp only at h;split at h
  ·rename_i g' a' b' vs hf hvs
   unfold q8 at himp;rw[h2] at himp;dsimp only at himp;rw[h3] at himp;dsimp only at himp;rw[hf] at himp;dsimp only at himp;obtain⟨va,vb,e,_,_⟩:=(dw (E:=E) hi .nil hf).lG;rw[h1] at e;cases e;exact himp
  ·cases h
 ·cases h
omit hR in
theorem ahR {o:Oper}{os:List Oper}{d:Nat}(h:o.dst=some d):bg d (kT E (o::os))=true:=by unfold kT;rw[h];show (Nat.beq d d||_)=true;rw[vS];rfl
omit hR in
theorem ahS {o:Oper}{os:List Oper}{d:Nat}(h:bg d (kT E os)=true):bg d (kT E (o::os))=true:=by
 unfold kT;cases o.dst with
 |none=>exact h|some e=>show (Nat.beq d e||(Nat.beq d (E.cn e)||bg d (kT E os)))=true;rw[h,Bool.or_true,Bool.or_true]
omit hR in
theorem auC {o:Oper}{os:List Oper}{d:Nat}(h:o.dst=some d):bg (E.cn d) (kT E (o::os))=true:=by unfold kT;rw[h];show (Nat.beq (E.cn d) d||(Nat.beq (E.cn d) (E.cn d)||_))=true;rw[vS,Bool.true_or,Bool.or_true]
omit hR in
theorem bF.of {nr:Bool}{o:Nat}{st st':aH R.T}{ρ ρ':aV}{σ σ':ak}(h:bF true o st ρ σ st' ρ' σ'):bF nr o st ρ σ st' ρ' σ':=⟨h.ob,h.ln,h.aj,h.nx,h.lp,fun L _=>h.dp L (.inl rfl),h.ro⟩
omit hR in
theorem Kp.nr {nr Pe:Bool}{W:List Nat}{st st':aH R.T}{fr fr':Fr}{ρ ρ':aV}{σ σ':ak}(hn:Pe=true->nr=true)(h:Kp nr W st fr σ ρ st' fr' σ' ρ'):Kp Pe W st fr σ ρ st' fr' σ' ρ':=⟨h.fr,fun o ho=>⟨(h.ob o ho).ob,(h.ob o ho).ln,(h.ob o ho).aj,(h.ob o ho).nx,(h.ob o ho).lp,fun L hL=>(h.ob o ho).dp L (hL.imp hn id),(h.ob o ho).ro⟩⟩
omit hR in
theorem aa2 (h:q8 E st o=true):yD E o=false:=by
 unfold q8 at h;unfold yD;split at h
 ·rename_i c hc
  (try rw[hc]);(try dsimp only)
  split at h
  ·rename_i f hf
   (try rw[hf])
   cases f with
   |func g=>
    have h':E.imp g=true:=h
    (try dsimp only);rw[h'];rfl
   |tmp _=>rfl|const _=>rfl| «global» _=>rfl
  ·cases h
 ·cases h
omit hR in
theorem aa3 {c:Call}{f:Operand}{g:FuncId}{a vb:List V}(h:w9 E fr o=false)(h1:o.op= .call c)(h2:c.callee= .value f)(h3:fr.ev E f= .fn (.func g) a vb):∀d,o.dst=some d->E.own g d=false:=by intro d hd;unfold w9 at h;rw[h1] at h;dsimp only at h;rw[h2] at h;dsimp only at h;unfold lq at h;rw[h3,hd] at h;exact h
theorem Dz {aj:Bool}{β:Type}{F:Nat->List (fC R)}(hF:aZ E F){M:Nat->List (mD R)}(hM:OY E M){all:List Oper}{k:aH R.T->Option β}{x:β}{Q:Fr->ak->Prop}:∀(os:List Oper)(aK:Nat)(ρ:aV)(st:aH R.T)(fr:Fr)(σ:ak),(∀d,bg d (kT E os)=true->d<F0)->ρ.aj.aj=aj->aO ρ aK st fr σ->aK+os.length<=σ.next->yE E R aj F M all os st k=some x->(∀ρ' st' fr' σ',aO ρ' (aK+os.length) st' fr' σ'->σ.next<=σ'.next->Kp (os.all (yD E)) (kT E os) st fr σ ρ st' fr' σ' ρ'->k st'=some x->Q fr' σ')->bW E all aK os fr σ Q
 | [],aK,ρ,st,fr,σ,hW0,bO,hi,hsn,h,hq=>bW.nil (hq ρ st fr σ hi (iP _) .refl h)|o::os,aK,ρ,st,fr,σ,hW0,bO,hi,hsn,h,hq=>by
  have gW:∀d,o.dst=some d->d<F0:=fun d hd=>hW0 d (ahR hd);have hW1:∀d,bg d (kT E os)=true->d<F0:=fun d hd=>hW0 d (ahS hd);have uw:∀{σ':ak},σ.next<=σ'.next->aK+1+os.length<=σ'.next:=fun h=>by rw[List.length_cons] at hsn;omega
  have hg:=ahO (o:=o) (all:=all) hi;unfold yE at h;have hW:∀p,bg p (kT E (o::os))=false->nA E o p/\bg p (kT E os)=false:=fun p hp=>ahP hp;have hq':∀(jl:aV)(st1:aH R.T)(y:V)(σ1:ak),(∀p,nA E o p->bF (yD E o) p st ρ σ st1 jl σ1)->σ.next<=σ1.next->∀ρ' st' fr' σ',aO ρ' (aK+1+os.length) st' fr' σ'->σ1.next<=σ'.next->Kp (os.all (yD E)) (kT E os) st1 (fr.put o.dst y) σ1 jl st' fr' σ' ρ'->k st'=some x->Q fr' σ':=fun jl st1 y σ1 hkp h1 ρ' st' fr' σ' hi' hn Ab hk=>
   hq ρ' st' fr' σ' (by rw[List.length_cons,Nat.add_comm os.length,<-sZ];exact hi') (dJ h1 hn) (((Kp.op (Q:=fun p=>nA E o p) (fun p hp=>⟨(hW p hp).1.1,(hW p hp).1⟩) hkp).nr (Pe:=(o::os).all (yD E)) (fun e=>by rw[List.all_cons,aT] at e;exact e.1)).trans ((Ab.mono fun p hp=>(hW p hp).2).nr (fun e=>by rw[List.all_cons,aT] at e;exact e.2))) hk
  split at h
  ·rename_i hgm
   rw[hgm] at hg;cases hown:ny E st o with
   |true=>
    rw[hown,cond_true] at h;cases himp:q8 E st o with
    |true=>rw[himp] at h;cases h|false=>
    rw[himp,cond_false] at h;exact auA hR hF hi h hown (ahQ himp hi h) hg (fun ρ' st' y σ' hi' hn hkp hk=>Dz hF hM os (aK+1) ρ' st' _ σ' hW1 ((congrArg cZ.aj (Dy hkp)).trans bO) hi' (uw (wu hn.symm)) hk (hq' ρ' st' y σ' (fun p hp=>(hkp p hp).of) (wu hn.symm)))
   |false=>
   rw[hown,cond_false] at h;have fT:=Pb hi hown;cases himp:q8 E st o with
   |true=>rw[himp,cond_true] at h;obtain⟨c,f,g,a,vb,e1,e2,e3,e4,n,v,σ',e5,jl,st1,i1,i2,i3,i4⟩:=aaV hR hM gW hi ah h;exact bW.H7 hg e1 e2 e3 e4 ⟨n,v,σ',e5,Dz hF hM os (aK+1) jl st1 _ _ hW1 ((congrArg cZ.aj (aa0 i3)).trans bO) i1 (uw i2) i4 (hq' jl st1 _ _ (fun p hp=>by rw[aa2 himp];exact i3 p hp) i2)⟩ (aa3 fT e1 e2 e3)
   |false=>
   rw[himp,cond_false] at h;exact aaX hR hF bO gW hi h (rest:=fun fr' σ'=>bW E all (aK+1) os fr' σ' Q) (fun y σ' hst hr=>hst.1 fT all os Q hg hr) (fun ρ' st' y σ' hi' hn hkp hk=>Dz hF hM os (aK+1) ρ' st' _ σ' hW1 ((congrArg cZ.aj (Dy hkp)).trans bO) hi' (uw (wu hn.symm)) hk (hq' ρ' st' y σ' (fun p hp=>(hkp p hp).of) (wu hn.symm)))
  ·rename_i hgm
   rw[hgm] at hg;refine bW.skip hg (Dz hF hM os (aK+1) ρ _ _ σ hW1 bO ?_ (uw (iP _)) h (hq' ρ _ aL σ (fun p _=>bF.same vT) (iP _)));exact(hi.le (j4 _)).gN o.dst iY
  ·rename_i j w c g hgm
   rw[hgm] at hg;obtain⟨⟨n,hn⟩,hg2⟩:=hg;cases hown:ny E (st.nu g) o with
   |true=>rw[hown] at h;cases h|false=>
   rw[hown,cond_false] at h;have fT:c=true->w9 E fr o=false:=fun e=>by subst e;exact Pb (O8 hi ((Dx hi n j w true g hn).1 rfl).2 (O9 hi n j w g hn)).1 hown
   cases himp:q8 E (st.nu g) o with
   |true=>
    rw[himp,cond_true] at h;obtain⟨e1,e2,e3⟩:=Dx hi n j w c g hn;cases c with
    |true=>rw[cond_true] at h;obtain⟨l1,l2⟩:=O8 hi (e1 rfl).2 (O9 hi n j w g hn);obtain⟨c,f,g',a,vb,f1,f2,f3,f4,n',v,σ',f5,jl,st1,i1,i2,i3,i4⟩:=aaV hR hM gW l1 ah h;exact bW.H7 hg2 f1 f2 f3 f4 ⟨n',v,σ',f5,Dz hF hM os (aK+1) jl st1 _ _ hW1 ((congrArg cZ.aj (aa0 i3)).trans bO) i1 (uw i2) i4 (hq' jl st1 _ _ (fun p hp=>by rw[aa2 himp];exact(i3 p hp).from l2) i2)⟩ (aa3 (fT rfl) f1 f2 f3)
    |false=>rw[cond_false] at h;obtain⟨l1,l2⟩:=aaY hi hn;exact bW.skip hg2 (Dz hF hM os (aK+1) ρ _ _ σ hW1 bO ((l1.le (j4 _)).gN o.dst iY) (uw (iP _)) h (hq' ρ _ aL σ (fun p _=>bF.same (AY.trans l2)) (iP _)))
   |false=>
   rw[himp,cond_false] at h;exact auy hR hF bO gW hi hn h (rest:=fun fr' σ'=>bW E all (aK+1) os fr' σ' Q) (fun e y σ' hst hr=>hst.1 (fT e) all os Q (by rw[hg2,e]) hr) (fun e hr=>bW.skip (by rw[hg2,e]) hr)
    (fun ρ' st' y σ' hi' hn hkp hk=>Dz hF hM os (aK+1) ρ' st' _ σ' hW1 ((congrArg cZ.aj (Dy hkp)).trans bO) hi' (uw (wu hn.symm)) hk (hq' ρ' st' y σ' (fun p hp=>(hkp p hp).of) (wu hn.symm)))
  ·cases h
def Key.mv (c:cZ):Key->Key
 |.obj l=>.obj (c.lc l.2)|k=>k
def dO.mv (c:cZ)(f:dO):dO:=⟨f.rY,f.oH,f.t.map (Key.mv c),f.w.map (Key.mv c)⟩
omit hR in
theorem auD (c:cZ)(a b:Key):(a.mv c).eq (b.mv c)=a.nm.eq b.nm:=by
 cases a<;>cases b<;>try rfl
 rename_i l m;show uQ (c.lc l.2) (c.lc m.2)=uQ (1,l.2) (1,m.2);by_cases e:l.2=m.2
 ·rw[e,Zm];unfold uQ;simp
 ·rw[aan c e,Zm];simp[e]
omit hR in
theorem auE (c:cZ)(f g:dO):clash (f.mv c) (g.mv c)=clash f.nm g.nm:=by
 have hr:∀k:Key,(k.mv c).eq .rest=k.nm.eq .rest:=fun k=>by cases k<;>rfl
 have hs:∀k:Key,(k.mv c).state=k.nm.state:=fun k=>by cases k<;>rfl
 unfold clash dO.mv dO.nm;dsimp only;simp only[List.any_map,Function.comp_def,auD,hr,hs]
omit hR in
theorem getD_map (h:dO->dO)(ha:h gT=gT):∀(fs:List dO)(i:Nat),(fs.map h).getD i gT=h (fs.getD i gT)
 | [],i=>by simp[ha]|f::fs,0=>rfl|f::fs,i+1=>by simpa using getD_map h ha fs i
omit hR in
theorem auF (c:cZ)(ms:List Nat)(fs:List dO):wG ms (fs.map (dO.mv c))=wG ms (fs.map dO.nm):=by unfold wG Uw;simp only[iG,getD_map (dO.mv c) rfl,getD_map dO.nm rfl,auE]
omit hR in
theorem FB (c:cZ)(l:List Key):(nX l).mv c=nX (l.map (Key.mv c)):=rfl
omit hR in
theorem DC (c:cZ)(l:List Key):(mq l).mv c=mq (l.map (Key.mv c)):=rfl
omit hR in
theorem mv_nil (c:cZ):(nX []).mv c=nX []:=rfl
omit hR in
theorem ahT (c:cZ):gT.mv c=gT:=rfl
omit hR in
theorem ahU {top:Nat->Nat}{x:au R.T}{v:V}(hg:x≠ .gone)(hv:(∀o t,x≠ .aM o t)/\∀o t a b,x≠ .sub o t a b)(h:aB R ρ top x v):ji v=(VH x).map (Key.mv ρ.aj):=by
 cases x with
 |gone=>exact absurd rfl hg|opt j w y=>exact h.agi.elim|agg cs=>obtain⟨l,rfl,_⟩:=h.mH;rfl
 |bB cs=>obtain⟨l,rfl,_⟩:=h.IQ;rfl
 |ay c t l=>obtain⟨l,rfl,_⟩:=h.lU;rfl
 |ref p off=>obtain⟨s,_,rfl⟩:=h.uj;rfl
 |cu p=>obtain⟨s,_,rfl⟩:=h.zZ;rfl
 |aY l p=>obtain⟨s,rfl,_⟩:=h.vw;rfl
 |fn f a b=>obtain⟨a',b',rfl,_⟩:=h.lG;rfl
 |aM o t=>exact absurd rfl (hv.1 o t)|sub o t a b=>exact absurd rfl (hv.2 o t a b)|lT p t i off=>obtain⟨s,_,_,rfl⟩:=h.Fp;rfl
 |sv p off k n lo hi=>obtain⟨s,_,_,rfl⟩:=h.VU;rfl
 |sel p off k n i m=>obtain⟨s,_,_,_,rfl⟩:=h.aaf;rfl
 |yx k n y i=>obtain⟨_,_,rfl⟩:=h.aag;rfl
 |_=>unfold aB at h;subst h;rfl
omit hR in
theorem ahV {x:au R.T}(h:OD x=true):x≠ .gone/\(∀o t,x≠ .aM o t)/\∀o t a b,x≠ .sub o t a b:=⟨(by rintro rfl;cases h),(by rintro o t rfl;cases h),(by rintro o t a b rfl;cases h)⟩
omit hR in
theorem xq (hi:aO ρ b st fr σ){x:Operand}{v:au R.T}(h:dF [] st x=some v)(hg:OD v=true):(Dr st x).map (Key.mv ρ.aj)=ji (fr.ev E x):=by unfold Dr;rw[h];exact(ahU (ahV hg).1 (ahV hg).2 (dw hi .nil h)).symm
omit hR in
theorem ahW (hi:aO ρ b st fr σ):∀{l:List Operand}{vs:List (au R.T)},mZ [] st l=some vs->vs.all OD=true->(l.flatMap (fun x=>Dr st x)).map (Key.mv ρ.aj)=l.flatMap fun x=>ji (fr.ev E x)
 | [],vs,h,_=>rfl|x::l,vs,h,hg=>by
  unfold mZ at h;cases h1:dF [] st x with
  |none=>simp only[h1] at h;cases h|some a=>
   cases h2:mZ [] st l with
   |none=>simp only[h1,h2] at h;cases h|some dz=>simp only[h1,h2] at h;cases h;rw[List.all_cons,aT] at hg;rw[mo,mo,nU,xq (E:=E) hi h1 hg.1,ahW hi h2 hg.2]
omit hR in
theorem auG {aj:Bool}{β:Type}{F:Nat->List (fC R)}{k:aH R.T->Option β}{x:β}(h:runM E R aj F o st k=some x)(hp:∀c a b,o.op≠ .pick c a b)(hl:∀t m y ok,o.op≠ .lookup t m y ok)(hst:∀t a y,o.op≠ .store t a y):∃r,zV E R aj F [] o.dst o.op st=some r:=by
 unfold runM at h;split at h
 ·rename_i c a b hop;exact absurd hop (hp _ _ _)
 ·rename_i t a y hop;exact absurd hop (hst _ _ _)
 ·rename_i t m y ok hop;exact absurd hop (hl _ _ _ _)
 ·cases hr:zV E R aj F [] o.dst o.op st with
  |some r=>exact⟨r,rfl⟩|none=>rw[hr] at h;cases h
omit hR in
theorem BK {aj:Bool}{F:Nat->List (fC R)}{g:List (Nat×Bool)}{d:Option Nat}{op:Op}{r:eT R}(h:zV E R aj F g d op st=some r):u7 E R g d op st=some r\/vg E R aj F g d op st=some r:=by
 unfold zV at h;split at h
 ·rename_i r' hx;cases h;exact .inl hx
 ·exact .inr h
omit hR in
theorem ahX {top:Nat->Nat}:∀{x:List (au R.T)}{v:List V},VN x=true->aI R ρ top x v->v.all (fun a=>aW (er a))=false
 | [],_,h,_=>bL|x::l,v,h,hr=>by
  obtain⟨y,ys,rfl,h1,h2⟩:=hr.dS;rw[List.all_cons];by_cases e:∃o off k n lo hi,x= .sv o off k n lo hi
  ·obtain⟨o,off,k,n,lo,hi,rfl⟩:=e
   obtain⟨s,_,_,rfl⟩:=h1.VU;simp[er,aW]
  ·by_cases e2:∃o off,x= .ref o off
   ·obtain⟨o,off,rfl⟩:=e2
    obtain⟨s,_,rfl⟩:=h1.uj;simp[er,aW]
   have h':VN l=true:=by
    cases x<;>first|exact h|exact absurd ⟨_,_,_,_,_,_,rfl⟩ e|exact absurd ⟨_,_,rfl⟩ e2
   rw[ahX h' h2,Bool.and_false]
omit hR in
theorem Ws (hi:aO ρ b st fr σ)(gW:∀d,o.dst=some d->d<F0):(VK o).map (Key.mv ρ.aj)=uR fr o:=by
 unfold VK uR;cases hd:o.dst with
 |none=>rfl|some d=>dsimp only;rw[hi.at (gW d hd)];rfl
theorem auH {aj:Bool}{β:Type}{F:Nat->List (fC R)}(bO:ρ.aj.aj=aj)(gW:∀d,o.dst=some d->d<F0)(hi:aO ρ b st fr σ){k:aH R.T->Option β}{x:β}(h:runM E R aj F o st k=some x)(hd:wX E aj st o=true)(hna:∀c,o.op= .call c->c.callee= .builtin .append->aj=false):(Fe E aj st o).mv ρ.aj=jw E fr o:=by
 unfold Fe jw;have hop:=auG h;cases ho:o.op<;>rw[ho] at hop<;>dsimp only<;>(try exact mv_nil _)<;>(try exact ahT _);case move y=>
  unfold wX at hd;rw[aT] at hd;have hd:=hd.2;rw[ho] at hd;dsimp only at hd;have hz:zG E o.dst=false:=M6
  rw[hz];exact mv_nil _
 case buildSlice t len ps=>
  cases hz:CQ E o.dst
  ·exact mv_nil _
  ·exact ahT _
 case load t a=>
  obtain⟨r,hr⟩:=hop aD aD aD;rcases BK hr with hr|hr
  ·unfold u7 at hr;cases hr
  unfold vg at hr;dsimp only at hr;split at hr
  ·rename_i hv;rw[FB,xq (E:=E) hi hv rfl]
  ·rename_i hv;rw[FB,xq (E:=E) hi hv rfl]
  ·rename_i hv;rw[FB,xq (E:=E) hi hv rfl]
  ·cases hr
 case store t a y=>
  have h':=h;unfold runM at h';rw[ho] at h';dsimp only at h';split at h'
  ·rename_i hst
   unfold Z7 at hst;split at hst
   ·rename_i hv _;rw[DC,xq (E:=E) hi hv rfl]
   ·cases hst
  ·split at h'
   ·rename_i hr
    rcases BK hr with hr|hr
    ·unfold u7 at hr;cases hr
    unfold vg at hr;dsimp only at hr;split at hr
    ·rename_i hv _;rw[DC,xq (E:=E) hi hv rfl]
    ·cases hr
   ·cases h'
 case convert a b' y=>
  obtain⟨r,hr⟩:=hop aD aD aD;rcases BK hr with hr|hr
  ·unfold u7 at hr;cases hr
  unfold vg at hr;dsimp only at hr;split at hr
  ·rename_i v hv
   rw[FB,xq (E:=E) hi hv (by unfold Vs at hr;split at hr<;>first|rfl|cases hr)]
  ·cases hr
 case slice t y lo hi' mx=>
  obtain⟨r,hr⟩:=hop aD aD aD;cases mx with
  |some m=>
   rcases BK hr with hr|hr
   ·unfold u7 at hr;cases hr
   ·unfold vg at hr;cases hr
  |none=>
   rcases BK hr with hr|hr
   ·unfold u7 at hr;cases hr
   unfold vg at hr;dsimp only at hr;split at hr
   ·rename_i v hv
    have hw:Iu st v=none:=(by unfold wX at hd;rw[aT] at hd;have hd:=hd.2;rw[ho] at hd;dsimp only at hd;rw[hv] at hd;simpa using hd);have key:∀lo hi,Dp E R t v lo hi st=some r->OD v=true:=by
     intro lo hi hs;unfold Dp Vv at hs;rw[hw] at hs;dsimp only at hs;unfold Vt at hs;split at hs
     ·split at hs<;>first|rfl|cases hs
     ·cases hs
    rw[FB,xq (E:=E) hi hv (by
     split at hr
     ·exact key _ _ hr
     ·split at hr
      ·exact key _ _ hr
      ·cases hr
     ·split at hr
      ·exact key _ _ hr
      ·cases hr
     ·split at hr
      ·exact key _ _ hr
      ·cases hr)]
   ·cases hr
 case lookup t m y ok=>
  have h':=h;unfold runM at h';rw[ho] at h';dsimp only at h';split at h'
  ·rename_i hsm
   unfold Z6 at hsm;split at hsm
   ·rename_i hv;rw[FB,xq (E:=E) hi hv rfl]
   ·cases hsm
  ·split at h'
   ·rename_i hr
    rcases BK hr with hr|hr
    ·unfold u7 at hr;cases hr
    unfold vg at hr;dsimp only at hr;split at hr
    ·rename_i hv _
     rw[FB,xq (E:=E) hi hv (by unfold Vw at hr;split at hr<;>first|rfl|cases hr)]
    ·cases hr
   ·cases h'
 case mapUpdate t m k' v=>
  obtain⟨r,hr⟩:=hop aD aD aD;rcases BK hr with hr|hr
  ·unfold u7 at hr;cases hr
  unfold vg at hr;dsimp only at hr;split at hr
  ·rename_i hv _ _
   rw[DC,xq (E:=E) hi hv (by unfold Iw at hr;split at hr<;>first|rfl|cases hr)]
  ·cases hr
 case insert t m k' v=>
  obtain⟨r,hr⟩:=hop aD aD aD;rcases BK hr with hr|hr
  ·unfold u7 at hr;cases hr
  unfold vg at hr;dsimp only at hr;split at hr
  ·rename_i hv _ _
   rw[DC,xq (E:=E) hi hv (by unfold Iw at hr;split at hr<;>first|rfl|cases hr)]
  ·cases hr
 case alloc t=>rw[DC];exact congrArg mq (Ws hi gW)
 case box t y=>rw[DC];exact congrArg mq (Ws hi gW)
 case makeMap t y=>rw[DC];exact congrArg mq (Ws hi gW)
 case makeSlice t y z=>rw[DC];exact congrArg mq (congrArg (Key.top:: ·) (Ws hi gW))
 case call c=>
  obtain⟨r,hr⟩:=hop aD aD aD;unfold wX at hd;rw[aT,pE] at hd;obtain⟨hown,hd⟩:=hd;rw[ho] at hd;dsimp only at hd;cases hc:c.callee with
  |invoke y m=>rfl|builtin bi=>
   rw[hc] at hd;dsimp only at hd;rw[oF] at hd;rcases hd with hd|hd
   ·cases bi<;>dsimp only at hd⊢ <;>(try cases hd)
    rw[aT] at hd;rw[hna c ho hc] at hd;cases hd.1
   split at hd
   ·rename_i vs hvs
    have:=ahW (E:=E) hi hvs hd;cases bi<;>dsimp only<;>(try rw[<-this])<;>(try rfl);rw[hi.aj,bO,hna c ho hc];rfl
   ·cases hd
  |value f=>
   rcases BK hr with hr|hr
   ·unfold u7 at hr;cases hr
   unfold vg at hr;dsimp only at hr;rw[hc] at hd hr;dsimp only at hd hr;split at hd
   ·rename_i f' a' b' vs hf hvs
    simp only[hf,hvs] at hr;cases himp:E.imp f' with
    |true=>rw[himp] at hr;cases hr|false=>
     obtain⟨va,vb,h1,h2,h3⟩:=(dw (E:=E) hi .nil hf).lG;dsimp only;rw[hf,h1];dsimp only;have fT:lq E fr o f=false:=(by have:=Pb hi hown;unfold w9 at this;rw[ho] at this;dsimp only at this;rw[hc] at this;exact this);simp only[himp,fT,dL,if_false];rw[hvs];dsimp only;have hrel:=(h2.append (BD (E:=E) hi .nil hvs)).append h3;cases hcl:yA (a'++vs++b') with
     |true=>rw[OV hR hcl hrel];rfl|false=>rw[hcl,Bool.false_or] at hd;rw[ahX hd hrel];rfl
   ·cases hd
structure Ac (f g:dO):Prop where
 tA:f.rY=true->g.rY=true
 wA:f.oH=true->g.oH=true
 t:∀k∈f.t,k∈g.t
 w:∀k∈f.w,k∈g.w
omit hR in
theorem Ac.of_eq {f g:dO}(h:g=f):Ac f g:=by subst h;exact⟨id,id,fun _ h=>h,fun _ h=>h⟩
omit hR in
theorem ahY {f f' g g':dO}(hf:Ac f f')(hg:Ac g g')(h:clash f g=true):clash f' g'=true:=by
 have Wt:∀{p:Key->Bool}{a b:List Key},(∀k∈a,k∈b)->a.any p=true->b.any p=true:=fun hab h=>by rw[List.any_eq_true] at h⊢;obtain⟨k,h1,h2⟩:=h;exact⟨k,hab k h1,h2⟩
 unfold clash at h⊢;rw[oF] at h⊢;rcases h with h|h
 ·left
  simp only[aT,oF] at h⊢;refine⟨hf.wA h.1,?_⟩;rcases h.2 with ((h|h)|h)|h
  ·exact .inl (.inl (.inl (hg.tA h)))
  ·exact .inl (.inl (.inr (hg.wA h)))
  ·exact .inl (.inr (Wt hg.t h))
  ·exact .inr (Wt hg.w h)
 ·right
  rw[List.any_eq_true] at h⊢;obtain⟨k,h1,h2⟩:=h;refine⟨k,hf.w k h1,?_⟩;simp only[aT,oF] at h2⊢;rcases h2 with ((h|h)|h)|h
  ·exact .inl (.inl (.inl h))
  ·exact .inl (.inl (.inr (Wt hg.t h)))
  ·exact .inl (.inr (Wt hg.w h))
  ·exact .inr ⟨h.1.imp hg.tA hg.wA,h.2⟩
def DF (a b:List dO):Prop:=a.length=b.length/\∀i,Ac (a.getD i gT) (b.getD i gT)
omit hR in
theorem DF.nil:DF [] []:=⟨rfl,fun _=>.of_eq rfl⟩
omit hR in
theorem DF.snoc {a b:List dO}{f g:dO}(h:DF a b)(hf:Ac f g):DF (a++[f]) (b++[g]):=by
 refine⟨by rw[RS,RS,h.1];rfl,fun i=>?_⟩;simp only[rQ];by_cases hi:i<a.length
 ·have hi':i<b.length:=by rw[<-h.1];exact hi
  rw[Eu hi,Eu hi'];have:=h.2 i;simpa only[rQ] using this
 ·have hi':¬i<b.length:=by rw[<-h.1];exact hi
  rw[List.getElem?_append_right (Nat.le_of_not_lt hi),List.getElem?_append_right (Nat.le_of_not_lt hi'),h.1];cases i-b.length with
  |zero=>exact hf|succ n=>exact .of_eq rfl
omit hR in
theorem auI {ms:List Nat}{a b:List dO}(h:DF a b)(hp:wG ms b=true):wG ms a=true:=by
 unfold wG at hp⊢;rw[h.1];rw[kG] at hp⊢;intro i hi;have h1:=hp i hi;rw[kG] at h1⊢;intro j hj;have h2:=h1 j hj;rw[oF] at h2⊢;refine h2.imp id fun h2=>?_;unfold Uw at h2⊢;rw[aT,pE,pE] at h2⊢;refine⟨?_,?_⟩
 ·cases hc:clash (a.getD i gT) (a.getD j gT)
  ·rfl
  ·rw[ahY (h.2 i) (h.2 j) hc] at h2;exact absurd h2.1 aD
 ·cases hc:clash (a.getD j gT) (a.getD i gT)
  ·rfl
  ·rw[ahY (h.2 j) (h.2 i) hc] at h2;exact absurd h2.2 aD
omit hR in
theorem auJ {top:Nat->Nat}{x:au R.T}{v:V}(hg:VL x=true)(h:aB R ρ top x v):∀k∈ji v,k∈(VI x).map (Key.mv ρ.aj):=by
 have other:(x≠ .gone)->((∀o t,x≠ .aM o t)/\∀o t a b,x≠ .sub o t a b)->VI x=VH x->∀k∈ji v,k∈(VI x).map (Key.mv ρ.aj):=fun h1 h2 h3 k hk=>by rw[h3,<-ahU h1 h2 h];exact hk
 cases x with
 |aM o t=>
  unfold aB at h;rcases h with ⟨s,_,rfl⟩| ⟨_,rfl|rfl⟩
  ·intro k hk;exact hk
  ·intro k hk;cases hk
  ·intro k hk;cases hk
 |sub o t a b=>
  intro k hk;obtain⟨_,_,_,⟨s,cp,_,_,rfl⟩| ⟨_,c,rfl⟩⟩:=h.BA
  ·exact hk
  ·cases hk
 |gone=>cases hg|opt j w y=>cases hg|_=>exact other aD ⟨aD,aD⟩ rfl
omit hR in
theorem ahZ (hi:aO ρ b st fr σ):∀{l:List Operand}{vs:List (au R.T)},mZ [] st l=some vs->vs.all VL=true->∀k∈(l.flatMap fun x=>ji (fr.ev E x)),k∈(l.flatMap (fun x=>VJ st x)).map (Key.mv ρ.aj)
 | [],vs,h,_=>fun k hk=>hk
 |x::l,vs,h,hg=>by
  unfold mZ at h;cases h1:dF [] st x with
  |none=>simp only[h1] at h;cases h|some a=>
   cases h2:mZ [] st l with
   |none=>simp only[h1,h2] at h;cases h|some dz=>
    simp only[h1,h2] at h;cases h;rw[List.all_cons,aT] at hg;intro k hk;rw[mo] at hk⊢;rw[nU];rcases nG.1 hk with hk|hk
    ·refine uL _ ?_
     unfold VJ;rw[h1];exact auJ hg.1 (dw hi .nil h1) k hk
    ·exact wm _ (ahZ hi h2 hg.2 k hk)
omit hR in
theorem aa4 (hi:aO ρ b st fr σ)(hF1:∀d,o.dst=some d->E.cn d<F0):(Fb E o).map (Key.mv ρ.aj)=xW E fr o:=by
 unfold Fb xW;cases hd:o.dst with
 |none=>rfl|some d=>dsimp only;rw[hi.at (hF1 d hd)];rfl
theorem auK {aj:Bool}{β:Type}{F:Nat->List (fC R)}(bO:ρ.aj.aj=aj)(gW:∀d,o.dst=some d->d<F0)(hF1:∀d,o.dst=some d->E.cn d<F0)(hi:aO ρ b st fr σ){k:aH R.T->Option β}{x:β}(h:runM E R aj F o st k=some x)(hd:wX E aj st o=true):Ac (jw E fr o) ((Fe E aj st o).mv ρ.aj):=by
 by_cases hna:∀c,o.op= .call c->c.callee= .builtin .append->aj=false
 ·exact .of_eq (auH hR bO gW hi h hd hna)
 ·have:∃c,o.op= .call c/\c.callee= .builtin .append/\aj=true:=by
   refine Classical.byContradiction fun hn=>hna fun c h1 h2=>?_;cases hm:aj
   ·rfl
   ·exact absurd ⟨c,h1,h2,hm⟩ hn
  obtain⟨c,ho,hc,rfl⟩:=this;unfold wX at hd;rw[ho,aT] at hd;dsimp only at hd;rw[hc] at hd;dsimp only at hd;have hd2:=hd.2;rw[Bool.true_and,oF] at hd2;have hv:∃vs,mZ [] st c.args.toList=some vs/\vs.all VL=true:=by
   cases hvs:mZ [] st c.args.toList with
   |none=>rw[hvs] at hd2;simp at hd2|some vs=>
    rw[hvs] at hd2;dsimp only at hd2;refine⟨vs,rfl,?_⟩;rcases hd2 with h2|h2
    ·exact h2
    ·rw[kG] at h2⊢
     intro y hy;have:=h2 y hy;cases y<;>first|rfl|exact this
  obtain⟨vs,hvs,hall⟩:=hv;have key:=ahZ (E:=E) hi hvs hall;unfold jw Fe;rw[ho];dsimp only;rw[hc];dsimp only;rw[hi.aj,bO];refine⟨id,id,key,fun k hk=>?_⟩;show k∈List.map (Key.mv ρ.aj) (.top::(Fb E o++_));rw[fQ,nU,aa4 hi hF1];rcases fV.1 hk with rfl|hk
  ·exact iw ..
  ·refine iZ _ ?_
   rcases nG.1 hk with hk|hk
   ·exact uL _ hk
   ·exact wm _ (key k hk)
omit hR in
theorem Pf (c:cZ)(all:List Oper)(o:Oper):(wF all o).map (Key.mv c)=wF all o:=by
 have key:∀l:List Key,(∀k∈l,∃t,k= .slot t)->l.map (Key.mv c)=l:=by
  intro l;induction l with
  |nil=>intro _;rfl|cons k l ih=>intro h;obtain⟨t,e⟩:=h k (iw ..);rw[fQ,ih fun k hk=>h k (iZ _ hk),e];rfl
 refine key _ fun k hk=>?_;unfold wF at hk;rw[nG] at hk;rcases hk with hk|hk
 ·rw[List.mem_filterMap] at hk
  obtain⟨a,_,ha⟩:=hk;split at ha
  ·cases ha;exact⟨_,rfl⟩
  ·cases ha
 ·split at hk
  ·split at hk
   ·exact⟨_,jk.1 hk⟩
   ·cases hk
  ·cases hk
omit hR in
theorem Pg (c:cZ)(o:Oper):(nY o).map (Key.mv c)=nY o:=by unfold nY;cases o.dst<;>rfl
omit hR in
theorem Wu {c:cZ}(f:dO)(a b:List Key)(ha:a.map (Key.mv c)=a)(hb:b.map (Key.mv c)=b):dO.mv c ⟨f.rY,f.oH,a++f.t,b++f.w⟩=⟨(f.mv c).rY,(f.mv c).oH,a++(f.mv c).t,b++(f.mv c).w⟩:=by unfold dO.mv;dsimp only;rw[nU,nU,ha,hb]
omit hR in
theorem auL {c:cZ}{f g:dO}(a b:List Key)(ha:a.map (Key.mv c)=a)(hb:b.map (Key.mv c)=b)(h:Ac f (g.mv c)):Ac ⟨f.rY,f.oH,a++f.t,b++f.w⟩ (dO.mv c ⟨g.rY,g.oH,a++g.t,b++g.w⟩):=by rw[Wu g a b ha hb];exact⟨h.tA,h.wA,fun k hk=>(nG.1 hk).elim (fun h=>uL _ h) fun hk=>wm _ (h.t k hk),fun k hk=>(nG.1 hk).elim (fun h=>uL _ h) fun hk=>wm _ (h.w k hk)⟩
theorem auM {aj:Bool}{β:Type}{F:Nat->List (fC R)}(bO:ρ.aj.aj=aj)(gW:∀d,o.dst=some d->d<F0)(hF1:∀d,o.dst=some d->E.cn d<F0)(hi:aO ρ b st fr σ){k:aH R.T->Option β}{x:β}{all:List Oper}(h:runM E R aj F o st k=some x)(hd:wX E aj st o=true):Ac (iD E all fr o true) ((sF E aj all st o true).mv ρ.aj):=by have key:=auK hR bO gW hF1 hi h hd;unfold sF iD;rw[if_pos rfl,if_pos rfl];exact auL _ _ (Pf _ _ _) (Pg _ _) key
omit hR in
theorem ah0 {aj:Bool}{all:List Oper}{c:cZ}:(sF E aj all st o false).mv c=iD E all fr o false:=by unfold sF iD dO.mv;rw[if_neg aD,if_neg aD];dsimp only;rw[Pf,Pg]
omit hR in
theorem auN {aj:Bool}{all:List Oper}{c:Call}{f:Operand}{g:FuncId}{a vb:List V}(hi:aO ρ b st fr σ)(himp:q8 E st o=true)(fT:w9 E fr o=false)(h1:o.op= .call c)(h2:c.callee= .value f)(h3:fr.ev E f= .fn (.func g) a vb)(h4:E.imp g=true):(sF E aj all st o true).mv ρ.aj=iD E all fr o true:=by
 have key:(Fe E aj st o).mv ρ.aj=jw E fr o:=by
  unfold q8 at himp;rw[h1] at himp;dsimp only at himp;rw[h2] at himp;dsimp only at himp;unfold w9 at fT;rw[h1] at fT;dsimp only at fT;rw[h2] at fT;dsimp only at fT;unfold Fe jw;rw[h1];dsimp only;rw[h2];dsimp only;rw[fT,h3];split at himp
  ·rename_i g' a' b' hf
   (try rw[hf])
   (try dsimp only)
   rw[if_pos himp,if_neg aD]
   (try dsimp only)
   rw[if_pos h4];rfl
  ·cases himp
 unfold sF iD;rw[if_pos rfl,if_pos rfl,<-key];exact Wu _ _ _ (Pf _ _ _) (Pg _ _)
omit hR in
theorem auO {β:Type}{F:Nat->List (fC R)}{k:aH R.T->Option β}{x:β}{all:List Oper}(hi:aO ρ b st fr σ)(h:wU R F o st k=some x)(hown:ny E st o=true)(hF1:∀d,o.dst=some d->E.cn d<F0):(zX E all o).mv ρ.aj=iD E all fr o true:=by
 have key:jw E fr o=mq (.top::xW E fr o):=by
  unfold wU at h;split at h
  ·rename_i c d ho hd
   split at h
   ·rename_i f fE
    split at h
    ·rename_i g a' b' vs hf hvs
     obtain⟨va,vb,h1,_,_⟩:=(dw (E:=E) hi .nil hf).lG;have hg:E.own g d=true:=(by unfold ny at hown;rw[ho] at hown;dsimp only at hown;rw[fE] at hown;dsimp only at hown;rw[hf] at hown;dsimp only at hown;rw[hd] at hown;exact hown);have fT:lq E fr o f=true:=(by unfold lq;rw[h1,hd];exact hg);unfold jw;rw[ho];dsimp only;rw[fE];dsimp only;rw[if_pos fT]
    ·cases h
   ·cases h
  ·cases h
 unfold zX iD;rw[if_pos rfl,key];rw[<-aa4 hi hF1];exact Wu ⟨false,false,[],.top::Fb E o⟩ _ _ (Pf _ _ _) (Pg _ _)
omit hR in
theorem auP {all:List Oper}{c:Call}{f:Operand}{g:FuncId}{a vb:List V}{d:Nat}(hi:aO ρ b st fr σ)(h1:o.op= .call c)(h2:c.callee= .value f)(h3:fr.ev E f= .fn (.func g) a vb)(h4:o.dst=some d)(h5:E.own g d=true)(hF1:∀d,o.dst=some d->E.cn d<F0):(zX E all o).mv ρ.aj=iD E all fr o true:=by
 have key:jw E fr o=mq (.top::xW E fr o):=by
  have fT:lq E fr o f=true:=by unfold lq;rw[h3,h4];exact h5
  unfold jw;rw[h1];dsimp only;rw[h2];dsimp only;rw[if_pos fT]
 unfold zX iD;rw[if_pos rfl,key];rw[<-aa4 hi hF1];exact Wu ⟨false,false,[],.top::Fb E o⟩ _ _ (Pf _ _ _) (Pg _ _)
theorem FC {aj:Bool}{β:Type}{F:Nat->List (fC R)}(hF:aZ E F){M:Nat->List (mD R)}(hM:OY E M){ms:List Nat}{all:List Oper}{k:aH R.T->Option β}{x:β}{Q:Fr->ak->Prop}:∀(os:List Oper)(aK:Nat)(ρ:aV)(st:aH R.T)(fr:Fr)(σ:ak)(fs gs:List dO),DF gs (fs.map (dO.mv ρ.aj))->(∀d,bg d (kT E os)=true->d<F0)->ρ.aj.aj=aj->aO ρ aK st fr σ->aK+os.length<=σ.next->oh E R aj F M ms all os st fs k=some x->(∀ρ' st' fr' σ',aO ρ' (aK+os.length) st' fr' σ'->σ.next<=σ'.next->Kp (os.all (yD E)) (kT E os) st fr σ ρ st' fr' σ' ρ'->k st'=some x->Q fr' σ')->je E ms all aK os fr σ gs Q
 | [],aK,ρ,st,fr,σ,fs,gs,hgs,hW0,bO,hi,hsn,h,hq=>by unfold oh at h;obtain⟨h1,h⟩:=gH h;exact je.nil (auI hgs (by rw[auF];exact h1)) (hq ρ st fr σ hi (iP _) .refl h)
 |o::os,aK,ρ,st,fr,σ,fs,gs,hgs,hW0,bO,hi,hsn,h,hq=>by
  have gW:∀d,o.dst=some d->d<F0:=fun d hd=>hW0 d (ahR hd);have hF1:∀d,o.dst=some d->E.cn d<F0:=fun d hd=>hW0 _ (auC hd);have hW1:∀d,bg d (kT E os)=true->d<F0:=fun d hd=>hW0 d (ahS hd);have uw:∀{σ':ak},σ.next<=σ'.next->aK+1+os.length<=σ'.next:=fun h=>by rw[List.length_cons] at hsn;omega
  have hg:=ahO (o:=o) (all:=all) hi;unfold oh at h;have hW:∀p,bg p (kT E (o::os))=false->nA E o p/\bg p (kT E os)=false:=fun p hp=>ahP hp;have hq':∀(jl:aV)(st1:aH R.T)(y:V)(σ1:ak),(∀p,nA E o p->bF (yD E o) p st ρ σ st1 jl σ1)->σ.next<=σ1.next->∀ρ' st' fr' σ',aO ρ' (aK+1+os.length) st' fr' σ'->σ1.next<=σ'.next->Kp (os.all (yD E)) (kT E os) st1 (fr.put o.dst y) σ1 jl st' fr' σ' ρ'->k st'=some x->Q fr' σ':=fun jl st1 y σ1 hkp h1 ρ' st' fr' σ' hi' hn Ab hk=>
   hq ρ' st' fr' σ' (by rw[List.length_cons,Nat.add_comm os.length,<-sZ];exact hi') (dJ h1 hn) (((Kp.op (Q:=fun p=>nA E o p) (fun p hp=>⟨(hW p hp).1.1,(hW p hp).1⟩) hkp).nr (Pe:=(o::os).all (yD E)) (fun e=>by rw[List.all_cons,aT] at e;exact e.1)).trans ((Ab.mono fun p hp=>(hW p hp).2).nr (fun e=>by rw[List.all_cons,aT] at e;exact e.2))) hk
  have run:∀(st1:aH R.T),st1.ob=st.ob->aO ρ aK st1 fr σ->iU all fr o=some true->(bif q8 E st1 o then (bif ny E st1 o then OC E R M o st1 (fun st'=>oh E R aj F M ms all os st' (fs++[zX E all o]) k) else Fa E R M o st1 (fun st'=>oh E R aj F M ms all os st' (fs++[sF E aj all st1 o true]) k)) else bif ny E st1 o then wU R F o st1 (fun st'=>oh E R aj F M ms all os st' (fs++[zX E all o]) k) else bif !(wX E aj st1 o) then none else runM E R aj F o st1 (fun st'=>oh E R aj F M ms all os st' (fs++[sF E aj all st1 o true]) k))=some x->je E ms all aK (o::os) fr σ gs Q:=by
   intro st1 Db hi hg h;have hkq:∀(st':aH R.T)(ρ':aV)(σ':ak),(∀p,nA E o p->bF true p st1 ρ σ st' ρ' σ')->∀p,nA E o p->bF true p st ρ σ st' ρ' σ':=fun st' ρ' σ' h p hp=>(h p hp).from Db;cases himp:q8 E st1 o with
   |true=>
    rw[himp,cond_true] at h;cases hown:ny E st1 o with
    |true=>rw[hown,cond_true] at h;obtain⟨c,f,g',a,vb,d,dz,m,v0,v,σ1,σ',f1,f2,f3,f4,f5,f6,f7,f8,f9,f10,f11,f12,jl,st2,i1,i2,i3⟩:=auv hR hM hi h hown;refine je.arU hg f1 f2 f3 f4 f5 f6 f7 f8 f9 f10 ?_;have Ph:=Dy i2;refine FC hF hM os (aK+1) jl st2 _ σ' _ _ ?_ hW1 ((congrArg cZ.aj Ph).trans bO) i1 (uw (wu f11.symm)) i3 (hq' jl st2 _ σ' (fun p hp=>(hkq st2 jl σ' i2 p hp).of) (wu f11.symm));rw[Ph,nU,fQ,List.map_nil];exact hgs.snoc (.of_eq (auP hi f1 f2 f3 f4 f5 hF1))
    |false=>
    rw[hown,cond_false] at h;have fT:=Pb hi hown;obtain⟨c,f,g',a,vb,f1,f2,f3,f4,n',v,σ',f5,jl,st2,i1,i2,i3,i4⟩:=aaV hR hM gW hi ah h;have hf:=auN (aj:=aj) (all:=all) hi himp fT f1 f2 f3 f4;refine je.H7 hg f1 f2 f3 f4 ⟨n',v,σ',f5,?_⟩ (aa3 fT f1 f2 f3);have Ph:=aa0 i3;refine FC hF hM os (aK+1) jl st2 _ _ _ _ ?_ hW1 ((congrArg cZ.aj Ph).trans bO) i1 (uw i2) i4 (hq' jl st2 _ _ (fun p hp=>by rw[aa2 himp];exact(i3 p hp).from Db) i2);rw[Ph,nU,fQ,List.map_nil];exact hgs.snoc (.of_eq hf)
   |false=>
   rw[himp,cond_false] at h;cases hown:ny E st1 o with
   |true=>rw[hown,cond_true] at h;refine auB hR hF hi h hown (ahQ himp hi h) hg (fun ρ' st' y σ' hi' hn hkp hk=>?_);refine FC hF hM os (aK+1) ρ' st' _ σ' _ _ ?_ hW1 ((congrArg cZ.aj (Dy hkp)).trans bO) hi' (uw (wu hn.symm)) hk (hq' ρ' st' y σ' (fun p hp=>(hkq st' ρ' σ' hkp p hp).of) (wu hn.symm));rw[Dy hkp,nU,fQ,List.map_nil];exact hgs.snoc (.of_eq (auO hi h hown hF1))
   |false=>
   rw[hown,cond_false] at h;cases hd:wX E aj st1 o
   ·rw[hd] at h;cases h
   ·rw[hd] at h
    have h':runM E R aj F o st1 (fun st'=>oh E R aj F M ms all os st' (fs++[sF E aj all st1 o true]) k)=some x:=h;have hf:=auM hR (all:=all) bO gW hF1 hi h' hd;exact aaX hR hF bO gW hi h' (rest:=fun fr' σ'=>je E ms all (aK+1) os fr' σ' (gs++[iD E all fr o true]) Q) (fun y σ' hst hr=>hst.2 (Pb hi (by unfold wX at hd;rw[aT,pE] at hd;exact hd.1)) ms all os gs Q hg hr) (fun ρ' st' y σ' hi' hn hkp hk=>by refine FC hF hM os (aK+1) ρ' st' _ σ' _ _ ?_ hW1 ((congrArg cZ.aj (Dy hkp)).trans bO) hi' (uw (wu hn.symm)) hk (hq' ρ' st' y σ' (fun p hp=>(hkq st' ρ' σ' hkp p hp).of) (wu hn.symm));rw[Dy hkp,nU,fQ,List.map_nil];exact hgs.snoc hf)
  split at h
  ·rename_i hgm
   rw[hgm] at hg;exact run st rfl hi hg h
  ·rename_i hgm
   rw[hgm] at hg;refine je.skip hg (FC hF hM os (aK+1) ρ _ _ σ _ _ ?_ hW1 bO ((hi.le (j4 _)).gN o.dst iY) (uw (iP _)) h (hq' ρ _ aL σ (fun p _=>bF.same vT) (iP _)));rw[nU,fQ,List.map_nil];exact hgs.snoc (.of_eq (ah0 (fr:=fr)))
  ·rename_i j w c g hgm
   rw[hgm] at hg;obtain⟨⟨n,hn⟩,hg2⟩:=hg;obtain⟨e1,e2,e3⟩:=Dx hi n j w c g hn;cases c with
   |true=>obtain⟨l1,l2⟩:=O8 hi (e1 rfl).2 (O9 hi n j w g hn);exact run (st.nu g) l2 l1 hg2 h
   |false=>obtain⟨l1,l2⟩:=aaY hi hn;refine je.skip hg2 (FC hF hM os (aK+1) ρ _ _ σ _ _ ?_ hW1 bO ((l1.le (j4 _)).gN o.dst iY) (uw (iP _)) h (hq' ρ _ aL σ (fun p _=>bF.same (AY.trans l2)) (iP _)));rw[nU,fQ,List.map_nil];exact hgs.snoc (.of_eq (ah0 (fr:=fr)))
  ·cases h
end
section
variable {E:Env}{fr:Fr}{σ:ak}
def ak.enter (σ:ak)(fr:Fr)(ps:Array Tmp)(fO body:Code):ak:=({σ with next:=σ.next+1}:ak).jd σ.next {st:=0,pend:=none,fr:=fr,ps:=ps.toList,fO:=fO,body:=body}
def Ad (E:Env)(l:Nat)(args:List V)(σ:ak)(b:Bool)(σ':ak):Prop:=∃n,xV (dX E n) l args σ=some (.bool b,σ')
theorem bH.range {f:Operand}{ps:Array Tmp}{fO body:Code}{g:FuncId}{a b:List V}{Q:Ex->Fr->ak->Prop}(hf:fr.ev E f= .fn (.func g) a b)(hi:E.imp g=true)(h:mX E g (a++[.fn (.yield σ.next) [] []]++b) (fr.d+1) (σ.enter fr ps fO body) (fun _ σ2=>∃r,σ2.loops σ.next=some r/\r.st≠1/\Q (match r.pend with|none=>.normal|some e=>e) fr (σ2.pG σ.next))):bH E (.rangeFunc f ps fO body) fr σ Q:=by
 obtain⟨n,v,σ2,h1,r,h2,h3,h4⟩:=h;refine⟨n,_,fr,_,?_,h4⟩;have h1':lg E (dX E n) fr.d none (σ.enter fr ps fO body) (.fn (.func g) a b) [.fn (.yield σ.next) [] []]=some (v,σ2):=by unfold lg;simp only[hi,if_true];rw[h1];exact congrArg some aqt
 unfold fH;rw[hf];simp only[Yo,if_true];unfold ak.enter at h1';rw[h1'];simp only[Option.bind_some,h2,if_neg h3];cases r.pend<;>rfl
theorem Ad.of {l:Nat}{args:List V}{r:qP}{b:Bool}{σ':ak}(hl:σ.loops l=some r)(hst:r.st=0)(hlen:r.ps.length=args.length)(h:bH E r.fO {r.fr with tm:=(r.ps.zip args).foldl (fun tm (p,a)=>upd tm p a) r.fr.tm} σ (fun e bM σ1=>e= .normal/\∃r1,σ1.loops l=some r1/\r1.st=0/\
   bH E r.body bM (σ1.jd l {r1 with st:=1}) (fun e _ σ2=>∃r2,σ2.loops l=some r2/\r2.st=1/\match e with
    |.normal=>b=true/\σ'=σ2.jd l {r2 with st:=0,pend:=none}
    |e=>b=false/\σ'=σ2.jd l {r2 with st:=2,pend:=some e}))):Ad E l args σ b σ':=by
 obtain⟨n,e,bM,σ1,h1,rfl,r1,hl1,hs1,m,e2,fI,σ2,h2,r2,hl2,hs2,h3⟩:=h;have h1':(dX E (max n m+1)).code r.fO {r.fr with tm:=(r.ps.zip args).foldl (fun tm (p,a)=>upd tm p a) r.fr.tm} σ=some (.normal,bM,σ1):=EM (mW (zw n m)) _ _ _ _ h1;have h2':(dX E (max n m+1)).code r.body bM (σ1.jd l {r1 with st:=1})=some (e2,fI,σ2):=EM (mW (xO n m)) _ _ _ _ h2;refine⟨max n m+1,?_⟩;unfold xV;simp only[hl,Option.bind_some,hst,hlen,and_self,if_true,h1',hl1,hs1,h2',hl2,hs2];cases e2 with
 |normal=>obtain⟨rfl,rfl⟩:=h3;rfl
 |exit i=>obtain⟨rfl,rfl⟩:=h3;rfl
 |ret=>obtain⟨rfl,rfl⟩:=h3;rfl
theorem bW.yield {all:List Oper}{st:Nat}{o:Oper}{os:List Oper}{Q:Fr->ak->Prop}{c:Call}{f:Operand}{l:Nat}{b:Bool}{σ1:ak}(hw:iU all fr o=some true)(ho:o.op= .call c)(fE:c.callee= .value f)(hf:fr.ev E f= .fn (.yield l) [] [])(hr:Ad E l (c.args.toList.map (fr.ev E)) σ b σ1)(h:bW E all (st+1) os (fr.put o.dst (.bool b)) σ1 Q):bW E all st (o::os) fr σ Q:=by
 obtain⟨n,fr',σ',h1,h2⟩:=h;obtain⟨m,hm⟩:=hr;have hm':=afG (mW (xO n m)) hm;have h1':=Oa (mW (zw n m)) _ _ _ _ _ _ h1;refine⟨max n m,fr',σ',?_,h2⟩;have:lg E (dX E (max n m)) fr.d (o.dst.map E.cn) σ (.fn (.yield l) [] []) (c.args.toList.map (fr.ev E))=some (.bool b,σ1):=by unfold lg;exact hm'
 have fT:lq E fr o f=false:=by unfold lq;rw[hf]
 simp only[opsE,hw,Option.bind_some,if_true,opC,ho,fE,fT,dL,if_false,hf,this,Option.map_some,h1']
structure Shift (d:Nat)(σ σ':ak):Prop where
 next:σ.next<=σ'.next
 top:∀s,s<σ.next->σ'.top s=σ.top s
 loops:∀l,l<σ.next->σ'.loops l=σ.loops l
 obj:∀a o,a<=d->σ'.obj (a,o)=σ.obj (a,o)
theorem Shift.refl {d:Nat}{σ:ak}:Shift d σ σ:=⟨iP _,fun _ _=>rfl,fun _ _=>rfl,fun _ _ _=>rfl⟩
theorem Shift.trans {d:Nat}{σ σ' kg:ak}(h:Shift d σ σ')(g:Shift d σ' kg):Shift d σ kg:=
 ⟨dJ h.next g.next,fun s hs=>(g.top s (gM hs h.next)).trans (h.top s hs),fun s hs=>(g.loops s (gM hs h.next)).trans (h.loops s hs),fun a o ha=>(g.obj a o ha).trans (h.obj a o ha)⟩
def FD (E:Env)(f:FuncId)(a b:List V)(L:List (List V)):Prop:=∀(d l:Nat)(σ:ak)(J:List (List V)->ak->Prop)(D:ak->Prop),
 (∀xs σ σ',l<σ.next->J xs σ->Shift d σ σ'->J xs σ')->(∀σ σ',l<σ.next->D σ->Shift d σ σ'->D σ')->
 (∀x xs σ,l<σ.next->J (x::xs) σ->∃c σ',Ad E l x σ c σ'/\σ.next<=σ'.next/\(∀a o,d<a->σ'.obj (a,o)=σ.obj (a,o))/\(∀s,s<σ.next->σ'.loops s=σ.loops s\/s=l)/\(c=true->J xs σ')/\(c=false->D σ'))->
 l<σ.next->J L σ->mX E f (a++[.fn (.yield l) [] []]++b) (d+1) σ fun _ σ'=>σ.next<=σ'.next/\(J [] σ'\/D σ')
structure BL (d:Nat)(L0:Option Loc)(σ σ':ak):Prop where
 next:σ.next<=σ'.next
 top:∀s,s<σ.next->σ'.top s=σ.top s
 loops:∀l,l<σ.next->σ'.loops l=σ.loops l
 obj:∀L:Loc,L.1<=d->L0≠some L->σ'.obj L=σ.obj L
theorem Shift.G {d:Nat}{L0:Option Loc}{σ σ':ak}(h:Shift d σ σ'):BL d L0 σ σ':=⟨h.next,h.top,h.loops,fun L hL _=>h.obj L.1 L.2 hL⟩
theorem BL.trans {d:Nat}{L0:Option Loc}{σ σ' kg:ak}(h:BL d L0 σ σ')(g:BL d L0 σ' kg):BL d L0 σ kg:=
 ⟨dJ h.next g.next,fun s hs=>(g.top s (gM hs h.next)).trans (h.top s hs),fun s hs=>(g.loops s (gM hs h.next)).trans (h.loops s hs),fun L hL hn=>(g.obj L hL hn).trans (h.obj L hL hn)⟩
def aa5 (E:Env)(k:Bool)(f:FuncId)(a b:List V)(L0:Option Loc)(pre:ak->Prop)(L:List (List V)):Prop:=∀(d l:Nat)(σ:ak)(J:List (List V)->ak->Prop)(D:ak->Prop),(∀loc,L0=some loc->loc.1<=d)->
 (∀xs σ σ',l<σ.next->J xs σ->BL d L0 σ σ'->J xs σ')->(∀σ σ',l<σ.next->D σ->BL d L0 σ σ'->D σ')->
 (∀x xs σ,l<σ.next->J (x::xs) σ->∃c σ',Ad E l x σ c σ'/\σ.next<=σ'.next/\(k=true->∀a o,d<a->σ'.obj (a,o)=σ.obj (a,o))/\(∀loc,L0=some loc->∀s,σ'.bQ loc s=σ.bQ loc s)/\(∀s,s<σ.next->σ'.loops s=σ.loops s\/s=l)/\(c=true->J xs σ')/\(c=false->D σ'))->
 l<σ.next->pre σ->J L σ->mX E f (a++[.fn (.yield l) [] []]++b) (d+1) σ fun _ σ'=>σ.next<=σ'.next/\(J [] σ'\/D σ')
theorem FD.G {f:FuncId}{a b:List V}{L:List (List V)}(h:FD E f a b L):aa5 E true f a b none (fun _=>True) L:=fun d l σ J D _ hJ hD hr hl _ h0=>
 h d l σ J D (fun xs σ σ' hl hj hs=>hJ xs σ σ' hl hj hs.G) (fun σ σ' hl hd hs=>hD σ σ' hl hd hs.G) (fun x xs σ hl hj=>by obtain⟨c,σ',h1,h2,h3,_,h4,h5,h6⟩:=hr x xs σ hl hj;exact⟨c,σ',h1,h2,h3 rfl,h4,h5,h6⟩) hl h0
def ah1 (E:Env)(k:Bool)(f:FuncId)(a b cs:List V)(L:List (List V)):Prop:=∀(loc:Loc)(s:Nat),aa5 E k f a (.ref loc s 0::b) (some loc) (fun σ=>σ.bQ loc s=some cs) L
end
end aR
end
