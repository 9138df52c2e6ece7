import Derived.Test.YthadiihdjhakdaaGreatF2911
set_option linter.all false
section
namespace aY
open Go
section
variable {R:gY}{E:Env}
variable {ρ:aT}{b aH:Nat}{st:aD R.T}{fr:Fr}{σ:au}{o:Oper}
theorem arE {j:Nat}{t:Bool}(h:dK [] st (.tmp j)=some (.bool t)):look st.fr j=some (.bool t):=by
 unfold dK at h;dsimp only at h;split at h
 ·rename_i v hv
  cases v<;>first| (cases h;exact hv)| (simp[SL,look] at h;done)
 ·cases h
variable (hR:rE R)
include hR
theorem aae {aj:Bool}{β:Type}{F:Nat->List (fM R)}(hF:bg E F)(bK:ρ.aj.aj=aj)(gV:∀d,o.dst=some d->d<F0)(hi:aL ρ aH st fr σ){k:aD R.T->Option β}{x:β}(h:runM E R aj F o st k=some x){G:Prop}{rest:Fr->au->Prop}(hs:∀y σ',mo E fr σ aH o y σ'->rest (fr.put o.dst y) σ'->G)(hk:∀ρ' st' y σ',aL ρ' (aH+1) st' (fr.put o.dst y) σ'->σ'.next=σ.next->(∀p,nJ E o p->bB true p st ρ σ st' ρ' σ')->k st'=some x->rest (fr.put o.dst y) σ'):G:=by
 have hi1:=hi.le (kD aH);unfold runM at h;split at h
 ·rename_i c a' b' hop
  split at h
  ·rename_i t hc
   have hc':=(dz (E:=E) hi .nil hc).vB;split at h
   ·rename_i v hv
    refine hs _ _ (.oM (Jq hop hc')) (hk ρ _ _ σ (hi1.gU o.dst ?_) rfl (fun p _=>bB.same yM) h);cases t
    ·exact dz (E:=E) hi .nil hv
    ·exact dz (E:=E) hi .nil hv
   ·cases h
  ·rename_i t hc
   have hc':=(dz (E:=E) hi .nil hc).rF;split at h
   ·rename_i j
    have hj:=hc';rw[MF] at hj;split at h
    ·rename_i x' y' hx hy
     split at h
     ·rename_i v hv
      refine hs _ _ (.oM (Jq hop hc')) (hk ρ _ _ σ (hi1.gU o.dst ?_) rfl (fun p _=>bB.same yM) h);cases t
      ·exact aha hv (dz (E:=E) hi (.cons hj .nil) hy)
      ·exact ag9 hv (dz (E:=E) hi (.cons hj .nil) hx)
     ·cases t
      ·exact hs _ _ (.oM (Jq hop hc')) (hk ρ _ _ σ ((hi1.learn hj).gU o.dst (dz (E:=E) hi (.cons hj .nil) hy)) rfl (fun p _=>bB.same yM) h)
      ·exact hs _ _ (.oM (Jq hop hc')) (hk ρ _ _ σ ((hi1.learn hj).gU o.dst (dz (E:=E) hi (.cons hj .nil) hx)) rfl (fun p _=>bB.same yM) h)
    ·cases h
   ·cases h
  ·cases h
 ·rename_i t a y hop
  split at h
  ·rename_i τ p i off l v hst
   unfold Zq at hst;split at hst
   ·rename_i p' aBs i' off' v' ha hv
    split at hst
    ·rename_i fO l0 sz hl hsz
     split at hst
     ·rename_i l1 hl1
      obtain⟨hc,hst⟩:=gH hst;cases hst;obtain⟨e,e2⟩:=vC hl1;subst e;cases e2;simp only[iP] at hc;obtain⟨⟨⟨c1,c2⟩,c3⟩,c4⟩:=hc;obtain⟨z,hz,h⟩:=iR.1 h;split at h
      ·rename_i y' hu
       obtain⟨s,h1,_,h2⟩:=(dz (E:=E) hi .nil ha).FC;obtain⟨h6,h7⟩:=zA c4 (dz (E:=E) hi .nil hv);have hO:=hi.ob _ _ hl;obtain⟨cs,k1,k2,k3,k4⟩:=aqV hR hO h1 hz h6 (kQ c2) hu;refine hs aK (σ.setObj (ρ.aj.lc p) s (.cells (jN cs (i.toNat*cK R fO+off) (fr.ev E y).cells))) (.oM (o:=o) ?_) (hk ρ _ aK _ ((hi1.set p s (x:=.arr fO (iO l0 i y')) (a:=.cells (jN cs (i.toNat*cK R fO+off) (fr.ev E y).cells)) ⟨k4.trans hO.1,.inr ⟨s,_,h1,Av _ _ _ _,k3⟩⟩).gU o.dst (x:=.undef) jJ) rfl (fun q _=>(bB.set hl rfl).congr Bq) h);simp only[eP,hop,h2,k1,Option.bind_some];rw[if_pos ⟨by rw[hsz,h6.length,gG c1],k2,Nj c3 h6⟩]
      ·cases h
     ·cases hst
    ·cases hst
   ·cases hst
  ·split at h
   ·rename_i v st' hr
    rw[<-hop] at hr;obtain⟨y,σ',ρ',h1,h2,h3,h4,h5⟩:=zB hR hF bK gV .nil hi hr;exact hs y σ' h1 (hk ρ' _ y σ' (h2.gU o.dst h4) h3 (fun p hp=>(h5 p hp).congr Bq) h)
   ·cases h
 ·rename_i t m y ok hop
  split at h
  ·rename_i ks vs q z hsm
   unfold Zp at hsm;cases hsm
  ·split at h
   ·rename_i v hr
    rw[<-hop] at hr;obtain⟨y,h1,h2⟩:=zB hR hF bK gV .nil hi hr;exact hs y σ h1 (hk ρ _ y σ (hi1.gU o.dst h2) rfl (fun p _=>bB.same yM) h)
   ·cases h
 ·split at h
  ·rename_i v hr
   obtain⟨y,h1,h2⟩:=zB hR hF bK gV .nil hi hr;exact hs y σ h1 (hk ρ _ y σ (hi1.gU o.dst h2) rfl (fun p _=>bB.same yM) h)
  ·rename_i c v hr
   obtain⟨hc,h⟩:=gH h;obtain⟨y,h1,h2⟩:=zB hR hF bK gV .nil hi hr hc;exact hs y σ h1 (hk ρ _ y σ (hi1.gU o.dst h2) rfl (fun p _=>bB.same yM) h)
  ·rename_i v st' hr
   obtain⟨y,σ',ρ',h1,h2,h3,h4,h5⟩:=zB hR hF bK gV .nil hi hr;exact hs y σ' h1 (hk ρ' _ y σ' (h2.gU o.dst h4) h3 (fun p hp=>(h5 p hp).congr Bq) h)
  ·rename_i c v st' hr
   obtain⟨hc,h⟩:=gH h;obtain⟨y,σ',ρ',h1,h2,h3,h4,h5⟩:=zB hR hF bK gV .nil hi hr hc;exact hs y σ' h1 (hk ρ' _ y σ' (h2.gU o.dst h4) h3 (fun p hp=>(h5 p hp).congr Bq) h)
  ·rename_i α z q f hr
   obtain⟨a,ha,h⟩:=iR.1 h;obtain⟨y,h1,h2⟩:=zB hR hF bK gV .nil hi hr a ha;exact hs y σ h1 (hk ρ _ y σ (hi1.gU o.dst h2) rfl (fun p _=>bB.same yM) h)
  ·rename_i l hr
   obtain⟨v,y,h0,h1,h2⟩:=zB hR hF bK gV .nil hi hr _ (fun v=>k (st.gU o.dst v)) x h;exact hs y σ h1 (hk ρ _ y σ (hi1.gU o.dst h2) rfl (fun p _=>bB.same yM) h0)
  ·cases h
omit hR in
theorem DL (hi:aL ρ b st fr σ):∀(n j:Nat)(w c:Bool)(g:List (Nat×Bool)),rC st n j w=some (c,g)->(c=true->fr.tm j= .bool w/\uo fr g)/\(c=false->fr.tm j= .bool (!w)\/fr.tm j=aK)/\(g=[(j,w)]->c=false->fr.tm j= .bool (!w))
 |0,j,w,c,g,h=>bC|n+1,j,w,c,g,h=>by
  have key:∀(i:Nat)(u a:Bool)(y:ak R.T),look st.fr j=some (.opt i u y)->(∀v,av R ρ σ.top y v->v= .bool a)->(match rC st n i u with
   |some (c,g)=>some (Zo c (I6 a w),(j,w)::g)|none=>none)=some (c,g)->(c=true->fr.tm j= .bool w/\uo fr g)/\(c=false->fr.tm j= .bool (!w)\/fr.tm j=aK)/\(g=[(j,w)]->c=false->fr.tm j= .bool (!w)):=by
   intro i u a y hl hy h;split at h
   ·rename_i c0 g0 he
    cases h;obtain⟨h1,h2,h3⟩:=DL hi n i u c0 g0 he;have hr:=hi.fr _ _ hl;have hg0:g0≠[]:=by
     rintro rfl;cases n with
     |zero=>cases he|succ n=>
      unfold rC at he;split at he
      ·cases he
      ·split at he<;>cases he
      ·split at he<;>cases he
      ·cases he
    refine⟨fun hc=>?_,fun hc=>?_,fun hg=>absurd (by simpa using hg) hg0⟩
    ·cases c0 with
     |false=>cases hc|true=>obtain⟨a1,a2⟩:=h1 rfl;have hv:=hy _ (hr.1 a1);have hc':I6 a w=true:=hc;have:a=w:=(by cases a<;>cases w<;>first|rfl|cases hc');subst this;exact⟨hv,.cons hv a2⟩
    ·cases c0 with
     |false=>exact .inr (hr.2 (h2 rfl))|true=>obtain⟨a1,a2⟩:=h1 rfl;have hv:=hy _ (hr.1 a1);have hc':I6 a w=false:=hc;have:a= !w:=(by cases a<;>cases w<;>first|rfl|cases hc');subst this;exact .inl hv
   ·cases h
  unfold rC at h;split at h
  ·rename_i a hl
   cases h;have hv:=(show av R ρ σ.top (.bool a) (fr.tm j) from hi.fr _ _ hl).rF;refine⟨fun hc=>?_,fun hc=>.inl ?_,fun _ hc=>?_⟩
   ·have:a=w:=by cases a<;>cases w<;>first|rfl|cases hc
    subst this;exact⟨hv,.cons hv .nil⟩
   ·have:a= !w:=by cases a<;>cases w<;>first|rfl|cases hc
    subst this;exact hv
   ·have:a= !w:=by cases a<;>cases w<;>first|rfl|cases hc
    subst this;exact hv
  ·rename_i i u a hl;exact key i u a _ hl (fun v hv=>hv.rF) h
  ·rename_i i u a hl;exact key i u a _ hl (fun v hv=>hv.vB) h
  ·cases h
omit hR in
theorem ahu {all:List Oper}(hi:aL ρ b st fr σ):match Tv all st o with
 |.run=>iw all fr o=some true|.skip=>iw all fr o=some false|.dyn j w c g=>(∃n,rC st n j w=some (c,g))/\iw all fr o=some c|.no=>True:=by
 unfold Tv iw;cases hg:o.guard with
 |none=>rfl|some p=>
  obtain⟨j,w⟩:=p;dsimp only;cases hj:all[j]? with
  |none=>rfl|some p=>
   simp only[Option.bind_some];cases hd:p.dst with
   |none=>rfl|some t=>
    dsimp only;have dyn:∀c g,rC st 12 t w=some (c,g)->(match fr.tm t with
     |.bool b=>some (b==w)|.raw _=>none|_=>some false)=some c:=by
     intro c g he;obtain⟨h1,h2,_⟩:=DL hi 12 t w c g he;cases c with
     |true=>rw[(h1 rfl).1];simp|false=>
      rcases h2 rfl with h2|h2
      ·rw[h2];cases w<;>rfl
      ·rw[h2];rfl
    cases hl:look st.fr t with
    |none=>
     dsimp only;cases he:rC st 12 t w with
     |none=>trivial|some q=>exact⟨⟨12,he⟩,dyn _ _ he⟩
    |some v=>
     have hr:=hi.fr _ _ hl;cases v with
     |ji c=>have:=(show av R ρ σ.top (.ji c) (fr.tm t) from hr).vB;rw[this];cases c<;>cases w<;>rfl|undef=>have:=(show av R ρ σ.top .undef (fr.tm t) from hr).afN;rw[this];rfl|_=>
      dsimp only;cases he:rC st 12 t w with
      |none=>trivial|some q=>exact⟨⟨12,he⟩,dyn _ _ he⟩
omit hR in
theorem Nw (hi:aL ρ b st fr σ):∀{g:List (Nat×Bool)},uo fr g->(∀j u,(j,u)∈g->fr.tm j= .bool u)->aL ρ b (st.nI g) fr σ/\(st.nI g).ob=st.ob
 | [],_,_=>⟨hi,rfl⟩| (j,w)::g,hg,hm=>by
   obtain⟨h1,h2⟩:=Nw hi (g:=g) (fun i u h=>by
    exact hm i u (by
     have:∀g:List (Nat×Bool),look g i=some u->(i,u)∈g:=by
      intro g;induction g with
      |nil=>intro h;cases h|cons p g ih=>
       intro h;obtain⟨k,v⟩:=p;by_cases e:i=k
       ·subst e;rw[lD] at h;cases h;simp
       ·rw[je _ _ e] at h;simp[ih h]
     exact iK _ (this g h))) (fun i u h=>hm i u EA)
   exact⟨h1.learn (hm j w aC),h2⟩
omit hR in
theorem Ny (hi:aL ρ b st fr σ):∀(n j:Nat)(w:Bool)(g:List (Nat×Bool)),rC st n j w=some (true,g)->∀i u,(i,u)∈g->fr.tm i= .bool u
 |0,j,w,g,h=>bC|n+1,j,w,g,h=>by
  have hj:=((DL hi (n+1) j w true g h).1 rfl).1;unfold rC at h;split at h
  ·simp only[iE,aP] at h
   obtain⟨_,rfl⟩:=h;intro i u hm;simp at hm;obtain⟨rfl,rfl⟩:=hm;exact hj
  all_goals first
   | (split at h
      ·rename_i c0 g0 he
       simp only[iE,aP] at h;obtain⟨hc,rfl⟩:=h;cases c0 with
       |false=>cases hc|true=>
        intro i u hm;rcases iC.1 hm with hm|hm
        ·cases hm;exact hj
        ·exact Ny hi n _ _ g0 he i u hm
      ·cases h)
   |cases h
omit hR in
theorem aaf (hi:aL ρ b st fr σ){n j:Nat}{w:Bool}{g:List (Nat×Bool)}(hj:rC st n j w=some (false,g)):aL ρ b (st.BR g) fr σ/\(st.BR g).ob=st.ob:=by
 obtain⟨_,_,e3⟩:=DL hi n j w false g hj;rcases g with _| ⟨⟨j',w'⟩,_| ⟨p,g⟩⟩
 ·exact⟨hi,rfl⟩
 ·have hj':j'=j/\w'=w:=by
   cases n with
   |zero=>cases hj|succ n=>
    unfold rC at hj;split at hj
    ·simp only[iE,aP,qb] at hj
     exact⟨hj.2.1.1.symm,hj.2.1.2.symm⟩
    ·split at hj
     ·simp only[iE,aP,qb] at hj
      exact⟨hj.2.1.1.symm,hj.2.1.2.symm⟩
     ·exact absurd hj aC
    ·split at hj
     ·simp only[iE,aP,qb] at hj
      exact⟨hj.2.1.1.symm,hj.2.1.2.symm⟩
     ·exact absurd hj aC
    ·exact absurd hj aC
  obtain⟨rfl,rfl⟩:=hj';exact⟨hi.learn (e3 rfl rfl),rfl⟩
 ·exact⟨hi,rfl⟩
theorem arF {aj:Bool}{β:Type}{F:Nat->List (fM R)}(hF:bg E F)(bK:ρ.aj.aj=aj)(gV:∀d,o.dst=some d->d<F0)(hi:aL ρ aH st fr σ){j n:Nat}{w c:Bool}{g:List (Nat×Bool)}(hj:rC st n j w=some (c,g)){k:aD R.T->Option β}{x:β}(h:Zr E R aj F o j w c g st k=some x){G:Prop}{rest:Fr->au->Prop}(hs:c=true->∀y σ',mo E fr σ aH o y σ'->rest (fr.put o.dst y) σ'->G)(hs':c=false->rest (fr.put o.dst aK) σ->G)(hk:∀ρ' st' y σ',aL ρ' (aH+1) st' (fr.put o.dst y) σ'->σ'.next=σ.next->(∀p,nJ E o p->bB true p st ρ σ st' ρ' σ')->k st'=some x->rest (fr.put o.dst y) σ'):G:=by
 have hi1:=hi.le (kD aH);obtain⟨e1,e2,e3⟩:=DL hi n j w c g hj;have aag:(bif c then runM E R aj F o (st.nI g) k else k ((st.BR g).gU o.dst .undef))=some x->G:=by
  intro h;cases c with
  |true=>obtain⟨l1,l2⟩:=Nw hi (e1 rfl).2 (Ny hi n j w g hj);exact aae hR hF bK gV l1 h (hs rfl) (fun ρ' st' y σ' a b c d=>hk ρ' st' y σ' a b (fun p hp=>(c p hp).from l2) d)
  |false=>obtain⟨n1,n2⟩:=aaf hi hj;have hN:aL ρ (aH+1) (st.BR g) fr σ/\(st.BR g).ob=st.ob:=⟨n1.le (kD _),n2⟩;refine hs' rfl (hk ρ _ aK σ (hN.1.gU o.dst jJ) rfl (fun p _=>bB.same (Bq.trans hN.2)) h)
 unfold Zr at h;split at h
 ·rename_i d hd
  have hput:bf d (g.map (·.1))=false->∀(v:ak R.T)(y:V),(c=true->av R ρ σ.top v y)->(c=false->y=aK)->aL ρ (aH+1) (st.put d (.opt j w v)) (fr.put o.dst y) σ:=by
   intro hdj v y h1 h2;have hne:(fr.set d y).tm j=fr.tm j:=by
    refine ze _ _ ?_;cases n with
    |zero=>cases hj|succ n=>
     have hmem:bf d (g.map (·.1))=false:=hdj;have:∃g',g=(j,w)::g':=by
      unfold rC at hj;split at hj
      ·cases hj;exact⟨[],rfl⟩
      all_goals first
       | (split at hj
          ·simp only[iE,aP] at hj
           exact⟨_,hj.2.symm⟩
          ·cases hj)
       |cases hj
     obtain⟨g',rfl⟩:=this;have h':(Nat.beq d j||bf d (g'.map (·.1)))=false:=hmem;rw[kP] at h';simpa using (FD h'.1).symm
   rw[hd,YP];refine hi1.put d ⟨fun hc=>?_,fun hc=>?_⟩
   ·rw[hne] at hc
    refine h1 ?_;cases c with
    |true=>rfl|false=>
     rcases e2 rfl with e|e
     ·rw[e] at hc;cases w<;>cases hc
     ·rw[e] at hc;cases hc
   ·rw[hne] at hc
    refine h2 ?_;cases c with
    |false=>rfl|true=>
     rw[(e1 rfl).1] at hc;rcases hc with hc|hc
     ·cases w<;>cases hc
     ·cases hc
  cases hdj:bf d (g.map (·.1))
  ·rw[hdj] at h
   simp only[cond_false] at h;split at h
   ·rename_i v hr
    cases c with
    |true=>obtain⟨y,h1,h2⟩:=zB hR hF bK gV (e1 rfl).2 hi hr;exact hs rfl y σ h1 (hk ρ _ y σ (hput hdj v y (fun _=>h2) (fun h=>bC)) rfl (fun p _=>bB.same rfl) h)
    |false=>exact hs' rfl (hk ρ _ aK σ (hput hdj v aK (fun h=>bC) (fun _=>rfl)) rfl (fun p _=>bB.same rfl) h)
   ·rename_i q v hr
    obtain⟨hq,hh⟩:=gH h;clear h;cases c with
    |true=>obtain⟨y,h1,h2⟩:=zB hR hF bK gV (e1 rfl).2 hi hr hq;exact hs rfl y σ h1 (hk ρ _ y σ (hput hdj v y (fun _=>h2) (fun h=>bC)) rfl (fun p _=>bB.same rfl) hh)
    |false=>exact hs' rfl (hk ρ _ aK σ (hput hdj v aK (fun h=>bC) (fun _=>rfl)) rfl (fun p _=>bB.same rfl) hh)
   ·rename_i α z q f hr
    obtain⟨a,ha,hh⟩:=iR.1 h;clear h;cases c with
    |true=>obtain⟨y,h1,h2⟩:=zB hR hF bK gV (e1 rfl).2 hi hr a ha;exact hs rfl y σ h1 (hk ρ _ y σ (hput hdj _ y (fun _=>h2) (fun h=>bC)) rfl (fun p _=>bB.same rfl) hh)
    |false=>exact hs' rfl (hk ρ _ aK σ (hput hdj _ aK (fun h=>bC) (fun _=>rfl)) rfl (fun p _=>bB.same rfl) hh)
   ·exact aag h
  ·rw[hdj] at h
   exact aag h
 ·exact aag h
omit hR in
theorem DN {ρ':aT}{st':aD R.T}{σ':au}(h:∀p,nJ E o p->bB true p st ρ σ st' ρ' σ'):ρ'.aj=ρ.aj:=by
 cases hd:o.dst with
 |none=>exact(h 0 ⟨by rw[hd];simp,fun d e=>by rw[hd] at e;cases e⟩).aj
 |some d=>exact(h (d+E.cn d+1) ⟨fun e=>by rw[hd] at e;exact absurd (lX e) (jK (Nat.lt_succ_of_le (gD d (E.cn d)))),fun d' e=>by rw[hd] at e;cases e;exact jK (Nat.lt_succ_of_le (Nat.le_add_left (E.cn d) d))⟩).aj
omit hR in
theorem aah {ρ':aT}{st':aD R.T}{σ':au}(h:∀p,nJ E o p->bB false p st ρ σ st' ρ' σ'):ρ'.aj=ρ.aj:=by
 cases hd:o.dst with
 |none=>exact(h 0 ⟨by rw[hd];simp,fun d e=>by rw[hd] at e;cases e⟩).aj
 |some d=>exact(h (d+E.cn d+1) ⟨fun e=>by rw[hd] at e;exact absurd (lX e) (jK (Nat.lt_succ_of_le (gD d (E.cn d)))),fun d' e=>by rw[hd] at e;cases e;exact jK (Nat.lt_succ_of_le (Nat.le_add_left (E.cn d) d))⟩).aj
omit hR in
theorem ahv {os:List Oper}{p:Nat}(h:bf p (kZ E (o::os))=false):nJ E o p/\bf p (kZ E os)=false:=by
 unfold kZ at h;split at h
 ·rename_i d hd
  have h':(Nat.beq p d||(Nat.beq p (E.cn d)||bf p (kZ E os)))=false:=h;rw[kP,kP] at h';refine⟨⟨fun e=>?_,fun d' e e2=>?_⟩,h'.2.2⟩
  ·rw[hd] at e;cases e;rw[xA] at h';exact absurd h'.1 aC
  ·rw[hd] at e;cases e;rw[e2,xA] at h';exact absurd h'.2.1 aC
 ·rename_i hd
  refine⟨⟨fun e=>?_,fun d' e=>?_⟩,h⟩
  ·rw[hd] at e;cases e
  ·rw[hd] at e;cases e
omit hR in
theorem Nz (hi:aL ρ b st fr σ)(h:mZ E st o=false):yx E fr o=false:=by
 unfold mZ at h;unfold yx;split at h
 ·rename_i c hc
  rw[hc];dsimp only;split at h
  ·rename_i f hf
   rw[hf];dsimp only;split at h
   ·rename_i g a' b' hv
    obtain⟨va,vb,h1,_,_⟩:=(dz (E:=E) hi .nil hv).lg;unfold lI;rw[h1];split at h
    ·rename_i d hd;rw[hd];exact h
    ·rename_i hd;rw[hd]
   ·cases h
  ·rename_i hne
   split
   ·rename_i f hf;exact absurd hf (hne f)
   ·rfl
 ·rename_i hne
  split
  ·rename_i c hc;exact absurd hc (hne c)
  ·rfl
theorem arG {k k':aM}{l:List aM}{c:ak R.T}{cs:List (ak R.T)}{p:aW R.T (k::k'::l)}(h:dV R (k::k'::l) (c::cs)=some p):
 ∃x q,pk R k c=some x/\dV R (k'::l) cs=some q/\p=(x,q):=by
 have h':(match pk R k c with
  |some x=>match dV R (k'::l) cs with
   |some p=>some (x,p)|none=>none
  |none=>none)=some p:=h
 cases hu:pk R k c with
 |none=>rw[hu] at h';cases h'|some u=>
  rw[hu] at h';dsimp only at h';cases hq:dV R (k'::l) cs with
  |none=>rw[hq] at h';cases h'|some q=>rw[hq] at h';cases h';exact⟨u,q,rfl,rfl,rfl⟩
theorem aai {F:Nat->List (fM R)}(hF:bg E F){f:Nat}{args:List (ak R.T)}{NA:List V}(ha:aF R ρ σ.top args NA)(hi:aL ρ b st fr σ):∀{l:List (fM R)}{τ:Ty}{x:Option (List (Den R.T τ))},(∀r∈l,r∈F f)->I7 R args (pK st args) l=some ⟨τ,x⟩->
 ∀y,x=some y->∃bQ,qW (E.vU f) σ NA=some bQ/\NA.all (fun x=>aU (er x))=true/\xY E f bQ (cK R τ) (y.map (aX R τ))
 | [],τ,x,_,h=>bC| ⟨bQ,res,G,d0,own,al⟩::l,τ,x,hl,h=>by
   have rest:I7 R args (pK st args) l=some ⟨τ,x⟩->∀y,x=some y->∃bQ,qW (E.vU f) σ NA=some bQ/\NA.all (fun x=>aU (er x))=true/\xY E f bQ (cK R τ) (y.map (aX R τ)):=fun h=>aai hF ha hi (fun r hr=>hl r (iK _ hr)) h;unfold I7 at h;split at h
   ·cases h
   ·rename_i as' fO G' d' al' l' heq
    obtain⟨e1,e2⟩:=List.cons.inj heq;subst e2;cases e1;split at h
    ·rename_i p hp
     obtain⟨hc,h⟩:=gH h;cases h;simp only[iP] at hc;obtain⟨⟨c1,c2⟩,c3⟩:=hc;intro y hy;have hb:=(hF f ⟨bQ,[.d (.slice τ)],G',d',true,_⟩ (hl _ (fE ..)) p y hy).2 rfl τ rfl y rfl;cases hn:gu bQ with
     |true=>obtain⟨b1,b2⟩:=hb.1 hn;obtain⟨vs',v1,v2⟩:=Jp hR hi ha;have FL:=qE hR bQ p (pK st args) _ hn hp v1 20 σ (by have:=kQ c2;omega);exact⟨_,by rw[b1];unfold qW;rw[if_neg aC];exact(v2 14).trans FL,FK hR c3 ha,b2⟩
     |false=>
      obtain⟨b1,b2⟩:=hb.2 hn;rw[hn,Bool.false_or] at c1;cases bQ with
      |nil=>cases c1|cons k bQ=>
      cases k<;>first| (cases c1;done)|skip
      cases bQ with
      |nil=>cases c1|cons k' bQ=>
      cases args with
      |nil=>exact absurd (show none=some p from hp) aC|cons c args=>
      obtain⟨v,vs,rfl,h1,h2⟩:=ha.dW;have hp0:dV R (.gT::k'::bQ) (Dq st c::pK st args)=some p:=(by simpa only[pK] using hp);obtain⟨u,q,hu,q1,hpq⟩:=arG hR hp0;have hc:c= .gT:=by
       have hp':(pk R .gT (Dq st c)).isSome=true:=(by rw[hu];rfl);cases c<;>first|rfl|skip
       all_goals
        exfalso;revert hp';unfold Dq x9
        repeat' split
        all_goals (intro h;cases h)
      subst hc;have q2:ag2 (bX R (.gT::k'::bQ) p)= .ay .nil []::bX R (k'::bQ) q:=(by rw[hpq];rfl);rw[h1.qB];obtain⟨vs',v1,v2⟩:=Jp hR hi h2;have FL:=qE hR (k'::bQ) q (pK st args) _ c1 q1 v1 20 σ (by have h9:=kQ c2;rw[kY] at h9;omega);rw[q2] at b2;refine⟨_,by rw[b1];unfold qW;rw[if_pos rfl];dsimp only;rw[v2 14,FL];rfl,?_,b2⟩;have:=FK hR c3 ha;rw[h1.qB] at this;exact this
    ·exact rest h
   ·rename_i heq
    obtain⟨_,e2⟩:=List.cons.inj heq;subst e2;exact rest h
theorem arH {β:Type}{F:Nat->List (fM R)}(hF:bg E F)(hi:aL ρ aH st fr σ){k:aD R.T->Option β}{x:β}(h:yt R F o st k=some x)(hown:mZ E st o=true)(hgi:∀g a b c f,fr.ev E f= .fn (.func g) a b->o.op= .call c->c.callee= .value f->E.imp g=false){all os:List Oper}{Q:Fr->au->Prop}(hw:iw all fr o=some true)(hk:∀(ρ':aT) (st':aD R.T) (y:V) (σ':au),aL ρ' (aH+1) st' (fr.put o.dst y) σ'->σ'.next=σ.next->(∀p,nJ E o p->bB true p st ρ σ st' ρ' σ')->k st'=some x->bL E all (aH+1) os (fr.put o.dst y) σ' Q):bL E all aH (o::os) fr σ Q:=by
 unfold yt at h;split at h
 ·rename_i c d ho hd
  split at h
  ·rename_i f fC
   split at h
   ·rename_i g a' b' vs hf hvs
    split at h
    ·rename_i τ xo hfo
     obtain⟨l,hl,h⟩:=iR.1 h;obtain⟨va,vb,h1,h2,h3⟩:=(dz (E:=E) hi .nil hf).lg;have hrel:=(h2.append (AQ (E:=E) hi .nil hvs)).append h3;obtain⟨bQ,has,hcl,hO⟩:=aai hR hF hrel hi (fun _ hr=>hr) hfo l hl;have hg:E.own g d=true:=(by unfold mZ at hown;rw[ho] at hown;dsimp only at hown;rw[fC] at hown;dsimp only at hown;rw[hf] at hown;dsimp only at hown;rw[hd] at hown;exact hown);have hdp:∀y:V,fr.put o.dst y=fr.set d y:=fun y=>by rw[hd];rfl
     refine bL.own hw ho fC h1 hd hg has hO hcl (fun cp hcp=>?_) ?_ (hgi g va vb c f h1 ho fC)
     ·refine hk (ρ.jU d aH) _ _ σ ?_ rfl ?_ h
      ·have e:σ.dZ aH (σ.top aH)=σ:=by
        unfold au.dZ;have:upd σ.top aH (σ.top aH)=σ.top:=by
         funext j;unfold upd;split
         ·rename_i e;rw[e]
         ·rfl
        rw[this]
       have:=hi.wk d aH (σ.top aH) (kD _) (CO _) hi.nx (fun u _ hu=>Le);rw[e] at this;rw[hdp];refine this.put d (.of ?_);unfold av;exact⟨cp,rfl,by rcases hcp with rfl|rfl;exact .inl rfl;exact .inr (.inl rfl)⟩
      ·intro p hp
       have e:σ.dZ aH (σ.top aH)=σ:=by
        unfold au.dZ;have:upd σ.top aH (σ.top aH)=σ.top:=by
         funext j;unfold upd;split
         ·rename_i e;rw[e]
         ·rfl
        rw[this]
       have:=(bB.wk (nr:=true) (p:=p) (t:=d) (s:=aH) (n:=σ.top aH) (ρ:=ρ) (st:=st) (σ:=σ) hi.nx);rw[e] at this;exact this.congr rfl
     ·refine hk (ρ.jU d aH) _ _ _ ?_ rfl ?_ h
      ·rw[hdp]
       have:=hi.wk d aH (l.map (aX R τ)).length (kD _) (CO _) hi.nx (fun u _ hu=>Le);refine this.put d (.of ?_);unfold av;exact⟨_,rfl,.inr (.inr ⟨aH,rfl,by simp[aT.jU,upd],by rw[MG,jS]⟩)⟩
      ·intro p hp
       exact(bB.wk (nr:=true) (p:=p) hi.nx).congr rfl
    ·cases h
   ·cases h
  ·cases h
 ·cases h
theorem arI {β:Type}{F:Nat->List (fM R)}(hF:bg E F)(hi:aL ρ aH st fr σ){k:aD R.T->Option β}{x:β}(h:yt R F o st k=some x)(hown:mZ E st o=true)(hgi:∀g a b c f,fr.ev E f= .fn (.func g) a b->o.op= .call c->c.callee= .value f->E.imp g=false){ms:List Nat}{fs:List dS}{all os:List Oper}{Q:Fr->au->Prop}(hw:iw all fr o=some true)(hk:∀(ρ':aT) (st':aD R.T) (y:V) (σ':au),aL ρ' (aH+1) st' (fr.put o.dst y) σ'->σ'.next=σ.next->(∀p,nJ E o p->bB true p st ρ σ st' ρ' σ')->k st'=some x->iZ E ms all (aH+1) os (fr.put o.dst y) σ' (fs++[iy E all fr o true]) Q):iZ E ms all aH (o::os) fr σ fs Q:=by
 unfold yt at h;split at h
 ·rename_i c d ho hd
  split at h
  ·rename_i f fC
   split at h
   ·rename_i g a' b' vs hf hvs
    split at h
    ·rename_i τ xo hfo
     obtain⟨l,hl,h⟩:=iR.1 h;obtain⟨va,vb,h1,h2,h3⟩:=(dz (E:=E) hi .nil hf).lg;have hrel:=(h2.append (AQ (E:=E) hi .nil hvs)).append h3;obtain⟨bQ,has,hcl,hO⟩:=aai hR hF hrel hi (fun _ hr=>hr) hfo l hl;have hg:E.own g d=true:=(by unfold mZ at hown;rw[ho] at hown;dsimp only at hown;rw[fC] at hown;dsimp only at hown;rw[hf] at hown;dsimp only at hown;rw[hd] at hown;exact hown);have hdp:∀y:V,fr.put o.dst y=fr.set d y:=fun y=>by rw[hd];rfl
     refine iZ.own hw ho fC h1 hd hg has hO hcl (fun cp hcp=>?_) ?_ (hgi g va vb c f h1 ho fC)
     ·refine hk (ρ.jU d aH) _ _ σ ?_ rfl ?_ h
      ·have e:σ.dZ aH (σ.top aH)=σ:=by
        unfold au.dZ;have:upd σ.top aH (σ.top aH)=σ.top:=by
         funext j;unfold upd;split
         ·rename_i e;rw[e]
         ·rfl
        rw[this]
       have:=hi.wk d aH (σ.top aH) (kD _) (CO _) hi.nx (fun u _ hu=>Le);rw[e] at this;rw[hdp];refine this.put d (.of ?_);unfold av;exact⟨cp,rfl,by rcases hcp with rfl|rfl;exact .inl rfl;exact .inr (.inl rfl)⟩
      ·intro p hp
       have e:σ.dZ aH (σ.top aH)=σ:=by
        unfold au.dZ;have:upd σ.top aH (σ.top aH)=σ.top:=by
         funext j;unfold upd;split
         ·rename_i e;rw[e]
         ·rfl
        rw[this]
       have:=(bB.wk (nr:=true) (p:=p) (t:=d) (s:=aH) (n:=σ.top aH) (ρ:=ρ) (st:=st) (σ:=σ) hi.nx);rw[e] at this;exact this.congr rfl
     ·refine hk (ρ.jU d aH) _ _ _ ?_ rfl ?_ h
      ·rw[hdp]
       have:=hi.wk d aH (l.map (aX R τ)).length (kD _) (CO _) hi.nx (fun u _ hu=>Le);refine this.put d (.of ?_);unfold av;exact⟨_,rfl,.inr (.inr ⟨aH,rfl,by simp[aT.jU,upd],by rw[MG,jS]⟩)⟩
      ·intro p hp
       exact(bB.wk (nr:=true) (p:=p) hi.nx).congr rfl
    ·cases h
   ·cases h
  ·cases h
 ·cases h
omit hR in
theorem ahw (himp:sw E st o=false)(hi:aL ρ b st fr σ){F:Nat->List (fM R)}{β:Type}{k:aD R.T->Option β}{x:β}(h:yt R F o st k=some x):∀g a b c f,fr.ev E f= .fn (.func g) a b->o.op= .call c->c.callee= .value f->E.imp g=false:=by
 intro g a b c f h1 h2 h3;unfold yt at h;rw[h2] at h;split at h
 ·rename_i c' d' ho' hd'
  cases ho';rw[h3] at h;dsimp only at h;split at h
  ·rename_i g' a' b' vs hf hvs
   unfold sw at himp;rw[h2] at himp;dsimp only at himp;rw[h3] at himp;dsimp only at himp;rw[hf] at himp;dsimp only at himp;obtain⟨va,vb,e,_,_⟩:=(dz (E:=E) hi .nil hf).lg;rw[h1] at e;cases e;exact himp
  ·cases h
 ·cases h
omit hR in
theorem ahx {o:Oper}{os:List Oper}{d:Nat}(h:o.dst=some d):bf d (kZ E (o::os))=true:=by unfold kZ;rw[h];show (Nat.beq d d||_)=true;rw[xA];rfl
omit hR in
theorem ahy {o:Oper}{os:List Oper}{d:Nat}(h:bf d (kZ E os)=true):bf d (kZ E (o::os))=true:=by
 unfold kZ;cases o.dst with
 |none=>exact h|some e=>show (Nat.beq d e||(Nat.beq d (E.cn e)||bf d (kZ E os)))=true;rw[h,Bool.or_true,Bool.or_true]
omit hR in
theorem arJ {o:Oper}{os:List Oper}{d:Nat}(h:o.dst=some d):bf (E.cn d) (kZ E (o::os))=true:=by unfold kZ;rw[h];show (Nat.beq (E.cn d) d||(Nat.beq (E.cn d) (E.cn d)||_))=true;rw[xA,Bool.true_or,Bool.or_true]
omit hR in
theorem bB.of {nr:Bool}{o:Nat}{st st':aD R.T}{ρ ρ':aT}{σ σ':au}(h:bB true o st ρ σ st' ρ' σ'):bB nr o st ρ σ st' ρ' σ':=⟨h.ob,h.ln,h.aj,h.nx,h.lp,fun L _=>h.dp L (.inl rfl),h.ro⟩
omit hR in
theorem Kp.nr {nr NC:Bool}{W:List Nat}{st st':aD R.T}{fr fr':Fr}{ρ ρ':aT}{σ σ':au}(hn:NC=true->nr=true)(h:Kp nr W st fr σ ρ st' fr' σ' ρ'):Kp NC W st fr σ ρ st' fr' σ' ρ':=⟨h.fr,fun o ho=>⟨(h.ob o ho).ob,(h.ob o ho).ln,(h.ob o ho).aj,(h.ob o ho).nx,(h.ob o ho).lp,fun L hL=>(h.ob o ho).dp L (hL.imp hn id),(h.ob o ho).ro⟩⟩
omit hR in
theorem aaj (h:sw E st o=true):zn E o=false:=by
 unfold sw at h;unfold zn;split at h
 ·rename_i c hc
  (try rw[hc]);(try dsimp only)
  split at h
  ·rename_i f hf
   (try rw[hf])
   cases f with
   |func g=>
    have h':E.imp g=true:=h
    (try dsimp only);rw[h'];rfl
   |tmp _=>rfl|const _=>rfl| «global» _=>rfl
  ·cases h
 ·cases h
omit hR in
theorem aak {c:Call}{f:Operand}{g:FuncId}{a vb:List V}(h:yx E fr o=false)(h1:o.op= .call c)(h2:c.callee= .value f)(h3:fr.ev E f= .fn (.func g) a vb):∀d,o.dst=some d->E.own g d=false:=by intro d hd;unfold yx at h;rw[h1] at h;dsimp only at h;rw[h2] at h;dsimp only at h;unfold lI at h;rw[h3,hd] at h;exact h
theorem DR {aj:Bool}{β:Type}{F:Nat->List (fM R)}(hF:bg E F){M:Nat->List (mg R)}(hM:Nq E M){all:List Oper}{k:aD R.T->Option β}{x:β}{Q:Fr->au->Prop}:∀(os:List Oper)(aH:Nat)(ρ:aT)(st:aD R.T)(fr:Fr)(σ:au),(∀d,bf d (kZ E os)=true->d<F0)->ρ.aj.aj=aj->aL ρ aH st fr σ->aH+os.length<=σ.next->zo E R aj F M all os st k=some x->(∀ρ' st' fr' σ',aL ρ' (aH+os.length) st' fr' σ'->σ.next<=σ'.next->Kp (os.all (zn E)) (kZ E os) st fr σ ρ st' fr' σ' ρ'->k st'=some x->Q fr' σ')->bL E all aH os fr σ Q
 | [],aH,ρ,st,fr,σ,hW0,bK,hi,hsn,h,hq=>bL.nil (hq ρ st fr σ hi (RS _) .refl h)|o::os,aH,ρ,st,fr,σ,hW0,bK,hi,hsn,h,hq=>by
  have gV:∀d,o.dst=some d->d<F0:=fun d hd=>hW0 d (ahx hd);have hW1:∀d,bf d (kZ E os)=true->d<F0:=fun d hd=>hW0 d (ahy hd);have vF:∀{σ':au},σ.next<=σ'.next->aH+1+os.length<=σ'.next:=fun h=>by rw[List.length_cons] at hsn;omega
  have hg:=ahu (o:=o) (all:=all) hi;unfold zo at h;have hW:∀p,bf p (kZ E (o::os))=false->nJ E o p/\bf p (kZ E os)=false:=fun p hp=>ahv hp;have hq':∀(jv:aT)(st1:aD R.T)(y:V)(σ1:au),(∀p,nJ E o p->bB (zn E o) p st ρ σ st1 jv σ1)->σ.next<=σ1.next->∀ρ' st' fr' σ',aL ρ' (aH+1+os.length) st' fr' σ'->σ1.next<=σ'.next->Kp (os.all (zn E)) (kZ E os) st1 (fr.put o.dst y) σ1 jv st' fr' σ' ρ'->k st'=some x->Q fr' σ':=fun jv st1 y σ1 hkp h1 ρ' st' fr' σ' hi' hn AU hk=>
   hq ρ' st' fr' σ' (by rw[List.length_cons,Nat.add_comm os.length,<-uP];exact hi') (bZ h1 hn) (((Kp.op (Q:=fun p=>nJ E o p) (fun p hp=>⟨(hW p hp).1.1,(hW p hp).1⟩) hkp).nr (NC:=(o::os).all (zn E)) (fun e=>by rw[List.all_cons,iP] at e;exact e.1)).trans ((AU.mono fun p hp=>(hW p hp).2).nr (fun e=>by rw[List.all_cons,iP] at e;exact e.2))) hk
  split at h
  ·rename_i hgm
   rw[hgm] at hg;cases hown:mZ E st o with
   |true=>
    rw[hown,cond_true] at h;cases himp:sw E st o with
    |true=>rw[himp] at h;cases h|false=>
    rw[himp,cond_false] at h;exact arH hR hF hi h hown (ahw himp hi h) hg (fun ρ' st' y σ' hi' hn hkp hk=>DR hF hM os (aH+1) ρ' st' _ σ' hW1 ((congrArg cu.aj (DN hkp)).trans bK) hi' (vF (xG hn.symm)) hk (hq' ρ' st' y σ' (fun p hp=>(hkp p hp).of) (xG hn.symm)))
   |false=>
   rw[hown,cond_false] at h;have fZ:=Nz hi hown;cases himp:sw E st o with
   |true=>rw[himp,cond_true] at h;obtain⟨c,f,g,a,vb,e1,e2,e3,e4,n,v,σ',e5,jv,st1,i1,i2,i3,i4⟩:=aac hR hM gV hi ah h;exact bL.SA hg e1 e2 e3 e4 ⟨n,v,σ',e5,DR hF hM os (aH+1) jv st1 _ _ hW1 ((congrArg cu.aj (aah i3)).trans bK) i1 (vF i2) i4 (hq' jv st1 _ _ (fun p hp=>by rw[aaj himp];exact i3 p hp) i2)⟩ (aak fZ e1 e2 e3)
   |false=>
   rw[himp,cond_false] at h;exact aae hR hF bK gV hi h (rest:=fun fr' σ'=>bL E all (aH+1) os fr' σ' Q) (fun y σ' hst hr=>hst.1 fZ all os Q hg hr) (fun ρ' st' y σ' hi' hn hkp hk=>DR hF hM os (aH+1) ρ' st' _ σ' hW1 ((congrArg cu.aj (DN hkp)).trans bK) hi' (vF (xG hn.symm)) hk (hq' ρ' st' y σ' (fun p hp=>(hkp p hp).of) (xG hn.symm)))
  ·rename_i hgm
   rw[hgm] at hg;refine bL.skip hg (DR hF hM os (aH+1) ρ _ _ σ hW1 bK ?_ (vF (RS _)) h (hq' ρ _ aK σ (fun p _=>bB.same yM) (RS _)));exact(hi.le (kD _)).gU o.dst jJ
  ·rename_i j w c g hgm
   rw[hgm] at hg;obtain⟨⟨n,hn⟩,hg2⟩:=hg;cases hown:mZ E (st.nI g) o with
   |true=>rw[hown] at h;cases h|false=>
   rw[hown,cond_false] at h;have fZ:c=true->yx E fr o=false:=fun e=>by subst e;exact Nz (Nw hi ((DL hi n j w true g hn).1 rfl).2 (Ny hi n j w g hn)).1 hown
   cases himp:sw E (st.nI g) o with
   |true=>
    rw[himp,cond_true] at h;obtain⟨e1,e2,e3⟩:=DL hi n j w c g hn;cases c with
    |true=>rw[cond_true] at h;obtain⟨l1,l2⟩:=Nw hi (e1 rfl).2 (Ny hi n j w g hn);obtain⟨c,f,g',a,vb,f1,f2,f3,f4,n',v,σ',f5,jv,st1,i1,i2,i3,i4⟩:=aac hR hM gV l1 ah h;exact bL.SA hg2 f1 f2 f3 f4 ⟨n',v,σ',f5,DR hF hM os (aH+1) jv st1 _ _ hW1 ((congrArg cu.aj (aah i3)).trans bK) i1 (vF i2) i4 (hq' jv st1 _ _ (fun p hp=>by rw[aaj himp];exact(i3 p hp).from l2) i2)⟩ (aak (fZ rfl) f1 f2 f3)
    |false=>rw[cond_false] at h;obtain⟨l1,l2⟩:=aaf hi hn;exact bL.skip hg2 (DR hF hM os (aH+1) ρ _ _ σ hW1 bK ((l1.le (kD _)).gU o.dst jJ) (vF (RS _)) h (hq' ρ _ aK σ (fun p _=>bB.same (Bq.trans l2)) (RS _)))
   |false=>
   rw[himp,cond_false] at h;exact arF hR hF bK gV hi hn h (rest:=fun fr' σ'=>bL E all (aH+1) os fr' σ' Q) (fun e y σ' hst hr=>hst.1 (fZ e) all os Q (by rw[hg2,e]) hr) (fun e hr=>bL.skip (by rw[hg2,e]) hr)
    (fun ρ' st' y σ' hi' hn hkp hk=>DR hF hM os (aH+1) ρ' st' _ σ' hW1 ((congrArg cu.aj (DN hkp)).trans bK) hi' (vF (xG hn.symm)) hk (hq' ρ' st' y σ' (fun p hp=>(hkp p hp).of) (xG hn.symm)))
  ·cases h
def Key.mv (c:cu):Key->Key
 |.obj l=>.obj (c.lc l.2)|k=>k
def dS.mv (c:cu)(f:dS):dS:=⟨f.tT,f.oZ,f.t.map (Key.mv c),f.w.map (Key.mv c)⟩
omit hR in
theorem arK (c:cu)(a b:Key):(a.mv c).eq (b.mv c)=a.nm.eq b.nm:=by
 cases a<;>cases b<;>try rfl
 rename_i l m;show vX (c.lc l.2) (c.lc m.2)=vX (1,l.2) (1,m.2);by_cases e:l.2=m.2
 ·rw[e,YQ];unfold vX;simp
 ·rw[Zz c e,YQ];simp[e]
omit hR in
theorem arL (c:cu)(f g:dS):clash (f.mv c) (g.mv c)=clash f.nm g.nm:=by
 have hr:∀k:Key,(k.mv c).eq .rest=k.nm.eq .rest:=fun k=>by cases k<;>rfl
 have hs:∀k:Key,(k.mv c).state=k.nm.state:=fun k=>by cases k<;>rfl
 unfold clash dS.mv dS.nm;dsimp only;simp only[List.any_map,Function.comp_def,arK,hr,hs]
omit hR in
theorem getD_map (h:dS->dS)(ha:h gP=gP):∀(fs:List dS)(i:Nat),(fs.map h).getD i gP=h (fs.getD i gP)
 | [],i=>by simp[ha]|f::fs,0=>rfl|f::fs,i+1=>by simpa using getD_map h ha fs i
omit hR in
theorem arM (c:cu)(ms:List Nat)(fs:List dS):xO ms (fs.map (dS.mv c))=xO ms (fs.map dS.nm):=by unfold xO RJ;simp only[jS,getD_map (dS.mv c) rfl,getD_map dS.nm rfl,arL]
omit hR in
theorem Js (c:cu)(l:List Key):(nV l).mv c=nV (l.map (Key.mv c)):=rfl
omit hR in
theorem DT (c:cu)(l:List Key):(mX l).mv c=mX (l.map (Key.mv c)):=rfl
omit hR in
theorem mv_nil (c:cu):(nV []).mv c=nV []:=rfl
omit hR in
theorem ahz (c:cu):gP.mv c=gP:=rfl
omit hR in
theorem ahA {top:Nat->Nat}{x:ak R.T}{v:V}(hg:x≠ .gone)(hv:(∀o t,x≠ .aJ o t)/\∀o t a b,x≠ .sub o t a b)(h:av R ρ top x v):jf v=(TB x).map (Key.mv ρ.aj):=by
 cases x with
 |gone=>exact absurd rfl hg|opt j w y=>exact h.afO.elim|agg cs=>obtain⟨l,rfl,_⟩:=h.lT;rfl
 |bq cs=>obtain⟨l,rfl,_⟩:=h.Jd;rfl
 |ay c t l=>obtain⟨l,rfl,_⟩:=h.lU;rfl
 |ref p off=>obtain⟨s,_,rfl⟩:=h.sF;rfl
 |dJ p=>obtain⟨s,_,rfl⟩:=h.Na;rfl
 |aI l p=>obtain⟨s,rfl,_⟩:=h.uj;rfl
 |kl l=>obtain⟨c,s,rfl,_⟩:=h.DC;rfl
 |fn f a b=>obtain⟨a',b',rfl,_⟩:=h.lg;rfl
 |aJ o t=>exact absurd rfl (hv.1 o t)|sub o t a b=>exact absurd rfl (hv.2 o t a b)|l9 p t i off=>obtain⟨s,_,_,rfl⟩:=h.FC;rfl
 |sv p off k n lo hi=>obtain⟨s,_,_,rfl⟩:=h.TN;rfl
 |sel p off k n i m=>obtain⟨s,_,_,_,rfl⟩:=h.Zw;rfl
 |zh k n y i=>obtain⟨_,_,rfl⟩:=h.Zx;rfl
 |_=>unfold av at h;subst h;rfl
omit hR in
theorem ahB {x:ak R.T}(h:M6 x=true):x≠ .gone/\(∀o t,x≠ .aJ o t)/\∀o t a b,x≠ .sub o t a b:=⟨(by rintro rfl;cases h),(by rintro o t rfl;cases h),(by rintro o t a b rfl;cases h)⟩
omit hR in
theorem zC (hi:aL ρ b st fr σ){x:Operand}{v:ak R.T}(h:dK [] st x=some v)(hg:M6 v=true):(Dw st x).map (Key.mv ρ.aj)=jf (fr.ev E x):=by unfold Dw;rw[h];exact(ahA (ahB hg).1 (ahB hg).2 (dz hi .nil h)).symm
omit hR in
theorem ahC (hi:aL ρ b st fr σ):∀{l:List Operand}{vs:List (ak R.T)},lN [] st l=some vs->vs.all M6=true->(l.flatMap (fun x=>Dw st x)).map (Key.mv ρ.aj)=l.flatMap fun x=>jf (fr.ev E x)
 | [],vs,h,_=>rfl|x::l,vs,h,hg=>by
  unfold lN at h;cases h1:dK [] st x with
  |none=>simp only[h1] at h;cases h|some a=>
   cases h2:lN [] st l with
   |none=>simp only[h1,h2] at h;cases h|some bQ=>simp only[h1,h2] at h;cases h;rw[List.all_cons,iP] at hg;rw[ny,ny,oV,zC (E:=E) hi h1 hg.1,ahC hi h2 hg.2]
omit hR in
theorem arN {aj:Bool}{β:Type}{F:Nat->List (fM R)}{k:aD R.T->Option β}{x:β}(h:runM E R aj F o st k=some x)(hp:∀c a b,o.op≠ .pick c a b)(hl:∀t m y ok,o.op≠ .lookup t m y ok)(hst:∀t a y,o.op≠ .store t a y):∃r,AB E R aj F [] o.dst o.op st=some r:=by
 unfold runM at h;split at h
 ·rename_i c a b hop;exact absurd hop (hp _ _ _)
 ·rename_i t a y hop;exact absurd hop (hst _ _ _)
 ·rename_i t m y ok hop;exact absurd hop (hl _ _ _ _)
 ·cases hr:AB E R aj F [] o.dst o.op st with
  |some r=>exact⟨r,rfl⟩|none=>rw[hr] at h;cases h
omit hR in
theorem Cg {aj:Bool}{F:Nat->List (fM R)}{g:List (Nat×Bool)}{d:Option Nat}{op:Op}{r:eZ R}(h:AB E R aj F g d op st=some r):wE E R g d op st=some r\/wF E R aj F g d op st=some r:=by
 unfold AB at h;split at h
 ·rename_i r' hx;cases h;exact .inl hx
 ·exact .inr h
omit hR in
theorem ahD {top:Nat->Nat}:∀{x:List (ak R.T)}{v:List V},TG x=true->aF R ρ top x v->v.all (fun a=>aU (er a))=false
 | [],_,h,_=>bC|x::l,v,h,hr=>by
  obtain⟨y,ys,rfl,h1,h2⟩:=hr.dW;rw[List.all_cons];by_cases e:∃o off k n lo hi,x= .sv o off k n lo hi
  ·obtain⟨o,off,k,n,lo,hi,rfl⟩:=e
   obtain⟨s,_,_,rfl⟩:=h1.TN;simp[er,aU]
  ·by_cases e2:∃o off,x= .ref o off
   ·obtain⟨o,off,rfl⟩:=e2
    obtain⟨s,_,rfl⟩:=h1.sF;simp[er,aU]
   have h':TG l=true:=by
    cases x<;>first|exact h|exact absurd ⟨_,_,_,_,_,_,rfl⟩ e|exact absurd ⟨_,_,rfl⟩ e2
   rw[ahD h' h2,Bool.and_false]
omit hR in
theorem Uo (hi:aL ρ b st fr σ)(gV:∀d,o.dst=some d->d<F0):(TF o).map (Key.mv ρ.aj)=vY fr o:=by
 unfold TF vY;cases hd:o.dst with
 |none=>rfl|some d=>dsimp only;rw[hi.at (gV d hd)];rfl
theorem arO {aj:Bool}{β:Type}{F:Nat->List (fM R)}(bK:ρ.aj.aj=aj)(gV:∀d,o.dst=some d->d<F0)(hi:aL ρ b st fr σ){k:aD R.T->Option β}{x:β}(h:runM E R aj F o st k=some x)(hd:wH E aj st o=true)(hna:∀c,o.op= .call c->c.callee= .builtin .append->aj=false)(hnl:∀c,o.op= .call c->c.callee≠ .builtin .len):(Dx E aj st o).mv ρ.aj=jq E fr o:=by
 unfold Dx jq;have hop:=arN h;cases ho:o.op<;>rw[ho] at hop<;>dsimp only<;>(try exact mv_nil _)<;>(try exact ahz _);case move y=>
  unfold wH at hd;rw[iP] at hd;have hd:=hd.2;rw[ho] at hd;dsimp only at hd;have hz:Ak E o.dst=false:=by simpa using hd
  rw[hz];exact mv_nil _
 case buildSlice t len ps=>
  cases hz:EL E o.dst
  ·exact mv_nil _
  ·exact ahz _
 case load t a=>
  obtain⟨r,hr⟩:=hop aC aC aC;rcases Cg hr with hr|hr
  ·unfold wE at hr;cases hr
  unfold wF at hr;dsimp only at hr;split at hr
  ·rename_i hv;rw[Js,zC (E:=E) hi hv rfl]
  ·rename_i hv;rw[Js,zC (E:=E) hi hv rfl]
  ·rename_i hv;rw[Js,zC (E:=E) hi hv rfl]
  ·cases hr
 case store t a y=>
  have h':=h;unfold runM at h';rw[ho] at h';dsimp only at h';split at h'
  ·rename_i hst
   unfold Zq at hst;split at hst
   ·rename_i hv _;rw[DT,zC (E:=E) hi hv rfl]
   ·cases hst
  ·split at h'
   ·rename_i hr
    rcases Cg hr with hr|hr
    ·unfold wE at hr;cases hr
    unfold wF at hr;dsimp only at hr;split at hr
    ·rename_i hv _;rw[DT,zC (E:=E) hi hv rfl]
    ·cases hr
   ·cases h'
 case convert a b' y=>
  obtain⟨r,hr⟩:=hop aC aC aC;rcases Cg hr with hr|hr
  ·unfold wE at hr;cases hr
  unfold wF at hr;dsimp only at hr;split at hr
  ·rename_i v hv
   rw[Js,zC (E:=E) hi hv (by unfold Tg at hr;split at hr<;>first|rfl|cases hr)]
  ·cases hr
 case slice t y lo hi' mx=>
  obtain⟨r,hr⟩:=hop aC aC aC;cases mx with
  |some m=>
   rcases Cg hr with hr|hr
   ·unfold wE at hr;cases hr
   ·unfold wF at hr;cases hr
  |none=>
   rcases Cg hr with hr|hr
   ·unfold wE at hr;cases hr
   unfold wF at hr;dsimp only at hr;split at hr
   ·rename_i v hv
    have hw:IV st v=none:=(by unfold wH at hd;rw[iP] at hd;have hd:=hd.2;rw[ho] at hd;dsimp only at hd;rw[hv] at hd;simpa using hd);have key:∀lo hi,Dv E R t v lo hi st=some r->M6 v=true:=by
     intro lo hi hs;unfold Dv Tj at hs;rw[hw] at hs;dsimp only at hs;unfold Ti at hs;split at hs
     ·split at hs<;>first|rfl|cases hs
     ·cases hs
    rw[Js,zC (E:=E) hi hv (by
     split at hr
     ·exact key _ _ hr
     ·split at hr
      ·exact key _ _ hr
      ·cases hr
     ·split at hr
      ·exact key _ _ hr
      ·cases hr
     ·split at hr
      ·exact key _ _ hr
      ·cases hr)]
   ·cases hr
 case lookup t m y ok=>
  have h':=h;unfold runM at h';rw[ho] at h';dsimp only at h';split at h'
  ·rename_i hsm
   unfold Zp at hsm;cases hsm
  ·split at h'
   ·rename_i hr
    rcases Cg hr with hr|hr
    ·unfold wE at hr;cases hr
    unfold wF at hr;dsimp only at hr;split at hr
    ·rename_i hv _
     rw[Js,zC (E:=E) hi hv (by unfold Tk at hr;cases hr)]
    ·cases hr
   ·cases h'
 case mapUpdate t m k' v=>
  obtain⟨r,hr⟩:=hop aC aC aC;rcases Cg hr with hr|hr
  ·unfold wE at hr;cases hr
  unfold wF at hr;dsimp only at hr;split at hr
  ·rename_i hv _ _
   rw[DT,zC (E:=E) hi hv (by unfold IW at hr;cases hr)]
  ·cases hr
 case insert t m k' v=>
  obtain⟨r,hr⟩:=hop aC aC aC;rcases Cg hr with hr|hr
  ·unfold wE at hr;cases hr
  unfold wF at hr;dsimp only at hr;split at hr
  ·rename_i hv _ _
   rw[DT,zC (E:=E) hi hv (by unfold IW at hr;cases hr)]
  ·cases hr
 case alloc t=>rw[DT];exact congrArg mX (Uo hi gV)
 case box t y=>rw[DT];exact congrArg mX (Uo hi gV)
 case makeMap t y=>rw[DT];exact congrArg mX (Uo hi gV)
 case makeSlice t y z=>rw[DT];exact congrArg mX (congrArg (Key.top:: ·) (Uo hi gV))
 case call c=>
  obtain⟨r,hr⟩:=hop aC aC aC;unfold wH at hd;rw[iP,rU] at hd;obtain⟨hown,hd⟩:=hd;rw[ho] at hd;dsimp only at hd;cases hc:c.callee with
  |invoke y m=>rfl|builtin bi=>
   rw[hc] at hd;dsimp only at hd;rw[qP] at hd;have hl:bi≠ .len:=fun e=>hnl c ho (by rw[hc,e]);rcases hd with hd|hd
   ·cases bi<;>dsimp only at hd⊢ <;>(first|exact absurd rfl hl| (cases hd;done)|skip)
    rw[iP] at hd;rw[hna c ho hc] at hd;cases hd.1
   split at hd
   ·rename_i vs hvs
    have:=ahC (E:=E) hi hvs hd;cases bi<;>dsimp only<;>(try exact absurd rfl hl)<;>(try rw[<-this])<;>(try rfl);rw[hi.aj,bK,hna c ho hc];rfl
   ·cases hd
  |value f=>
   rcases Cg hr with hr|hr
   ·unfold wE at hr;cases hr
   unfold wF at hr;dsimp only at hr;rw[hc] at hd hr;dsimp only at hd hr;split at hd
   ·rename_i f' a' b' vs hf hvs
    simp only[hf,hvs] at hr;cases himp:E.imp f' with
    |true=>rw[himp] at hr;cases hr|false=>
     obtain⟨va,vb,h1,h2,h3⟩:=(dz (E:=E) hi .nil hf).lg;dsimp only;rw[hf,h1];dsimp only;have fZ:lI E fr o f=false:=(by have:=Nz hi hown;unfold yx at this;rw[ho] at this;dsimp only at this;rw[hc] at this;exact this);simp only[himp,fZ,dO,if_false];rw[hvs];dsimp only;have hrel:=(h2.append (AQ (E:=E) hi .nil hvs)).append h3;cases hcl:wC (a'++vs++b') with
     |true=>rw[FK hR hcl hrel];rfl|false=>rw[hcl,Bool.false_or] at hd;rw[ahD hd hrel];rfl
   ·cases hd
structure AV (f g:dS):Prop where
 tA:f.tT=true->g.tT=true
 wA:f.oZ=true->g.oZ=true
 t:∀k∈f.t,k∈g.t
 w:∀k∈f.w,k∈g.w
omit hR in
theorem AV.of_eq {f g:dS}(h:g=f):AV f g:=by subst h;exact⟨id,id,fun _ h=>h,fun _ h=>h⟩
omit hR in
theorem ahE {f f' g g':dS}(hf:AV f f')(hg:AV g g')(h:clash f g=true):clash f' g'=true:=by
 have Uq:∀{p:Key->Bool}{a b:List Key},(∀k∈a,k∈b)->a.any p=true->b.any p=true:=fun hab h=>by rw[List.any_eq_true] at h⊢;obtain⟨k,h1,h2⟩:=h;exact⟨k,hab k h1,h2⟩
 unfold clash at h⊢;rw[qP] at h⊢;rcases h with h|h
 ·left
  simp only[iP,qP] at h⊢;refine⟨hf.wA h.1,?_⟩;rcases h.2 with ((h|h)|h)|h
  ·exact .inl (.inl (.inl (hg.tA h)))
  ·exact .inl (.inl (.inr (hg.wA h)))
  ·exact .inl (.inr (Uq hg.t h))
  ·exact .inr (Uq hg.w h)
 ·right
  rw[List.any_eq_true] at h⊢;obtain⟨k,h1,h2⟩:=h;refine⟨k,hf.w k h1,?_⟩;simp only[iP,qP] at h2⊢;rcases h2 with ((h|h)|h)|h
  ·exact .inl (.inl (.inl h))
  ·exact .inl (.inl (.inr (Uq hg.t h)))
  ·exact .inl (.inr (Uq hg.w h))
  ·exact .inr ⟨h.1.imp hg.tA hg.wA,h.2⟩
def DU (a b:List dS):Prop:=a.length=b.length/\∀i,AV (a.getD i gP) (b.getD i gP)
omit hR in
theorem DU.nil:DU [] []:=⟨rfl,fun _=>.of_eq rfl⟩
omit hR in
theorem DU.snoc {a b:List dS}{f g:dS}(h:DU a b)(hf:AV f g):DU (a++[f]) (b++[g]):=by
 refine⟨by rw[bE,bE,h.1];rfl,fun i=>?_⟩;simp only[yP];by_cases hi:i<a.length
 ·have hi':i<b.length:=by rw[<-h.1];exact hi
  rw[GZ hi,GZ hi'];have:=h.2 i;simpa only[yP] using this
 ·have hi':¬i<b.length:=by rw[<-h.1];exact hi
  rw[List.getElem?_append_right (Nat.le_of_not_lt hi),List.getElem?_append_right (Nat.le_of_not_lt hi'),h.1];cases i-b.length with
  |zero=>exact hf|succ n=>exact .of_eq rfl
omit hR in
theorem arP {ms:List Nat}{a b:List dS}(h:DU a b)(hp:xO ms b=true):xO ms a=true:=by
 unfold xO at hp⊢;rw[h.1];rw[kM] at hp⊢;intro i hi;have h1:=hp i hi;rw[kM] at h1⊢;intro j hj;have h2:=h1 j hj;rw[qP] at h2⊢;refine h2.imp id fun h2=>?_;unfold RJ at h2⊢;rw[iP,rU,rU] at h2⊢;refine⟨?_,?_⟩
 ·cases hc:clash (a.getD i gP) (a.getD j gP)
  ·rfl
  ·rw[ahE (h.2 i) (h.2 j) hc] at h2;exact absurd h2.1 aC
 ·cases hc:clash (a.getD j gP) (a.getD i gP)
  ·rfl
  ·rw[ahE (h.2 j) (h.2 i) hc] at h2;exact absurd h2.2 aC
omit hR in
theorem arQ {top:Nat->Nat}{x:ak R.T}{v:V}(hg:Ja x=true)(h:av R ρ top x v):∀k∈jf v,k∈(TD x).map (Key.mv ρ.aj):=by
 have other:(x≠ .gone)->((∀o t,x≠ .aJ o t)/\∀o t a b,x≠ .sub o t a b)->TD x=TB x->∀k∈jf v,k∈(TD x).map (Key.mv ρ.aj):=fun h1 h2 h3 k hk=>by rw[h3,<-ahA h1 h2 h];exact hk
 cases x with
 |aJ o t=>
  unfold av at h;rcases h with ⟨s,_,rfl⟩| ⟨_,rfl|rfl⟩
  ·intro k hk;exact hk
  ·intro k hk;cases hk
  ·intro k hk;cases hk
 |sub o t a b=>
  intro k hk;obtain⟨_,_,_,⟨s,cp,_,_,rfl⟩| ⟨_,c,rfl⟩⟩:=h.BU
  ·exact hk
  ·cases hk
 |gone=>cases hg|opt j w y=>cases hg|_=>exact other aC ⟨aC,aC⟩ rfl
omit hR in
theorem aal (hi:aL ρ b st fr σ):∀{l:List Operand}{vs:List (ak R.T)},lN [] st l=some vs->vs.all Ja=true->∀k∈(l.flatMap fun x=>jf (fr.ev E x)),k∈(l.flatMap (fun x=>M5 st x)).map (Key.mv ρ.aj)
 | [],vs,h,_=>fun k hk=>hk
 |x::l,vs,h,hg=>by
  unfold lN at h;cases h1:dK [] st x with
  |none=>simp only[h1] at h;cases h|some a=>
   cases h2:lN [] st l with
   |none=>simp only[h1,h2] at h;cases h|some bQ=>
    simp only[h1,h2] at h;cases h;rw[List.all_cons,iP] at hg;intro k hk;rw[ny] at hk⊢;rw[oV];rcases oW.1 hk with hk|hk
    ·refine uR _ ?_
     unfold M5;rw[h1];exact arQ hg.1 (dz hi .nil h1) k hk
    ·exact qQ _ (aal hi h2 hg.2 k hk)
omit hR in
theorem aam (hi:aL ρ b st fr σ)(hF1:∀d,o.dst=some d->E.cn d<F0):(Fy E o).map (Key.mv ρ.aj)=yU E fr o:=by
 unfold Fy yU;cases hd:o.dst with
 |none=>rfl|some d=>dsimp only;rw[hi.at (hF1 d hd)];rfl
theorem arR {aj:Bool}{β:Type}{F:Nat->List (fM R)}(bK:ρ.aj.aj=aj)(gV:∀d,o.dst=some d->d<F0)(hF1:∀d,o.dst=some d->E.cn d<F0)(hi:aL ρ b st fr σ){k:aD R.T->Option β}{x:β}(h:runM E R aj F o st k=some x)(hd:wH E aj st o=true):AV (jq E fr o) ((Dx E aj st o).mv ρ.aj):=by
 by_cases hnl:∃c,o.op= .call c/\c.callee= .builtin .len
 ·obtain⟨c,ho,hc⟩:=hnl
  unfold wH at hd;rw[ho,iP] at hd;dsimp only at hd;rw[hc] at hd;dsimp only at hd;have hd2:=hd.2;rw[qP] at hd2;have hv:∃vs,lN [] st c.args.toList=some vs/\vs.all Ja=true:=by
   cases hvs:lN [] st c.args.toList with
   |none=>rw[hvs] at hd2;simp at hd2|some vs=>
    rw[hvs] at hd2;dsimp only at hd2;refine⟨vs,rfl,?_⟩;rcases hd2 with h2|h2
    ·exact h2
    ·rw[kM] at h2⊢
     intro y hy;have:=h2 y hy;cases y<;>first|rfl|exact this
  obtain⟨vs,hvs,hall⟩:=hv;have key:=aal (E:=E) hi hvs hall;unfold jq Dx;rw[ho];dsimp only;rw[hc];dsimp only;exact⟨id,id,key,fun k hk=>hk⟩
 have arS:∀c,o.op= .call c->c.callee≠ .builtin .len:=fun c h1 h2=>hnl ⟨c,h1,h2⟩;by_cases hna:∀c,o.op= .call c->c.callee= .builtin .append->aj=false
 ·exact .of_eq (arO hR bK gV hi h hd hna arS)
 ·have:∃c,o.op= .call c/\c.callee= .builtin .append/\aj=true:=by
   refine Classical.byContradiction fun hn=>hna fun c h1 h2=>?_;cases hm:aj
   ·rfl
   ·exact absurd ⟨c,h1,h2,hm⟩ hn
  obtain⟨c,ho,hc,rfl⟩:=this;unfold wH at hd;rw[ho,iP] at hd;dsimp only at hd;rw[hc] at hd;dsimp only at hd;have hd2:=hd.2;rw[Bool.true_and,qP] at hd2;have hv:∃vs,lN [] st c.args.toList=some vs/\vs.all Ja=true:=by
   cases hvs:lN [] st c.args.toList with
   |none=>rw[hvs] at hd2;simp at hd2|some vs=>
    rw[hvs] at hd2;dsimp only at hd2;refine⟨vs,rfl,?_⟩;rcases hd2 with h2|h2
    ·exact h2
    ·rw[kM] at h2⊢
     intro y hy;have:=h2 y hy;cases y<;>first|rfl|exact this
  obtain⟨vs,hvs,hall⟩:=hv;have key:=aal (E:=E) hi hvs hall;unfold jq Dx;rw[ho];dsimp only;rw[hc];dsimp only;rw[hi.aj,bK];refine⟨id,id,key,fun k hk=>?_⟩;show k∈List.map (Key.mv ρ.aj) (.top::(Fy E o++_));rw[fG,oV,aam hi hF1];rcases iC.1 hk with rfl|hk
  ·exact fE ..
  ·refine iK _ ?_
   rcases oW.1 hk with hk|hk
   ·exact uR _ hk
   ·exact qQ _ (key k hk)
omit hR in
theorem ND (c:cu)(all:List Oper)(o:Oper):(xM all o).map (Key.mv c)=xM all o:=by
 have key:∀l:List Key,(∀k∈l,∃t,k= .slot t)->l.map (Key.mv c)=l:=by
  intro l;induction l with
  |nil=>intro _;rfl|cons k l ih=>intro h;obtain⟨t,e⟩:=h k (fE ..);rw[fG,ih fun k hk=>h k (iK _ hk),e];rfl
 refine key _ fun k hk=>?_;unfold xM at hk;rw[oW] at hk;rcases hk with hk|hk
 ·rw[List.mem_filterMap] at hk
  obtain⟨a,_,ha⟩:=hk;split at ha
  ·cases ha;exact⟨_,rfl⟩
  ·cases ha
 ·split at hk
  ·split at hk
   ·exact⟨_,iX.1 hk⟩
   ·cases hk
  ·cases hk
omit hR in
theorem NG (c:cu)(o:Oper):(oG o).map (Key.mv c)=oG o:=by unfold oG;cases o.dst<;>rfl
omit hR in
theorem Ur {c:cu}(f:dS)(a b:List Key)(ha:a.map (Key.mv c)=a)(hb:b.map (Key.mv c)=b):dS.mv c ⟨f.tT,f.oZ,a++f.t,b++f.w⟩=⟨(f.mv c).tT,(f.mv c).oZ,a++(f.mv c).t,b++(f.mv c).w⟩:=by unfold dS.mv;dsimp only;rw[oV,oV,ha,hb]
omit hR in
theorem arT {c:cu}{f g:dS}(a b:List Key)(ha:a.map (Key.mv c)=a)(hb:b.map (Key.mv c)=b)(h:AV f (g.mv c)):AV ⟨f.tT,f.oZ,a++f.t,b++f.w⟩ (dS.mv c ⟨g.tT,g.oZ,a++g.t,b++g.w⟩):=by rw[Ur g a b ha hb];exact⟨h.tA,h.wA,fun k hk=>(oW.1 hk).elim (fun h=>uR _ h) fun hk=>qQ _ (h.t k hk),fun k hk=>(oW.1 hk).elim (fun h=>uR _ h) fun hk=>qQ _ (h.w k hk)⟩
theorem arU {aj:Bool}{β:Type}{F:Nat->List (fM R)}(bK:ρ.aj.aj=aj)(gV:∀d,o.dst=some d->d<F0)(hF1:∀d,o.dst=some d->E.cn d<F0)(hi:aL ρ b st fr σ){k:aD R.T->Option β}{x:β}{all:List Oper}(h:runM E R aj F o st k=some x)(hd:wH E aj st o=true):AV (iy E all fr o true) ((uh E aj all st o true).mv ρ.aj):=by have key:=arR hR bK gV hF1 hi h hd;unfold uh iy;rw[if_pos rfl,if_pos rfl];exact arT _ _ (ND _ _ _) (NG _ _) key
omit hR in
theorem ahF {aj:Bool}{all:List Oper}{c:cu}:(uh E aj all st o false).mv c=iy E all fr o false:=by unfold uh iy dS.mv;rw[if_neg aC,if_neg aC];dsimp only;rw[ND,NG]
omit hR in
theorem arV {aj:Bool}{all:List Oper}{c:Call}{f:Operand}{g:FuncId}{a vb:List V}(hi:aL ρ b st fr σ)(himp:sw E st o=true)(fZ:yx E fr o=false)(h1:o.op= .call c)(h2:c.callee= .value f)(h3:fr.ev E f= .fn (.func g) a vb)(h4:E.imp g=true):(uh E aj all st o true).mv ρ.aj=iy E all fr o true:=by
 have key:(Dx E aj st o).mv ρ.aj=jq E fr o:=by
  unfold sw at himp;rw[h1] at himp;dsimp only at himp;rw[h2] at himp;dsimp only at himp;unfold yx at fZ;rw[h1] at fZ;dsimp only at fZ;rw[h2] at fZ;dsimp only at fZ;unfold Dx jq;rw[h1];dsimp only;rw[h2];dsimp only;rw[fZ,h3];split at himp
  ·rename_i g' a' b' hf
   (try rw[hf])
   (try dsimp only)
   rw[if_pos himp,if_neg aC]
   (try dsimp only)
   rw[if_pos h4];rfl
  ·cases himp
 unfold uh iy;rw[if_pos rfl,if_pos rfl,<-key];exact Ur _ _ _ (ND _ _ _) (NG _ _)
omit hR in
theorem arW {β:Type}{F:Nat->List (fM R)}{k:aD R.T->Option β}{x:β}{all:List Oper}(hi:aL ρ b st fr σ)(h:yt R F o st k=some x)(hown:mZ E st o=true)(hF1:∀d,o.dst=some d->E.cn d<F0):(AO E all o).mv ρ.aj=iy E all fr o true:=by
 have key:jq E fr o=mX (.top::yU E fr o):=by
  unfold yt at h;split at h
  ·rename_i c d ho hd
   split at h
   ·rename_i f fC
    split at h
    ·rename_i g a' b' vs hf hvs
     obtain⟨va,vb,h1,_,_⟩:=(dz (E:=E) hi .nil hf).lg;have hg:E.own g d=true:=(by unfold mZ at hown;rw[ho] at hown;dsimp only at hown;rw[fC] at hown;dsimp only at hown;rw[hf] at hown;dsimp only at hown;rw[hd] at hown;exact hown);have fZ:lI E fr o f=true:=(by unfold lI;rw[h1,hd];exact hg);unfold jq;rw[ho];dsimp only;rw[fC];dsimp only;rw[if_pos fZ]
    ·cases h
   ·cases h
  ·cases h
 unfold AO iy;rw[if_pos rfl,key];rw[<-aam hi hF1];exact Ur ⟨false,false,[],.top::Fy E o⟩ _ _ (ND _ _ _) (NG _ _)
omit hR in
theorem arX {all:List Oper}{c:Call}{f:Operand}{g:FuncId}{a vb:List V}{d:Nat}(hi:aL ρ b st fr σ)(h1:o.op= .call c)(h2:c.callee= .value f)(h3:fr.ev E f= .fn (.func g) a vb)(h4:o.dst=some d)(h5:E.own g d=true)(hF1:∀d,o.dst=some d->E.cn d<F0):(AO E all o).mv ρ.aj=iy E all fr o true:=by
 have key:jq E fr o=mX (.top::yU E fr o):=by
  have fZ:lI E fr o f=true:=by unfold lI;rw[h3,h4];exact h5
  unfold jq;rw[h1];dsimp only;rw[h2];dsimp only;rw[if_pos fZ]
 unfold AO iy;rw[if_pos rfl,key];rw[<-aam hi hF1];exact Ur ⟨false,false,[],.top::Fy E o⟩ _ _ (ND _ _ _) (NG _ _)
theorem FP {aj:Bool}{β:Type}{F:Nat->List (fM R)}(hF:bg E F){M:Nat->List (mg R)}(hM:Nq E M){ms:List Nat}{all:List Oper}{k:aD R.T->Option β}{x:β}{Q:Fr->au->Prop}:∀(os:List Oper)(aH:Nat)(ρ:aT)(st:aD R.T)(fr:Fr)(σ:au)(fs gs:List dS),DU gs (fs.map (dS.mv ρ.aj))->(∀d,bf d (kZ E os)=true->d<F0)->ρ.aj.aj=aj->aL ρ aH st fr σ->aH+os.length<=σ.next->oK E R aj F M ms all os st fs k=some x->(∀ρ' st' fr' σ',aL ρ' (aH+os.length) st' fr' σ'->σ.next<=σ'.next->Kp (os.all (zn E)) (kZ E os) st fr σ ρ st' fr' σ' ρ'->k st'=some x->Q fr' σ')->iZ E ms all aH os fr σ gs Q
 | [],aH,ρ,st,fr,σ,fs,gs,hgs,hW0,bK,hi,hsn,h,hq=>by unfold oK at h;obtain⟨h1,h⟩:=gH h;exact iZ.nil (arP hgs (by rw[arM];exact h1)) (hq ρ st fr σ hi (RS _) .refl h)
 |o::os,aH,ρ,st,fr,σ,fs,gs,hgs,hW0,bK,hi,hsn,h,hq=>by
  have gV:∀d,o.dst=some d->d<F0:=fun d hd=>hW0 d (ahx hd);have hF1:∀d,o.dst=some d->E.cn d<F0:=fun d hd=>hW0 _ (arJ hd);have hW1:∀d,bf d (kZ E os)=true->d<F0:=fun d hd=>hW0 d (ahy hd);have vF:∀{σ':au},σ.next<=σ'.next->aH+1+os.length<=σ'.next:=fun h=>by rw[List.length_cons] at hsn;omega
  have hg:=ahu (o:=o) (all:=all) hi;unfold oK at h;have hW:∀p,bf p (kZ E (o::os))=false->nJ E o p/\bf p (kZ E os)=false:=fun p hp=>ahv hp;have hq':∀(jv:aT)(st1:aD R.T)(y:V)(σ1:au),(∀p,nJ E o p->bB (zn E o) p st ρ σ st1 jv σ1)->σ.next<=σ1.next->∀ρ' st' fr' σ',aL ρ' (aH+1+os.length) st' fr' σ'->σ1.next<=σ'.next->Kp (os.all (zn E)) (kZ E os) st1 (fr.put o.dst y) σ1 jv st' fr' σ' ρ'->k st'=some x->Q fr' σ':=fun jv st1 y σ1 hkp h1 ρ' st' fr' σ' hi' hn AU hk=>
   hq ρ' st' fr' σ' (by rw[List.length_cons,Nat.add_comm os.length,<-uP];exact hi') (bZ h1 hn) (((Kp.op (Q:=fun p=>nJ E o p) (fun p hp=>⟨(hW p hp).1.1,(hW p hp).1⟩) hkp).nr (NC:=(o::os).all (zn E)) (fun e=>by rw[List.all_cons,iP] at e;exact e.1)).trans ((AU.mono fun p hp=>(hW p hp).2).nr (fun e=>by rw[List.all_cons,iP] at e;exact e.2))) hk
  have run:∀(st1:aD R.T),st1.ob=st.ob->aL ρ aH st1 fr σ->iw all fr o=some true->(bif sw E st1 o then (bif mZ E st1 o then M4 E R M o st1 (fun st'=>oK E R aj F M ms all os st' (fs++[AO E all o]) k) else Fx E R M o st1 (fun st'=>oK E R aj F M ms all os st' (fs++[uh E aj all st1 o true]) k)) else bif mZ E st1 o then yt R F o st1 (fun st'=>oK E R aj F M ms all os st' (fs++[AO E all o]) k) else bif !(wH E aj st1 o) then none else runM E R aj F o st1 (fun st'=>oK E R aj F M ms all os st' (fs++[uh E aj all st1 o true]) k))=some x->iZ E ms all aH (o::os) fr σ gs Q:=by
   intro st1 Dh hi hg h;have hkq:∀(st':aD R.T)(ρ':aT)(σ':au),(∀p,nJ E o p->bB true p st1 ρ σ st' ρ' σ')->∀p,nJ E o p->bB true p st ρ σ st' ρ' σ':=fun st' ρ' σ' h p hp=>(h p hp).from Dh;cases himp:sw E st1 o with
   |true=>
    rw[himp,cond_true] at h;cases hown:mZ E st1 o with
    |true=>rw[hown,cond_true] at h;obtain⟨c,f,g',a,vb,d,bQ,m,v0,v,σ1,σ',f1,f2,f3,f4,f5,f6,f7,f8,f9,f10,f11,f12,jv,st2,i1,i2,i3⟩:=arD hR hM hi h hown;refine iZ.aoV hg f1 f2 f3 f4 f5 f6 f7 f8 f9 f10 ?_;have NH:=DN i2;refine FP hF hM os (aH+1) jv st2 _ σ' _ _ ?_ hW1 ((congrArg cu.aj NH).trans bK) i1 (vF (xG f11.symm)) i3 (hq' jv st2 _ σ' (fun p hp=>(hkq st2 jv σ' i2 p hp).of) (xG f11.symm));rw[NH,oV,fG,List.map_nil];exact hgs.snoc (.of_eq (arX hi f1 f2 f3 f4 f5 hF1))
    |false=>
    rw[hown,cond_false] at h;have fZ:=Nz hi hown;obtain⟨c,f,g',a,vb,f1,f2,f3,f4,n',v,σ',f5,jv,st2,i1,i2,i3,i4⟩:=aac hR hM gV hi ah h;have hf:=arV (aj:=aj) (all:=all) hi himp fZ f1 f2 f3 f4;refine iZ.SA hg f1 f2 f3 f4 ⟨n',v,σ',f5,?_⟩ (aak fZ f1 f2 f3);have NH:=aah i3;refine FP hF hM os (aH+1) jv st2 _ _ _ _ ?_ hW1 ((congrArg cu.aj NH).trans bK) i1 (vF i2) i4 (hq' jv st2 _ _ (fun p hp=>by rw[aaj himp];exact(i3 p hp).from Dh) i2);rw[NH,oV,fG,List.map_nil];exact hgs.snoc (.of_eq hf)
   |false=>
   rw[himp,cond_false] at h;cases hown:mZ E st1 o with
   |true=>rw[hown,cond_true] at h;refine arI hR hF hi h hown (ahw himp hi h) hg (fun ρ' st' y σ' hi' hn hkp hk=>?_);refine FP hF hM os (aH+1) ρ' st' _ σ' _ _ ?_ hW1 ((congrArg cu.aj (DN hkp)).trans bK) hi' (vF (xG hn.symm)) hk (hq' ρ' st' y σ' (fun p hp=>(hkq st' ρ' σ' hkp p hp).of) (xG hn.symm));rw[DN hkp,oV,fG,List.map_nil];exact hgs.snoc (.of_eq (arW hi h hown hF1))
   |false=>
   rw[hown,cond_false] at h;cases hd:wH E aj st1 o
   ·rw[hd] at h;cases h
   ·rw[hd] at h
    have h':runM E R aj F o st1 (fun st'=>oK E R aj F M ms all os st' (fs++[uh E aj all st1 o true]) k)=some x:=h;have hf:=arU hR (all:=all) bK gV hF1 hi h' hd;exact aae hR hF bK gV hi h' (rest:=fun fr' σ'=>iZ E ms all (aH+1) os fr' σ' (gs++[iy E all fr o true]) Q) (fun y σ' hst hr=>hst.2 (Nz hi (by unfold wH at hd;rw[iP,rU] at hd;exact hd.1)) ms all os gs Q hg hr) (fun ρ' st' y σ' hi' hn hkp hk=>by refine FP hF hM os (aH+1) ρ' st' _ σ' _ _ ?_ hW1 ((congrArg cu.aj (DN hkp)).trans bK) hi' (vF (xG hn.symm)) hk (hq' ρ' st' y σ' (fun p hp=>(hkq st' ρ' σ' hkp p hp).of) (xG hn.symm));rw[DN hkp,oV,fG,List.map_nil];exact hgs.snoc hf)
  split at h
  ·rename_i hgm
   rw[hgm] at hg;exact run st rfl hi hg h
  ·rename_i hgm
   rw[hgm] at hg;refine iZ.skip hg (FP hF hM os (aH+1) ρ _ _ σ _ _ ?_ hW1 bK ((hi.le (kD _)).gU o.dst jJ) (vF (RS _)) h (hq' ρ _ aK σ (fun p _=>bB.same yM) (RS _)));rw[oV,fG,List.map_nil];exact hgs.snoc (.of_eq (ahF (fr:=fr)))
  ·rename_i j w c g hgm
   rw[hgm] at hg;obtain⟨⟨n,hn⟩,hg2⟩:=hg;obtain⟨e1,e2,e3⟩:=DL hi n j w c g hn;cases c with
   |true=>obtain⟨l1,l2⟩:=Nw hi (e1 rfl).2 (Ny hi n j w g hn);exact run (st.nI g) l2 l1 hg2 h
   |false=>obtain⟨l1,l2⟩:=aaf hi hn;refine iZ.skip hg2 (FP hF hM os (aH+1) ρ _ _ σ _ _ ?_ hW1 bK ((l1.le (kD _)).gU o.dst jJ) (vF (RS _)) h (hq' ρ _ aK σ (fun p _=>bB.same (Bq.trans l2)) (RS _)));rw[oV,fG,List.map_nil];exact hgs.snoc (.of_eq (ahF (fr:=fr)))
  ·cases h
end
section
variable {E:Env}{fr:Fr}{σ:au}
def au.enter (σ:au)(fr:Fr)(ps:Array Tmp)(fQ body:Code):au:=({σ with next:=σ.next+1}:au).iY σ.next {st:=0,pend:=none,fr:=fr,ps:=ps.toList,fQ:=fQ,body:=body}
def wL (E:Env)(l:Nat)(args:List V)(σ:au)(b:Bool)(σ':au):Prop:=∃n,yT (dX E n) l args σ=some (.bool b,σ')
theorem bM.range {f:Operand}{ps:Array Tmp}{fQ body:Code}{g:FuncId}{a b:List V}{Q:Ex->Fr->au->Prop}(hf:fr.ev E f= .fn (.func g) a b)(hi:E.imp g=true)(h:oI E g (a++[.fn (.yield σ.next) [] []]++b) (fr.d+1) (σ.enter fr ps fQ body) (fun _ σ2=>∃r,σ2.loops σ.next=some r/\r.st≠1/\Q (match r.pend with|none=>.normal|some e=>e) fr (σ2.qd σ.next))):bM E (.rangeFunc f ps fQ body) fr σ Q:=by
 obtain⟨n,v,σ2,h1,r,h2,h3,h4⟩:=h;refine⟨n,_,fr,_,?_,h4⟩;have h1':lH E (dX E n) fr.d none (σ.enter fr ps fQ body) (.fn (.func g) a b) [.fn (.yield σ.next) [] []]=some (v,σ2):=by unfold lH;simp only[hi,if_true];rw[h1];exact congrArg some anA
 unfold fB;rw[hf];simp only[XH,if_true];unfold au.enter at h1';rw[h1'];simp only[Option.bind_some,h2,if_neg h3];cases r.pend<;>rfl
theorem wL.of {l:Nat}{args:List V}{r:rV}{b:Bool}{σ':au}(hl:σ.loops l=some r)(hst:r.st=0)(hlen:r.ps.length=args.length)(h:bM E r.fQ {r.fr with tm:=(r.ps.zip args).foldl (fun tm (p,a)=>upd tm p a) r.fr.tm} σ (fun e bT σ1=>e= .normal/\∃r1,σ1.loops l=some r1/\r1.st=0/\
   bM E r.body bT (σ1.iY l {r1 with st:=1}) (fun e _ σ2=>∃r2,σ2.loops l=some r2/\r2.st=1/\match e with
    |.normal=>b=true/\σ'=σ2.iY l {r2 with st:=0,pend:=none}
    |e=>b=false/\σ'=σ2.iY l {r2 with st:=2,pend:=some e}))):wL E l args σ b σ':=by
 obtain⟨n,e,bT,σ1,h1,rfl,r1,hl1,hs1,m,e2,fT,σ2,h2,r2,hl2,hs2,h3⟩:=h;have h1':(dX E (max n m+1)).code r.fQ {r.fr with tm:=(r.ps.zip args).foldl (fun tm (p,a)=>upd tm p a) r.fr.tm} σ=some (.normal,bT,σ1):=EZ (nD (Ae n m)) _ _ _ _ h1;have h2':(dX E (max n m+1)).code r.body bT (σ1.iY l {r1 with st:=1})=some (e2,fT,σ2):=EZ (nD (yQ n m)) _ _ _ _ h2;refine⟨max n m+1,?_⟩;unfold yT;simp only[hl,Option.bind_some,hst,hlen,and_self,if_true,h1',hl1,hs1,h2',hl2,hs2];cases e2 with
 |normal=>obtain⟨rfl,rfl⟩:=h3;rfl
 |exit i=>obtain⟨rfl,rfl⟩:=h3;rfl
 |ret=>obtain⟨rfl,rfl⟩:=h3;rfl
theorem bL.yield {all:List Oper}{st:Nat}{o:Oper}{os:List Oper}{Q:Fr->au->Prop}{c:Call}{f:Operand}{l:Nat}{b:Bool}{σ1:au}(hw:iw all fr o=some true)(ho:o.op= .call c)(fC:c.callee= .value f)(hf:fr.ev E f= .fn (.yield l) [] [])(hr:wL E l (c.args.toList.map (fr.ev E)) σ b σ1)(h:bL E all (st+1) os (fr.put o.dst (.bool b)) σ1 Q):bL E all st (o::os) fr σ Q:=by
 obtain⟨n,fr',σ',h1,h2⟩:=h;obtain⟨m,hm⟩:=hr;have hm':=afg (nD (yQ n m)) hm;have h1':=MC (nD (Ae n m)) _ _ _ _ _ _ h1;refine⟨max n m,fr',σ',?_,h2⟩;have:lH E (dX E (max n m)) fr.d (o.dst.map E.cn) σ (.fn (.yield l) [] []) (c.args.toList.map (fr.ev E))=some (.bool b,σ1):=by unfold lH;exact hm'
 have fZ:lI E fr o f=false:=by unfold lI;rw[hf]
 simp only[opsE,hw,Option.bind_some,if_true,opC,ho,fC,fZ,dO,if_false,hf,this,Option.map_some,h1']
structure Shift (d:Nat)(σ σ':au):Prop where
 next:σ.next<=σ'.next
 top:∀s,s<σ.next->σ'.top s=σ.top s
 loops:∀l,l<σ.next->σ'.loops l=σ.loops l
 obj:∀a o,a<=d->σ'.obj (a,o)=σ.obj (a,o)
theorem Shift.refl {d:Nat}{σ:au}:Shift d σ σ:=⟨RS _,fun _ _=>rfl,fun _ _=>rfl,fun _ _ _=>rfl⟩
theorem Shift.trans {d:Nat}{σ σ' kr:au}(h:Shift d σ σ')(g:Shift d σ' kr):Shift d σ kr:=
 ⟨bZ h.next g.next,fun s hs=>(g.top s (iq hs h.next)).trans (h.top s hs),fun s hs=>(g.loops s (iq hs h.next)).trans (h.loops s hs),fun a o ha=>(g.obj a o ha).trans (h.obj a o ha)⟩
def ahG (E:Env)(f:FuncId)(a b:List V)(L:List (List V)):Prop:=∀(d l:Nat)(σ:au)(J:List (List V)->au->Prop)(D:au->Prop),
 (∀xs σ σ',l<σ.next->J xs σ->Shift d σ σ'->J xs σ')->(∀σ σ',l<σ.next->D σ->Shift d σ σ'->D σ')->
 (∀x xs σ,l<σ.next->J (x::xs) σ->∃c σ',wL E l x σ c σ'/\σ.next<=σ'.next/\(∀a o,d<a->σ'.obj (a,o)=σ.obj (a,o))/\(∀s,s<σ.next->σ'.loops s=σ.loops s\/s=l)/\(c=true->J xs σ')/\(c=false->D σ'))->
 l<σ.next->J L σ->oI E f (a++[.fn (.yield l) [] []]++b) (d+1) σ fun _ σ'=>σ.next<=σ'.next/\(J [] σ'\/D σ')
structure wM (d:Nat)(L0:Option Loc)(σ σ':au):Prop where
 next:σ.next<=σ'.next
 top:∀s,s<σ.next->σ'.top s=σ.top s
 loops:∀l,l<σ.next->σ'.loops l=σ.loops l
 obj:∀L:Loc,L.1<=d->L0≠some L->σ'.obj L=σ.obj L
theorem Shift.G {d:Nat}{L0:Option Loc}{σ σ':au}(h:Shift d σ σ'):wM d L0 σ σ':=⟨h.next,h.top,h.loops,fun L hL _=>h.obj L.1 L.2 hL⟩
theorem wM.trans {d:Nat}{L0:Option Loc}{σ σ' kr:au}(h:wM d L0 σ σ')(g:wM d L0 σ' kr):wM d L0 σ kr:=
 ⟨bZ h.next g.next,fun s hs=>(g.top s (iq hs h.next)).trans (h.top s hs),fun s hs=>(g.loops s (iq hs h.next)).trans (h.loops s hs),fun L hL hn=>(g.obj L hL hn).trans (h.obj L hL hn)⟩
def FQ (E:Env)(k:Bool)(f:FuncId)(a b:List V)(L0:Option Loc)(pre:au->Prop)(L:List (List V)):Prop:=∀(d l:Nat)(σ:au)(J:List (List V)->au->Prop)(D:au->Prop),(∀loc,L0=some loc->loc.1<=d)->
 (∀xs σ σ',l<σ.next->J xs σ->wM d L0 σ σ'->J xs σ')->(∀σ σ',l<σ.next->D σ->wM d L0 σ σ'->D σ')->
 (∀x xs σ,l<σ.next->J (x::xs) σ->∃c σ',wL E l x σ c σ'/\σ.next<=σ'.next/\(k=true->∀a o,d<a->σ'.obj (a,o)=σ.obj (a,o))/\(∀loc,L0=some loc->∀s,σ'.dB loc s=σ.dB loc s)/\(∀s,s<σ.next->σ'.loops s=σ.loops s\/s=l)/\(c=true->J xs σ')/\(c=false->D σ'))->
 l<σ.next->pre σ->J L σ->oI E f (a++[.fn (.yield l) [] []]++b) (d+1) σ fun _ σ'=>σ.next<=σ'.next/\(J [] σ'\/D σ')
theorem ahG.G {f:FuncId}{a b:List V}{L:List (List V)}(h:ahG E f a b L):FQ E true f a b none (fun _=>True) L:=fun d l σ J D _ hJ hD hr hl _ h0=>
 h d l σ J D (fun xs σ σ' hl hj hs=>hJ xs σ σ' hl hj hs.G) (fun σ σ' hl hd hs=>hD σ σ' hl hd hs.G) (fun x xs σ hl hj=>by obtain⟨c,σ',h1,h2,h3,_,h4,h5,h6⟩:=hr x xs σ hl hj;exact⟨c,σ',h1,h2,h3 rfl,h4,h5,h6⟩) hl h0
def ahH (E:Env)(k:Bool)(f:FuncId)(a b cs:List V)(L:List (List V)):Prop:=∀(loc:Loc)(s:Nat),FQ E k f a (.ref loc s 0::b) (some loc) (fun σ=>σ.dB loc s=some cs) L
end
end aY
end
