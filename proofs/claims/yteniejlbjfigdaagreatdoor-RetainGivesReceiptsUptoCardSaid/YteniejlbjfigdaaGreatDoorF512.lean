import Derived.Test.YteniejlbjfigdaaGreatDoorF511
set_option linter.all false
section
namespace aR
open Go
section
variable {R:kE}{E:Env}
variable {C:bA}{b aI:Nat}{st:aM R.T}{fr:Fr}{Z:ah}{o:Oper}
theorem ar2 {j:Nat}{t:Bool}(h:cu [] st (.tmp j)=some (.bool t)):look st.fr j=some (.bool t):=by
 unfold cu at h;dsimp only at h;split at h
 .rename_i v hv;cases v<;>first| (cases h;exact hv)| (simp[Ra,look] at h;done)
 .cases h
variable (hR:rG R)
include hR
omit hR in
theorem ahq {β:Type}{top:Nat->Nat}{x z:au R.T}{v zv:V}{k:au R.T->Bool->Option β}{res:β}(hx:aA R C top x v)(hz:aA R C top z zv):∀{ks vs:List (au R.T)}{kl vl:List V},RA x ks vs z k=some res->aF R C top ks kl->aF R C top vs vl->
 ∃y b w r,aA R C top y w/\r9 v kl vl=some r/\((r=none->w=zv/\b=false)/\∀u,r=some u->w=u/\b=true)/\k y b=some res
 | [],[],kl,vl,h,h1,h2=>by rw[h1.iL,h2.iL];exact⟨z,false,zv,none,hz,rfl,⟨fun _=>⟨rfl,rfl⟩,fun u h=>bU⟩,h⟩
 | [],_::_,_,_,h,_,_=>bU|_::_,[],_,_,h,_,_=>bU|a::ks,b::vs,kl,vl,h,h1,h2=>by
  obtain⟨k0,k',rfl,g1,g2⟩:=h1.fB;obtain⟨l0,l',rfl,g3,g4⟩:=h2.fB;unfold RA at h;split at h
  .rename_i c hc;have he:=ag7 hc hx g1;cases c with
   |true=>exact⟨b,true,l0,some l0,g3,by simp[r9,he],⟨fun h=>bU,fun u h=>by cases h;exact⟨rfl,rfl⟩⟩,h⟩
   |false=>obtain⟨y,bb,w,r,e1,e2,e3,e4⟩:=ahq hx hz h g2 g4;exact⟨y,bb,w,r,e1,by simp[r9,he,e2],e3,e4⟩
  .cases h
theorem X7 {aj:Bool}{β:Type}{F:Nat->List (iF R)}(hF:bF E F)(bO:C.aj.aj=aj)(iJ:∀d,o.dst=some d->d<F0)(hi:aT C aI st fr Z){k:aM R.T->Option β}{x:β}(h:runM E R aj F o st k=some x){G:Prop}{rest:Fr->ah->Prop}(hs:∀y Z',nQ E fr Z aI o y Z'->rest (fr.put o.dst y) Z'->G)(hk:∀C' st' y Z',aT C' (aI+1) st' (fr.put o.dst y) Z'->Z'.next=Z.next->(∀p,qm E o p->bN true p st C Z st' C' Z')->k st'=some x->rest (fr.put o.dst y) Z'):G:=by
 have hi1:=hi.le (jY aI);unfold runM at h;split at h
 .rename_i c a' b' hop;split at h
  .rename_i t hc;have hc':=(bM (E:=E) hi .nil hc).vJ;split at h
   .rename_i v hv;refine hs _ _ (.jK (IQ hop hc')) (hk C _ _ Z (hi1.gZ o.dst ?_) rfl (fun p _=>bN.same xG) h);cases t
    .exact bM (E:=E) hi .nil hv
    .exact bM (E:=E) hi .nil hv
   .cases h
  .rename_i t hc;have hc':=(bM (E:=E) hi .nil hc).rH;split at h
   .rename_i j;have hj:=hc';rw[Hf] at hj;split at h
    .rename_i x' y' hx hy;split at h
     .rename_i v hv;refine hs _ _ (.jK (IQ hop hc')) (hk C _ _ Z (hi1.gZ o.dst ?_) rfl (fun p _=>bN.same xG) h);cases t
      .exact ag6 hv (bM (E:=E) hi (.cons hj .nil) hy)
      .exact ag5 hv (bM (E:=E) hi (.cons hj .nil) hx)
     .cases t
      .exact hs _ _ (.jK (IQ hop hc')) (hk C _ _ Z ((hi1.learn hj).gZ o.dst (bM (E:=E) hi (.cons hj .nil) hy)) rfl (fun p _=>bN.same xG) h)
      .exact hs _ _ (.jK (IQ hop hc')) (hk C _ _ Z ((hi1.learn hj).gZ o.dst (bM (E:=E) hi (.cons hj .nil) hx)) rfl (fun p _=>bN.same xG) h)
    .cases h
   .cases h
  .cases h
 .rename_i t a y hop;split at h
  .rename_i τ p i off l v hst;unfold WV at hst;split at hst
   .rename_i p' aAZ i' off' v' ha hv;split at hst
    .rename_i gT l0 sz hl hsz;split at hst
     .rename_i l1 hl1;obtain⟨hc,hst⟩:=fI hst;cases hst;obtain⟨e,e2⟩:=vK hl1;subst e;cases e2;simp only[aZ] at hc;obtain⟨⟨⟨c1,c2⟩,c3⟩,c4⟩:=hc;obtain⟨z,hz,h⟩:=iR.1 h;split at h
      .rename_i y' hu;obtain⟨s,h1,_,h2⟩:=(bM (E:=E) hi .nil ha).EZ;obtain⟨h6,h7⟩:=yA c4 (bM (E:=E) hi .nil hv);have hO:=hi.ob _ _ hl;obtain⟨cs,k1,k2,k3,k4⟩:=aq6 hR hO h1 hz h6 (nY c2) hu;refine hs aJ (Z.setObj (C.aj.lc p) s (.cells (gI cs (i.toNat*dB R gT+off) (fr.ev E y).cells))) (.jK (o:=o) ?_) (hk C _ aJ _ ((hi1.set p s (x:=.arr gT (eX l0 i y')) (a:=.cells (gI cs (i.toNat*dB R gT+off) (fr.ev E y).cells)) ⟨k4.trans hO.1,.inr ⟨s,_,h1,su _ _ _ _,k3⟩⟩).gZ o.dst (x:=.undef) fV) rfl (fun q _=>(bN.set hl rfl).congr Ad) h);simp only[dh,hop,h2,k1,Option.bind_some];rw[if_pos ⟨by rw[hsz,h6.length,fH c1],k2,Mv c3 h6⟩]
      .cases h
     .cases hst
    .cases hst
   .cases hst
  .split at h
   .rename_i v st' hr;rw[<-hop] at hr;obtain⟨y,Z',C',h1,h2,h3,h4,h5⟩:=zC hR hF bO iJ .nil hi hr;exact hs y Z' h1 (hk C' _ y Z' (h2.gZ o.dst h4) h3 (fun p hp=>(h5 p hp).congr Ad) h)
   .cases h
 .rename_i t m y ok hop;split at h
  .rename_i ks vs q z hsm;unfold WU at hsm;split at hsm
   .rename_i p hm;split at hsm
    .rename_i ks' vs' hl;split at hsm
     .rename_i q' kt et hq ht;split at hsm
      .rename_i z' hz;obtain⟨hkey,hsm⟩:=fI hsm;cases hsm;obtain⟨s,a1,a2⟩:=(bM (E:=E) hi .nil hm).AB;obtain⟨s',k0,l0,b1,b2,b3,b4⟩:=hi.rd hl;rw[a1] at b1;cases b1;have hqr:=bM (E:=E) hi .nil hq;obtain⟨zv,z1,z2⟩:=Mw (C:=C) (top:=Z.top) hz;obtain⟨v,bb,w,r,c1,c2,c3,c4⟩:=ahq hqr z2 h b3 b4;have hlk:yY E.P Z t (fr.ev E m) (fr.ev E y) ok=some (if ok then .bK [w,.bool bb] else w):=by
        rw[agx,ht];simp only[Option.bind_some];rw[if_pos (ag8 hkey hqr),a2];show (Z.jh (C.aj.lc p) s).bind _=_;rw[b2];simp only[Option.bind_some,c2];cases r with
        |none=>simp only[z1,Option.map_some];obtain⟨e1,e2⟩:=c3.1 rfl;rw[e1,e2]
        |some u=>simp only[Option.map_some];obtain⟨e1,e2⟩:=c3.2 u rfl;rw[e1,e2]
       refine hs _ Z (.jK (o:=o) ?_) (hk C _ (if ok then .bK [w,.bool bb] else w) Z (hi1.gZ o.dst ?_) rfl (fun p _=>bN.same xG) c4)
       .simp only[dh,hop,hlk,Option.map_some]
       .cases ok
        .exact c1
        .rw[cond_true,if_pos rfl];unfold aA;exact⟨_,rfl,.cons' c1 (.cons' fV rfl)⟩
      .cases hsm
     .cases hsm
    .cases hsm
   .cases hsm
  .split at h
   .rename_i v hr;rw[<-hop] at hr;obtain⟨y,h1,h2⟩:=zC hR hF bO iJ .nil hi hr;exact hs y Z h1 (hk C _ y Z (hi1.gZ o.dst h2) rfl (fun p _=>bN.same xG) h)
   .cases h
 .split at h
  .rename_i v hr;obtain⟨y,h1,h2⟩:=zC hR hF bO iJ .nil hi hr;exact hs y Z h1 (hk C _ y Z (hi1.gZ o.dst h2) rfl (fun p _=>bN.same xG) h)
  .rename_i c v hr;obtain⟨hc,h⟩:=fI h;obtain⟨y,h1,h2⟩:=zC hR hF bO iJ .nil hi hr hc;exact hs y Z h1 (hk C _ y Z (hi1.gZ o.dst h2) rfl (fun p _=>bN.same xG) h)
  .rename_i v st' hr;obtain⟨y,Z',C',h1,h2,h3,h4,h5⟩:=zC hR hF bO iJ .nil hi hr;exact hs y Z' h1 (hk C' _ y Z' (h2.gZ o.dst h4) h3 (fun p hp=>(h5 p hp).congr Ad) h)
  .rename_i c v st' hr;obtain⟨hc,h⟩:=fI h;obtain⟨y,Z',C',h1,h2,h3,h4,h5⟩:=zC hR hF bO iJ .nil hi hr hc;exact hs y Z' h1 (hk C' _ y Z' (h2.gZ o.dst h4) h3 (fun p hp=>(h5 p hp).congr Ad) h)
  .rename_i J z q f hr;obtain⟨a,ha,h⟩:=iR.1 h;obtain⟨y,h1,h2⟩:=zC hR hF bO iJ .nil hi hr a ha;exact hs y Z h1 (hk C _ y Z (hi1.gZ o.dst h2) rfl (fun p _=>bN.same xG) h)
  .cases h
omit hR in
theorem Fg (hi:aT C b st fr Z):∀(n j:Nat)(w c:Bool)(g:List (Nat×Bool)),qL st n j w=some (c,g)->(c=true->fr.tm j= .bool w/\sK fr g)/\(c=false->fr.tm j= .bool (!w)\/fr.tm j=aJ)/\(g=[(j,w)]->c=false->fr.tm j= .bool (!w))
 |0,j,w,c,g,h=>bU|n+1,j,w,c,g,h=>by
  have key:∀(i:Nat)(u a:Bool)(y:au R.T),look st.fr j=some (.opt i u y)->(∀v,aA R C Z.top y v->v= .bool a)->(match qL st n i u with
   |some (c,g)=>some (WT c (Ik a w),(j,w)::g)|none=>none)=some (c,g)->(c=true->fr.tm j= .bool w/\sK fr g)/\(c=false->fr.tm j= .bool (!w)\/fr.tm j=aJ)/\(g=[(j,w)]->c=false->fr.tm j= .bool (!w)):=by
   intro i u a y hl hy h;split at h
   .rename_i c0 g0 he;cases h;obtain⟨h1,h2,h3⟩:=Fg hi n i u c0 g0 he;have hr:=hi.fr _ _ hl;have hg0:g0≠[]:=by
     rintro rfl;cases n with
     |zero=>cases he|succ n=>
      unfold qL at he;split at he
      .cases he
      .split at he<;>cases he
      .split at he<;>cases he
      .cases he
    refine⟨fun hc=>?_,fun hc=>?_,fun hg=>absurd (by simpa using hg) hg0⟩
    .cases c0 with
     |false=>cases hc|true=>obtain⟨a1,a2⟩:=h1 rfl;have hv:=hy _ (hr.1 a1);have hc':Ik a w=true:=hc;have:a=w:=(by cases a<;>cases w<;>first|rfl|cases hc');subst this;exact⟨hv,.cons hv a2⟩
    .cases c0 with
     |false=>exact .inr (hr.2 (h2 rfl))|true=>obtain⟨a1,a2⟩:=h1 rfl;have hv:=hy _ (hr.1 a1);have hc':Ik a w=false:=hc;have:a= !w:=(by cases a<;>cases w<;>first|rfl|cases hc');subst this;exact .inl hv
   .cases h
  unfold qL at h;split at h
  .rename_i a hl;cases h;have hv:=(show aA R C Z.top (.bool a) (fr.tm j) from hi.fr _ _ hl).rH;refine⟨fun hc=>?_,fun hc=>.inl ?_,fun _ hc=>?_⟩
   .have:a=w:=(by cases a<;>cases w<;>first|rfl|cases hc);subst this;exact⟨hv,.cons hv .nil⟩
   .have:a= !w:=(by cases a<;>cases w<;>first|rfl|cases hc);subst this;exact hv
   .have:a= !w:=(by cases a<;>cases w<;>first|rfl|cases hc);subst this;exact hv
  .rename_i i u a hl;exact key i u a _ hl (fun v hv=>hv.rH) h
  .rename_i i u a hl;exact key i u a _ hl (fun v hv=>hv.vJ) h
  .cases h
omit hR in
theorem ahr {all:List Oper}(hi:aT C b st fr Z):match Rz all st o with
 |.run=>fD all fr o=some true|.skip=>fD all fr o=some false|.dyn j w c g=>(∃n,qL st n j w=some (c,g))/\fD all fr o=some c|.no=>True:=by
 unfold Rz fD;cases hg:o.guard with
 |none=>rfl|some p=>
  obtain⟨j,w⟩:=p;dsimp only;cases hj:all[j]? with
  |none=>rfl|some p=>
   simp only[Option.bind_some];cases hd:p.dst with
   |none=>rfl|some t=>
    dsimp only;have dyn:∀c g,qL st 12 t w=some (c,g)->(match fr.tm t with
     |.bool b=>some (b==w)|.raw _=>none|_=>some false)=some c:=by
     intro c g he;obtain⟨h1,h2,_⟩:=Fg hi 12 t w c g he;cases c with
     |true=>rw[(h1 rfl).1];simp|false=>
      rcases h2 rfl with h2|h2
      .rw[h2];cases w<;>rfl
      .rw[h2];rfl
    cases hl:look st.fr t with
    |none=>
     dsimp only;cases he:qL st 12 t w with
     |none=>trivial|some q=>exact⟨⟨12,he⟩,dyn _ _ he⟩
    |some v=>
     have hr:=hi.fr _ _ hl;cases v with
     |jy c=>have:=(show aA R C Z.top (.jy c) (fr.tm t) from hr).vJ;rw[this];cases c<;>cases w<;>rfl|undef=>have:=(show aA R C Z.top .undef (fr.tm t) from hr).afK;rw[this];rfl|_=>
      dsimp only;cases he:qL st 12 t w with
      |none=>trivial|some q=>exact⟨⟨12,he⟩,dyn _ _ he⟩
omit hR in
theorem Sm (hi:aT C b st fr Z):∀{g:List (Nat×Bool)},sK fr g->(∀j u,(j,u)∈g->fr.tm j= .bool u)->aT C b (st.oo g) fr Z/\(st.oo g).ob=st.ob
 | [],_,_=>⟨hi,rfl⟩| (j,w)::g,hg,hm=>by
   obtain⟨h1,h2⟩:=Sm hi (g:=g) (fun i u h=>by
    exact hm i u (by
     have:∀g:List (Nat×Bool),look g i=some u->(i,u)∈g:=by
      intro g;induction g with
      |nil=>intro h;cases h|cons p g ih=>
       intro h;obtain⟨k,v⟩:=p;by_cases e:i=k
       .subst e;rw[nI] at h;cases h;simp
       .rw[kH _ _ e] at h;simp[ih h]
     exact jX _ (this g h))) (fun i u h=>hm i u Ea)
   exact⟨h1.learn (hm j w aB),h2⟩
omit hR in
theorem Sn (hi:aT C b st fr Z):∀(n j:Nat)(w:Bool)(g:List (Nat×Bool)),qL st n j w=some (true,g)->∀i u,(i,u)∈g->fr.tm i= .bool u
 |0,j,w,g,h=>bU|n+1,j,w,g,h=>by
  have hj:=((Fg hi (n+1) j w true g h).1 rfl).1;unfold qL at h;split at h
  .simp only[iE,aS] at h;obtain⟨_,rfl⟩:=h;intro i u hm;simp at hm;obtain⟨rfl,rfl⟩:=hm;exact hj
  all_goals first
   | (split at h
      .rename_i c0 g0 he;simp only[iE,aS] at h;obtain⟨hc,rfl⟩:=h;cases c0 with
       |false=>cases hc|true=>
        intro i u hm;rcases iC.1 hm with hm|hm
        .cases hm;exact hj
        .exact Sn hi n _ _ g0 he i u hm
      .cases h)
   |cases h
omit hR in
theorem X8 (hi:aT C b st fr Z){n j:Nat}{w:Bool}{g:List (Nat×Bool)}(hj:qL st n j w=some (false,g)):aT C b (st.Aw g) fr Z/\(st.Aw g).ob=st.ob:=by
 obtain⟨_,_,e3⟩:=Fg hi n j w false g hj;rcases g with _| ⟨⟨j',w'⟩,_| ⟨p,g⟩⟩
 .exact⟨hi,rfl⟩
 .have hj':j'=j/\w'=w:=by
   cases n with
   |zero=>cases hj|succ n=>
    unfold qL at hj;split at hj
    .simp only[iE,aS,rX] at hj;exact⟨hj.2.1.1.symm,hj.2.1.2.symm⟩
    .split at hj
     .simp only[iE,aS,rX] at hj;exact⟨hj.2.1.1.symm,hj.2.1.2.symm⟩
     .exact absurd hj aB
    .split at hj
     .simp only[iE,aS,rX] at hj;exact⟨hj.2.1.1.symm,hj.2.1.2.symm⟩
     .exact absurd hj aB
    .exact absurd hj aB
  obtain⟨rfl,rfl⟩:=hj';exact⟨hi.learn (e3 rfl rfl),rfl⟩
 .exact⟨hi,rfl⟩
theorem ar3 {aj:Bool}{β:Type}{F:Nat->List (iF R)}(hF:bF E F)(bO:C.aj.aj=aj)(iJ:∀d,o.dst=some d->d<F0)(hi:aT C aI st fr Z){j n:Nat}{w c:Bool}{g:List (Nat×Bool)}(hj:qL st n j w=some (c,g)){k:aM R.T->Option β}{x:β}(h:WW E R aj F o j w c g st k=some x){G:Prop}{rest:Fr->ah->Prop}(hs:c=true->∀y Z',nQ E fr Z aI o y Z'->rest (fr.put o.dst y) Z'->G)(hs':c=false->rest (fr.put o.dst aJ) Z->G)(hk:∀C' st' y Z',aT C' (aI+1) st' (fr.put o.dst y) Z'->Z'.next=Z.next->(∀p,qm E o p->bN true p st C Z st' C' Z')->k st'=some x->rest (fr.put o.dst y) Z'):G:=by
 have hi1:=hi.le (jY aI);obtain⟨e1,e2,e3⟩:=Fg hi n j w c g hj;have X9:(bif c then runM E R aj F o (st.oo g) k else k ((st.Aw g).gZ o.dst .undef))=some x->G:=by
  intro h;cases c with
  |true=>obtain⟨l1,l2⟩:=Sm hi (e1 rfl).2 (Sn hi n j w g hj);exact X7 hR hF bO iJ l1 h (hs rfl) (fun C' st' y Z' a b c d=>hk C' st' y Z' a b (fun p hp=>(c p hp).from l2) d)
  |false=>obtain⟨n1,n2⟩:=X8 hi hj;have hN:aT C (aI+1) (st.Aw g) fr Z/\(st.Aw g).ob=st.ob:=⟨n1.le (jY _),n2⟩;refine hs' rfl (hk C _ aJ Z (hN.1.gZ o.dst fV) rfl (fun p _=>bN.same (Ad.trans hN.2)) h)
 unfold WW at h;split at h
 .rename_i d hd;have hput:bL d (g.map (·.1))=false->∀(v:au R.T)(y:V),(c=true->aA R C Z.top v y)->(c=false->y=aJ)->aT C (aI+1) (st.put d (.opt j w v)) (fr.put o.dst y) Z:=by
   intro hdj v y h1 h2;have hne:(fr.set d y).tm j=fr.tm j:=by
    refine LP _ _ ?_;cases n with
    |zero=>cases hj|succ n=>
     have hmem:bL d (g.map (·.1))=false:=hdj;have:∃g',g=(j,w)::g':=by
      unfold qL at hj;split at hj
      .cases hj;exact⟨[],rfl⟩
      all_goals first
       | (split at hj
          .simp only[iE,aS] at hj;exact⟨_,hj.2.symm⟩
          .cases hj)
       |cases hj
     obtain⟨g',rfl⟩:=this;have h':(Nat.beq d j||bL d (g'.map (·.1)))=false:=hmem;rw[tJ] at h';simpa using (Xf h'.1).symm
   rw[hd,Cg];refine hi1.put d ⟨fun hc=>?_,fun hc=>?_⟩
   .rw[hne] at hc;refine h1 ?_;cases c with
    |true=>rfl|false=>
     rcases e2 rfl with e|e
     .rw[e] at hc;cases w<;>cases hc
     .rw[e] at hc;cases hc
   .rw[hne] at hc;refine h2 ?_;cases c with
    |false=>rfl|true=>
     rw[(e1 rfl).1] at hc;rcases hc with hc|hc
     .cases w<;>cases hc
     .cases hc
  cases hdj:bL d (g.map (·.1))
  .rw[hdj] at h;simp only[cond_false] at h;split at h
   .rename_i v hr;cases c with
    |true=>obtain⟨y,h1,h2⟩:=zC hR hF bO iJ (e1 rfl).2 hi hr;exact hs rfl y Z h1 (hk C _ y Z (hput hdj v y (fun _=>h2) (fun h=>bU)) rfl (fun p _=>bN.same rfl) h)
    |false=>exact hs' rfl (hk C _ aJ Z (hput hdj v aJ (fun h=>bU) (fun _=>rfl)) rfl (fun p _=>bN.same rfl) h)
   .rename_i q v hr;obtain⟨hq,hh⟩:=fI h;clear h;cases c with
    |true=>obtain⟨y,h1,h2⟩:=zC hR hF bO iJ (e1 rfl).2 hi hr hq;exact hs rfl y Z h1 (hk C _ y Z (hput hdj v y (fun _=>h2) (fun h=>bU)) rfl (fun p _=>bN.same rfl) hh)
    |false=>exact hs' rfl (hk C _ aJ Z (hput hdj v aJ (fun h=>bU) (fun _=>rfl)) rfl (fun p _=>bN.same rfl) hh)
   .rename_i J z q f hr;obtain⟨a,ha,hh⟩:=iR.1 h;clear h;cases c with
    |true=>obtain⟨y,h1,h2⟩:=zC hR hF bO iJ (e1 rfl).2 hi hr a ha;exact hs rfl y Z h1 (hk C _ y Z (hput hdj _ y (fun _=>h2) (fun h=>bU)) rfl (fun p _=>bN.same rfl) hh)
    |false=>exact hs' rfl (hk C _ aJ Z (hput hdj _ aJ (fun h=>bU) (fun _=>rfl)) rfl (fun p _=>bN.same rfl) hh)
   .exact X9 h
  .rw[hdj] at h;exact X9 h
 .exact X9 h
omit hR in
theorem Fh {C':bA}{st':aM R.T}{Z':ah}(h:∀p,qm E o p->bN true p st C Z st' C' Z'):C'.aj=C.aj:=by
 cases hd:o.dst with
 |none=>exact(h 0 ⟨by rw[hd];simp,fun d e=>by rw[hd] at e;cases e⟩).aj
 |some d=>exact(h (d+E.cn d+1) ⟨fun e=>by rw[hd] at e;exact absurd (jW e) (pE (Nat.lt_succ_of_le (lD d (E.cn d)))),fun d' e=>by rw[hd] at e;cases e;exact pE (Nat.lt_succ_of_le (Nat.le_add_left (E.cn d) d))⟩).aj
omit hR in
theorem ahs {os:List Oper}{p:Nat}(h:bL p (mg E (o::os))=false):qm E o p/\bL p (mg E os)=false:=by
 unfold mg at h;split at h
 .rename_i d hd;have h':(Nat.beq p d||(Nat.beq p (E.cn d)||bL p (mg E os)))=false:=h;rw[tJ,tJ] at h';refine⟨⟨fun e=>?_,fun d' e e2=>?_⟩,h'.2.2⟩
  .rw[hd] at e;cases e;rw[yO] at h';exact absurd h'.1 aB
  .rw[hd] at e;cases e;rw[e2,yO] at h';exact absurd h'.2.1 aB
 .rename_i hd;refine⟨⟨fun e=>?_,fun d' e=>?_⟩,h⟩
  .rw[hd] at e;cases e
  .rw[hd] at e;cases e
omit hR in
theorem ML (hi:aT C b st fr Z)(h:nk E st o=false):yx E fr o=false:=by
 unfold nk at h;unfold yx;split at h
 .rename_i c hc;rw[hc];dsimp only;split at h
  .rename_i f hf;rw[hf];dsimp only;split at h
   .rename_i g a' b' hv;obtain⟨va,vb,h1,_,_⟩:=(bM (E:=E) hi .nil hv).oO;unfold kX;rw[h1];split at h
    .rename_i d hd;rw[hd];exact h
    .rename_i hd;rw[hd]
   .cases h
  .rename_i hne;split
   .rename_i f hf;exact absurd hf (hne f)
   .rfl
 .rename_i hne;split
  .rename_i c hc;exact absurd hc (hne c)
  .rfl
theorem ar4 {k k':bR}{l:List bR}{c:au R.T}{cs:List (au R.T)}{p:bB R.T (k::k'::l)}(h:jl R (k::k'::l) (c::cs)=some p):
 ∃x q,pk R k c=some x/\jl R (k'::l) cs=some q/\p=(x,q):=by
 have h':(match pk R k c with
  |some x=>match jl R (k'::l) cs with
   |some p=>some (x,p)|none=>none
  |none=>none)=some p:=h
 cases hu:pk R k c with
 |none=>rw[hu] at h';cases h'|some u=>
  rw[hu] at h';dsimp only at h';cases hq:jl R (k'::l) cs with
  |none=>rw[hq] at h';cases h'|some q=>rw[hq] at h';cases h';exact⟨u,q,rfl,rfl,rfl⟩
theorem Ya {F:Nat->List (iF R)}(hF:bF E F){f:Nat}{args:List (au R.T)}{MN:List V}(ha:aF R C Z.top args MN)(hi:aT C b st fr Z):∀{l:List (iF R)}{τ:Ty}{x:Option (List (Den R.T τ))},(∀r∈l,r∈F f)->Il R args (rF st args) l=some ⟨τ,x⟩->
 ∀y,x=some y->∃cB,u6 (E.y5 f) Z MN=some cB/\MN.all (fun x=>aQ (er x))=true/\oI E f cB (dB R τ) (y.map (aO R τ))
 | [],τ,x,_,h=>bU| ⟨cB,res,G,d0,own⟩::l,τ,x,hl,h=>by
   have rest:Il R args (rF st args) l=some ⟨τ,x⟩->∀y,x=some y->∃cB,u6 (E.y5 f) Z MN=some cB/\MN.all (fun x=>aQ (er x))=true/\oI E f cB (dB R τ) (y.map (aO R τ)):=fun h=>Ya hF ha hi (fun r hr=>hl r (jX _ hr)) h;unfold Il at h;split at h
   .cases h
   .rename_i as' gT G' d' l' heq;obtain⟨e1,e2⟩:=List.cons.inj heq;subst e2;cases e1;split at h
    .rename_i p hp;obtain⟨hc,h⟩:=fI h;cases h;simp only[aZ] at hc;obtain⟨⟨c1,c2⟩,c3⟩:=hc;intro y hy;have hb:=(hF f ⟨cB,[.d (.slice τ)],G',d',true⟩ (hl _ (ji ..)) p y hy).2 rfl τ rfl y rfl;cases hn:lK cB with
     |true=>obtain⟨b1,b2⟩:=hb.1 hn;obtain⟨vs',v1,v2⟩:=MB hR hi ha;have ME:=zB hR cB p (rF st args) _ hn hp v1 20 Z (by have:=nY c2;omega);exact⟨_,by rw[b1];unfold u6;rw[if_neg aB];exact(v2 16).trans ME,MC hR c3 ha,b2⟩
     |false=>
      obtain⟨b1,b2⟩:=hb.2 hn;rw[hn,Bool.false_or] at c1;cases cB with
      |nil=>cases c1|cons k cB=>
      cases k<;>first| (cases c1;done)|skip
      cases cB with
      |nil=>cases c1|cons k' cB=>
      cases args with
      |nil=>exact absurd (show none=some p from hp) aB|cons c args=>
      obtain⟨v,vs,rfl,h1,h2⟩:=ha.fB;have hp0:jl R (.fE::k'::cB) (EO st c::rF st args)=some p:=(by simpa only[rF] using hp);obtain⟨u,q,hu,q1,hpq⟩:=ar4 hR hp0;have hc:c= .fE:=by
       have hp':(pk R .fE (EO st c)).isSome=true:=(by rw[hu];rfl);cases c<;>first|rfl|skip
       all_goals
        exfalso;revert hp';unfold EO yg
        repeat' split
        all_goals (intro h;cases h)
      subst hc;have q2:agU (dw R (.fE::k'::cB) p)= .ak .nil []::dw R (k'::cB) q:=(by rw[hpq];rfl);rw[h1.uq];obtain⟨vs',v1,v2⟩:=MB hR hi h2;have ME:=zB hR (k'::cB) q (rF st args) _ c1 q1 v1 20 Z (by have h9:=nY c2;rw[vF] at h9;omega);rw[q2] at b2;refine⟨_,by rw[b1];unfold u6;rw[if_pos rfl];dsimp only;rw[v2 16,ME];rfl,?_,b2⟩;have:=MC hR c3 ha;rw[h1.uq] at this;exact this
    .exact rest h
   .rename_i heq;obtain⟨_,e2⟩:=List.cons.inj heq;subst e2;exact rest h
theorem ar5 {β:Type}{F:Nat->List (iF R)}(hF:bF E F)(hi:aT C aI st fr Z){k:aM R.T->Option β}{x:β}(h:zo R F o st k=some x)(hown:nk E st o=true){all os:List Oper}{Q:Fr->ah->Prop}(hw:fD all fr o=some true)(hk:∀(C':bA) (st':aM R.T) (y:V) (Z':ah),aT C' (aI+1) st' (fr.put o.dst y) Z'->Z'.next=Z.next->(∀p,qm E o p->bN true p st C Z st' C' Z')->k st'=some x->av E all (aI+1) os (fr.put o.dst y) Z' Q):av E all aI (o::os) fr Z Q:=by
 unfold zo at h;split at h
 .rename_i c d ho hd;split at h
  .rename_i f fO;split at h
   .rename_i g a' b' vs hf hvs;split at h
    .rename_i τ xo hfo;obtain⟨l,hl,h⟩:=iR.1 h;obtain⟨va,vb,h1,h2,h3⟩:=(bM (E:=E) hi .nil hf).oO;have hrel:=(h2.append (zA (E:=E) hi .nil hvs)).append h3;obtain⟨cB,has,hcl,hO⟩:=Ya hR hF hrel hi (fun _ hr=>hr) hfo l hl;have hg:E.own g d=true:=(by unfold nk at hown;rw[ho] at hown;dsimp only at hown;rw[fO] at hown;dsimp only at hown;rw[hf] at hown;dsimp only at hown;rw[hd] at hown;exact hown);have hdp:∀y:V,fr.put o.dst y=fr.set d y:=fun y=>by rw[hd];rfl
     refine av.own hw ho fO h1 hd hg has hO hcl (fun cp hcp=>?_) ?_
     .refine hk (C.jJ d aI) _ _ Z ?_ rfl ?_ h
      .have e:Z.dY aI (Z.top aI)=Z:=by
        unfold ah.dY;have:upd Z.top aI (Z.top aI)=Z.top:=by
         funext j;unfold upd;split
         .rename_i e;rw[e]
         .rfl
        rw[this]
       have:=hi.wk d aI (Z.top aI) (jY _) (Eh _) hi.nx (fun u _ hu=>KM);rw[e] at this;rw[hdp];refine this.put d (.of ?_);unfold aA;exact⟨cp,rfl,by rcases hcp with rfl|rfl;exact .inl rfl;exact .inr (.inl rfl)⟩
      .intro p hp;have e:Z.dY aI (Z.top aI)=Z:=by
        unfold ah.dY;have:upd Z.top aI (Z.top aI)=Z.top:=by
         funext j;unfold upd;split
         .rename_i e;rw[e]
         .rfl
        rw[this]
       have:=(bN.wk (nr:=true) (p:=p) (t:=d) (s:=aI) (n:=Z.top aI) (C:=C) (st:=st) (Z:=Z) hi.nx);rw[e] at this;exact this.congr rfl
     .refine hk (C.jJ d aI) _ _ _ ?_ rfl ?_ h
      .rw[hdp];have:=hi.wk d aI (l.map (aO R τ)).length (jY _) (Eh _) hi.nx (fun u _ hu=>KM);refine this.put d (.of ?_);unfold aA;exact⟨_,rfl,.inr (.inr ⟨aI,rfl,by simp[bA.jJ,upd],by rw[LQ,eU]⟩)⟩
      .intro p hp;exact(bN.wk (nr:=true) (p:=p) hi.nx).congr rfl
    .cases h
   .cases h
  .cases h
 .cases h
theorem ar6 {β:Type}{F:Nat->List (iF R)}(hF:bF E F)(hi:aT C aI st fr Z){k:aM R.T->Option β}{x:β}(h:zo R F o st k=some x)(hown:nk E st o=true){ms:List Nat}{fs:List dJ}{all os:List Oper}{Q:Fr->ah->Prop}(hw:fD all fr o=some true)(hk:∀(C':bA) (st':aM R.T) (y:V) (Z':ah),aT C' (aI+1) st' (fr.put o.dst y) Z'->Z'.next=Z.next->(∀p,qm E o p->bN true p st C Z st' C' Z')->k st'=some x->dn E ms all (aI+1) os (fr.put o.dst y) Z' (fs++[dW E all fr o true]) Q):dn E ms all aI (o::os) fr Z fs Q:=by
 unfold zo at h;split at h
 .rename_i c d ho hd;split at h
  .rename_i f fO;split at h
   .rename_i g a' b' vs hf hvs;split at h
    .rename_i τ xo hfo;obtain⟨l,hl,h⟩:=iR.1 h;obtain⟨va,vb,h1,h2,h3⟩:=(bM (E:=E) hi .nil hf).oO;have hrel:=(h2.append (zA (E:=E) hi .nil hvs)).append h3;obtain⟨cB,has,hcl,hO⟩:=Ya hR hF hrel hi (fun _ hr=>hr) hfo l hl;have hg:E.own g d=true:=(by unfold nk at hown;rw[ho] at hown;dsimp only at hown;rw[fO] at hown;dsimp only at hown;rw[hf] at hown;dsimp only at hown;rw[hd] at hown;exact hown);have hdp:∀y:V,fr.put o.dst y=fr.set d y:=fun y=>by rw[hd];rfl
     refine dn.own hw ho fO h1 hd hg has hO hcl (fun cp hcp=>?_) ?_
     .refine hk (C.jJ d aI) _ _ Z ?_ rfl ?_ h
      .have e:Z.dY aI (Z.top aI)=Z:=by
        unfold ah.dY;have:upd Z.top aI (Z.top aI)=Z.top:=by
         funext j;unfold upd;split
         .rename_i e;rw[e]
         .rfl
        rw[this]
       have:=hi.wk d aI (Z.top aI) (jY _) (Eh _) hi.nx (fun u _ hu=>KM);rw[e] at this;rw[hdp];refine this.put d (.of ?_);unfold aA;exact⟨cp,rfl,by rcases hcp with rfl|rfl;exact .inl rfl;exact .inr (.inl rfl)⟩
      .intro p hp;have e:Z.dY aI (Z.top aI)=Z:=by
        unfold ah.dY;have:upd Z.top aI (Z.top aI)=Z.top:=by
         funext j;unfold upd;split
         .rename_i e;rw[e]
         .rfl
        rw[this]
       have:=(bN.wk (nr:=true) (p:=p) (t:=d) (s:=aI) (n:=Z.top aI) (C:=C) (st:=st) (Z:=Z) hi.nx);rw[e] at this;exact this.congr rfl
     .refine hk (C.jJ d aI) _ _ _ ?_ rfl ?_ h
      .rw[hdp];have:=hi.wk d aI (l.map (aO R τ)).length (jY _) (Eh _) hi.nx (fun u _ hu=>KM);refine this.put d (.of ?_);unfold aA;exact⟨_,rfl,.inr (.inr ⟨aI,rfl,by simp[bA.jJ,upd],by rw[LQ,eU]⟩)⟩
      .intro p hp;exact(bN.wk (nr:=true) (p:=p) hi.nx).congr rfl
    .cases h
   .cases h
  .cases h
 .cases h
omit hR in
theorem aht {o:Oper}{os:List Oper}{d:Nat}(h:o.dst=some d):bL d (mg E (o::os))=true:=by unfold mg;rw[h];show (Nat.beq d d||_)=true;rw[yO];rfl
omit hR in
theorem ahu {o:Oper}{os:List Oper}{d:Nat}(h:bL d (mg E os)=true):bL d (mg E (o::os))=true:=by
 unfold mg;cases o.dst with
 |none=>exact h|some e=>show (Nat.beq d e||(Nat.beq d (E.cn e)||bL d (mg E os)))=true;rw[h,Bool.or_true,Bool.or_true]
omit hR in
theorem bN.of {nr:Bool}{o:Nat}{st st':aM R.T}{C C':bA}{Z Z':ah}(h:bN true o st C Z st' C' Z'):bN nr o st C Z st' C' Z':=⟨h.ob,h.ln,h.aj,h.nx,h.lp,fun L _=>h.dp L (.inl rfl),h.ro⟩
omit hR in
theorem Kp.nr {nr MO:Bool}{W:List Nat}{st st':aM R.T}{fr fr':Fr}{C C':bA}{Z Z':ah}(hn:MO=true->nr=true)(h:Kp nr W st fr Z C st' fr' Z' C'):Kp MO W st fr Z C st' fr' Z' C':=⟨h.fr,fun o ho=>⟨(h.ob o ho).ob,(h.ob o ho).ln,(h.ob o ho).aj,(h.ob o ho).nx,(h.ob o ho).lp,fun L hL=>(h.ob o ho).dp L (hL.imp hn id),(h.ob o ho).ro⟩⟩
omit hR in
theorem Yb (h:wV E st o=true):yj E o=false:=by
 unfold wV at h;unfold yj;split at h
 .rename_i c hc
  (try rw[hc]);(try dsimp only)
  split at h
  .rename_i f hf
   (try rw[hf])
   cases f with
   |func g=>
    have h':E.imp g=true:=h
    (try dsimp only);rw[h'];rfl
   |tmp _=>rfl|const _=>rfl| «global» _=>rfl
  .cases h
 .cases h
omit hR in
theorem Yc {c:Call}{f:Operand}{g:FuncId}{a vb:List V}(h:yx E fr o=false)(h1:o.op= .call c)(h2:c.callee= .value f)(h3:fr.ev E f= .fn (.func g) a vb):∀d,o.dst=some d->E.own g d=false:=by intro d hd;unfold yx at h;rw[h1] at h;dsimp only at h;rw[h2] at h;dsimp only at h;unfold kX at h;rw[h3,hd] at h;exact h
theorem CY {aj:Bool}{β:Type}{F:Nat->List (iF R)}(hF:bF E F){M:Nat->List (qI R)}(hM:Sj E M){all:List Oper}{k:aM R.T->Option β}{x:β}{Q:Fr->ah->Prop}:∀(os:List Oper)(aI:Nat)(C:bA)(st:aM R.T)(fr:Fr)(Z:ah),(∀d,bL d (mg E os)=true->d<F0)->C.aj.aj=aj->aT C aI st fr Z->aI+os.length<=Z.next->yt E R aj F M all os st k=some x->(∀C' st' fr' Z',aT C' (aI+os.length) st' fr' Z'->Z.next<=Z'.next->Kp (os.all (yj E)) (mg E os) st fr Z C st' fr' Z' C'->k st'=some x->Q fr' Z')->av E all aI os fr Z Q
 | [],aI,C,st,fr,Z,hW0,bO,hi,hsn,h,hq=>av.nil (hq C st fr Z hi (mF _) .refl h)|o::os,aI,C,st,fr,Z,hW0,bO,hi,hsn,h,hq=>by
  have iJ:∀d,o.dst=some d->d<F0:=fun d hd=>hW0 d (aht hd);have hW1:∀d,bL d (mg E os)=true->d<F0:=fun d hd=>hW0 d (ahu hd);have vM:∀{Z':ah},Z.next<=Z'.next->aI+1+os.length<=Z'.next:=fun h=>by rw[List.length_cons] at hsn;omega
  have hg:=ahr (o:=o) (all:=all) hi;unfold yt at h;have hW:∀p,bL p (mg E (o::os))=false->qm E o p/\bL p (mg E os)=false:=fun p hp=>ahs hp;have hq':∀(C1:bA)(st1:aM R.T)(y:V)(Z1:ah),(∀p,qm E o p->bN (yj E o) p st C Z st1 C1 Z1)->Z.next<=Z1.next->∀C' st' fr' Z',aT C' (aI+1+os.length) st' fr' Z'->Z1.next<=Z'.next->Kp (os.all (yj E)) (mg E os) st1 (fr.put o.dst y) Z1 C1 st' fr' Z' C'->k st'=some x->Q fr' Z':=fun C1 st1 y Z1 hkp h1 C' st' fr' Z' hi' hn zD hk=>
   hq C' st' fr' Z' (by rw[List.length_cons,Nat.add_comm os.length,<-oG];exact hi') (eO h1 hn) (((Kp.op (Q:=fun p=>qm E o p) (fun p hp=>⟨(hW p hp).1.1,(hW p hp).1⟩) hkp).nr (MO:=(o::os).all (yj E)) (fun e=>by rw[List.all_cons,aZ] at e;exact e.1)).trans ((zD.mono fun p hp=>(hW p hp).2).nr (fun e=>by rw[List.all_cons,aZ] at e;exact e.2))) hk
  split at h
  .rename_i hgm;rw[hgm] at hg;cases hown:nk E st o with
   |true=>rw[hown,cond_true] at h;exact ar5 hR hF hi h hown hg (fun C' st' y Z' hi' hn hkp hk=>CY hF hM os (aI+1) C' st' _ Z' hW1 ((congrArg eG.aj (Fh hkp)).trans bO) hi' (vM (yU hn.symm)) hk (hq' C' st' y Z' (fun p hp=>(hkp p hp).of) (yU hn.symm)))
   |false=>
   rw[hown,cond_false] at h;have eP:=ML hi hown;cases himp:wV E st o with
   |true=>rw[himp,cond_true] at h;obtain⟨c,f,g,a,vb,e1,e2,e3,e4,n,v,Z',e5,st1,i1,i2,i3,i4⟩:=X6 hR hM hi RS h;exact av.Aq hg e1 e2 e3 e4 ⟨n,v,Z',e5,CY hF hM os (aI+1) C st1 _ Z' hW1 bO i1 (vM i2) i4 (hq' C st1 v Z' (fun p _=>by rw[Yb himp];exact i3 p) i2)⟩ (Yc eP e1 e2 e3)
   |false=>
   rw[himp,cond_false] at h;exact X7 hR hF bO iJ hi h (rest:=fun fr' Z'=>av E all (aI+1) os fr' Z' Q) (fun y Z' hst hr=>hst.1 eP all os Q hg hr) (fun C' st' y Z' hi' hn hkp hk=>CY hF hM os (aI+1) C' st' _ Z' hW1 ((congrArg eG.aj (Fh hkp)).trans bO) hi' (vM (yU hn.symm)) hk (hq' C' st' y Z' (fun p hp=>(hkp p hp).of) (yU hn.symm)))
  .rename_i hgm;rw[hgm] at hg;refine av.skip hg (CY hF hM os (aI+1) C _ _ Z hW1 bO ?_ (vM (mF _)) h (hq' C _ aJ Z (fun p _=>bN.same xG) (mF _)));exact(hi.le (jY _)).gZ o.dst fV
  .rename_i j w c g hgm;rw[hgm] at hg;obtain⟨⟨n,hn⟩,hg2⟩:=hg;cases hown:(nk E st o||nk E (st.oo g) o) with
   |true=>rw[hown] at h;cases h|false=>
   rw[hown,cond_false] at h;rw[tJ] at hown;have eP:=ML hi hown.1;cases himp:wV E (st.oo g) o with
   |true=>
    rw[himp,cond_true] at h;obtain⟨e1,e2,e3⟩:=Fg hi n j w c g hn;cases c with
    |true=>rw[cond_true] at h;obtain⟨l1,l2⟩:=Sm hi (e1 rfl).2 (Sn hi n j w g hn);obtain⟨c,f,g',a,vb,f1,f2,f3,f4,n',v,Z',f5,st1,i1,i2,i3,i4⟩:=X6 hR hM l1 RS h;exact av.Aq hg2 f1 f2 f3 f4 ⟨n',v,Z',f5,CY hF hM os (aI+1) C st1 _ Z' hW1 bO i1 (vM i2) i4 (hq' C st1 v Z' (fun p _=>by rw[Yb himp];exact(i3 p).from l2) i2)⟩ (Yc eP f1 f2 f3)
    |false=>rw[cond_false] at h;obtain⟨l1,l2⟩:=X8 hi hn;exact av.skip hg2 (CY hF hM os (aI+1) C _ _ Z hW1 bO ((l1.le (jY _)).gZ o.dst fV) (vM (mF _)) h (hq' C _ aJ Z (fun p _=>bN.same (Ad.trans l2)) (mF _)))
   |false=>
   rw[himp,cond_false] at h;exact ar3 hR hF bO iJ hi hn h (rest:=fun fr' Z'=>av E all (aI+1) os fr' Z' Q) (fun e y Z' hst hr=>hst.1 eP all os Q (by rw[hg2,e]) hr) (fun e hr=>av.skip (by rw[hg2,e]) hr)
    (fun C' st' y Z' hi' hn hkp hk=>CY hF hM os (aI+1) C' st' _ Z' hW1 ((congrArg eG.aj (Fh hkp)).trans bO) hi' (vM (yU hn.symm)) hk (hq' C' st' y Z' (fun p hp=>(hkp p hp).of) (yU hn.symm)))
  .cases h
def Key.mv (c:eG):Key->Key
 |.obj l=>.obj (c.lc l.2)|k=>k
def dJ.mv (c:eG)(f:dJ):dJ:=⟨f.qb,f.lH,f.t.map (Key.mv c),f.w.map (Key.mv c)⟩
omit hR in
theorem ar7 (c:eG)(a b:Key):(a.mv c).eq (b.mv c)=a.nm.eq b.nm:=by
 cases a<;>cases b<;>try rfl
 rename_i l m;show ru (c.lc l.2) (c.lc m.2)=ru (1,l.2) (1,m.2);by_cases e:l.2=m.2
 .rw[e,V9];unfold ru;simp
 .rw[Xg c e,V9];simp[e]
omit hR in
theorem ar8 (c:eG)(f g:dJ):clash (f.mv c) (g.mv c)=clash f.nm g.nm:=by
 have hr:∀k:Key,(k.mv c).eq .rest=k.nm.eq .rest:=fun k=>by cases k<;>rfl
 have hs:∀k:Key,(k.mv c).state=k.nm.state:=fun k=>by cases k<;>rfl
 unfold clash dJ.mv dJ.nm;dsimp only;simp only[List.any_map,Function.comp_def,ar7,hr,hs]
omit hR in
theorem getD_map (h:dJ->dJ)(ha:h gB=gB):∀(fs:List dJ)(i:Nat),(fs.map h).getD i gB=h (fs.getD i gB)
 | [],i=>by simp[ha]|f::fs,0=>rfl|f::fs,i+1=>by simpa using getD_map h ha fs i
omit hR in
theorem ar9 (c:eG)(ms:List Nat)(fs:List dJ):Ak ms (fs.map (dJ.mv c))=Ak ms (fs.map dJ.nm):=by unfold Ak UO;simp only[eU,getD_map (dJ.mv c) rfl,getD_map dJ.nm rfl,ar8]
omit hR in
theorem uD (c:eG)(l:List Key):(mE l).mv c=mE (l.map (Key.mv c)):=rfl
omit hR in
theorem zF (c:eG)(l:List Key):(mG l).mv c=mG (l.map (Key.mv c)):=rfl
omit hR in
theorem mv_nil (c:eG):(mE []).mv c=mE []:=rfl
omit hR in
theorem ahv (c:eG):gB.mv c=gB:=rfl
omit hR in
theorem asa {top:Nat->Nat}{x:au R.T}{v:V}(hg:x≠ .gone)(hv:(∀o t,x≠ .aU o t)/\∀o t a b,x≠ .sub o t a b)(h:aA R C top x v):jN v=(afI x).map (Key.mv C.aj):=by
 cases x with
 |gone=>exact absurd rfl hg|opt j w y=>exact h.afL.elim|agg cs=>obtain⟨l,rfl,_⟩:=h.mh;rfl
 |bK cs=>obtain⟨l,rfl,_⟩:=h.Ir;rfl
 |ak c t l=>obtain⟨l,rfl,_⟩:=h.mo;rfl
 |ref p off=>obtain⟨s,_,rfl⟩:=h.rJ;rfl
 |dQ p=>obtain⟨s,_,rfl⟩:=h.AB;rfl
 |aX l p=>obtain⟨s,rfl,_⟩:=h.uw;rfl
 |fn f a b=>obtain⟨a',b',rfl,_⟩:=h.oO;rfl
 |aU o t=>exact absurd rfl (hv.1 o t)|sub o t a b=>exact absurd rfl (hv.2 o t a b)|l8 p t i off=>obtain⟨s,_,_,rfl⟩:=h.EZ;rfl
 |sv p off k n lo hi=>obtain⟨s,_,_,rfl⟩:=h.CF;rfl
 |sel p off k n i m=>obtain⟨s,_,_,_,rfl⟩:=h.Mq;rfl
 |vC k n y i=>obtain⟨_,_,rfl⟩:=h.RL;rfl
 |_=>unfold aA at h;subst h;rfl
omit hR in
theorem ahw {x:au R.T}(h:Ip x=true):x≠ .gone/\(∀o t,x≠ .aU o t)/\∀o t a b,x≠ .sub o t a b:=⟨(by rintro rfl;cases h),(by rintro o t rfl;cases h),(by rintro o t a b rfl;cases h)⟩
omit hR in
theorem oQ (hi:aT C b st fr Z){x:Operand}{v:au R.T}(h:cu [] st x=some v)(hg:Ip v=true):(Az st x).map (Key.mv C.aj)=jN (fr.ev E x):=by unfold Az;rw[h];exact(asa (ahw hg).1 (ahw hg).2 (bM hi .nil h)).symm
omit hR in
theorem ahx (hi:aT C b st fr Z):∀{l:List Operand}{vs:List (au R.T)},qJ [] st l=some vs->vs.all Ip=true->(l.flatMap (fun x=>Az st x)).map (Key.mv C.aj)=l.flatMap fun x=>jN (fr.ev E x)
 | [],vs,h,_=>rfl|x::l,vs,h,hg=>by
  unfold qJ at h;cases h1:cu [] st x with
  |none=>simp only[h1] at h;cases h|some a=>
   cases h2:qJ [] st l with
   |none=>simp only[h1,h2] at h;cases h|some cB=>simp only[h1,h2] at h;cases h;rw[List.all_cons,aZ] at hg;rw[lY,lY,pF,oQ (E:=E) hi h1 hg.1,ahx hi h2 hg.2]
omit hR in
theorem asb {aj:Bool}{β:Type}{F:Nat->List (iF R)}{k:aM R.T->Option β}{x:β}(h:runM E R aj F o st k=some x)(hp:∀c a b,o.op≠ .pick c a b)(hl:∀t m y ok,o.op≠ .lookup t m y ok)(hst:∀t a y,o.op≠ .store t a y):∃r,zn E R aj F [] o.dst o.op st=some r:=by
 unfold runM at h;split at h
 .rename_i c a b hop;exact absurd hop (hp _ _ _)
 .rename_i t a y hop;exact absurd hop (hst _ _ _)
 .rename_i t m y ok hop;exact absurd hop (hl _ _ _ _)
 .cases hr:zn E R aj F [] o.dst o.op st with
  |some r=>exact⟨r,rfl⟩|none=>rw[hr] at h;cases h
omit hR in
theorem AU {aj:Bool}{F:Nat->List (iF R)}{g:List (Nat×Bool)}{d:Option Nat}{op:Op}{r:eY R}(h:zn E R aj F g d op st=some r):um E R g d op st=some r\/vH E R aj F g d op st=some r:=by
 unfold zn at h;split at h
 .rename_i r' hx;cases h;exact .inl hx
 .exact .inr h
omit hR in
theorem ahy {top:Nat->Nat}:∀{x:List (au R.T)}{v:List V},RH x=true->aF R C top x v->v.all (fun a=>aQ (er a))=false
 | [],_,h,_=>bU|x::l,v,h,hr=>by
  obtain⟨y,ys,rfl,h1,h2⟩:=hr.fB;rw[List.all_cons];by_cases e:∃o off k n lo hi,x= .sv o off k n lo hi
  .obtain⟨o,off,k,n,lo,hi,rfl⟩:=e;obtain⟨s,_,_,rfl⟩:=h1.CF;simp[er,aQ]
  .by_cases e2:∃o off,x= .ref o off
   .obtain⟨o,off,rfl⟩:=e2;obtain⟨s,_,rfl⟩:=h1.rJ;simp[er,aQ]
   have h':RH l=true:=by
    cases x<;>first|exact h|exact absurd ⟨_,_,_,_,_,_,rfl⟩ e|exact absurd ⟨_,_,rfl⟩ e2
   rw[ahy h' h2,Bool.and_false]
omit hR in
theorem Sq (hi:aT C b st fr Z)(iJ:∀d,o.dst=some d->d<F0):(RG o).map (Key.mv C.aj)=vZ fr o:=by
 unfold RG vZ;cases hd:o.dst with
 |none=>rfl|some d=>dsimp only;rw[hi.at (iJ d hd)];rfl
theorem asc {aj:Bool}{β:Type}{F:Nat->List (iF R)}(bO:C.aj.aj=aj)(iJ:∀d,o.dst=some d->d<F0)(hi:aT C b st fr Z){k:aM R.T->Option β}{x:β}(h:runM E R aj F o st k=some x)(hd:zu E aj st o=true):(Mi E aj st o).mv C.aj=fT E fr o:=by
 unfold Mi fT;have hop:=asb h;cases ho:o.op<;>rw[ho] at hop<;>dsimp only<;>(try exact mv_nil _)<;>(try exact ahv _);case move y=>
  unfold zu at hd;rw[aZ] at hd;have hd:=hd.2;rw[ho] at hd;dsimp only at hd;have hz:y7 E o.dst=false:=by simpa using hd
  rw[hz];exact mv_nil _
 case buildSlice t len ps=>
  cases hz:Aj E o.dst
  .exact mv_nil _
  .exact ahv _
 case load t a=>
  obtain⟨r,hr⟩:=hop aB aB aB;rcases AU hr with hr|hr
  .unfold um at hr;dsimp only at hr;split at hr
   .rename_i gl _;split at hr
    .rename_i k n v hg;obtain⟨cs,_,g1,_⟩:=XU hg;have e1:Az st (Operand.global gl)=[]:=rfl;have e2:jN (fr.ev E (.global gl))=[]:=(by rw[XW hR g1];rfl);rw[uD,e1,e2];rfl
    .cases hr
   .split at hr
    .rename_i hv;rw[uD,oQ (E:=E) hi hv rfl]
    .rename_i hv;rw[uD,oQ (E:=E) hi hv rfl]
    .rename_i hv;rw[uD,oQ (E:=E) hi hv rfl]
    .cases hr
  unfold vH at hr;dsimp only at hr;split at hr
  .rename_i hv;rw[uD,oQ (E:=E) hi hv rfl]
  .rename_i hv;rw[uD,oQ (E:=E) hi hv rfl]
  .rename_i hv;rw[uD,oQ (E:=E) hi hv rfl]
  .cases hr
 case store t a y=>
  have h':=h;unfold runM at h';rw[ho] at h';dsimp only at h';split at h'
  .rename_i hst;unfold WV at hst;split at hst
   .rename_i hv _;rw[zF,oQ (E:=E) hi hv rfl]
   .cases hst
  .split at h'
   .rename_i hr;rcases AU hr with hr|hr
    .unfold um at hr;dsimp only at hr;split at hr
     .rename_i hv _;rw[zF,oQ (E:=E) hi hv rfl]
     .rename_i hv _;rw[zF,oQ (E:=E) hi hv rfl]
     .cases hr
    unfold vH at hr;dsimp only at hr;split at hr
    .rename_i hv _;rw[zF,oQ (E:=E) hi hv rfl]
    .cases hr
   .cases h'
 case convert a b' y=>
  obtain⟨r,hr⟩:=hop aB aB aB;rcases AU hr with hr|hr
  .unfold um at hr;dsimp only at hr;split at hr
   .rename_i hv;rw[uD,oQ (E:=E) hi hv rfl]
   .cases hr
  unfold vH at hr;dsimp only at hr;split at hr
  .rename_i v hv;rw[uD,oQ (E:=E) hi hv (by unfold Rm at hr;split at hr<;>first|rfl|cases hr)]
  .cases hr
 case slice t y lo hi' mx=>
  obtain⟨r,hr⟩:=hop aB aB aB;cases mx with
  |some m=>
   rcases AU hr with hr|hr
   .cases hi' with
    |none=>unfold um at hr;cases hr|some h1=>
     unfold um at hr;dsimp only at hr;split at hr
     .rename_i hv _ _ _;rw[uD,oQ (E:=E) hi hv rfl]
     .cases hr
   .unfold vH at hr;cases hr
  |none=>
   rcases AU hr with hr|hr
   .unfold um at hr;dsimp only at hr;split at hr
    .rename_i v hv;have key:∀lo hi,Cx E R t v lo hi st=some r->Ip v=true:=(by intro lo hi hs;unfold Cx at hs;split at hs<;>first|rfl|cases hs);rw[uD,oQ (E:=E) hi hv (by
      split at hr
      .exact key _ _ hr
      .split at hr
       .exact key _ _ hr
       .cases hr
      .split at hr
       .exact key _ _ hr
       .cases hr
      .split at hr
       .exact key _ _ hr
       .cases hr)]
    .cases hr
   unfold vH at hr;dsimp only at hr;split at hr
   .rename_i v hv;have hw:H9 st v=none:=(by unfold zu at hd;rw[aZ] at hd;have hd:=hd.2;rw[ho] at hd;dsimp only at hd;rw[hv] at hd;simpa using hd);have key:∀lo hi,Cv E R t v lo hi st=some r->Ip v=true:=by
     intro lo hi hs;unfold Cv Ro at hs;rw[hw] at hs;dsimp only at hs;unfold Rn at hs;split at hs
     .split at hs<;>first|rfl|cases hs
     .cases hs
    rw[uD,oQ (E:=E) hi hv (by
     split at hr
     .exact key _ _ hr
     .split at hr
      .exact key _ _ hr
      .cases hr
     .split at hr
      .exact key _ _ hr
      .cases hr
     .split at hr
      .exact key _ _ hr
      .cases hr)]
   .cases hr
 case lookup t m y ok=>
  have h':=h;unfold runM at h';rw[ho] at h';dsimp only at h';split at h'
  .rename_i hsm;unfold WU at hsm;split at hsm
   .rename_i hv;rw[uD,oQ (E:=E) hi hv rfl]
   .cases hsm
  .split at h'
   .rename_i hr;rcases AU hr with hr|hr
    .unfold um at hr;cases hr
    unfold vH at hr;dsimp only at hr;split at hr
    .rename_i hv _;rw[uD,oQ (E:=E) hi hv (by unfold Rp at hr;split at hr<;>first|rfl|cases hr)]
    .cases hr
   .cases h'
 case mapUpdate t m k' v=>
  obtain⟨r,hr⟩:=hop aB aB aB;rcases AU hr with hr|hr
  .unfold um at hr;cases hr
  unfold vH at hr;dsimp only at hr;split at hr
  .rename_i hv _ _;rw[zF,oQ (E:=E) hi hv (by unfold Ib at hr;split at hr<;>first|rfl|cases hr)]
  .cases hr
 case insert t m k' v=>
  obtain⟨r,hr⟩:=hop aB aB aB;rcases AU hr with hr|hr
  .unfold um at hr;cases hr
  unfold vH at hr;dsimp only at hr;split at hr
  .rename_i hv _ _;rw[zF,oQ (E:=E) hi hv (by unfold Ib at hr;split at hr<;>first|rfl|cases hr)]
  .cases hr
 case alloc t=>rw[zF];exact congrArg mG (Sq hi iJ)
 case box t y=>rw[zF];exact congrArg mG (Sq hi iJ)
 case makeMap t y=>rw[zF];exact congrArg mG (Sq hi iJ)
 case makeSlice t y z=>rw[zF];exact congrArg mG (congrArg (Key.top:: ·) (Sq hi iJ))
 case call c=>
  obtain⟨r,hr⟩:=hop aB aB aB;unfold zu at hd;rw[aZ,xK] at hd;obtain⟨hown,hd⟩:=hd;rw[ho] at hd;dsimp only at hd;cases hc:c.callee with
  |invoke y m=>rfl|builtin bi=>
   rw[hc] at hd;dsimp only at hd;rw[xJ] at hd;rcases hd with hd|hd
   .cases bi<;>dsimp only at hd⊢ <;>(try cases hd);rw[hi.aj,bO];rfl
   split at hd
   .rename_i vs hvs;have:=ahx (E:=E) hi hvs hd;cases bi<;>dsimp only<;>(try rw[<-this])<;>(try rfl);rw[hi.aj,bO];cases aj<;>rfl
   .cases hd
  |value f=>
   rcases AU hr with hr|hr
   .unfold um at hr;dsimp only at hr;rw[hc] at hr;cases hr
   unfold vH at hr;dsimp only at hr;rw[hc] at hd hr;dsimp only at hd hr;split at hd
   .rename_i f' a' b' vs hf hvs;simp only[hf,hvs] at hr;cases himp:E.imp f' with
    |true=>rw[himp] at hr;cases hr|false=>
     obtain⟨va,vb,h1,h2,h3⟩:=(bM (E:=E) hi .nil hf).oO;dsimp only;rw[hf,h1];dsimp only;have eP:kX E fr o f=false:=(by have:=ML hi hown;unfold yx at this;rw[ho] at this;dsimp only at this;rw[hc] at this;exact this);simp only[himp,eP,bZ,if_false];rw[hvs];dsimp only;have hrel:=(h2.append (zA (E:=E) hi .nil hvs)).append h3;cases hcl:Cq (a'++vs++b') with
     |true=>rw[MC hR hcl hrel];rfl|false=>rw[hcl,Bool.false_or] at hd;rw[ahy hd hrel];rfl
   .cases hd
omit hR in
theorem Sr (c:eG)(all:List Oper)(o:Oper):(rU all o).map (Key.mv c)=rU all o:=by
 have key:∀l:List Key,(∀k∈l,∃t,k= .slot t)->l.map (Key.mv c)=l:=by
  intro l;induction l with
  |nil=>intro _;rfl|cons k l ih=>intro h;obtain⟨t,e⟩:=h k (ji ..);rw[iA,ih fun k hk=>h k (jX _ hk),e];rfl
 refine key _ fun k hk=>?_;unfold rU at hk;rw[qB] at hk;rcases hk with hk|hk
 .rw[List.mem_filterMap] at hk;obtain⟨a,_,ha⟩:=hk;split at ha
  .cases ha;exact⟨_,rfl⟩
  .cases ha
 .split at hk
  .split at hk
   .exact⟨_,iZ.1 hk⟩
   .cases hk
  .cases hk
omit hR in
theorem Sv (c:eG)(o:Oper):(nG o).map (Key.mv c)=nG o:=by unfold nG;cases o.dst<;>rfl
omit hR in
theorem Yd {c:eG}(f:dJ)(a b:List Key)(ha:a.map (Key.mv c)=a)(hb:b.map (Key.mv c)=b):dJ.mv c ⟨f.qb,f.lH,a++f.t,b++f.w⟩=⟨(f.mv c).qb,(f.mv c).lH,a++(f.mv c).t,b++(f.mv c).w⟩:=by unfold dJ.mv;dsimp only;rw[pF,pF,ha,hb]
theorem ase {aj:Bool}{β:Type}{F:Nat->List (iF R)}(bO:C.aj.aj=aj)(iJ:∀d,o.dst=some d->d<F0)(hi:aT C b st fr Z){k:aM R.T->Option β}{x:β}{all:List Oper}(h:runM E R aj F o st k=some x)(hd:zu E aj st o=true):(sJ E aj all st o true).mv C.aj=dW E all fr o true:=by have key:=asc hR bO iJ hi h hd;unfold sJ dW;rw[if_pos rfl,if_pos rfl,<-key];exact Yd _ _ _ (Sr _ _ _) (Sv _ _)
omit hR in
theorem ahz {aj:Bool}{all:List Oper}{c:eG}:(sJ E aj all st o false).mv c=dW E all fr o false:=by unfold sJ dW dJ.mv;rw[if_neg aB,if_neg aB];dsimp only;rw[Sr,Sv]
omit hR in
theorem asf {aj:Bool}{all:List Oper}{c:Call}{f:Operand}{g:FuncId}{a vb:List V}(hi:aT C b st fr Z)(himp:wV E st o=true)(eP:yx E fr o=false)(h1:o.op= .call c)(h2:c.callee= .value f)(h3:fr.ev E f= .fn (.func g) a vb)(h4:E.imp g=true):(sJ E aj all st o true).mv C.aj=dW E all fr o true:=by
 have key:(Mi E aj st o).mv C.aj=fT E fr o:=by
  unfold wV at himp;rw[h1] at himp;dsimp only at himp;rw[h2] at himp;dsimp only at himp;unfold yx at eP;rw[h1] at eP;dsimp only at eP;rw[h2] at eP;dsimp only at eP;unfold Mi fT;rw[h1];dsimp only;rw[h2];dsimp only;rw[eP,h3];split at himp
  .rename_i g' a' b' hf
   (try rw[hf])
   (try dsimp only)
   rw[if_pos himp,if_neg aB]
   (try dsimp only)
   rw[if_pos h4];rfl
  .cases himp
 unfold sJ dW;rw[if_pos rfl,if_pos rfl,<-key];exact Yd _ _ _ (Sr _ _ _) (Sv _ _)
omit hR in
theorem asg {β:Type}{F:Nat->List (iF R)}{k:aM R.T->Option β}{x:β}{all:List Oper}(hi:aT C b st fr Z)(h:zo R F o st k=some x)(hown:nk E st o=true):(Mj all o).mv C.aj=dW E all fr o true:=by
 have key:fT E fr o=mG [.top]:=by
  unfold zo at h;split at h
  .rename_i c d ho hd;split at h
   .rename_i f fO;split at h
    .rename_i g a' b' vs hf hvs;obtain⟨va,vb,h1,_,_⟩:=(bM (E:=E) hi .nil hf).oO;have hg:E.own g d=true:=(by unfold nk at hown;rw[ho] at hown;dsimp only at hown;rw[fO] at hown;dsimp only at hown;rw[hf] at hown;dsimp only at hown;rw[hd] at hown;exact hown);have eP:kX E fr o f=true:=(by unfold kX;rw[h1,hd];exact hg);unfold fT;rw[ho];dsimp only;rw[fO];dsimp only;rw[if_pos eP]
    .cases h
   .cases h
  .cases h
 unfold Mj dW;rw[if_pos rfl,key];exact Yd ⟨false,false,[],[.top]⟩ _ _ (Sr _ _ _) (Sv _ _)
theorem IU {aj:Bool}{β:Type}{F:Nat->List (iF R)}(hF:bF E F){M:Nat->List (qI R)}(hM:Sj E M){ms:List Nat}{all:List Oper}{k:aM R.T->Option β}{x:β}{Q:Fr->ah->Prop}:∀(os:List Oper)(aI:Nat)(C:bA)(st:aM R.T)(fr:Fr)(Z:ah)(fs:List dJ),(∀d,bL d (mg E os)=true->d<F0)->C.aj.aj=aj->aT C aI st fr Z->aI+os.length<=Z.next->qM E R aj F M ms all os st fs k=some x->(∀C' st' fr' Z',aT C' (aI+os.length) st' fr' Z'->Z.next<=Z'.next->Kp (os.all (yj E)) (mg E os) st fr Z C st' fr' Z' C'->k st'=some x->Q fr' Z')->dn E ms all aI os fr Z (fs.map (dJ.mv C.aj)) Q
 | [],aI,C,st,fr,Z,fs,hW0,bO,hi,hsn,h,hq=>by unfold qM at h;obtain⟨h1,h⟩:=fI h;exact dn.nil (by rw[ar9];exact h1) (hq C st fr Z hi (mF _) .refl h)
 |o::os,aI,C,st,fr,Z,fs,hW0,bO,hi,hsn,h,hq=>by
  have iJ:∀d,o.dst=some d->d<F0:=fun d hd=>hW0 d (aht hd);have hW1:∀d,bL d (mg E os)=true->d<F0:=fun d hd=>hW0 d (ahu hd);have vM:∀{Z':ah},Z.next<=Z'.next->aI+1+os.length<=Z'.next:=fun h=>by rw[List.length_cons] at hsn;omega
  have hg:=ahr (o:=o) (all:=all) hi;unfold qM at h;have hW:∀p,bL p (mg E (o::os))=false->qm E o p/\bL p (mg E os)=false:=fun p hp=>ahs hp;have hq':∀(C1:bA)(st1:aM R.T)(y:V)(Z1:ah),(∀p,qm E o p->bN (yj E o) p st C Z st1 C1 Z1)->Z.next<=Z1.next->∀C' st' fr' Z',aT C' (aI+1+os.length) st' fr' Z'->Z1.next<=Z'.next->Kp (os.all (yj E)) (mg E os) st1 (fr.put o.dst y) Z1 C1 st' fr' Z' C'->k st'=some x->Q fr' Z':=fun C1 st1 y Z1 hkp h1 C' st' fr' Z' hi' hn zD hk=>
   hq C' st' fr' Z' (by rw[List.length_cons,Nat.add_comm os.length,<-oG];exact hi') (eO h1 hn) (((Kp.op (Q:=fun p=>qm E o p) (fun p hp=>⟨(hW p hp).1.1,(hW p hp).1⟩) hkp).nr (MO:=(o::os).all (yj E)) (fun e=>by rw[List.all_cons,aZ] at e;exact e.1)).trans ((zD.mono fun p hp=>(hW p hp).2).nr (fun e=>by rw[List.all_cons,aZ] at e;exact e.2))) hk
  have run:∀(st1:aM R.T),st1.ob=st.ob->aT C aI st1 fr Z->fD all fr o=some true->(bif wV E st1 o then (bif nk E st1 o then none else EX R M o st1 (fun st'=>qM E R aj F M ms all os st' (fs++[sJ E aj all st1 o true]) k)) else bif nk E st1 o then zo R F o st1 (fun st'=>qM E R aj F M ms all os st' (fs++[Mj all o]) k) else bif !(zu E aj st1 o) then none else runM E R aj F o st1 (fun st'=>qM E R aj F M ms all os st' (fs++[sJ E aj all st1 o true]) k))=some x->dn E ms all aI (o::os) fr Z (fs.map (dJ.mv C.aj)) Q:=by
   intro st1 GU hi hg h;have hkq:∀(st':aM R.T)(C':bA)(Z':ah),(∀p,qm E o p->bN true p st1 C Z st' C' Z')->∀p,qm E o p->bN true p st C Z st' C' Z':=fun st' C' Z' h p hp=>(h p hp).from GU;cases himp:wV E st1 o with
   |true=>
    rw[himp,cond_true] at h;cases hown:nk E st1 o with
    |true=>rw[hown] at h;cases h|false=>
    rw[hown,cond_false] at h;have eP:=ML hi hown;obtain⟨c,f,g',a,vb,f1,f2,f3,f4,n',v,Z',f5,st2,i1,i2,i3,i4⟩:=X6 hR hM hi RS h;have hf:=asf (aj:=aj) (all:=all) hi himp eP f1 f2 f3 f4;refine dn.Aq hg f1 f2 f3 f4 ⟨n',v,Z',f5,?_⟩ (Yc eP f1 f2 f3);have:=IU hF hM os (aI+1) C st2 _ Z' _ hW1 bO i1 (vM i2) i4 (hq' C st2 v Z' (fun p _=>by rw[Yb himp];exact(i3 p).from GU) i2);rw[pF,iA,List.map_nil,hf] at this;exact this
   |false=>
   rw[himp,cond_false] at h;cases hown:nk E st1 o with
   |true=>rw[hown,cond_true] at h;refine ar6 hR hF hi h hown hg (fun C' st' y Z' hi' hn hkp hk=>?_);have:=IU hF hM os (aI+1) C' st' _ Z' _ hW1 ((congrArg eG.aj (Fh hkp)).trans bO) hi' (vM (yU hn.symm)) hk (hq' C' st' y Z' (fun p hp=>(hkq st' C' Z' hkp p hp).of) (yU hn.symm));rw[Fh hkp,pF,iA,List.map_nil,asg hi h hown] at this;exact this
   |false=>
   rw[hown,cond_false] at h;cases hd:zu E aj st1 o
   .rw[hd] at h;cases h
   .rw[hd] at h;have h':runM E R aj F o st1 (fun st'=>qM E R aj F M ms all os st' (fs++[sJ E aj all st1 o true]) k)=some x:=h;have hf:=ase hR (all:=all) bO iJ hi h' hd;exact X7 hR hF bO iJ hi h' (rest:=fun fr' Z'=>dn E ms all (aI+1) os fr' Z' (fs.map (dJ.mv C.aj)++[dW E all fr o true]) Q) (fun y Z' hst hr=>hst.2 (ML hi (by unfold zu at hd;rw[aZ,xK] at hd;exact hd.1)) ms all os (fs.map (dJ.mv C.aj)) Q hg hr) (fun C' st' y Z' hi' hn hkp hk=>by have:=IU hF hM os (aI+1) C' st' _ Z' _ hW1 ((congrArg eG.aj (Fh hkp)).trans bO) hi' (vM (yU hn.symm)) hk (hq' C' st' y Z' (fun p hp=>(hkq st' C' Z' hkp p hp).of) (yU hn.symm));rw[Fh hkp,pF,iA,List.map_nil,hf] at this;exact this)
  split at h
  .rename_i hgm;rw[hgm] at hg;exact run st rfl hi hg h
  .rename_i hgm;rw[hgm] at hg;have:=IU hF hM os (aI+1) C _ _ Z _ hW1 bO ((hi.le (jY _)).gZ o.dst fV) (vM (mF _)) h (hq' C _ aJ Z (fun p _=>bN.same xG) (mF _));rw[pF,iA,List.map_nil,ahz (fr:=fr)] at this;exact dn.skip hg this
  .rename_i j w c g hgm;rw[hgm] at hg;obtain⟨⟨n,hn⟩,hg2⟩:=hg;obtain⟨e1,e2,e3⟩:=Fg hi n j w c g hn;cases c with
   |true=>obtain⟨l1,l2⟩:=Sm hi (e1 rfl).2 (Sn hi n j w g hn);exact run (st.oo g) l2 l1 hg2 h
   |false=>obtain⟨l1,l2⟩:=X8 hi hn;have:=IU hF hM os (aI+1) C _ _ Z _ hW1 bO ((l1.le (jY _)).gZ o.dst fV) (vM (mF _)) h (hq' C _ aJ Z (fun p _=>bN.same (Ad.trans l2)) (mF _));rw[pF,iA,List.map_nil,ahz (fr:=fr)] at this;exact dn.skip hg2 this
  .cases h
end
section
variable {E:Env}{fr:Fr}{Z:ah}
def ah.enter (Z:ah)(fr:Fr)(ps:Array Tmp)(gq body:Code):ah:=({Z with next:=Z.next+1}:ah).mR Z.next {st:=0,pend:=none,fr:=fr,ps:=ps.toList,gq:=gq,body:=body}
def Sw (E:Env)(l:Nat)(args:List V)(Z:ah)(b:Bool)(Z':ah):Prop:=∃n,xQ (bH E n) l args Z=some (.bool b,Z')
theorem aD.range {f:Operand}{ps:Array Tmp}{gq body:Code}{g:FuncId}{a b:List V}{Q:Ex->Fr->ah->Prop}(hf:fr.ev E f= .fn (.func g) a b)(hi:E.imp g=true)(h:jd E g (a++[.fn (.yield Z.next) [] []]++b) (fr.d+1) (Z.enter fr ps gq body) (fun _ Z2=>∃r,Z2.loops Z.next=some r/\r.st≠1/\Q (match r.pend with|none=>.normal|some e=>e) fr (Z2.uV Z.next))):aD E (.rangeFunc f ps gq body) fr Z Q:=by
 obtain⟨n,v,Z2,h1,r,h2,h3,h4⟩:=h;refine⟨n,_,fr,_,?_,h4⟩;have h1':jI E (bH E n) fr.d (Z.enter fr ps gq body) (.fn (.func g) a b) [.fn (.yield Z.next) [] []]=some (v,Z2):=by unfold jI;simp only[hi,if_true];exact h1
 unfold dX;rw[hf];simp only[UQ,if_true];unfold ah.enter at h1';rw[h1'];simp only[Option.bind_some,h2,if_neg h3];cases r.pend<;>rfl
theorem Sw.of {l:Nat}{args:List V}{r:Em}{b:Bool}{Z':ah}(hl:Z.loops l=some r)(hst:r.st=0)(hlen:r.ps.length=args.length)(h:aD E r.gq {r.fr with tm:=(r.ps.zip args).foldl (fun tm (p,a)=>upd tm p a) r.fr.tm} Z (fun e bJ Z1=>e= .normal/\∃r1,Z1.loops l=some r1/\r1.st=0/\
   aD E r.body bJ (Z1.mR l {r1 with st:=1}) (fun e _ Z2=>∃r2,Z2.loops l=some r2/\r2.st=1/\match e with
    |.normal=>b=true/\Z'=Z2.mR l {r2 with st:=0,pend:=none}
    |e=>b=false/\Z'=Z2.mR l {r2 with st:=2,pend:=some e}))):Sw E l args Z b Z':=by
 obtain⟨n,e,bJ,Z1,h1,rfl,r1,hl1,hs1,m,e2,iW,Z2,h2,r2,hl2,hs2,h3⟩:=h;have h1':(bH E (max n m+1)).code r.gq {r.fr with tm:=(r.ps.zip args).foldl (fun tm (p,a)=>upd tm p a) r.fr.tm} Z=some (.normal,bJ,Z1):=zf (jk (qY n m)) _ _ _ _ h1;have h2':(bH E (max n m+1)).code r.body bJ (Z1.mR l {r1 with st:=1})=some (e2,iW,Z2):=zf (jk (pY n m)) _ _ _ _ h2;refine⟨max n m+1,?_⟩;unfold xQ;simp only[hl,Option.bind_some,hst,hlen,and_self,if_true,h1',hl1,hs1,h2',hl2,hs2];cases e2 with
 |normal=>obtain⟨rfl,rfl⟩:=h3;rfl
 |exit i=>obtain⟨rfl,rfl⟩:=h3;rfl
 |ret=>obtain⟨rfl,rfl⟩:=h3;rfl
theorem av.yield {all:List Oper}{st:Nat}{o:Oper}{os:List Oper}{Q:Fr->ah->Prop}{c:Call}{f:Operand}{l:Nat}{b:Bool}{Z1:ah}(hw:fD all fr o=some true)(ho:o.op= .call c)(fO:c.callee= .value f)(hf:fr.ev E f= .fn (.yield l) [] [])(hr:Sw E l (c.args.toList.map (fr.ev E)) Z b Z1)(h:av E all (st+1) os (fr.put o.dst (.bool b)) Z1 Q):av E all st (o::os) fr Z Q:=by
 obtain⟨n,fr',Z',h1,h2⟩:=h;obtain⟨m,hm⟩:=hr;have hm':=V5 (jk (pY n m)) hm;have h1':=LK (jk (qY n m)) _ _ _ _ _ _ h1;refine⟨max n m,fr',Z',?_,h2⟩;have:jI E (bH E (max n m)) fr.d Z (.fn (.yield l) [] []) (c.args.toList.map (fr.ev E))=some (.bool b,Z1):=by unfold jI;exact hm'
 have eP:kX E fr o f=false:=by unfold kX;rw[hf]
 simp only[opsE,hw,Option.bind_some,if_true,opC,ho,fO,eP,bZ,if_false,hf,this,Option.map_some,h1']
structure Shift (d:Nat)(Z Z':ah):Prop where
 next:Z.next<=Z'.next
 top:∀s,s<Z.next->Z'.top s=Z.top s
 loops:∀l,l<Z.next->Z'.loops l=Z.loops l
 obj:∀a o,a<=d->Z'.obj (a,o)=Z.obj (a,o)
theorem Shift.refl {d:Nat}{Z:ah}:Shift d Z Z:=⟨mF _,fun _ _=>rfl,fun _ _=>rfl,fun _ _ _=>rfl⟩
theorem Shift.trans {d:Nat}{Z Z' oP:ah}(h:Shift d Z Z')(g:Shift d Z' oP):Shift d Z oP:=
 ⟨eO h.next g.next,fun s hs=>(g.top s (lW hs h.next)).trans (h.top s hs),fun s hs=>(g.loops s (lW hs h.next)).trans (h.loops s hs),fun a o ha=>(g.obj a o ha).trans (h.obj a o ha)⟩
def ash (E:Env)(f:FuncId)(a b:List V)(L:List (List V)):Prop:=∀(d l:Nat)(Z:ah)(IV:List (List V)->ah->Prop)(D:ah->Prop),
 (∀xs Z Z',l<Z.next->IV xs Z->Shift d Z Z'->IV xs Z')->(∀Z Z',l<Z.next->D Z->Shift d Z Z'->D Z')->
 (∀x xs Z,l<Z.next->IV (x::xs) Z->∃c Z',Sw E l x Z c Z'/\Z.next<=Z'.next/\(∀a o,d<a->Z'.obj (a,o)=Z.obj (a,o))/\(∀s,s<Z.next->Z'.loops s=Z.loops s\/s=l)/\(c=true->IV xs Z')/\(c=false->D Z'))->
 l<Z.next->IV L Z->jd E f (a++[.fn (.yield l) [] []]++b) (d+1) Z fun _ Z'=>Z.next<=Z'.next/\(IV [] Z'\/D Z')
end
end aR
end
