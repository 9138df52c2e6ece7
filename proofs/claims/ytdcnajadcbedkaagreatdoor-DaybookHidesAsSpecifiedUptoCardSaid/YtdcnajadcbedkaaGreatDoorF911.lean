import Derived.Test.YtdcnajadcbedkaaGreatDoorF910
set_option linter.all false
section
namespace aR
open Go
section
variable {R:jY}{E:Env}
variable {Z:bC}{b aN:Nat}{st:aO R.T}{fr:Fr}{Y:ah}{o:Oper}
theorem av8 {j:Nat}{t:Bool}(h:dG [] st (.tmp j)=some (.bool t)):look st.fr j=some (.bool t):=by
 unfold dG at h;dsimp only at h;split at h
 .rename_i v hv;cases v<;>first| (cases h;exact hv)| (simp[Sd,look] at h;done)
 .cases h
variable (hR:rQ R)
include hR
theorem Za {aj:Bool}{β:Type}{F:Nat->List (ig R)}(hF:bg E F)(bT:Z.aj.aj=aj)(iO:∀d,o.dst=some d->d<F0)(hi:aU Z aN st fr Y){k:aO R.T->Option β}{x:β}(h:runM E R aj F o st k=some x){G:Prop}{rest:Fr->ah->Prop}(hs:∀y Y',oq E fr Y aN o y Y'->rest (fr.put o.dst y) Y'->G)(hk:∀Z' st' y Y',aU Z' (aN+1) st' (fr.put o.dst y) Y'->Y'.next=Y.next->(∀p,qA E o p->bV true p st Z Y st' Z' Y')->k st'=some x->rest (fr.put o.dst y) Y'):G:=by
 have hi1:=hi.le (kR aN);unfold runM at h;split at h
 .rename_i c a' b' hop;split at h
  .rename_i t hc;have hc':=(bU (E:=E) hi .nil hc).vL;split at h
   .rename_i v hv;refine hs _ _ (.kL (Jt hop hc')) (hk Z _ _ Y (hi1.iF o.dst ?_) rfl (fun p _=>bV.same zk) h);cases t
    .exact bU (E:=E) hi .nil hv
    .exact bU (E:=E) hi .nil hv
   .cases h
  .rename_i t hc;have hc':=(bU (E:=E) hi .nil hc).rR;split at h
   .rename_i j;have hj:=hc';rw[Iq] at hj;split at h
    .rename_i x' y' hx hy;split at h
     .rename_i v hv;refine hs _ _ (.kL (Jt hop hc')) (hk Z _ _ Y (hi1.iF o.dst ?_) rfl (fun p _=>bV.same zk) h);cases t
      .exact akk hv (bU (E:=E) hi (.cons hj .nil) hy)
      .exact akj hv (bU (E:=E) hi (.cons hj .nil) hx)
     .cases t
      .exact hs _ _ (.kL (Jt hop hc')) (hk Z _ _ Y ((hi1.learn hj).iF o.dst (bU (E:=E) hi (.cons hj .nil) hy)) rfl (fun p _=>bV.same zk) h)
      .exact hs _ _ (.kL (Jt hop hc')) (hk Z _ _ Y ((hi1.learn hj).iF o.dst (bU (E:=E) hi (.cons hj .nil) hx)) rfl (fun p _=>bV.same zk) h)
    .cases h
   .cases h
  .cases h
 .rename_i t a y hop;split at h
  .rename_i τ p i off l v hst;unfold Yf at hst;split at hst
   .rename_i p' aGT i' off' v' ha hv;split at hst
    .rename_i gW l0 sz hl hsz;split at hst
     .rename_i l1 hl1;obtain⟨hc,hst⟩:=gG hst;cases hst;obtain⟨e,e2⟩:=vM hl1;subst e;cases e2;simp only[bf] at hc;obtain⟨⟨⟨c1,c2⟩,c3⟩,c4⟩:=hc;obtain⟨z,hz,h⟩:=iP.1 h;split at h
      .rename_i y' hu;obtain⟨s,h1,_,h2⟩:=(bU (E:=E) hi .nil ha).FL;obtain⟨h6,h7⟩:=yK c4 (bU (E:=E) hi .nil hv);have hO:=hi.ob _ _ hl;obtain⟨cs,k1,k2,k3,k4⟩:=avi hR hO h1 hz h6 (oD c2) hu;refine hs aP (Y.setObj (Z.aj.lc p) s (.cells (gM cs (i.toNat*dN R gW+off) (fr.ev E y).cells))) (.kL (o:=o) ?_) (hk Z _ aP _ ((hi1.set p s (x:=.arr gW (bn l0 i y')) (a:=.cells (gM cs (i.toNat*dN R gW+off) (fr.ev E y).cells)) ⟨k4.trans hO.1,.inr ⟨s,_,h1,sK _ _ _ _,k3⟩⟩).iF o.dst (x:=.undef) gX) rfl (fun q _=>(bV.set hl rfl).congr Av) h);simp only[dM,hop,h2,k1,Option.bind_some];rw[if_pos ⟨by rw[hsz,h6.length,fQ c1],k2,Nn c3 h6⟩]
      .cases h
     .cases hst
    .cases hst
   .cases hst
  .split at h
   .rename_i v st' hr;rw[<-hop] at hr;obtain⟨y,Y',Z',h1,h2,h3,h4,h5⟩:=zR hR hF bT iO .nil hi hr;exact hs y Y' h1 (hk Z' _ y Y' (h2.iF o.dst h4) h3 (fun p hp=>(h5 p hp).congr Av) h)
   .cases h
 .rename_i t m y ok hop;split at h
  .rename_i ks vs q z hsm;unfold Ye at hsm;cases hsm
  .split at h
   .rename_i v hr;rw[<-hop] at hr;obtain⟨y,h1,h2⟩:=zR hR hF bT iO .nil hi hr;exact hs y Y h1 (hk Z _ y Y (hi1.iF o.dst h2) rfl (fun p _=>bV.same zk) h)
   .cases h
 .split at h
  .rename_i v hr;obtain⟨y,h1,h2⟩:=zR hR hF bT iO .nil hi hr;exact hs y Y h1 (hk Z _ y Y (hi1.iF o.dst h2) rfl (fun p _=>bV.same zk) h)
  .rename_i c v hr;obtain⟨hc,h⟩:=gG h;obtain⟨y,h1,h2⟩:=zR hR hF bT iO .nil hi hr hc;exact hs y Y h1 (hk Z _ y Y (hi1.iF o.dst h2) rfl (fun p _=>bV.same zk) h)
  .rename_i v st' hr;obtain⟨y,Y',Z',h1,h2,h3,h4,h5⟩:=zR hR hF bT iO .nil hi hr;exact hs y Y' h1 (hk Z' _ y Y' (h2.iF o.dst h4) h3 (fun p hp=>(h5 p hp).congr Av) h)
  .rename_i c v st' hr;obtain⟨hc,h⟩:=gG h;obtain⟨y,Y',Z',h1,h2,h3,h4,h5⟩:=zR hR hF bT iO .nil hi hr hc;exact hs y Y' h1 (hk Z' _ y Y' (h2.iF o.dst h4) h3 (fun p hp=>(h5 p hp).congr Av) h)
  .rename_i U z q f hr;obtain⟨a,ha,h⟩:=iP.1 h;obtain⟨y,h1,h2⟩:=zR hR hF bT iO .nil hi hr a ha;exact hs y Y h1 (hk Z _ y Y (hi1.iF o.dst h2) rfl (fun p _=>bV.same zk) h)
  .cases h
omit hR in
theorem FU (hi:aU Z b st fr Y):∀(n j:Nat)(w c:Bool)(g:List (Nat×Bool)),qR st n j w=some (c,g)->(c=true->fr.tm j= .bool w/\sV fr g)/\(c=false->fr.tm j= .bool (!w)\/fr.tm j=aP)/\(g=[(j,w)]->c=false->fr.tm j= .bool (!w))
 |0,j,w,c,g,h=>dh|n+1,j,w,c,g,h=>by
  have key:∀(i:Nat)(u a:Bool)(y:aA R.T),look st.fr j=some (.opt i u y)->(∀v,aC R Z Y.top y v->v= .bool a)->(match qR st n i u with
   |some (c,g)=>some (Yd c (I9 a w),(j,w)::g)|none=>none)=some (c,g)->(c=true->fr.tm j= .bool w/\sV fr g)/\(c=false->fr.tm j= .bool (!w)\/fr.tm j=aP)/\(g=[(j,w)]->c=false->fr.tm j= .bool (!w)):=by
   intro i u a y hl hy h;split at h
   .rename_i c0 g0 he;cases h;obtain⟨h1,h2,h3⟩:=FU hi n i u c0 g0 he;have hr:=hi.fr _ _ hl;have hg0:g0≠[]:=by
     rintro rfl;cases n with
     |zero=>cases he|succ n=>
      unfold qR at he;split at he
      .cases he
      .split at he<;>cases he
      .split at he<;>cases he
      .cases he
    refine⟨fun hc=>?_,fun hc=>?_,fun hg=>absurd (by simpa using hg) hg0⟩
    .cases c0 with
     |false=>cases hc|true=>obtain⟨a1,a2⟩:=h1 rfl;have hv:=hy _ (hr.1 a1);have hc':I9 a w=true:=hc;have:a=w:=(by cases a<;>cases w<;>first|rfl|cases hc');subst this;exact⟨hv,.cons hv a2⟩
    .cases c0 with
     |false=>exact .inr (hr.2 (h2 rfl))|true=>obtain⟨a1,a2⟩:=h1 rfl;have hv:=hy _ (hr.1 a1);have hc':I9 a w=false:=hc;have:a= !w:=(by cases a<;>cases w<;>first|rfl|cases hc');subst this;exact .inl hv
   .cases h
  unfold qR at h;split at h
  .rename_i a hl;cases h;have hv:=(show aC R Z Y.top (.bool a) (fr.tm j) from hi.fr _ _ hl).rR;refine⟨fun hc=>?_,fun hc=>.inl ?_,fun _ hc=>?_⟩
   .have:a=w:=(by cases a<;>cases w<;>first|rfl|cases hc);subst this;exact⟨hv,.cons hv .nil⟩
   .have:a= !w:=(by cases a<;>cases w<;>first|rfl|cases hc);subst this;exact hv
   .have:a= !w:=(by cases a<;>cases w<;>first|rfl|cases hc);subst this;exact hv
  .rename_i i u a hl;exact key i u a _ hl (fun v hv=>hv.rR) h
  .rename_i i u a hl;exact key i u a _ hl (fun v hv=>hv.vL) h
  .cases h
omit hR in
theorem akB {all:List Oper}(hi:aU Z b st fr Y):match SF all st o with
 |.run=>fM all fr o=some true|.skip=>fM all fr o=some false|.dyn j w c g=>(∃n,qR st n j w=some (c,g))/\fM all fr o=some c|.no=>True:=by
 unfold SF fM;cases hg:o.guard with
 |none=>rfl|some p=>
  obtain⟨j,w⟩:=p;dsimp only;cases hj:all[j]? with
  |none=>rfl|some p=>
   simp only[Option.bind_some];cases hd:p.dst with
   |none=>rfl|some t=>
    dsimp only;have dyn:∀c g,qR st 12 t w=some (c,g)->(match fr.tm t with
     |.bool b=>some (b==w)|.raw _=>none|_=>some false)=some c:=by
     intro c g he;obtain⟨h1,h2,_⟩:=FU hi 12 t w c g he;cases c with
     |true=>rw[(h1 rfl).1];simp|false=>
      rcases h2 rfl with h2|h2
      .rw[h2];cases w<;>rfl
      .rw[h2];rfl
    cases hl:look st.fr t with
    |none=>
     dsimp only;cases he:qR st 12 t w with
     |none=>trivial|some q=>exact⟨⟨12,he⟩,dyn _ _ he⟩
    |some v=>
     have hr:=hi.fr _ _ hl;cases v with
     |jK c=>have:=(show aC R Z Y.top (.jK c) (fr.tm t) from hr).vL;rw[this];cases c<;>cases w<;>rfl|undef=>have:=(show aC R Z Y.top .undef (fr.tm t) from hr).ai0;rw[this];rfl|_=>
      dsimp only;cases he:qR st 12 t w with
      |none=>trivial|some q=>exact⟨⟨12,he⟩,dyn _ _ he⟩
omit hR in
theorem TA (hi:aU Z b st fr Y):∀{g:List (Nat×Bool)},sV fr g->(∀j u,(j,u)∈g->fr.tm j= .bool u)->aU Z b (st.oJ g) fr Y/\(st.oJ g).ob=st.ob
 | [],_,_=>⟨hi,rfl⟩| (j,w)::g,hg,hm=>by
   obtain⟨h1,h2⟩:=TA hi (g:=g) (fun i u h=>by
    exact hm i u (by
     have:∀g:List (Nat×Bool),look g i=some u->(i,u)∈g:=by
      intro g;induction g with
      |nil=>intro h;cases h|cons p g ih=>
       intro h;obtain⟨k,v⟩:=p;by_cases e:i=k
       .subst e;rw[nX] at h;cases h;simp
       .rw[kN _ _ e] at h;simp[ih h]
     exact kQ _ (this g h))) (fun i u h=>hm i u Ew)
   exact⟨h1.learn (hm j w aD),h2⟩
omit hR in
theorem TB (hi:aU Z b st fr Y):∀(n j:Nat)(w:Bool)(g:List (Nat×Bool)),qR st n j w=some (true,g)->∀i u,(i,u)∈g->fr.tm i= .bool u
 |0,j,w,g,h=>dh|n+1,j,w,g,h=>by
  have hj:=((FU hi (n+1) j w true g h).1 rfl).1;unfold qR at h;split at h
  .simp only[iE,mF] at h;obtain⟨_,rfl⟩:=h;intro i u hm;simp at hm;obtain⟨rfl,rfl⟩:=hm;exact hj
  all_goals first
   | (split at h
      .rename_i c0 g0 he;simp only[iE,mF] at h;obtain⟨hc,rfl⟩:=h;cases c0 with
       |false=>cases hc|true=>
        intro i u hm;rcases jd.1 hm with hm|hm
        .cases hm;exact hj
        .exact TB hi n _ _ g0 he i u hm
      .cases h)
   |cases h
omit hR in
theorem Zb (hi:aU Z b st fr Y){n j:Nat}{w:Bool}{g:List (Nat×Bool)}(hj:qR st n j w=some (false,g)):aU Z b (st.Ba g) fr Y/\(st.Ba g).ob=st.ob:=by
 obtain⟨_,_,e3⟩:=FU hi n j w false g hj;rcases g with _| ⟨⟨j',w'⟩,_| ⟨p,g⟩⟩
 .exact⟨hi,rfl⟩
 .have hj':j'=j/\w'=w:=by
   cases n with
   |zero=>cases hj|succ n=>
    unfold qR at hj;split at hj
    .simp only[iE,mF,sD] at hj;exact⟨hj.2.1.1.symm,hj.2.1.2.symm⟩
    .split at hj
     .simp only[iE,mF,sD] at hj;exact⟨hj.2.1.1.symm,hj.2.1.2.symm⟩
     .exact absurd hj aD
    .split at hj
     .simp only[iE,mF,sD] at hj;exact⟨hj.2.1.1.symm,hj.2.1.2.symm⟩
     .exact absurd hj aD
    .exact absurd hj aD
  obtain⟨rfl,rfl⟩:=hj';exact⟨hi.learn (e3 rfl rfl),rfl⟩
 .exact⟨hi,rfl⟩
theorem av9 {aj:Bool}{β:Type}{F:Nat->List (ig R)}(hF:bg E F)(bT:Z.aj.aj=aj)(iO:∀d,o.dst=some d->d<F0)(hi:aU Z aN st fr Y){j n:Nat}{w c:Bool}{g:List (Nat×Bool)}(hj:qR st n j w=some (c,g)){k:aO R.T->Option β}{x:β}(h:Yg E R aj F o j w c g st k=some x){G:Prop}{rest:Fr->ah->Prop}(hs:c=true->∀y Y',oq E fr Y aN o y Y'->rest (fr.put o.dst y) Y'->G)(hs':c=false->rest (fr.put o.dst aP) Y->G)(hk:∀Z' st' y Y',aU Z' (aN+1) st' (fr.put o.dst y) Y'->Y'.next=Y.next->(∀p,qA E o p->bV true p st Z Y st' Z' Y')->k st'=some x->rest (fr.put o.dst y) Y'):G:=by
 have hi1:=hi.le (kR aN);obtain⟨e1,e2,e3⟩:=FU hi n j w c g hj;have Zc:(bif c then runM E R aj F o (st.oJ g) k else k ((st.Ba g).iF o.dst .undef))=some x->G:=by
  intro h;cases c with
  |true=>obtain⟨l1,l2⟩:=TA hi (e1 rfl).2 (TB hi n j w g hj);exact Za hR hF bT iO l1 h (hs rfl) (fun Z' st' y Y' a b c d=>hk Z' st' y Y' a b (fun p hp=>(c p hp).from l2) d)
  |false=>obtain⟨n1,n2⟩:=Zb hi hj;have hN:aU Z (aN+1) (st.Ba g) fr Y/\(st.Ba g).ob=st.ob:=⟨n1.le (kR _),n2⟩;refine hs' rfl (hk Z _ aP Y (hN.1.iF o.dst gX) rfl (fun p _=>bV.same (Av.trans hN.2)) h)
 unfold Yg at h;split at h
 .rename_i d hd;have hput:bR d (g.map (·.1))=false->∀(v:aA R.T)(y:V),(c=true->aC R Z Y.top v y)->(c=false->y=aP)->aU Z (aN+1) (st.put d (.opt j w v)) (fr.put o.dst y) Y:=by
   intro hdj v y h1 h2;have hne:(fr.set d y).tm j=fr.tm j:=by
    refine MQ _ _ ?_;cases n with
    |zero=>cases hj|succ n=>
     have hmem:bR d (g.map (·.1))=false:=hdj;have:∃g',g=(j,w)::g':=by
      unfold qR at hj;split at hj
      .cases hj;exact⟨[],rfl⟩
      all_goals first
       | (split at hj
          .simp only[iE,mF] at hj;exact⟨_,hj.2.symm⟩
          .cases hj)
       |cases hj
     obtain⟨g',rfl⟩:=this;have h':(Nat.beq d j||bR d (g'.map (·.1)))=false:=hmem;rw[sF] at h';simpa using (Ym h'.1).symm
   rw[hd,CB];refine hi1.put d ⟨fun hc=>?_,fun hc=>?_⟩
   .rw[hne] at hc;refine h1 ?_;cases c with
    |true=>rfl|false=>
     rcases e2 rfl with e|e
     .rw[e] at hc;cases w<;>cases hc
     .rw[e] at hc;cases hc
   .rw[hne] at hc;refine h2 ?_;cases c with
    |false=>rfl|true=>
     rw[(e1 rfl).1] at hc;rcases hc with hc|hc
     .cases w<;>cases hc
     .cases hc
  cases hdj:bR d (g.map (·.1))
  .rw[hdj] at h;simp only[cond_false] at h;split at h
   .rename_i v hr;cases c with
    |true=>obtain⟨y,h1,h2⟩:=zR hR hF bT iO (e1 rfl).2 hi hr;exact hs rfl y Y h1 (hk Z _ y Y (hput hdj v y (fun _=>h2) (fun h=>dh)) rfl (fun p _=>bV.same rfl) h)
    |false=>exact hs' rfl (hk Z _ aP Y (hput hdj v aP (fun h=>dh) (fun _=>rfl)) rfl (fun p _=>bV.same rfl) h)
   .rename_i q v hr;obtain⟨hq,hh⟩:=gG h;clear h;cases c with
    |true=>obtain⟨y,h1,h2⟩:=zR hR hF bT iO (e1 rfl).2 hi hr hq;exact hs rfl y Y h1 (hk Z _ y Y (hput hdj v y (fun _=>h2) (fun h=>dh)) rfl (fun p _=>bV.same rfl) hh)
    |false=>exact hs' rfl (hk Z _ aP Y (hput hdj v aP (fun h=>dh) (fun _=>rfl)) rfl (fun p _=>bV.same rfl) hh)
   .rename_i U z q f hr;obtain⟨a,ha,hh⟩:=iP.1 h;clear h;cases c with
    |true=>obtain⟨y,h1,h2⟩:=zR hR hF bT iO (e1 rfl).2 hi hr a ha;exact hs rfl y Y h1 (hk Z _ y Y (hput hdj _ y (fun _=>h2) (fun h=>dh)) rfl (fun p _=>bV.same rfl) hh)
    |false=>exact hs' rfl (hk Z _ aP Y (hput hdj _ aP (fun h=>dh) (fun _=>rfl)) rfl (fun p _=>bV.same rfl) hh)
   .exact Zc h
  .rw[hdj] at h;exact Zc h
 .exact Zc h
omit hR in
theorem FV {Z':bC}{st':aO R.T}{Y':ah}(h:∀p,qA E o p->bV true p st Z Y st' Z' Y'):Z'.aj=Z.aj:=by
 cases hd:o.dst with
 |none=>exact(h 0 ⟨by rw[hd];simp,fun d e=>by rw[hd] at e;cases e⟩).aj
 |some d=>exact(h (d+E.cn d+1) ⟨fun e=>by rw[hd] at e;exact absurd (kP e) (pO (Nat.lt_succ_of_le (mg d (E.cn d)))),fun d' e=>by rw[hd] at e;cases e;exact pO (Nat.lt_succ_of_le (Nat.le_add_left (E.cn d) d))⟩).aj
omit hR in
theorem akC {os:List Oper}{p:Nat}(h:bR p (mW E (o::os))=false):qA E o p/\bR p (mW E os)=false:=by
 unfold mW at h;split at h
 .rename_i d hd;have h':(Nat.beq p d||(Nat.beq p (E.cn d)||bR p (mW E os)))=false:=h;rw[sF,sF] at h';refine⟨⟨fun e=>?_,fun d' e e2=>?_⟩,h'.2.2⟩
  .rw[hd] at e;cases e;rw[zh] at h';exact absurd h'.1 aD
  .rw[hd] at e;cases e;rw[e2,zh] at h';exact absurd h'.2.1 aD
 .rename_i hd;refine⟨⟨fun e=>?_,fun d' e=>?_⟩,h⟩
  .rw[hd] at e;cases e
  .rw[hd] at e;cases e
omit hR in
theorem NA (hi:aU Z b st fr Y)(h:nR E st o=false):yJ E fr o=false:=by
 unfold nR at h;unfold yJ;split at h
 .rename_i c hc;rw[hc];dsimp only;split at h
  .rename_i f hf;rw[hf];dsimp only;split at h
   .rename_i g a' b' hv;obtain⟨va,vb,h1,_,_⟩:=(bU (E:=E) hi .nil hv).pE;unfold lT;rw[h1];split at h
    .rename_i d hd;rw[hd];exact h
    .rename_i hd;rw[hd]
   .cases h
  .rename_i hne;split
   .rename_i f hf;exact absurd hf (hne f)
   .rfl
 .rename_i hne;split
  .rename_i c hc;exact absurd hc (hne c)
  .rfl
theorem awc {k k':bQ}{l:List bQ}{c:aA R.T}{cs:List (aA R.T)}{p:aT R.T (k::k'::l)}(h:jA R (k::k'::l) (c::cs)=some p):
 ∃x q,pk R k c=some x/\jA R (k'::l) cs=some q/\p=(x,q):=by
 have h':(match pk R k c with
  |some x=>match jA R (k'::l) cs with
   |some p=>some (x,p)|none=>none
  |none=>none)=some p:=h
 cases hu:pk R k c with
 |none=>rw[hu] at h';cases h'|some u=>
  rw[hu] at h';dsimp only at h';cases hq:jA R (k'::l) cs with
  |none=>rw[hq] at h';cases h'|some q=>rw[hq] at h';cases h';exact⟨u,q,rfl,rfl,rfl⟩
theorem Zd {F:Nat->List (ig R)}(hF:bg E F){f:Nat}{args:List (aA R.T)}{NC:List V}(ha:aK R Z Y.top args NC)(hi:aU Z b st fr Y):∀{l:List (ig R)}{τ:Ty}{x:Option (List (Den R.T τ))},(∀r∈l,r∈F f)->Ja R args (rP st args) l=some ⟨τ,x⟩->
 ∀y,x=some y->∃dP,vg (E.zw f) Y NC=some dP/\NC.all (fun x=>aQ (er x))=true/\oH E f dP (dN R τ) (y.map (aV R τ))
 | [],τ,x,_,h=>dh| ⟨dP,res,G,d0,own⟩::l,τ,x,hl,h=>by
   have rest:Ja R args (rP st args) l=some ⟨τ,x⟩->∀y,x=some y->∃dP,vg (E.zw f) Y NC=some dP/\NC.all (fun x=>aQ (er x))=true/\oH E f dP (dN R τ) (y.map (aV R τ)):=fun h=>Zd hF ha hi (fun r hr=>hl r (kQ _ hr)) h;unfold Ja at h;split at h
   .cases h
   .rename_i as' gW G' d' l' heq;obtain⟨e1,e2⟩:=List.cons.inj heq;subst e2;cases e1;split at h
    .rename_i p hp;obtain⟨hc,h⟩:=gG h;cases h;simp only[bf] at hc;obtain⟨⟨c1,c2⟩,c3⟩:=hc;intro y hy;have hb:=(hF f ⟨dP,[.d (.slice τ)],G',d',true⟩ (hl _ (jW ..)) p y hy).2 rfl τ rfl y rfl;cases hn:mD dP with
     |true=>obtain⟨b1,b2⟩:=hb.1 hn;obtain⟨vs',v1,v2⟩:=Nq hR hi ha;have Ns:=zQ hR dP p (rP st args) _ hn hp v1 20 Y (by have:=oD c2;omega);exact⟨_,by rw[b1];unfold vg;rw[if_neg aD];exact(v2 16).trans Ns,Nr hR c3 ha,b2⟩
     |false=>
      obtain⟨b1,b2⟩:=hb.2 hn;rw[hn,Bool.false_or] at c1;cases dP with
      |nil=>cases c1|cons k dP=>
      cases k<;>first| (cases c1;done)|skip
      cases dP with
      |nil=>cases c1|cons k' dP=>
      cases args with
      |nil=>exact absurd (show none=some p from hp) aD|cons c args=>
      obtain⟨v,vs,rfl,h1,h2⟩:=ha.fV;have hp0:jA R (.fU::k'::dP) (Fx st c::rP st args)=some p:=(by simpa only[rP] using hp);obtain⟨u,q,hu,q1,hpq⟩:=awc hR hp0;have hc:c= .fU:=by
       have hp':(pk R .fU (Fx st c)).isSome=true:=(by rw[hu];rfl);cases c<;>first|rfl|skip
       all_goals
        exfalso;revert hp';unfold Fx yF
        repeat' split
        all_goals (intro h;cases h)
      subst hc;have q2:aj7 (bM R (.fU::k'::dP) p)= .ak .nil []::bM R (k'::dP) q:=(by rw[hpq];rfl);rw[h1.uy];obtain⟨vs',v1,v2⟩:=Nq hR hi h2;have Ns:=zQ hR (k'::dP) q (rP st args) _ c1 q1 v1 20 Y (by have h9:=oD c2;rw[vH] at h9;omega);rw[q2] at b2;refine⟨_,by rw[b1];unfold vg;rw[if_pos rfl];dsimp only;rw[v2 16,Ns];rfl,?_,b2⟩;have:=Nr hR c3 ha;rw[h1.uy] at this;exact this
    .exact rest h
   .rename_i heq;obtain⟨_,e2⟩:=List.cons.inj heq;subst e2;exact rest h
theorem awd {β:Type}{F:Nat->List (ig R)}(hF:bg E F)(hi:aU Z aN st fr Y){k:aO R.T->Option β}{x:β}(h:zK R F o st k=some x)(hown:nR E st o=true){all os:List Oper}{Q:Fr->ah->Prop}(hw:fM all fr o=some true)(hk:∀(Z':bC) (st':aO R.T) (y:V) (Y':ah),aU Z' (aN+1) st' (fr.put o.dst y) Y'->Y'.next=Y.next->(∀p,qA E o p->bV true p st Z Y st' Z' Y')->k st'=some x->ay E all (aN+1) os (fr.put o.dst y) Y' Q):ay E all aN (o::os) fr Y Q:=by
 unfold zK at h;split at h
 .rename_i c d ho hd;split at h
  .rename_i f fT;split at h
   .rename_i g a' b' vs hf hvs;split at h
    .rename_i τ xo hfo;obtain⟨l,hl,h⟩:=iP.1 h;obtain⟨va,vb,h1,h2,h3⟩:=(bU (E:=E) hi .nil hf).pE;have hrel:=(h2.append (zP (E:=E) hi .nil hvs)).append h3;obtain⟨dP,has,hcl,hO⟩:=Zd hR hF hrel hi (fun _ hr=>hr) hfo l hl;have hg:E.own g d=true:=(by unfold nR at hown;rw[ho] at hown;dsimp only at hown;rw[fT] at hown;dsimp only at hown;rw[hf] at hown;dsimp only at hown;rw[hd] at hown;exact hown);have hdp:∀y:V,fr.put o.dst y=fr.set d y:=fun y=>by rw[hd];rfl
     refine ay.own hw ho fT h1 hd hg has hO hcl (fun cp hcp=>?_) ?_
     .refine hk (Z.jQ d aN) _ _ Y ?_ rfl ?_ h
      .have e:Y.eB aN (Y.top aN)=Y:=by
        unfold ah.eB;have:upd Y.top aN (Y.top aN)=Y.top:=by
         funext j;unfold upd;split
         .rename_i e;rw[e]
         .rfl
        rw[this]
       have:=hi.wk d aN (Y.top aN) (kR _) (EF _) hi.nx (fun u _ hu=>LJ);rw[e] at this;rw[hdp];refine this.put d (.of ?_);unfold aC;exact⟨cp,rfl,by rcases hcp with rfl|rfl;exact .inl rfl;exact .inr (.inl rfl)⟩
      .intro p hp;have e:Y.eB aN (Y.top aN)=Y:=by
        unfold ah.eB;have:upd Y.top aN (Y.top aN)=Y.top:=by
         funext j;unfold upd;split
         .rename_i e;rw[e]
         .rfl
        rw[this]
       have:=(bV.wk (nr:=true) (p:=p) (t:=d) (s:=aN) (n:=Y.top aN) (Z:=Z) (st:=st) (Y:=Y) hi.nx);rw[e] at this;exact this.congr rfl
     .refine hk (Z.jQ d aN) _ _ _ ?_ rfl ?_ h
      .rw[hdp];have:=hi.wk d aN (l.map (aV R τ)).length (kR _) (EF _) hi.nx (fun u _ hu=>LJ);refine this.put d (.of ?_);unfold aC;exact⟨_,rfl,.inr (.inr ⟨aN,rfl,by simp[bC.jQ,upd],by rw[MR,fF]⟩)⟩
      .intro p hp;exact(bV.wk (nr:=true) (p:=p) hi.nx).congr rfl
    .cases h
   .cases h
  .cases h
 .cases h
theorem awe {β:Type}{F:Nat->List (ig R)}(hF:bg E F)(hi:aU Z aN st fr Y){k:aO R.T->Option β}{x:β}(h:zK R F o st k=some x)(hown:nR E st o=true){ms:List Nat}{fs:List dR}{all os:List Oper}{Q:Fr->ah->Prop}(hw:fM all fr o=some true)(hk:∀(Z':bC) (st':aO R.T) (y:V) (Y':ah),aU Z' (aN+1) st' (fr.put o.dst y) Y'->Y'.next=Y.next->(∀p,qA E o p->bV true p st Z Y st' Z' Y')->k st'=some x->dL E ms all (aN+1) os (fr.put o.dst y) Y' (fs++[d9 E all fr o true]) Q):dL E ms all aN (o::os) fr Y fs Q:=by
 unfold zK at h;split at h
 .rename_i c d ho hd;split at h
  .rename_i f fT;split at h
   .rename_i g a' b' vs hf hvs;split at h
    .rename_i τ xo hfo;obtain⟨l,hl,h⟩:=iP.1 h;obtain⟨va,vb,h1,h2,h3⟩:=(bU (E:=E) hi .nil hf).pE;have hrel:=(h2.append (zP (E:=E) hi .nil hvs)).append h3;obtain⟨dP,has,hcl,hO⟩:=Zd hR hF hrel hi (fun _ hr=>hr) hfo l hl;have hg:E.own g d=true:=(by unfold nR at hown;rw[ho] at hown;dsimp only at hown;rw[fT] at hown;dsimp only at hown;rw[hf] at hown;dsimp only at hown;rw[hd] at hown;exact hown);have hdp:∀y:V,fr.put o.dst y=fr.set d y:=fun y=>by rw[hd];rfl
     refine dL.own hw ho fT h1 hd hg has hO hcl (fun cp hcp=>?_) ?_
     .refine hk (Z.jQ d aN) _ _ Y ?_ rfl ?_ h
      .have e:Y.eB aN (Y.top aN)=Y:=by
        unfold ah.eB;have:upd Y.top aN (Y.top aN)=Y.top:=by
         funext j;unfold upd;split
         .rename_i e;rw[e]
         .rfl
        rw[this]
       have:=hi.wk d aN (Y.top aN) (kR _) (EF _) hi.nx (fun u _ hu=>LJ);rw[e] at this;rw[hdp];refine this.put d (.of ?_);unfold aC;exact⟨cp,rfl,by rcases hcp with rfl|rfl;exact .inl rfl;exact .inr (.inl rfl)⟩
      .intro p hp;have e:Y.eB aN (Y.top aN)=Y:=by
        unfold ah.eB;have:upd Y.top aN (Y.top aN)=Y.top:=by
         funext j;unfold upd;split
         .rename_i e;rw[e]
         .rfl
        rw[this]
       have:=(bV.wk (nr:=true) (p:=p) (t:=d) (s:=aN) (n:=Y.top aN) (Z:=Z) (st:=st) (Y:=Y) hi.nx);rw[e] at this;exact this.congr rfl
     .refine hk (Z.jQ d aN) _ _ _ ?_ rfl ?_ h
      .rw[hdp];have:=hi.wk d aN (l.map (aV R τ)).length (kR _) (EF _) hi.nx (fun u _ hu=>LJ);refine this.put d (.of ?_);unfold aC;exact⟨_,rfl,.inr (.inr ⟨aN,rfl,by simp[bC.jQ,upd],by rw[MR,fF]⟩)⟩
      .intro p hp;exact(bV.wk (nr:=true) (p:=p) hi.nx).congr rfl
    .cases h
   .cases h
  .cases h
 .cases h
omit hR in
theorem akD {o:Oper}{os:List Oper}{d:Nat}(h:o.dst=some d):bR d (mW E (o::os))=true:=by unfold mW;rw[h];show (Nat.beq d d||_)=true;rw[zh];rfl
omit hR in
theorem akE {o:Oper}{os:List Oper}{d:Nat}(h:bR d (mW E os)=true):bR d (mW E (o::os))=true:=by
 unfold mW;cases o.dst with
 |none=>exact h|some e=>show (Nat.beq d e||(Nat.beq d (E.cn e)||bR d (mW E os)))=true;rw[h,Bool.or_true,Bool.or_true]
omit hR in
theorem bV.of {nr:Bool}{o:Nat}{st st':aO R.T}{Z Z':bC}{Y Y':ah}(h:bV true o st Z Y st' Z' Y'):bV nr o st Z Y st' Z' Y':=⟨h.ob,h.ln,h.aj,h.nx,h.lp,fun L _=>h.dp L (.inl rfl),h.ro⟩
omit hR in
theorem Kp.nr {nr ND:Bool}{W:List Nat}{st st':aO R.T}{fr fr':Fr}{Z Z':bC}{Y Y':ah}(hn:ND=true->nr=true)(h:Kp nr W st fr Y Z st' fr' Y' Z'):Kp ND W st fr Y Z st' fr' Y' Z':=⟨h.fr,fun o ho=>⟨(h.ob o ho).ob,(h.ob o ho).ln,(h.ob o ho).aj,(h.ob o ho).nx,(h.ob o ho).lp,fun L hL=>(h.ob o ho).dp L (hL.imp hn id),(h.ob o ho).ro⟩⟩
omit hR in
theorem Ze (h:xu E st o=true):yG E o=false:=by
 unfold xu at h;unfold yG;split at h
 .rename_i c hc
  (try rw[hc]);(try dsimp only)
  split at h
  .rename_i f hf
   (try rw[hf])
   cases f with
   |func g=>
    have h':E.imp g=true:=h
    (try dsimp only);rw[h'];rfl
   |tmp _=>rfl|const _=>rfl| «global» _=>rfl
  .cases h
 .cases h
omit hR in
theorem Zf {c:Call}{f:Operand}{g:FuncId}{a vb:List V}(h:yJ E fr o=false)(h1:o.op= .call c)(h2:c.callee= .value f)(h3:fr.ev E f= .fn (.func g) a vb):∀d,o.dst=some d->E.own g d=false:=by intro d hd;unfold yJ at h;rw[h1] at h;dsimp only at h;rw[h2] at h;dsimp only at h;unfold lT at h;rw[h3,hd] at h;exact h
theorem Dp {aj:Bool}{β:Type}{F:Nat->List (ig R)}(hF:bg E F){M:Nat->List (qO R)}(hM:Tw E M){all:List Oper}{k:aO R.T->Option β}{x:β}{Q:Fr->ah->Prop}:∀(os:List Oper)(aN:Nat)(Z:bC)(st:aO R.T)(fr:Fr)(Y:ah),(∀d,bR d (mW E os)=true->d<F0)->Z.aj.aj=aj->aU Z aN st fr Y->aN+os.length<=Y.next->yH E R aj F M all os st k=some x->(∀Z' st' fr' Y',aU Z' (aN+os.length) st' fr' Y'->Y.next<=Y'.next->Kp (os.all (yG E)) (mW E os) st fr Y Z st' fr' Y' Z'->k st'=some x->Q fr' Y')->ay E all aN os fr Y Q
 | [],aN,Z,st,fr,Y,hW0,bT,hi,hsn,h,hq=>ay.nil (hq Z st fr Y hi (iR _) .refl h)|o::os,aN,Z,st,fr,Y,hW0,bT,hi,hsn,h,hq=>by
  have iO:∀d,o.dst=some d->d<F0:=fun d hd=>hW0 d (akD hd);have hW1:∀d,bR d (mW E os)=true->d<F0:=fun d hd=>hW0 d (akE hd);have vO:∀{Y':ah},Y.next<=Y'.next->aN+1+os.length<=Y'.next:=fun h=>by rw[List.length_cons] at hsn;omega
  have hg:=akB (o:=o) (all:=all) hi;unfold yH at h;have hW:∀p,bR p (mW E (o::os))=false->qA E o p/\bR p (mW E os)=false:=fun p hp=>akC hp;have hq':∀(Z1:bC)(st1:aO R.T)(y:V)(aB:ah),(∀p,qA E o p->bV (yG E o) p st Z Y st1 Z1 aB)->Y.next<=aB.next->∀Z' st' fr' Y',aU Z' (aN+1+os.length) st' fr' Y'->aB.next<=Y'.next->Kp (os.all (yG E)) (mW E os) st1 (fr.put o.dst y) aB Z1 st' fr' Y' Z'->k st'=some x->Q fr' Y':=fun Z1 st1 y aB hkp h1 Z' st' fr' Y' hi' hn zS hk=>
   hq Z' st' fr' Y' (by rw[List.length_cons,Nat.add_comm os.length,<-oV];exact hi') (eX h1 hn) (((Kp.op (Q:=fun p=>qA E o p) (fun p hp=>⟨(hW p hp).1.1,(hW p hp).1⟩) hkp).nr (ND:=(o::os).all (yG E)) (fun e=>by rw[List.all_cons,bf] at e;exact e.1)).trans ((zS.mono fun p hp=>(hW p hp).2).nr (fun e=>by rw[List.all_cons,bf] at e;exact e.2))) hk
  split at h
  .rename_i hgm;rw[hgm] at hg;cases hown:nR E st o with
   |true=>rw[hown,cond_true] at h;exact awd hR hF hi h hown hg (fun Z' st' y Y' hi' hn hkp hk=>Dp hF hM os (aN+1) Z' st' _ Y' hW1 ((congrArg eP.aj (FV hkp)).trans bT) hi' (vO (zq hn.symm)) hk (hq' Z' st' y Y' (fun p hp=>(hkp p hp).of) (zq hn.symm)))
   |false=>
   rw[hown,cond_false] at h;have eZ:=NA hi hown;cases himp:xu E st o with
   |true=>rw[himp,cond_true] at h;obtain⟨c,f,g,a,vb,e1,e2,e3,e4,n,v,Y',e5,st1,i1,i2,i3,i4⟩:=Y9 hR hM hi RS h;exact ay.AY hg e1 e2 e3 e4 ⟨n,v,Y',e5,Dp hF hM os (aN+1) Z st1 _ Y' hW1 bT i1 (vO i2) i4 (hq' Z st1 v Y' (fun p _=>by rw[Ze himp];exact i3 p) i2)⟩ (Zf eZ e1 e2 e3)
   |false=>
   rw[himp,cond_false] at h;exact Za hR hF bT iO hi h (rest:=fun fr' Y'=>ay E all (aN+1) os fr' Y' Q) (fun y Y' hst hr=>hst.1 eZ all os Q hg hr) (fun Z' st' y Y' hi' hn hkp hk=>Dp hF hM os (aN+1) Z' st' _ Y' hW1 ((congrArg eP.aj (FV hkp)).trans bT) hi' (vO (zq hn.symm)) hk (hq' Z' st' y Y' (fun p hp=>(hkp p hp).of) (zq hn.symm)))
  .rename_i hgm;rw[hgm] at hg;refine ay.skip hg (Dp hF hM os (aN+1) Z _ _ Y hW1 bT ?_ (vO (iR _)) h (hq' Z _ aP Y (fun p _=>bV.same zk) (iR _)));exact(hi.le (kR _)).iF o.dst gX
  .rename_i j w c g hgm;rw[hgm] at hg;obtain⟨⟨n,hn⟩,hg2⟩:=hg;cases hown:(nR E st o||nR E (st.oJ g) o) with
   |true=>rw[hown] at h;cases h|false=>
   rw[hown,cond_false] at h;rw[sF] at hown;have eZ:=NA hi hown.1;cases himp:xu E (st.oJ g) o with
   |true=>
    rw[himp,cond_true] at h;obtain⟨e1,e2,e3⟩:=FU hi n j w c g hn;cases c with
    |true=>rw[cond_true] at h;obtain⟨l1,l2⟩:=TA hi (e1 rfl).2 (TB hi n j w g hn);obtain⟨c,f,g',a,vb,f1,f2,f3,f4,n',v,Y',f5,st1,i1,i2,i3,i4⟩:=Y9 hR hM l1 RS h;exact ay.AY hg2 f1 f2 f3 f4 ⟨n',v,Y',f5,Dp hF hM os (aN+1) Z st1 _ Y' hW1 bT i1 (vO i2) i4 (hq' Z st1 v Y' (fun p _=>by rw[Ze himp];exact(i3 p).from l2) i2)⟩ (Zf eZ f1 f2 f3)
    |false=>rw[cond_false] at h;obtain⟨l1,l2⟩:=Zb hi hn;exact ay.skip hg2 (Dp hF hM os (aN+1) Z _ _ Y hW1 bT ((l1.le (kR _)).iF o.dst gX) (vO (iR _)) h (hq' Z _ aP Y (fun p _=>bV.same (Av.trans l2)) (iR _)))
   |false=>
   rw[himp,cond_false] at h;exact av9 hR hF bT iO hi hn h (rest:=fun fr' Y'=>ay E all (aN+1) os fr' Y' Q) (fun e y Y' hst hr=>hst.1 eZ all os Q (by rw[hg2,e]) hr) (fun e hr=>ay.skip (by rw[hg2,e]) hr)
    (fun Z' st' y Y' hi' hn hkp hk=>Dp hF hM os (aN+1) Z' st' _ Y' hW1 ((congrArg eP.aj (FV hkp)).trans bT) hi' (vO (zq hn.symm)) hk (hq' Z' st' y Y' (fun p hp=>(hkp p hp).of) (zq hn.symm)))
  .cases h
def Key.mv (c:eP):Key->Key
 |.obj l=>.obj (c.lc l.2)|k=>k
def dR.mv (c:eP)(f:dR):dR:=⟨f.qj,f.mh,f.t.map (Key.mv c),f.w.map (Key.mv c)⟩
omit hR in
theorem awf (c:eP)(a b:Key):(a.mv c).eq (b.mv c)=a.nm.eq b.nm:=by
 cases a<;>cases b<;>try rfl
 rename_i l m;show rF (c.lc l.2) (c.lc m.2)=rF (1,l.2) (1,m.2);by_cases e:l.2=m.2
 .rw[e,XB];unfold rF;simp
 .rw[Yn c e,XB];simp[e]
omit hR in
theorem awg (c:eP)(f g:dR):clash (f.mv c) (g.mv c)=clash f.nm g.nm:=by
 have hr:∀k:Key,(k.mv c).eq .rest=k.nm.eq .rest:=fun k=>by cases k<;>rfl
 have hs:∀k:Key,(k.mv c).state=k.nm.state:=fun k=>by cases k<;>rfl
 unfold clash dR.mv dR.nm;dsimp only;simp only[List.any_map,Function.comp_def,awf,hr,hs]
omit hR in
theorem getD_map (h:dR->dR)(ha:h gJ=gJ):∀(fs:List dR)(i:Nat),(fs.map h).getD i gJ=h (fs.getD i gJ)
 | [],i=>by simp[ha]|f::fs,0=>rfl|f::fs,i+1=>by simpa using getD_map h ha fs i
omit hR in
theorem awh (c:eP)(ms:List Nat)(fs:List dR):AP ms (fs.map (dR.mv c))=AP ms (fs.map dR.nm):=by unfold AP Wi;simp only[fF,getD_map (dR.mv c) rfl,getD_map dR.nm rfl,awg]
omit hR in
theorem vP (c:eP)(l:List Key):(nu l).mv c=nu (l.map (Key.mv c)):=rfl
omit hR in
theorem zT (c:eP)(l:List Key):(ny l).mv c=ny (l.map (Key.mv c)):=rfl
omit hR in
theorem mv_nil (c:eP):(nu []).mv c=nu []:=rfl
omit hR in
theorem akF (c:eP):gJ.mv c=gJ:=rfl
omit hR in
theorem awi {top:Nat->Nat}{x:aA R.T}{v:V}(hg:x≠ .gone)(hv:(∀o t,x≠ .aS o t)/\∀o t a b,x≠ .sub o t a b)(h:aC R Z top x v):jm v=(aiY x).map (Key.mv Z.aj):=by
 cases x with
 |gone=>exact absurd rfl hg|opt j w y=>exact h.ai1.elim|agg cs=>obtain⟨l,rfl,_⟩:=h.mX;rfl
 |bW cs=>obtain⟨l,rfl,_⟩:=h.Jf;rfl
 |ak c t l=>obtain⟨l,rfl,_⟩:=h.mY;rfl
 |ref p off=>obtain⟨s,_,rfl⟩:=h.rT;rfl
 |fu p=>obtain⟨s,_,rfl⟩:=h.Ni;rfl
 |aY l p=>obtain⟨s,rfl,_⟩:=h.uz;rfl
 |fn f a b=>obtain⟨a',b',rfl,_⟩:=h.pE;rfl
 |aS o t=>exact absurd rfl (hv.1 o t)|sub o t a b=>exact absurd rfl (hv.2 o t a b)|mU p t i off=>obtain⟨s,_,_,rfl⟩:=h.FL;rfl
 |sv p off k n lo hi=>obtain⟨s,_,_,rfl⟩:=h.C9;rfl
 |sel p off k n i m=>obtain⟨s,_,_,_,rfl⟩:=h.Nj;rfl
 |vE k n y i=>obtain⟨_,_,rfl⟩:=h.SS;rfl
 |_=>unfold aC at h;subst h;rfl
omit hR in
theorem akG {x:aA R.T}(h:Jd x=true):x≠ .gone/\(∀o t,x≠ .aS o t)/\∀o t a b,x≠ .sub o t a b:=⟨(by rintro rfl;cases h),(by rintro o t rfl;cases h),(by rintro o t a b rfl;cases h)⟩
omit hR in
theorem pW (hi:aU Z b st fr Y){x:Operand}{v:aA R.T}(h:dG [] st x=some v)(hg:Jd v=true):(Bc st x).map (Key.mv Z.aj)=jm (fr.ev E x):=by unfold Bc;rw[h];exact(awi (akG hg).1 (akG hg).2 (bU hi .nil h)).symm
omit hR in
theorem akH (hi:aU Z b st fr Y):∀{l:List Operand}{vs:List (aA R.T)},qP [] st l=some vs->vs.all Jd=true->(l.flatMap (fun x=>Bc st x)).map (Key.mv Z.aj)=l.flatMap fun x=>jm (fr.ev E x)
 | [],vs,h,_=>rfl|x::l,vs,h,hg=>by
  unfold qP at h;cases h1:dG [] st x with
  |none=>simp only[h1] at h;cases h|some a=>
   cases h2:qP [] st l with
   |none=>simp only[h1,h2] at h;cases h|some dP=>simp only[h1,h2] at h;cases h;rw[List.all_cons,bf] at hg;rw[lu,lu,qH,pW (E:=E) hi h1 hg.1,akH hi h2 hg.2]
omit hR in
theorem awj {aj:Bool}{β:Type}{F:Nat->List (ig R)}{k:aO R.T->Option β}{x:β}(h:runM E R aj F o st k=some x)(hp:∀c a b,o.op≠ .pick c a b)(hl:∀t m y ok,o.op≠ .lookup t m y ok)(hst:∀t a y,o.op≠ .store t a y):∃r,zJ E R aj F [] o.dst o.op st=some r:=by
 unfold runM at h;split at h
 .rename_i c a b hop;exact absurd hop (hp _ _ _)
 .rename_i t a y hop;exact absurd hop (hst _ _ _)
 .rename_i t m y ok hop;exact absurd hop (hl _ _ _ _)
 .cases hr:zJ E R aj F [] o.dst o.op st with
  |some r=>exact⟨r,rfl⟩|none=>rw[hr] at h;cases h
omit hR in
theorem Bn {aj:Bool}{F:Nat->List (ig R)}{g:List (Nat×Bool)}{d:Option Nat}{op:Op}{r:fE R}(h:zJ E R aj F g d op st=some r):uq E R g d op st=some r\/vJ E R aj F g d op st=some r:=by
 unfold zJ at h;split at h
 .rename_i r' hx;cases h;exact .inl hx
 .exact .inr h
omit hR in
theorem akI {top:Nat->Nat}:∀{x:List (aA R.T)}{v:List V},SL x=true->aK R Z top x v->v.all (fun a=>aQ (er a))=false
 | [],_,h,_=>dh|x::l,v,h,hr=>by
  obtain⟨y,ys,rfl,h1,h2⟩:=hr.fV;rw[List.all_cons];by_cases e:∃o off k n lo hi,x= .sv o off k n lo hi
  .obtain⟨o,off,k,n,lo,hi,rfl⟩:=e;obtain⟨s,_,_,rfl⟩:=h1.C9;simp[er,aQ]
  .by_cases e2:∃o off,x= .ref o off
   .obtain⟨o,off,rfl⟩:=e2;obtain⟨s,_,rfl⟩:=h1.rT;simp[er,aQ]
   have h':SL l=true:=by
    cases x<;>first|exact h|exact absurd ⟨_,_,_,_,_,_,rfl⟩ e|exact absurd ⟨_,_,rfl⟩ e2
   rw[akI h' h2,Bool.and_false]
omit hR in
theorem TD (hi:aU Z b st fr Y)(iO:∀d,o.dst=some d->d<F0):(SK o).map (Key.mv Z.aj)=wG fr o:=by
 unfold SK wG;cases hd:o.dst with
 |none=>rfl|some d=>dsimp only;rw[hi.at (iO d hd)];rfl
theorem awk {aj:Bool}{β:Type}{F:Nat->List (ig R)}(bT:Z.aj.aj=aj)(iO:∀d,o.dst=some d->d<F0)(hi:aU Z b st fr Y){k:aO R.T->Option β}{x:β}(h:runM E R aj F o st k=some x)(hd:zM E aj st o=true):(Nc E aj st o).mv Z.aj=gB E fr o:=by
 unfold Nc gB;have hop:=awj h;cases ho:o.op<;>rw[ho] at hop<;>dsimp only<;>(try exact mv_nil _)<;>(try exact akF _);case move y=>
  unfold zM at hd;rw[bf] at hd;have hd:=hd.2;rw[ho] at hd;dsimp only at hd;have hz:yh E o.dst=false:=by simpa using hd
  rw[hz];exact mv_nil _
 case buildSlice t len ps=>
  cases hz:zx E o.dst
  .exact mv_nil _
  .exact akF _
 case load t a=>
  obtain⟨r,hr⟩:=hop aD aD aD;rcases Bn hr with hr|hr
  .unfold uq at hr;dsimp only at hr;split at hr
   .rename_i gl _;split at hr
    .rename_i k n v hg;obtain⟨cs,_,g1,_⟩:=Y0 hg;have e1:Bc st (Operand.global gl)=[]:=rfl;have e2:jm (fr.ev E (.global gl))=[]:=(by rw[Y2 hR g1];rfl);rw[vP,e1,e2];rfl
    .cases hr
   .split at hr
    .rename_i hv;rw[vP,pW (E:=E) hi hv rfl]
    .rename_i hv;rw[vP,pW (E:=E) hi hv rfl]
    .rename_i hv;rw[vP,pW (E:=E) hi hv rfl]
    .cases hr
  unfold vJ at hr;dsimp only at hr;split at hr
  .rename_i hv;rw[vP,pW (E:=E) hi hv rfl]
  .rename_i hv;rw[vP,pW (E:=E) hi hv rfl]
  .rename_i hv;rw[vP,pW (E:=E) hi hv rfl]
  .cases hr
 case store t a y=>
  have h':=h;unfold runM at h';rw[ho] at h';dsimp only at h';split at h'
  .rename_i hst;unfold Yf at hst;split at hst
   .rename_i hv _;rw[zT,pW (E:=E) hi hv rfl]
   .cases hst
  .split at h'
   .rename_i hr;rcases Bn hr with hr|hr
    .unfold uq at hr;dsimp only at hr;split at hr
     .rename_i hv _;rw[zT,pW (E:=E) hi hv rfl]
     .rename_i hv _;rw[zT,pW (E:=E) hi hv rfl]
     .cases hr
    unfold vJ at hr;dsimp only at hr;split at hr
    .rename_i hv _;rw[zT,pW (E:=E) hi hv rfl]
    .cases hr
   .cases h'
 case convert a b' y=>
  obtain⟨r,hr⟩:=hop aD aD aD;rcases Bn hr with hr|hr
  .unfold uq at hr;dsimp only at hr;split at hr
   .rename_i hv;rw[vP,pW (E:=E) hi hv rfl]
   .cases hr
  unfold vJ at hr;dsimp only at hr;split at hr
  .rename_i v hv;rw[vP,pW (E:=E) hi hv (by unfold Sr at hr;split at hr<;>first|rfl|cases hr)]
  .cases hr
 case slice t y lo hi' mx=>
  obtain⟨r,hr⟩:=hop aD aD aD;cases mx with
  |some m=>
   rcases Bn hr with hr|hr
   .cases hi' with
    |none=>unfold uq at hr;cases hr|some h1=>
     unfold uq at hr;dsimp only at hr;split at hr
     .rename_i hv _ _ _;rw[vP,pW (E:=E) hi hv rfl]
     .cases hr
   .unfold vJ at hr;cases hr
  |none=>
   rcases Bn hr with hr|hr
   .unfold uq at hr;dsimp only at hr;split at hr
    .rename_i v hv;have key:∀lo hi,CY E R t v lo hi st=some r->Jd v=true:=(by intro lo hi hs;unfold CY at hs;split at hs<;>first|rfl|cases hs);rw[vP,pW (E:=E) hi hv (by
      split at hr
      .exact key _ _ hr
      .split at hr
       .exact key _ _ hr
       .cases hr
      .split at hr
       .exact key _ _ hr
       .cases hr
      .split at hr
       .exact key _ _ hr
       .cases hr)]
    .cases hr
   unfold vJ at hr;dsimp only at hr;split at hr
   .rename_i v hv;have hw:IX st v=none:=(by unfold zM at hd;rw[bf] at hd;have hd:=hd.2;rw[ho] at hd;dsimp only at hd;rw[hv] at hd;simpa using hd);have key:∀lo hi,CW E R t v lo hi st=some r->Jd v=true:=by
     intro lo hi hs;unfold CW Sw at hs;rw[hw] at hs;dsimp only at hs;unfold Sv at hs;split at hs
     .split at hs<;>first|rfl|cases hs
     .cases hs
    rw[vP,pW (E:=E) hi hv (by
     split at hr
     .exact key _ _ hr
     .split at hr
      .exact key _ _ hr
      .cases hr
     .split at hr
      .exact key _ _ hr
      .cases hr
     .split at hr
      .exact key _ _ hr
      .cases hr)]
   .cases hr
 case lookup t m y ok=>
  have h':=h;unfold runM at h';rw[ho] at h';dsimp only at h';split at h'
  .rename_i hsm;unfold Ye at hsm;cases hsm
  .split at h'
   .rename_i hr;rcases Bn hr with hr|hr
    .unfold uq at hr;cases hr
    unfold vJ at hr;dsimp only at hr;split at hr
    .rename_i hv _;rw[vP,pW (E:=E) hi hv (by unfold Sy at hr;cases hr)]
    .cases hr
   .cases h'
 case mapUpdate t m k' v=>
  obtain⟨r,hr⟩:=hop aD aD aD;rcases Bn hr with hr|hr
  .unfold uq at hr;cases hr
  unfold vJ at hr;dsimp only at hr;split at hr
  .rename_i hv _ _;rw[zT,pW (E:=E) hi hv (by unfold IY at hr;cases hr)]
  .cases hr
 case insert t m k' v=>
  obtain⟨r,hr⟩:=hop aD aD aD;rcases Bn hr with hr|hr
  .unfold uq at hr;cases hr
  unfold vJ at hr;dsimp only at hr;split at hr
  .rename_i hv _ _;rw[zT,pW (E:=E) hi hv (by unfold IY at hr;cases hr)]
  .cases hr
 case alloc t=>rw[zT];exact congrArg ny (TD hi iO)
 case box t y=>rw[zT];exact congrArg ny (TD hi iO)
 case makeMap t y=>rw[zT];exact congrArg ny (TD hi iO)
 case makeSlice t y z=>rw[zT];exact congrArg ny (congrArg (Key.top:: ·) (TD hi iO))
 case call c=>
  obtain⟨r,hr⟩:=hop aD aD aD;unfold zM at hd;rw[bf,xZ] at hd;obtain⟨hown,hd⟩:=hd;rw[ho] at hd;dsimp only at hd;cases hc:c.callee with
  |invoke y m=>rfl|builtin bi=>
   rw[hc] at hd;dsimp only at hd;rw[wM] at hd;rcases hd with hd|hd
   .cases bi<;>dsimp only at hd⊢ <;>(try cases hd);rw[hi.aj,bT];rfl
   split at hd
   .rename_i vs hvs;have:=akH (E:=E) hi hvs hd;cases bi<;>dsimp only<;>(try rw[<-this])<;>(try rfl);rw[hi.aj,bT];cases aj<;>rfl
   .cases hd
  |value f=>
   rcases Bn hr with hr|hr
   .unfold uq at hr;dsimp only at hr;rw[hc] at hr;cases hr
   unfold vJ at hr;dsimp only at hr;rw[hc] at hd hr;dsimp only at hd hr;split at hd
   .rename_i f' a' b' vs hf hvs;simp only[hf,hvs] at hr;cases himp:E.imp f' with
    |true=>rw[himp] at hr;cases hr|false=>
     obtain⟨va,vb,h1,h2,h3⟩:=(bU (E:=E) hi .nil hf).pE;dsimp only;rw[hf,h1];dsimp only;have eZ:lT E fr o f=false:=(by have:=NA hi hown;unfold yJ at this;rw[ho] at this;dsimp only at this;rw[hc] at this;exact this);simp only[himp,eZ,dI,if_false];rw[hvs];dsimp only;have hrel:=(h2.append (zP (E:=E) hi .nil hvs)).append h3;cases hcl:CS (a'++vs++b') with
     |true=>rw[Nr hR hcl hrel];rfl|false=>rw[hcl,Bool.false_or] at hd;rw[akI hd hrel];rfl
   .cases hd
omit hR in
theorem TF (c:eP)(all:List Oper)(o:Oper):(r9 all o).map (Key.mv c)=r9 all o:=by
 have key:∀l:List Key,(∀k∈l,∃t,k= .slot t)->l.map (Key.mv c)=l:=by
  intro l;induction l with
  |nil=>intro _;rfl|cons k l ih=>intro h;obtain⟨t,e⟩:=h k (jW ..);rw[iH,ih fun k hk=>h k (kQ _ hk),e];rfl
 refine key _ fun k hk=>?_;unfold r9 at hk;rw[qF] at hk;rcases hk with hk|hk
 .rw[List.mem_filterMap] at hk;obtain⟨a,_,ha⟩:=hk;split at ha
  .cases ha;exact⟨_,rfl⟩
  .cases ha
 .split at hk
  .split at hk
   .exact⟨_,jq.1 hk⟩
   .cases hk
  .cases hk
omit hR in
theorem TG (c:eP)(o:Oper):(nV o).map (Key.mv c)=nV o:=by unfold nV;cases o.dst<;>rfl
omit hR in
theorem Zg {c:eP}(f:dR)(a b:List Key)(ha:a.map (Key.mv c)=a)(hb:b.map (Key.mv c)=b):dR.mv c ⟨f.qj,f.mh,a++f.t,b++f.w⟩=⟨(f.mv c).qj,(f.mv c).mh,a++(f.mv c).t,b++(f.mv c).w⟩:=by unfold dR.mv;dsimp only;rw[qH,qH,ha,hb]
theorem awl {aj:Bool}{β:Type}{F:Nat->List (ig R)}(bT:Z.aj.aj=aj)(iO:∀d,o.dst=some d->d<F0)(hi:aU Z b st fr Y){k:aO R.T->Option β}{x:β}{all:List Oper}(h:runM E R aj F o st k=some x)(hd:zM E aj st o=true):(sU E aj all st o true).mv Z.aj=d9 E all fr o true:=by have key:=awk hR bT iO hi h hd;unfold sU d9;rw[if_pos rfl,if_pos rfl,<-key];exact Zg _ _ _ (TF _ _ _) (TG _ _)
omit hR in
theorem akJ {aj:Bool}{all:List Oper}{c:eP}:(sU E aj all st o false).mv c=d9 E all fr o false:=by unfold sU d9 dR.mv;rw[if_neg aD,if_neg aD];dsimp only;rw[TF,TG]
omit hR in
theorem awm {aj:Bool}{all:List Oper}{c:Call}{f:Operand}{g:FuncId}{a vb:List V}(hi:aU Z b st fr Y)(himp:xu E st o=true)(eZ:yJ E fr o=false)(h1:o.op= .call c)(h2:c.callee= .value f)(h3:fr.ev E f= .fn (.func g) a vb)(h4:E.imp g=true):(sU E aj all st o true).mv Z.aj=d9 E all fr o true:=by
 have key:(Nc E aj st o).mv Z.aj=gB E fr o:=by
  unfold xu at himp;rw[h1] at himp;dsimp only at himp;rw[h2] at himp;dsimp only at himp;unfold yJ at eZ;rw[h1] at eZ;dsimp only at eZ;rw[h2] at eZ;dsimp only at eZ;unfold Nc gB;rw[h1];dsimp only;rw[h2];dsimp only;rw[eZ,h3];split at himp
  .rename_i g' a' b' hf
   (try rw[hf])
   (try dsimp only)
   rw[if_pos himp,if_neg aD]
   (try dsimp only)
   rw[if_pos h4];rfl
  .cases himp
 unfold sU d9;rw[if_pos rfl,if_pos rfl,<-key];exact Zg _ _ _ (TF _ _ _) (TG _ _)
omit hR in
theorem awn {β:Type}{F:Nat->List (ig R)}{k:aO R.T->Option β}{x:β}{all:List Oper}(hi:aU Z b st fr Y)(h:zK R F o st k=some x)(hown:nR E st o=true):(Nf all o).mv Z.aj=d9 E all fr o true:=by
 have key:gB E fr o=ny [.top]:=by
  unfold zK at h;split at h
  .rename_i c d ho hd;split at h
   .rename_i f fT;split at h
    .rename_i g a' b' vs hf hvs;obtain⟨va,vb,h1,_,_⟩:=(bU (E:=E) hi .nil hf).pE;have hg:E.own g d=true:=(by unfold nR at hown;rw[ho] at hown;dsimp only at hown;rw[fT] at hown;dsimp only at hown;rw[hf] at hown;dsimp only at hown;rw[hd] at hown;exact hown);have eZ:lT E fr o f=true:=(by unfold lT;rw[h1,hd];exact hg);unfold gB;rw[ho];dsimp only;rw[fT];dsimp only;rw[if_pos eZ]
    .cases h
   .cases h
  .cases h
 unfold Nf d9;rw[if_pos rfl,key];exact Zg ⟨false,false,[],[.top]⟩ _ _ (TF _ _ _) (TG _ _)
theorem Ju {aj:Bool}{β:Type}{F:Nat->List (ig R)}(hF:bg E F){M:Nat->List (qO R)}(hM:Tw E M){ms:List Nat}{all:List Oper}{k:aO R.T->Option β}{x:β}{Q:Fr->ah->Prop}:∀(os:List Oper)(aN:Nat)(Z:bC)(st:aO R.T)(fr:Fr)(Y:ah)(fs:List dR),(∀d,bR d (mW E os)=true->d<F0)->Z.aj.aj=aj->aU Z aN st fr Y->aN+os.length<=Y.next->qU E R aj F M ms all os st fs k=some x->(∀Z' st' fr' Y',aU Z' (aN+os.length) st' fr' Y'->Y.next<=Y'.next->Kp (os.all (yG E)) (mW E os) st fr Y Z st' fr' Y' Z'->k st'=some x->Q fr' Y')->dL E ms all aN os fr Y (fs.map (dR.mv Z.aj)) Q
 | [],aN,Z,st,fr,Y,fs,hW0,bT,hi,hsn,h,hq=>by unfold qU at h;obtain⟨h1,h⟩:=gG h;exact dL.nil (by rw[awh];exact h1) (hq Z st fr Y hi (iR _) .refl h)
 |o::os,aN,Z,st,fr,Y,fs,hW0,bT,hi,hsn,h,hq=>by
  have iO:∀d,o.dst=some d->d<F0:=fun d hd=>hW0 d (akD hd);have hW1:∀d,bR d (mW E os)=true->d<F0:=fun d hd=>hW0 d (akE hd);have vO:∀{Y':ah},Y.next<=Y'.next->aN+1+os.length<=Y'.next:=fun h=>by rw[List.length_cons] at hsn;omega
  have hg:=akB (o:=o) (all:=all) hi;unfold qU at h;have hW:∀p,bR p (mW E (o::os))=false->qA E o p/\bR p (mW E os)=false:=fun p hp=>akC hp;have hq':∀(Z1:bC)(st1:aO R.T)(y:V)(aB:ah),(∀p,qA E o p->bV (yG E o) p st Z Y st1 Z1 aB)->Y.next<=aB.next->∀Z' st' fr' Y',aU Z' (aN+1+os.length) st' fr' Y'->aB.next<=Y'.next->Kp (os.all (yG E)) (mW E os) st1 (fr.put o.dst y) aB Z1 st' fr' Y' Z'->k st'=some x->Q fr' Y':=fun Z1 st1 y aB hkp h1 Z' st' fr' Y' hi' hn zS hk=>
   hq Z' st' fr' Y' (by rw[List.length_cons,Nat.add_comm os.length,<-oV];exact hi') (eX h1 hn) (((Kp.op (Q:=fun p=>qA E o p) (fun p hp=>⟨(hW p hp).1.1,(hW p hp).1⟩) hkp).nr (ND:=(o::os).all (yG E)) (fun e=>by rw[List.all_cons,bf] at e;exact e.1)).trans ((zS.mono fun p hp=>(hW p hp).2).nr (fun e=>by rw[List.all_cons,bf] at e;exact e.2))) hk
  have run:∀(st1:aO R.T),st1.ob=st.ob->aU Z aN st1 fr Y->fM all fr o=some true->(bif xu E st1 o then (bif nR E st1 o then none else FH R M o st1 (fun st'=>qU E R aj F M ms all os st' (fs++[sU E aj all st1 o true]) k)) else bif nR E st1 o then zK R F o st1 (fun st'=>qU E R aj F M ms all os st' (fs++[Nf all o]) k) else bif !(zM E aj st1 o) then none else runM E R aj F o st1 (fun st'=>qU E R aj F M ms all os st' (fs++[sU E aj all st1 o true]) k))=some x->dL E ms all aN (o::os) fr Y (fs.map (dR.mv Z.aj)) Q:=by
   intro st1 Ib hi hg h;have hkq:∀(st':aO R.T)(Z':bC)(Y':ah),(∀p,qA E o p->bV true p st1 Z Y st' Z' Y')->∀p,qA E o p->bV true p st Z Y st' Z' Y':=fun st' Z' Y' h p hp=>(h p hp).from Ib;cases himp:xu E st1 o with
   |true=>
    rw[himp,cond_true] at h;cases hown:nR E st1 o with
    |true=>rw[hown] at h;cases h|false=>
    rw[hown,cond_false] at h;have eZ:=NA hi hown;obtain⟨c,f,g',a,vb,f1,f2,f3,f4,n',v,Y',f5,st2,i1,i2,i3,i4⟩:=Y9 hR hM hi RS h;have hf:=awm (aj:=aj) (all:=all) hi himp eZ f1 f2 f3 f4;refine dL.AY hg f1 f2 f3 f4 ⟨n',v,Y',f5,?_⟩ (Zf eZ f1 f2 f3);have:=Ju hF hM os (aN+1) Z st2 _ Y' _ hW1 bT i1 (vO i2) i4 (hq' Z st2 v Y' (fun p _=>by rw[Ze himp];exact(i3 p).from Ib) i2);rw[qH,iH,List.map_nil,hf] at this;exact this
   |false=>
   rw[himp,cond_false] at h;cases hown:nR E st1 o with
   |true=>rw[hown,cond_true] at h;refine awe hR hF hi h hown hg (fun Z' st' y Y' hi' hn hkp hk=>?_);have:=Ju hF hM os (aN+1) Z' st' _ Y' _ hW1 ((congrArg eP.aj (FV hkp)).trans bT) hi' (vO (zq hn.symm)) hk (hq' Z' st' y Y' (fun p hp=>(hkq st' Z' Y' hkp p hp).of) (zq hn.symm));rw[FV hkp,qH,iH,List.map_nil,awn hi h hown] at this;exact this
   |false=>
   rw[hown,cond_false] at h;cases hd:zM E aj st1 o
   .rw[hd] at h;cases h
   .rw[hd] at h;have h':runM E R aj F o st1 (fun st'=>qU E R aj F M ms all os st' (fs++[sU E aj all st1 o true]) k)=some x:=h;have hf:=awl hR (all:=all) bT iO hi h' hd;exact Za hR hF bT iO hi h' (rest:=fun fr' Y'=>dL E ms all (aN+1) os fr' Y' (fs.map (dR.mv Z.aj)++[d9 E all fr o true]) Q) (fun y Y' hst hr=>hst.2 (NA hi (by unfold zM at hd;rw[bf,xZ] at hd;exact hd.1)) ms all os (fs.map (dR.mv Z.aj)) Q hg hr) (fun Z' st' y Y' hi' hn hkp hk=>by have:=Ju hF hM os (aN+1) Z' st' _ Y' _ hW1 ((congrArg eP.aj (FV hkp)).trans bT) hi' (vO (zq hn.symm)) hk (hq' Z' st' y Y' (fun p hp=>(hkq st' Z' Y' hkp p hp).of) (zq hn.symm));rw[FV hkp,qH,iH,List.map_nil,hf] at this;exact this)
  split at h
  .rename_i hgm;rw[hgm] at hg;exact run st rfl hi hg h
  .rename_i hgm;rw[hgm] at hg;have:=Ju hF hM os (aN+1) Z _ _ Y _ hW1 bT ((hi.le (kR _)).iF o.dst gX) (vO (iR _)) h (hq' Z _ aP Y (fun p _=>bV.same zk) (iR _));rw[qH,iH,List.map_nil,akJ (fr:=fr)] at this;exact dL.skip hg this
  .rename_i j w c g hgm;rw[hgm] at hg;obtain⟨⟨n,hn⟩,hg2⟩:=hg;obtain⟨e1,e2,e3⟩:=FU hi n j w c g hn;cases c with
   |true=>obtain⟨l1,l2⟩:=TA hi (e1 rfl).2 (TB hi n j w g hn);exact run (st.oJ g) l2 l1 hg2 h
   |false=>obtain⟨l1,l2⟩:=Zb hi hn;have:=Ju hF hM os (aN+1) Z _ _ Y _ hW1 bT ((l1.le (kR _)).iF o.dst gX) (vO (iR _)) h (hq' Z _ aP Y (fun p _=>bV.same (Av.trans l2)) (iR _));rw[qH,iH,List.map_nil,akJ (fr:=fr)] at this;exact dL.skip hg2 this
  .cases h
end
section
variable {E:Env}{fr:Fr}{Y:ah}
def ah.enter (Y:ah)(fr:Fr)(ps:Array Tmp)(gF body:Code):ah:=({Y with next:=Y.next+1}:ah).nM Y.next {st:=0,pend:=none,fr:=fr,ps:=ps.toList,gF:=gF,body:=body}
def TH (E:Env)(l:Nat)(args:List V)(Y:ah)(b:Bool)(Y':ah):Prop:=∃n,yt (bJ E n) l args Y=some (.bool b,Y')
theorem aF.range {f:Operand}{ps:Array Tmp}{gF body:Code}{g:FuncId}{a b:List V}{Q:Ex->Fr->ah->Prop}(hf:fr.ev E f= .fn (.func g) a b)(hi:E.imp g=true)(h:iW E g (a++[.fn (.yield Y.next) [] []]++b) (fr.d+1) (Y.enter fr ps gF body) (fun _ dn=>∃r,dn.loops Y.next=some r/\r.st≠1/\Q (match r.pend with|none=>.normal|some e=>e) fr (dn.uX Y.next))):aF E (.rangeFunc f ps gF body) fr Y Q:=by
 obtain⟨n,v,dn,h1,r,h2,h3,h4⟩:=h;refine⟨n,_,fr,_,?_,h4⟩;have h1':jO E (bJ E n) fr.d (Y.enter fr ps gF body) (.fn (.func g) a b) [.fn (.yield Y.next) [] []]=some (v,dn):=by unfold jO;simp only[hi,if_true];exact h1
 unfold eu;rw[hf];simp only[Wj,if_true];unfold ah.enter at h1';rw[h1'];simp only[Option.bind_some,h2,if_neg h3];cases r.pend<;>rfl
theorem TH.of {l:Nat}{args:List V}{r:EL}{b:Bool}{Y':ah}(hl:Y.loops l=some r)(hst:r.st=0)(hlen:r.ps.length=args.length)(h:aF E r.gF {r.fr with tm:=(r.ps.zip args).foldl (fun tm (p,a)=>upd tm p a) r.fr.tm} Y (fun e bK aB=>e= .normal/\∃r1,aB.loops l=some r1/\r1.st=0/\
   aF E r.body bK (aB.nM l {r1 with st:=1}) (fun e _ dn=>∃r2,dn.loops l=some r2/\r2.st=1/\match e with
    |.normal=>b=true/\Y'=dn.nM l {r2 with st:=0,pend:=none}
    |e=>b=false/\Y'=dn.nM l {r2 with st:=2,pend:=some e}))):TH E l args Y b Y':=by
 obtain⟨n,e,bK,aB,h1,rfl,r1,hl1,hs1,m,e2,jf,dn,h2,r2,hl2,hs2,h3⟩:=h;have h1':(bJ E (max n m+1)).code r.gF {r.fr with tm:=(r.ps.zip args).foldl (fun tm (p,a)=>upd tm p a) r.fr.tm} Y=some (.normal,bK,aB):=zD (jP (sG n m)) _ _ _ _ h1;have h2':(bJ E (max n m+1)).code r.body bK (aB.nM l {r1 with st:=1})=some (e2,jf,dn):=zD (jP (qG n m)) _ _ _ _ h2;refine⟨max n m+1,?_⟩;unfold yt;simp only[hl,Option.bind_some,hst,hlen,and_self,if_true,h1',hl1,hs1,h2',hl2,hs2];cases e2 with
 |normal=>obtain⟨rfl,rfl⟩:=h3;rfl
 |exit i=>obtain⟨rfl,rfl⟩:=h3;rfl
 |ret=>obtain⟨rfl,rfl⟩:=h3;rfl
theorem ay.yield {all:List Oper}{st:Nat}{o:Oper}{os:List Oper}{Q:Fr->ah->Prop}{c:Call}{f:Operand}{l:Nat}{b:Bool}{aB:ah}(hw:fM all fr o=some true)(ho:o.op= .call c)(fT:c.callee= .value f)(hf:fr.ev E f= .fn (.yield l) [] [])(hr:TH E l (c.args.toList.map (fr.ev E)) Y b aB)(h:ay E all (st+1) os (fr.put o.dst (.bool b)) aB Q):ay E all st (o::os) fr Y Q:=by
 obtain⟨n,fr',Y',h1,h2⟩:=h;obtain⟨m,hm⟩:=hr;have hm':=Xx (jP (qG n m)) hm;have h1':=MO (jP (sG n m)) _ _ _ _ _ _ h1;refine⟨max n m,fr',Y',?_,h2⟩;have:jO E (bJ E (max n m)) fr.d Y (.fn (.yield l) [] []) (c.args.toList.map (fr.ev E))=some (.bool b,aB):=by unfold jO;exact hm'
 have eZ:lT E fr o f=false:=by unfold lT;rw[hf]
 simp only[opsE,hw,Option.bind_some,if_true,opC,ho,fT,eZ,dI,if_false,hf,this,Option.map_some,h1']
structure Shift (d:Nat)(Y Y':ah):Prop where
 next:Y.next<=Y'.next
 top:∀s,s<Y.next->Y'.top s=Y.top s
 loops:∀l,l<Y.next->Y'.loops l=Y.loops l
 obj:∀a o,a<=d->Y'.obj (a,o)=Y.obj (a,o)
theorem Shift.refl {d:Nat}{Y:ah}:Shift d Y Y:=⟨iR _,fun _ _=>rfl,fun _ _=>rfl,fun _ _ _=>rfl⟩
theorem Shift.trans {d:Nat}{Y Y' pF:ah}(h:Shift d Y Y')(g:Shift d Y' pF):Shift d Y pF:=
 ⟨eX h.next g.next,fun s hs=>(g.top s (nC hs h.next)).trans (h.top s hs),fun s hs=>(g.loops s (nC hs h.next)).trans (h.loops s hs),fun a o ha=>(g.obj a o ha).trans (h.obj a o ha)⟩
def awo (E:Env)(f:FuncId)(a b:List V)(L:List (List V)):Prop:=∀(d l:Nat)(Y:ah)(J:List (List V)->ah->Prop)(D:ah->Prop),
 (∀xs Y Y',l<Y.next->J xs Y->Shift d Y Y'->J xs Y')->(∀Y Y',l<Y.next->D Y->Shift d Y Y'->D Y')->
 (∀x xs Y,l<Y.next->J (x::xs) Y->∃c Y',TH E l x Y c Y'/\Y.next<=Y'.next/\(∀a o,d<a->Y'.obj (a,o)=Y.obj (a,o))/\(∀s,s<Y.next->Y'.loops s=Y.loops s\/s=l)/\(c=true->J xs Y')/\(c=false->D Y'))->
 l<Y.next->J L Y->iW E f (a++[.fn (.yield l) [] []]++b) (d+1) Y fun _ Y'=>Y.next<=Y'.next/\(J [] Y'\/D Y')
end
end aR
end
