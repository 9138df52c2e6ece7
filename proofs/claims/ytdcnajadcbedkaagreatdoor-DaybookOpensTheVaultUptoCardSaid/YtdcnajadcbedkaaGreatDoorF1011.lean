import Derived.Test.YtdcnajadcbedkaaGreatDoorF1010
set_option linter.all false
section
namespace aQ
open Go
section
variable {R:jV}{E:Env}
variable {Z:bC}{b aN:Nat}{st:aO R.T}{fr:Fr}{Y:ah}{o:Oper}
theorem avj {j:Nat}{t:Bool}(h:dF [] st (.tmp j)=some (.bool t)):look st.fr j=some (.bool t):=by
 unfold dF at h;dsimp only at h;split at h
 .rename_i v hv;cases v<;>first| (cases h;exact hv)| (simp[RQ,look] at h;done)
 .cases h
variable (hR:rX R)
include hR
theorem YM {aj:Bool}{β:Type}{F:Nat->List (iy R)}(hF:bg E F)(bQ:Z.aj.aj=aj)(iQ:∀d,o.dst=some d->d<F0)(hi:aT Z aN st fr Y){k:aO R.T->Option β}{x:β}(h:runM E R aj F o st k=some x){G:Prop}{rest:Fr->ah->Prop}(hs:∀y Y',oC E fr Y aN o y Y'->rest (fr.put o.dst y) Y'->G)(hk:∀Z' st' y Y',aT Z' (aN+1) st' (fr.put o.dst y) Y'->Y'.next=Y.next->(∀p,qF E o p->bT true p st Z Y st' Z' Y')->k st'=some x->rest (fr.put o.dst y) Y'):G:=by
 have hi1:=hi.le (kU aN);unfold runM at h;split at h
 .rename_i c a' b' hop;split at h
  .rename_i t hc;have hc':=(bS (E:=E) hi .nil hc).vO;split at h
   .rename_i v hv;refine hs _ _ (.kL (Jb hop hc')) (hk Z _ _ Y (hi1.iD o.dst ?_) rfl (fun p _=>bT.same za) h);cases t
    .exact bS (E:=E) hi .nil hv
    .exact bS (E:=E) hi .nil hv
   .cases h
  .rename_i t hc;have hc':=(bS (E:=E) hi .nil hc).rY;split at h
   .rename_i j;have hj:=hc';rw[H6] at hj;split at h
    .rename_i x' y' hx hy;split at h
     .rename_i v hv;refine hs _ _ (.kL (Jb hop hc')) (hk Z _ _ Y (hi1.iD o.dst ?_) rfl (fun p _=>bT.same za) h);cases t
      .exact aju hv (bS (E:=E) hi (.cons hj .nil) hy)
      .exact ajt hv (bS (E:=E) hi (.cons hj .nil) hx)
     .cases t
      .exact hs _ _ (.kL (Jb hop hc')) (hk Z _ _ Y ((hi1.learn hj).iD o.dst (bS (E:=E) hi (.cons hj .nil) hy)) rfl (fun p _=>bT.same za) h)
      .exact hs _ _ (.kL (Jb hop hc')) (hk Z _ _ Y ((hi1.learn hj).iD o.dst (bS (E:=E) hi (.cons hj .nil) hx)) rfl (fun p _=>bT.same za) h)
    .cases h
   .cases h
  .cases h
 .rename_i t a y hop;split at h
  .rename_i τ p i off l v hst;unfold XP at hst;split at hst
   .rename_i p' aFD i' off' v' ha hv;split at hst
    .rename_i gW l0 sz hl hsz;split at hst
     .rename_i l1 hl1;obtain⟨hc,hst⟩:=gG hst;cases hst;obtain⟨e,e2⟩:=vP hl1;subst e;cases e2;simp only[aZ] at hc;obtain⟨⟨⟨c1,c2⟩,c3⟩,c4⟩:=hc;obtain⟨z,hz,h⟩:=iP.1 h;split at h
      .rename_i y' hu;obtain⟨s,h1,_,h2⟩:=(bS (E:=E) hi .nil ha).Fw;obtain⟨h6,h7⟩:=yK c4 (bS (E:=E) hi .nil hv);have hO:=hi.ob _ _ hl;obtain⟨cs,k1,k2,k3,k4⟩:=aus hR hO h1 hz h6 (oJ c2) hu;refine hs aP (Y.setObj (Z.aj.lc p) s (.cells (gM cs (i.toNat*dL R gW+off) (fr.ev E y).cells))) (.kL (o:=o) ?_) (hk Z _ aP _ ((hi1.set p s (x:=.arr gW (bf l0 i y')) (a:=.cells (gM cs (i.toNat*dL R gW+off) (fr.ev E y).cells)) ⟨k4.trans hO.1,.inr ⟨s,_,h1,sP _ _ _ _,k3⟩⟩).iD o.dst (x:=.undef) gY) rfl (fun q _=>(bT.set hl rfl).congr Aj) h);simp only[dK,hop,h2,k1,Option.bind_some];rw[if_pos ⟨by rw[hsz,h6.length,fT c1],k2,MZ c3 h6⟩]
      .cases h
     .cases hst
    .cases hst
   .cases hst
  .split at h
   .rename_i v st' hr;rw[<-hop] at hr;obtain⟨y,Y',Z',h1,h2,h3,h4,h5⟩:=zL hR hF bQ iQ .nil hi hr;exact hs y Y' h1 (hk Z' _ y Y' (h2.iD o.dst h4) h3 (fun p hp=>(h5 p hp).congr Aj) h)
   .cases h
 .rename_i t m y ok hop;split at h
  .rename_i ks vs q z hsm;unfold XO at hsm;cases hsm
  .split at h
   .rename_i v hr;rw[<-hop] at hr;obtain⟨y,h1,h2⟩:=zL hR hF bQ iQ .nil hi hr;exact hs y Y h1 (hk Z _ y Y (hi1.iD o.dst h2) rfl (fun p _=>bT.same za) h)
   .cases h
 .split at h
  .rename_i v hr;obtain⟨y,h1,h2⟩:=zL hR hF bQ iQ .nil hi hr;exact hs y Y h1 (hk Z _ y Y (hi1.iD o.dst h2) rfl (fun p _=>bT.same za) h)
  .rename_i c v hr;obtain⟨hc,h⟩:=gG h;obtain⟨y,h1,h2⟩:=zL hR hF bQ iQ .nil hi hr hc;exact hs y Y h1 (hk Z _ y Y (hi1.iD o.dst h2) rfl (fun p _=>bT.same za) h)
  .rename_i v st' hr;obtain⟨y,Y',Z',h1,h2,h3,h4,h5⟩:=zL hR hF bQ iQ .nil hi hr;exact hs y Y' h1 (hk Z' _ y Y' (h2.iD o.dst h4) h3 (fun p hp=>(h5 p hp).congr Aj) h)
  .rename_i c v st' hr;obtain⟨hc,h⟩:=gG h;obtain⟨y,Y',Z',h1,h2,h3,h4,h5⟩:=zL hR hF bQ iQ .nil hi hr hc;exact hs y Y' h1 (hk Z' _ y Y' (h2.iD o.dst h4) h3 (fun p hp=>(h5 p hp).congr Aj) h)
  .rename_i U z q f hr;obtain⟨a,ha,h⟩:=iP.1 h;obtain⟨y,h1,h2⟩:=zL hR hF bQ iQ .nil hi hr a ha;exact hs y Y h1 (hk Z _ y Y (hi1.iD o.dst h2) rfl (fun p _=>bT.same za) h)
  .cases h
omit hR in
theorem FE (hi:aT Z b st fr Y):∀(n j:Nat)(w c:Bool)(g:List (Nat×Bool)),qY st n j w=some (c,g)->(c=true->fr.tm j= .bool w/\tu fr g)/\(c=false->fr.tm j= .bool (!w)\/fr.tm j=aP)/\(g=[(j,w)]->c=false->fr.tm j= .bool (!w))
 |0,j,w,c,g,h=>cZ|n+1,j,w,c,g,h=>by
  have key:∀(i:Nat)(u a:Bool)(y:aA R.T),look st.fr j=some (.opt i u y)->(∀v,aC R Z Y.top y v->v= .bool a)->(match qY st n i u with
   |some (c,g)=>some (XM c (IG a w),(j,w)::g)|none=>none)=some (c,g)->(c=true->fr.tm j= .bool w/\tu fr g)/\(c=false->fr.tm j= .bool (!w)\/fr.tm j=aP)/\(g=[(j,w)]->c=false->fr.tm j= .bool (!w)):=by
   intro i u a y hl hy h;split at h
   .rename_i c0 g0 he;cases h;obtain⟨h1,h2,h3⟩:=FE hi n i u c0 g0 he;have hr:=hi.fr _ _ hl;have hg0:g0≠[]:=by
     rintro rfl;cases n with
     |zero=>cases he|succ n=>
      unfold qY at he;split at he
      .cases he
      .split at he<;>cases he
      .split at he<;>cases he
      .cases he
    refine⟨fun hc=>?_,fun hc=>?_,fun hg=>absurd (by simpa using hg) hg0⟩
    .cases c0 with
     |false=>cases hc|true=>obtain⟨a1,a2⟩:=h1 rfl;have hv:=hy _ (hr.1 a1);have hc':IG a w=true:=hc;have:a=w:=(by cases a<;>cases w<;>first|rfl|cases hc');subst this;exact⟨hv,.cons hv a2⟩
    .cases c0 with
     |false=>exact .inr (hr.2 (h2 rfl))|true=>obtain⟨a1,a2⟩:=h1 rfl;have hv:=hy _ (hr.1 a1);have hc':IG a w=false:=hc;have:a= !w:=(by cases a<;>cases w<;>first|rfl|cases hc');subst this;exact .inl hv
   .cases h
  unfold qY at h;split at h
  .rename_i a hl;cases h;have hv:=(show aC R Z Y.top (.bool a) (fr.tm j) from hi.fr _ _ hl).rY;refine⟨fun hc=>?_,fun hc=>.inl ?_,fun _ hc=>?_⟩
   .have:a=w:=(by cases a<;>cases w<;>first|rfl|cases hc);subst this;exact⟨hv,.cons hv .nil⟩
   .have:a= !w:=(by cases a<;>cases w<;>first|rfl|cases hc);subst this;exact hv
   .have:a= !w:=(by cases a<;>cases w<;>first|rfl|cases hc);subst this;exact hv
  .rename_i i u a hl;exact key i u a _ hl (fun v hv=>hv.rY) h
  .rename_i i u a hl;exact key i u a _ hl (fun v hv=>hv.vO) h
  .cases h
omit hR in
theorem ajL {all:List Oper}(hi:aT Z b st fr Y):match Sj all st o with
 |.run=>fJ all fr o=some true|.skip=>fJ all fr o=some false|.dyn j w c g=>(∃n,qY st n j w=some (c,g))/\fJ all fr o=some c|.no=>True:=by
 unfold Sj fJ;cases hg:o.guard with
 |none=>rfl|some p=>
  obtain⟨j,w⟩:=p;dsimp only;cases hj:all[j]? with
  |none=>rfl|some p=>
   simp only[Option.bind_some];cases hd:p.dst with
   |none=>rfl|some t=>
    dsimp only;have dyn:∀c g,qY st 12 t w=some (c,g)->(match fr.tm t with
     |.bool b=>some (b==w)|.raw _=>none|_=>some false)=some c:=by
     intro c g he;obtain⟨h1,h2,_⟩:=FE hi 12 t w c g he;cases c with
     |true=>rw[(h1 rfl).1];simp|false=>
      rcases h2 rfl with h2|h2
      .rw[h2];cases w<;>rfl
      .rw[h2];rfl
    cases hl:look st.fr t with
    |none=>
     dsimp only;cases he:qY st 12 t w with
     |none=>trivial|some q=>exact⟨⟨12,he⟩,dyn _ _ he⟩
    |some v=>
     have hr:=hi.fr _ _ hl;cases v with
     |jH c=>have:=(show aC R Z Y.top (.jH c) (fr.tm t) from hr).vO;rw[this];cases c<;>cases w<;>rfl|undef=>have:=(show aC R Z Y.top .undef (fr.tm t) from hr).ah7;rw[this];rfl|_=>
      dsimp only;cases he:qY st 12 t w with
      |none=>trivial|some q=>exact⟨⟨12,he⟩,dyn _ _ he⟩
omit hR in
theorem Tf (hi:aT Z b st fr Y):∀{g:List (Nat×Bool)},tu fr g->(∀j u,(j,u)∈g->fr.tm j= .bool u)->aT Z b (st.oO g) fr Y/\(st.oO g).ob=st.ob
 | [],_,_=>⟨hi,rfl⟩| (j,w)::g,hg,hm=>by
   obtain⟨h1,h2⟩:=Tf hi (g:=g) (fun i u h=>by
    exact hm i u (by
     have:∀g:List (Nat×Bool),look g i=some u->(i,u)∈g:=by
      intro g;induction g with
      |nil=>intro h;cases h|cons p g ih=>
       intro h;obtain⟨k,v⟩:=p;by_cases e:i=k
       .subst e;rw[oh] at h;cases h;simp
       .rw[kR _ _ e] at h;simp[ih h]
     exact jT _ (this g h))) (fun i u h=>hm i u Ei)
   exact⟨h1.learn (hm j w aD),h2⟩
omit hR in
theorem Tg (hi:aT Z b st fr Y):∀(n j:Nat)(w:Bool)(g:List (Nat×Bool)),qY st n j w=some (true,g)->∀i u,(i,u)∈g->fr.tm i= .bool u
 |0,j,w,g,h=>cZ|n+1,j,w,g,h=>by
  have hj:=((FE hi (n+1) j w true g h).1 rfl).1;unfold qY at h;split at h
  .simp only[iE,mF] at h;obtain⟨_,rfl⟩:=h;intro i u hm;simp at hm;obtain⟨rfl,rfl⟩:=hm;exact hj
  all_goals first
   | (split at h
      .rename_i c0 g0 he;simp only[iE,mF] at h;obtain⟨hc,rfl⟩:=h;cases c0 with
       |false=>cases hc|true=>
        intro i u hm;rcases jr.1 hm with hm|hm
        .cases hm;exact hj
        .exact Tg hi n _ _ g0 he i u hm
      .cases h)
   |cases h
omit hR in
theorem YN (hi:aT Z b st fr Y){n j:Nat}{w:Bool}{g:List (Nat×Bool)}(hj:qY st n j w=some (false,g)):aT Z b (st.AQ g) fr Y/\(st.AQ g).ob=st.ob:=by
 obtain⟨_,_,e3⟩:=FE hi n j w false g hj;rcases g with _| ⟨⟨j',w'⟩,_| ⟨p,g⟩⟩
 .exact⟨hi,rfl⟩
 .have hj':j'=j/\w'=w:=by
   cases n with
   |zero=>cases hj|succ n=>
    unfold qY at hj;split at hj
    .simp only[iE,mF,sJ] at hj;exact⟨hj.2.1.1.symm,hj.2.1.2.symm⟩
    .split at hj
     .simp only[iE,mF,sJ] at hj;exact⟨hj.2.1.1.symm,hj.2.1.2.symm⟩
     .exact absurd hj aD
    .split at hj
     .simp only[iE,mF,sJ] at hj;exact⟨hj.2.1.1.symm,hj.2.1.2.symm⟩
     .exact absurd hj aD
    .exact absurd hj aD
  obtain⟨rfl,rfl⟩:=hj';exact⟨hi.learn (e3 rfl rfl),rfl⟩
 .exact⟨hi,rfl⟩
theorem avk {aj:Bool}{β:Type}{F:Nat->List (iy R)}(hF:bg E F)(bQ:Z.aj.aj=aj)(iQ:∀d,o.dst=some d->d<F0)(hi:aT Z aN st fr Y){j n:Nat}{w c:Bool}{g:List (Nat×Bool)}(hj:qY st n j w=some (c,g)){k:aO R.T->Option β}{x:β}(h:XQ E R aj F o j w c g st k=some x){G:Prop}{rest:Fr->ah->Prop}(hs:c=true->∀y Y',oC E fr Y aN o y Y'->rest (fr.put o.dst y) Y'->G)(hs':c=false->rest (fr.put o.dst aP) Y->G)(hk:∀Z' st' y Y',aT Z' (aN+1) st' (fr.put o.dst y) Y'->Y'.next=Y.next->(∀p,qF E o p->bT true p st Z Y st' Z' Y')->k st'=some x->rest (fr.put o.dst y) Y'):G:=by
 have hi1:=hi.le (kU aN);obtain⟨e1,e2,e3⟩:=FE hi n j w c g hj;have YO:(bif c then runM E R aj F o (st.oO g) k else k ((st.AQ g).iD o.dst .undef))=some x->G:=by
  intro h;cases c with
  |true=>obtain⟨l1,l2⟩:=Tf hi (e1 rfl).2 (Tg hi n j w g hj);exact YM hR hF bQ iQ l1 h (hs rfl) (fun Z' st' y Y' a b c d=>hk Z' st' y Y' a b (fun p hp=>(c p hp).from l2) d)
  |false=>obtain⟨n1,n2⟩:=YN hi hj;have hN:aT Z (aN+1) (st.AQ g) fr Y/\(st.AQ g).ob=st.ob:=⟨n1.le (kU _),n2⟩;refine hs' rfl (hk Z _ aP Y (hN.1.iD o.dst gY) rfl (fun p _=>bT.same (Aj.trans hN.2)) h)
 unfold XQ at h;split at h
 .rename_i d hd;have hput:bM d (g.map (·.1))=false->∀(v:aA R.T)(y:V),(c=true->aC R Z Y.top v y)->(c=false->y=aP)->aT Z (aN+1) (st.put d (.opt j w v)) (fr.put o.dst y) Y:=by
   intro hdj v y h1 h2;have hne:(fr.set d y).tm j=fr.tm j:=by
    refine Ms _ _ ?_;cases n with
    |zero=>cases hj|succ n=>
     have hmem:bM d (g.map (·.1))=false:=hdj;have:∃g',g=(j,w)::g':=by
      unfold qY at hj;split at hj
      .cases hj;exact⟨[],rfl⟩
      all_goals first
       | (split at hj
          .simp only[iE,mF] at hj;exact⟨_,hj.2.symm⟩
          .cases hj)
       |cases hj
     obtain⟨g',rfl⟩:=this;have h':(Nat.beq d j||bM d (g'.map (·.1)))=false:=hmem;rw[tY] at h';simpa using (XY h'.1).symm
   rw[hd,Cq];refine hi1.put d ⟨fun hc=>?_,fun hc=>?_⟩
   .rw[hne] at hc;refine h1 ?_;cases c with
    |true=>rfl|false=>
     rcases e2 rfl with e|e
     .rw[e] at hc;cases w<;>cases hc
     .rw[e] at hc;cases hc
   .rw[hne] at hc;refine h2 ?_;cases c with
    |false=>rfl|true=>
     rw[(e1 rfl).1] at hc;rcases hc with hc|hc
     .cases w<;>cases hc
     .cases hc
  cases hdj:bM d (g.map (·.1))
  .rw[hdj] at h;simp only[cond_false] at h;split at h
   .rename_i v hr;cases c with
    |true=>obtain⟨y,h1,h2⟩:=zL hR hF bQ iQ (e1 rfl).2 hi hr;exact hs rfl y Y h1 (hk Z _ y Y (hput hdj v y (fun _=>h2) (fun h=>cZ)) rfl (fun p _=>bT.same rfl) h)
    |false=>exact hs' rfl (hk Z _ aP Y (hput hdj v aP (fun h=>cZ) (fun _=>rfl)) rfl (fun p _=>bT.same rfl) h)
   .rename_i q v hr;obtain⟨hq,hh⟩:=gG h;clear h;cases c with
    |true=>obtain⟨y,h1,h2⟩:=zL hR hF bQ iQ (e1 rfl).2 hi hr hq;exact hs rfl y Y h1 (hk Z _ y Y (hput hdj v y (fun _=>h2) (fun h=>cZ)) rfl (fun p _=>bT.same rfl) hh)
    |false=>exact hs' rfl (hk Z _ aP Y (hput hdj v aP (fun h=>cZ) (fun _=>rfl)) rfl (fun p _=>bT.same rfl) hh)
   .rename_i U z q f hr;obtain⟨a,ha,hh⟩:=iP.1 h;clear h;cases c with
    |true=>obtain⟨y,h1,h2⟩:=zL hR hF bQ iQ (e1 rfl).2 hi hr a ha;exact hs rfl y Y h1 (hk Z _ y Y (hput hdj _ y (fun _=>h2) (fun h=>cZ)) rfl (fun p _=>bT.same rfl) hh)
    |false=>exact hs' rfl (hk Z _ aP Y (hput hdj _ aP (fun h=>cZ) (fun _=>rfl)) rfl (fun p _=>bT.same rfl) hh)
   .exact YO h
  .rw[hdj] at h;exact YO h
 .exact YO h
omit hR in
theorem FH {Z':bC}{st':aO R.T}{Y':ah}(h:∀p,qF E o p->bT true p st Z Y st' Z' Y'):Z'.aj=Z.aj:=by
 cases hd:o.dst with
 |none=>exact(h 0 ⟨by rw[hd];simp,fun d e=>by rw[hd] at e;cases e⟩).aj
 |some d=>exact(h (d+E.cn d+1) ⟨fun e=>by rw[hd] at e;exact absurd (kS e) (pQ (Nat.lt_succ_of_le (mg d (E.cn d)))),fun d' e=>by rw[hd] at e;cases e;exact pQ (Nat.lt_succ_of_le (Nat.le_add_left (E.cn d) d))⟩).aj
omit hR in
theorem ajM {os:List Oper}{p:Nat}(h:bM p (mX E (o::os))=false):qF E o p/\bM p (mX E os)=false:=by
 unfold mX at h;split at h
 .rename_i d hd;have h':(Nat.beq p d||(Nat.beq p (E.cn d)||bM p (mX E os)))=false:=h;rw[tY,tY] at h';refine⟨⟨fun e=>?_,fun d' e e2=>?_⟩,h'.2.2⟩
  .rw[hd] at e;cases e;rw[y9] at h';exact absurd h'.1 aD
  .rw[hd] at e;cases e;rw[e2,y9] at h';exact absurd h'.2.1 aD
 .rename_i hd;refine⟨⟨fun e=>?_,fun d' e=>?_⟩,h⟩
  .rw[hd] at e;cases e
  .rw[hd] at e;cases e
omit hR in
theorem Nf (hi:aT Z b st fr Y)(h:nV E st o=false):yJ E fr o=false:=by
 unfold nV at h;unfold yJ;split at h
 .rename_i c hc;rw[hc];dsimp only;split at h
  .rename_i f hf;rw[hf];dsimp only;split at h
   .rename_i g a' b' hv;obtain⟨va,vb,h1,_,_⟩:=(bS (E:=E) hi .nil hv).pF;unfold lU;rw[h1];split at h
    .rename_i d hd;rw[hd];exact h
    .rename_i hd;rw[hd]
   .cases h
  .rename_i hne;split
   .rename_i f hf;exact absurd hf (hne f)
   .rfl
 .rename_i hne;split
  .rename_i c hc;exact absurd hc (hne c)
  .rfl
theorem avl {k k':bO}{l:List bO}{c:aA R.T}{cs:List (aA R.T)}{p:aV R.T (k::k'::l)}(h:jw R (k::k'::l) (c::cs)=some p):
 ∃x q,pk R k c=some x/\jw R (k'::l) cs=some q/\p=(x,q):=by
 have h':(match pk R k c with
  |some x=>match jw R (k'::l) cs with
   |some p=>some (x,p)|none=>none
  |none=>none)=some p:=h
 cases hu:pk R k c with
 |none=>rw[hu] at h';cases h'|some u=>
  rw[hu] at h';dsimp only at h';cases hq:jw R (k'::l) cs with
  |none=>rw[hq] at h';cases h'|some q=>rw[hq] at h';cases h';exact⟨u,q,rfl,rfl,rfl⟩
theorem YP {F:Nat->List (iy R)}(hF:bg E F){f:Nat}{args:List (aA R.T)}{Ng:List V}(ha:aJ R Z Y.top args Ng)(hi:aT Z b st fr Y):∀{l:List (iy R)}{τ:Ty}{x:Option (List (Den R.T τ))},(∀r∈l,r∈F f)->II R args (rW st args) l=some ⟨τ,x⟩->
 ∀y,x=some y->∃dN,vv (E.zl f) Y Ng=some dN/\Ng.all (fun x=>aR (er x))=true/\oM E f dN (dL R τ) (y.map (aU R τ))
 | [],τ,x,_,h=>cZ| ⟨dN,res,G,d0,own⟩::l,τ,x,hl,h=>by
   have rest:II R args (rW st args) l=some ⟨τ,x⟩->∀y,x=some y->∃dN,vv (E.zl f) Y Ng=some dN/\Ng.all (fun x=>aR (er x))=true/\oM E f dN (dL R τ) (y.map (aU R τ)):=fun h=>YP hF ha hi (fun r hr=>hl r (jT _ hr)) h;unfold II at h;split at h
   .cases h
   .rename_i as' gW G' d' l' heq;obtain⟨e1,e2⟩:=List.cons.inj heq;subst e2;cases e1;split at h
    .rename_i p hp;obtain⟨hc,h⟩:=gG h;cases h;simp only[aZ] at hc;obtain⟨⟨c1,c2⟩,c3⟩:=hc;intro y hy;have hb:=(hF f ⟨dN,[.d (.slice τ)],G',d',true⟩ (hl _ (jv ..)) p y hy).2 rfl τ rfl y rfl;cases hn:mD dN with
     |true=>obtain⟨b1,b2⟩:=hb.1 hn;obtain⟨vs',v1,v2⟩:=M4 hR hi ha;have M6:=zK hR dN p (rW st args) _ hn hp v1 20 Y (by have:=oJ c2;omega);exact⟨_,by rw[b1];unfold vv;rw[if_neg aD];exact(v2 16).trans M6,M5 hR c3 ha,b2⟩
     |false=>
      obtain⟨b1,b2⟩:=hb.2 hn;rw[hn,Bool.false_or] at c1;cases dN with
      |nil=>cases c1|cons k dN=>
      cases k<;>first| (cases c1;done)|skip
      cases dN with
      |nil=>cases c1|cons k' dN=>
      cases args with
      |nil=>exact absurd (show none=some p from hp) aD|cons c args=>
      obtain⟨v,vs,rfl,h1,h2⟩:=ha.fZ;have hp0:jw R (.fQ::k'::dN) (E9 st c::rW st args)=some p:=(by simpa only[rW] using hp);obtain⟨u,q,hu,q1,hpq⟩:=avl hR hp0;have hc:c= .fQ:=by
       have hp':(pk R .fQ (E9 st c)).isSome=true:=(by rw[hu];rfl);cases c<;>first|rfl|skip
       all_goals
        exfalso;revert hp';unfold E9 yF
        repeat' split
        all_goals (intro h;cases h)
      subst hc;have q2:aji (bR R (.fQ::k'::dN) p)= .ak .nil []::bR R (k'::dN) q:=(by rw[hpq];rfl);rw[h1.uI];obtain⟨vs',v1,v2⟩:=M4 hR hi h2;have M6:=zK hR (k'::dN) q (rW st args) _ c1 q1 v1 20 Y (by have h9:=oJ c2;rw[vK] at h9;omega);rw[q2] at b2;refine⟨_,by rw[b1];unfold vv;rw[if_pos rfl];dsimp only;rw[v2 16,M6];rfl,?_,b2⟩;have:=M5 hR c3 ha;rw[h1.uI] at this;exact this
    .exact rest h
   .rename_i heq;obtain⟨_,e2⟩:=List.cons.inj heq;subst e2;exact rest h
theorem avm {β:Type}{F:Nat->List (iy R)}(hF:bg E F)(hi:aT Z aN st fr Y){k:aO R.T->Option β}{x:β}(h:zD R F o st k=some x)(hown:nV E st o=true){all os:List Oper}{Q:Fr->ah->Prop}(hw:fJ all fr o=some true)(hk:∀(Z':bC) (st':aO R.T) (y:V) (Y':ah),aT Z' (aN+1) st' (fr.put o.dst y) Y'->Y'.next=Y.next->(∀p,qF E o p->bT true p st Z Y st' Z' Y')->k st'=some x->ay E all (aN+1) os (fr.put o.dst y) Y' Q):ay E all aN (o::os) fr Y Q:=by
 unfold zD at h;split at h
 .rename_i c d ho hd;split at h
  .rename_i f fV;split at h
   .rename_i g a' b' vs hf hvs;split at h
    .rename_i τ xo hfo;obtain⟨l,hl,h⟩:=iP.1 h;obtain⟨va,vb,h1,h2,h3⟩:=(bS (E:=E) hi .nil hf).pF;have hrel:=(h2.append (zJ (E:=E) hi .nil hvs)).append h3;obtain⟨dN,has,hcl,hO⟩:=YP hR hF hrel hi (fun _ hr=>hr) hfo l hl;have hg:E.own g d=true:=(by unfold nV at hown;rw[ho] at hown;dsimp only at hown;rw[fV] at hown;dsimp only at hown;rw[hf] at hown;dsimp only at hown;rw[hd] at hown;exact hown);have hdp:∀y:V,fr.put o.dst y=fr.set d y:=fun y=>by rw[hd];rfl
     refine ay.own hw ho fV h1 hd hg has hO hcl (fun cp hcp=>?_) ?_
     .refine hk (Z.jN d aN) _ _ Y ?_ rfl ?_ h
      .have e:Y.eB aN (Y.top aN)=Y:=by
        unfold ah.eB;have:upd Y.top aN (Y.top aN)=Y.top:=by
         funext j;unfold upd;split
         .rename_i e;rw[e]
         .rfl
        rw[this]
       have:=hi.wk d aN (Y.top aN) (kU _) (Er _) hi.nx (fun u _ hu=>Lf);rw[e] at this;rw[hdp];refine this.put d (.of ?_);unfold aC;exact⟨cp,rfl,by rcases hcp with rfl|rfl;exact .inl rfl;exact .inr (.inl rfl)⟩
      .intro p hp;have e:Y.eB aN (Y.top aN)=Y:=by
        unfold ah.eB;have:upd Y.top aN (Y.top aN)=Y.top:=by
         funext j;unfold upd;split
         .rename_i e;rw[e]
         .rfl
        rw[this]
       have:=(bT.wk (nr:=true) (p:=p) (t:=d) (s:=aN) (n:=Y.top aN) (Z:=Z) (st:=st) (Y:=Y) hi.nx);rw[e] at this;exact this.congr rfl
     .refine hk (Z.jN d aN) _ _ _ ?_ rfl ?_ h
      .rw[hdp];have:=hi.wk d aN (l.map (aU R τ)).length (kU _) (Er _) hi.nx (fun u _ hu=>Lf);refine this.put d (.of ?_);unfold aC;exact⟨_,rfl,.inr (.inr ⟨aN,rfl,by simp[bC.jN,upd],by rw[Mt,fH]⟩)⟩
      .intro p hp;exact(bT.wk (nr:=true) (p:=p) hi.nx).congr rfl
    .cases h
   .cases h
  .cases h
 .cases h
theorem avn {β:Type}{F:Nat->List (iy R)}(hF:bg E F)(hi:aT Z aN st fr Y){k:aO R.T->Option β}{x:β}(h:zD R F o st k=some x)(hown:nV E st o=true){ms:List Nat}{fs:List dP}{all os:List Oper}{Q:Fr->ah->Prop}(hw:fJ all fr o=some true)(hk:∀(Z':bC) (st':aO R.T) (y:V) (Y':ah),aT Z' (aN+1) st' (fr.put o.dst y) Y'->Y'.next=Y.next->(∀p,qF E o p->bT true p st Z Y st' Z' Y')->k st'=some x->dJ E ms all (aN+1) os (fr.put o.dst y) Y' (fs++[d9 E all fr o true]) Q):dJ E ms all aN (o::os) fr Y fs Q:=by
 unfold zD at h;split at h
 .rename_i c d ho hd;split at h
  .rename_i f fV;split at h
   .rename_i g a' b' vs hf hvs;split at h
    .rename_i τ xo hfo;obtain⟨l,hl,h⟩:=iP.1 h;obtain⟨va,vb,h1,h2,h3⟩:=(bS (E:=E) hi .nil hf).pF;have hrel:=(h2.append (zJ (E:=E) hi .nil hvs)).append h3;obtain⟨dN,has,hcl,hO⟩:=YP hR hF hrel hi (fun _ hr=>hr) hfo l hl;have hg:E.own g d=true:=(by unfold nV at hown;rw[ho] at hown;dsimp only at hown;rw[fV] at hown;dsimp only at hown;rw[hf] at hown;dsimp only at hown;rw[hd] at hown;exact hown);have hdp:∀y:V,fr.put o.dst y=fr.set d y:=fun y=>by rw[hd];rfl
     refine dJ.own hw ho fV h1 hd hg has hO hcl (fun cp hcp=>?_) ?_
     .refine hk (Z.jN d aN) _ _ Y ?_ rfl ?_ h
      .have e:Y.eB aN (Y.top aN)=Y:=by
        unfold ah.eB;have:upd Y.top aN (Y.top aN)=Y.top:=by
         funext j;unfold upd;split
         .rename_i e;rw[e]
         .rfl
        rw[this]
       have:=hi.wk d aN (Y.top aN) (kU _) (Er _) hi.nx (fun u _ hu=>Lf);rw[e] at this;rw[hdp];refine this.put d (.of ?_);unfold aC;exact⟨cp,rfl,by rcases hcp with rfl|rfl;exact .inl rfl;exact .inr (.inl rfl)⟩
      .intro p hp;have e:Y.eB aN (Y.top aN)=Y:=by
        unfold ah.eB;have:upd Y.top aN (Y.top aN)=Y.top:=by
         funext j;unfold upd;split
         .rename_i e;rw[e]
         .rfl
        rw[this]
       have:=(bT.wk (nr:=true) (p:=p) (t:=d) (s:=aN) (n:=Y.top aN) (Z:=Z) (st:=st) (Y:=Y) hi.nx);rw[e] at this;exact this.congr rfl
     .refine hk (Z.jN d aN) _ _ _ ?_ rfl ?_ h
      .rw[hdp];have:=hi.wk d aN (l.map (aU R τ)).length (kU _) (Er _) hi.nx (fun u _ hu=>Lf);refine this.put d (.of ?_);unfold aC;exact⟨_,rfl,.inr (.inr ⟨aN,rfl,by simp[bC.jN,upd],by rw[Mt,fH]⟩)⟩
      .intro p hp;exact(bT.wk (nr:=true) (p:=p) hi.nx).congr rfl
    .cases h
   .cases h
  .cases h
 .cases h
omit hR in
theorem ajN {o:Oper}{os:List Oper}{d:Nat}(h:o.dst=some d):bM d (mX E (o::os))=true:=by unfold mX;rw[h];show (Nat.beq d d||_)=true;rw[y9];rfl
omit hR in
theorem ajO {o:Oper}{os:List Oper}{d:Nat}(h:bM d (mX E os)=true):bM d (mX E (o::os))=true:=by
 unfold mX;cases o.dst with
 |none=>exact h|some e=>show (Nat.beq d e||(Nat.beq d (E.cn e)||bM d (mX E os)))=true;rw[h,Bool.or_true,Bool.or_true]
omit hR in
theorem bT.of {nr:Bool}{o:Nat}{st st':aO R.T}{Z Z':bC}{Y Y':ah}(h:bT true o st Z Y st' Z' Y'):bT nr o st Z Y st' Z' Y':=⟨h.ob,h.ln,h.aj,h.nx,h.lp,fun L _=>h.dp L (.inl rfl),h.ro⟩
omit hR in
theorem Kp.nr {nr Nh:Bool}{W:List Nat}{st st':aO R.T}{fr fr':Fr}{Z Z':bC}{Y Y':ah}(hn:Nh=true->nr=true)(h:Kp nr W st fr Y Z st' fr' Y' Z'):Kp Nh W st fr Y Z st' fr' Y' Z':=⟨h.fr,fun o ho=>⟨(h.ob o ho).ob,(h.ob o ho).ln,(h.ob o ho).aj,(h.ob o ho).nx,(h.ob o ho).lp,fun L hL=>(h.ob o ho).dp L (hL.imp hn id),(h.ob o ho).ro⟩⟩
omit hR in
theorem YQ (h:w9 E st o=true):yG E o=false:=by
 unfold w9 at h;unfold yG;split at h
 .rename_i c hc
  (try rw[hc]);(try dsimp only)
  split at h
  .rename_i f hf
   (try rw[hf])
   cases f with
   |func g=>
    have h':E.imp g=true:=h
    (try dsimp only);rw[h'];rfl
   |tmp _=>rfl|const _=>rfl| «global» _=>rfl
  .cases h
 .cases h
omit hR in
theorem YR {c:Call}{f:Operand}{g:FuncId}{a vb:List V}(h:yJ E fr o=false)(h1:o.op= .call c)(h2:c.callee= .value f)(h3:fr.ev E f= .fn (.func g) a vb):∀d,o.dst=some d->E.own g d=false:=by intro d hd;unfold yJ at h;rw[h1] at h;dsimp only at h;rw[h2] at h;dsimp only at h;unfold lU at h;rw[h3,hd] at h;exact h
theorem Dc {aj:Bool}{β:Type}{F:Nat->List (iy R)}(hF:bg E F){M:Nat->List (qV R)}(hM:Tc E M){all:List Oper}{k:aO R.T->Option β}{x:β}{Q:Fr->ah->Prop}:∀(os:List Oper)(aN:Nat)(Z:bC)(st:aO R.T)(fr:Fr)(Y:ah),(∀d,bM d (mX E os)=true->d<F0)->Z.aj.aj=aj->aT Z aN st fr Y->aN+os.length<=Y.next->yH E R aj F M all os st k=some x->(∀Z' st' fr' Y',aT Z' (aN+os.length) st' fr' Y'->Y.next<=Y'.next->Kp (os.all (yG E)) (mX E os) st fr Y Z st' fr' Y' Z'->k st'=some x->Q fr' Y')->ay E all aN os fr Y Q
 | [],aN,Z,st,fr,Y,hW0,bQ,hi,hsn,h,hq=>ay.nil (hq Z st fr Y hi (iR _) .refl h)|o::os,aN,Z,st,fr,Y,hW0,bQ,hi,hsn,h,hq=>by
  have iQ:∀d,o.dst=some d->d<F0:=fun d hd=>hW0 d (ajN hd);have hW1:∀d,bM d (mX E os)=true->d<F0:=fun d hd=>hW0 d (ajO hd);have vR:∀{Y':ah},Y.next<=Y'.next->aN+1+os.length<=Y'.next:=fun h=>by rw[List.length_cons] at hsn;omega
  have hg:=ajL (o:=o) (all:=all) hi;unfold yH at h;have hW:∀p,bM p (mX E (o::os))=false->qF E o p/\bM p (mX E os)=false:=fun p hp=>ajM hp;have hq':∀(Z1:bC)(st1:aO R.T)(y:V)(aB:ah),(∀p,qF E o p->bT (yG E o) p st Z Y st1 Z1 aB)->Y.next<=aB.next->∀Z' st' fr' Y',aT Z' (aN+1+os.length) st' fr' Y'->aB.next<=Y'.next->Kp (os.all (yG E)) (mX E os) st1 (fr.put o.dst y) aB Z1 st' fr' Y' Z'->k st'=some x->Q fr' Y':=fun Z1 st1 y aB hkp h1 Z' st' fr' Y' hi' hn zM hk=>
   hq Z' st' fr' Y' (by rw[List.length_cons,Nat.add_comm os.length,<-oZ];exact hi') (eZ h1 hn) (((Kp.op (Q:=fun p=>qF E o p) (fun p hp=>⟨(hW p hp).1.1,(hW p hp).1⟩) hkp).nr (Nh:=(o::os).all (yG E)) (fun e=>by rw[List.all_cons,aZ] at e;exact e.1)).trans ((zM.mono fun p hp=>(hW p hp).2).nr (fun e=>by rw[List.all_cons,aZ] at e;exact e.2))) hk
  split at h
  .rename_i hgm;rw[hgm] at hg;cases hown:nV E st o with
   |true=>rw[hown,cond_true] at h;exact avm hR hF hi h hown hg (fun Z' st' y Y' hi' hn hkp hk=>Dc hF hM os (aN+1) Z' st' _ Y' hW1 ((congrArg eP.aj (FH hkp)).trans bQ) hi' (vR (zi hn.symm)) hk (hq' Z' st' y Y' (fun p hp=>(hkp p hp).of) (zi hn.symm)))
   |false=>
   rw[hown,cond_false] at h;have eX:=Nf hi hown;cases himp:w9 E st o with
   |true=>rw[himp,cond_true] at h;obtain⟨c,f,g,a,vb,e1,e2,e3,e4,n,v,Y',e5,st1,i1,i2,i3,i4⟩:=YL hR hM hi RS h;exact ay.AJ hg e1 e2 e3 e4 ⟨n,v,Y',e5,Dc hF hM os (aN+1) Z st1 _ Y' hW1 bQ i1 (vR i2) i4 (hq' Z st1 v Y' (fun p _=>by rw[YQ himp];exact i3 p) i2)⟩ (YR eX e1 e2 e3)
   |false=>
   rw[himp,cond_false] at h;exact YM hR hF bQ iQ hi h (rest:=fun fr' Y'=>ay E all (aN+1) os fr' Y' Q) (fun y Y' hst hr=>hst.1 eX all os Q hg hr) (fun Z' st' y Y' hi' hn hkp hk=>Dc hF hM os (aN+1) Z' st' _ Y' hW1 ((congrArg eP.aj (FH hkp)).trans bQ) hi' (vR (zi hn.symm)) hk (hq' Z' st' y Y' (fun p hp=>(hkp p hp).of) (zi hn.symm)))
  .rename_i hgm;rw[hgm] at hg;refine ay.skip hg (Dc hF hM os (aN+1) Z _ _ Y hW1 bQ ?_ (vR (iR _)) h (hq' Z _ aP Y (fun p _=>bT.same za) (iR _)));exact(hi.le (kU _)).iD o.dst gY
  .rename_i j w c g hgm;rw[hgm] at hg;obtain⟨⟨n,hn⟩,hg2⟩:=hg;cases hown:(nV E st o||nV E (st.oO g) o) with
   |true=>rw[hown] at h;cases h|false=>
   rw[hown,cond_false] at h;rw[tY] at hown;have eX:=Nf hi hown.1;cases himp:w9 E (st.oO g) o with
   |true=>
    rw[himp,cond_true] at h;obtain⟨e1,e2,e3⟩:=FE hi n j w c g hn;cases c with
    |true=>rw[cond_true] at h;obtain⟨l1,l2⟩:=Tf hi (e1 rfl).2 (Tg hi n j w g hn);obtain⟨c,f,g',a,vb,f1,f2,f3,f4,n',v,Y',f5,st1,i1,i2,i3,i4⟩:=YL hR hM l1 RS h;exact ay.AJ hg2 f1 f2 f3 f4 ⟨n',v,Y',f5,Dc hF hM os (aN+1) Z st1 _ Y' hW1 bQ i1 (vR i2) i4 (hq' Z st1 v Y' (fun p _=>by rw[YQ himp];exact(i3 p).from l2) i2)⟩ (YR eX f1 f2 f3)
    |false=>rw[cond_false] at h;obtain⟨l1,l2⟩:=YN hi hn;exact ay.skip hg2 (Dc hF hM os (aN+1) Z _ _ Y hW1 bQ ((l1.le (kU _)).iD o.dst gY) (vR (iR _)) h (hq' Z _ aP Y (fun p _=>bT.same (Aj.trans l2)) (iR _)))
   |false=>
   rw[himp,cond_false] at h;exact avk hR hF bQ iQ hi hn h (rest:=fun fr' Y'=>ay E all (aN+1) os fr' Y' Q) (fun e y Y' hst hr=>hst.1 eX all os Q (by rw[hg2,e]) hr) (fun e hr=>ay.skip (by rw[hg2,e]) hr)
    (fun Z' st' y Y' hi' hn hkp hk=>Dc hF hM os (aN+1) Z' st' _ Y' hW1 ((congrArg eP.aj (FH hkp)).trans bQ) hi' (vR (zi hn.symm)) hk (hq' Z' st' y Y' (fun p hp=>(hkp p hp).of) (zi hn.symm)))
  .cases h
def Key.mv (c:eP):Key->Key
 |.obj l=>.obj (c.lc l.2)|k=>k
def dP.mv (c:eP)(f:dP):dP:=⟨f.qw,f.mh,f.t.map (Key.mv c),f.w.map (Key.mv c)⟩
omit hR in
theorem avo (c:eP)(a b:Key):(a.mv c).eq (b.mv c)=a.nm.eq b.nm:=by
 cases a<;>cases b<;>try rfl
 rename_i l m;show rP (c.lc l.2) (c.lc m.2)=rP (1,l.2) (1,m.2);by_cases e:l.2=m.2
 .rw[e,Xe];unfold rP;simp
 .rw[XZ c e,Xe];simp[e]
omit hR in
theorem avp (c:eP)(f g:dP):clash (f.mv c) (g.mv c)=clash f.nm g.nm:=by
 have hr:∀k:Key,(k.mv c).eq .rest=k.nm.eq .rest:=fun k=>by cases k<;>rfl
 have hs:∀k:Key,(k.mv c).state=k.nm.state:=fun k=>by cases k<;>rfl
 unfold clash dP.mv dP.nm;dsimp only;simp only[List.any_map,Function.comp_def,avo,hr,hs]
omit hR in
theorem getD_map (h:dP->dP)(ha:h gJ=gJ):∀(fs:List dP)(i:Nat),(fs.map h).getD i gJ=h (fs.getD i gJ)
 | [],i=>by simp[ha]|f::fs,0=>rfl|f::fs,i+1=>by simpa using getD_map h ha fs i
omit hR in
theorem avq (c:eP)(ms:List Nat)(fs:List dP):Aw ms (fs.map (dP.mv c))=Aw ms (fs.map dP.nm):=by unfold Aw VK;simp only[fH,getD_map (dP.mv c) rfl,getD_map dP.nm rfl,avp]
omit hR in
theorem vS (c:eP)(l:List Key):(nA l).mv c=nA (l.map (Key.mv c)):=rfl
omit hR in
theorem zN (c:eP)(l:List Key):(nC l).mv c=nC (l.map (Key.mv c)):=rfl
omit hR in
theorem mv_nil (c:eP):(nA []).mv c=nA []:=rfl
omit hR in
theorem ajP (c:eP):gJ.mv c=gJ:=rfl
omit hR in
theorem avr {top:Nat->Nat}{x:aA R.T}{v:V}(hg:x≠ .gone)(hv:(∀o t,x≠ .aS o t)/\∀o t a b,x≠ .sub o t a b)(h:aC R Z top x v):jh v=(ah5 x).map (Key.mv Z.aj):=by
 cases x with
 |gone=>exact absurd rfl hg|opt j w y=>exact h.ah8.elim|agg cs=>obtain⟨l,rfl,_⟩:=h.mY;rfl
 |bV cs=>obtain⟨l,rfl,_⟩:=h.IU;rfl
 |ak c t l=>obtain⟨l,rfl,_⟩:=h.mZ;rfl
 |ref p off=>obtain⟨s,_,rfl⟩:=h.rZ;rfl
 |fq p=>obtain⟨s,_,rfl⟩:=h.MU;rfl
 |aW l p=>obtain⟨s,rfl,_⟩:=h.uJ;rfl
 |fn f a b=>obtain⟨a',b',rfl,_⟩:=h.pF;rfl
 |aS o t=>exact absurd rfl (hv.1 o t)|sub o t a b=>exact absurd rfl (hv.2 o t a b)|mV p t i off=>obtain⟨s,_,_,rfl⟩:=h.Fw;rfl
 |sv p off k n lo hi=>obtain⟨s,_,_,rfl⟩:=h.CQ;rfl
 |sel p off k n i m=>obtain⟨s,_,_,_,rfl⟩:=h.MV;rfl
 |vH k n y i=>obtain⟨_,_,rfl⟩:=h.Sw;rfl
 |_=>unfold aC at h;subst h;rfl
omit hR in
theorem ajQ {x:aA R.T}(h:IL x=true):x≠ .gone/\(∀o t,x≠ .aS o t)/\∀o t a b,x≠ .sub o t a b:=⟨(by rintro rfl;cases h),(by rintro o t rfl;cases h),(by rintro o t a b rfl;cases h)⟩
omit hR in
theorem pY (hi:aT Z b st fr Y){x:Operand}{v:aA R.T}(h:dF [] st x=some v)(hg:IL v=true):(AV st x).map (Key.mv Z.aj)=jh (fr.ev E x):=by unfold AV;rw[h];exact(avr (ajQ hg).1 (ajQ hg).2 (bS hi .nil h)).symm
omit hR in
theorem ajR (hi:aT Z b st fr Y):∀{l:List Operand}{vs:List (aA R.T)},qW [] st l=some vs->vs.all IL=true->(l.flatMap (fun x=>AV st x)).map (Key.mv Z.aj)=l.flatMap fun x=>jh (fr.ev E x)
 | [],vs,h,_=>rfl|x::l,vs,h,hg=>by
  unfold qW at h;cases h1:dF [] st x with
  |none=>simp only[h1] at h;cases h|some a=>
   cases h2:qW [] st l with
   |none=>simp only[h1,h2] at h;cases h|some dN=>simp only[h1,h2] at h;cases h;rw[List.all_cons,aZ] at hg;rw[kT,kT,qM,pY (E:=E) hi h1 hg.1,ajR hi h2 hg.2]
omit hR in
theorem avs {aj:Bool}{β:Type}{F:Nat->List (iy R)}{k:aO R.T->Option β}{x:β}(h:runM E R aj F o st k=some x)(hp:∀c a b,o.op≠ .pick c a b)(hl:∀t m y ok,o.op≠ .lookup t m y ok)(hst:∀t a y,o.op≠ .store t a y):∃r,zC E R aj F [] o.dst o.op st=some r:=by
 unfold runM at h;split at h
 .rename_i c a b hop;exact absurd hop (hp _ _ _)
 .rename_i t a y hop;exact absurd hop (hst _ _ _)
 .rename_i t m y ok hop;exact absurd hop (hl _ _ _ _)
 .cases hr:zC E R aj F [] o.dst o.op st with
  |some r=>exact⟨r,rfl⟩|none=>rw[hr] at h;cases h
omit hR in
theorem Bb {aj:Bool}{F:Nat->List (iy R)}{g:List (Nat×Bool)}{d:Option Nat}{op:Op}{r:fC R}(h:zC E R aj F g d op st=some r):uG E R g d op st=some r\/vM E R aj F g d op st=some r:=by
 unfold zC at h;split at h
 .rename_i r' hx;cases h;exact .inl hx
 .exact .inr h
omit hR in
theorem ajS {top:Nat->Nat}:∀{x:List (aA R.T)}{v:List V},Sq x=true->aJ R Z top x v->v.all (fun a=>aR (er a))=false
 | [],_,h,_=>cZ|x::l,v,h,hr=>by
  obtain⟨y,ys,rfl,h1,h2⟩:=hr.fZ;rw[List.all_cons];by_cases e:∃o off k n lo hi,x= .sv o off k n lo hi
  .obtain⟨o,off,k,n,lo,hi,rfl⟩:=e;obtain⟨s,_,_,rfl⟩:=h1.CQ;simp[er,aR]
  .by_cases e2:∃o off,x= .ref o off
   .obtain⟨o,off,rfl⟩:=e2;obtain⟨s,_,rfl⟩:=h1.rZ;simp[er,aR]
   have h':Sq l=true:=by
    cases x<;>first|exact h|exact absurd ⟨_,_,_,_,_,_,rfl⟩ e|exact absurd ⟨_,_,rfl⟩ e2
   rw[ajS h' h2,Bool.and_false]
omit hR in
theorem Ti (hi:aT Z b st fr Y)(iQ:∀d,o.dst=some d->d<F0):(Sn o).map (Key.mv Z.aj)=wD fr o:=by
 unfold Sn wD;cases hd:o.dst with
 |none=>rfl|some d=>dsimp only;rw[hi.at (iQ d hd)];rfl
theorem avt {aj:Bool}{β:Type}{F:Nat->List (iy R)}(bQ:Z.aj.aj=aj)(iQ:∀d,o.dst=some d->d<F0)(hi:aT Z b st fr Y){k:aO R.T->Option β}{x:β}(h:runM E R aj F o st k=some x)(hd:zG E aj st o=true):(MP E aj st o).mv Z.aj=gB E fr o:=by
 unfold MP gB;have hop:=avs h;cases ho:o.op<;>rw[ho] at hop<;>dsimp only<;>(try exact mv_nil _)<;>(try exact ajP _);case move y=>
  unfold zG at hd;rw[aZ] at hd;have hd:=hd.2;rw[ho] at hd;dsimp only at hd;have hz:yh E o.dst=false:=by simpa using hd
  rw[hz];exact mv_nil _
 case buildSlice t len ps=>
  cases hz:zm E o.dst
  .exact mv_nil _
  .exact ajP _
 case load t a=>
  obtain⟨r,hr⟩:=hop aD aD aD;rcases Bb hr with hr|hr
  .unfold uG at hr;dsimp only at hr;split at hr
   .rename_i gl _;split at hr
    .rename_i k n v hg;obtain⟨cs,_,g1,_⟩:=YD hg;have e1:AV st (Operand.global gl)=[]:=rfl;have e2:jh (fr.ev E (.global gl))=[]:=(by rw[YF hR g1];rfl);rw[vS,e1,e2];rfl
    .cases hr
   .split at hr
    .rename_i hv;rw[vS,pY (E:=E) hi hv rfl]
    .rename_i hv;rw[vS,pY (E:=E) hi hv rfl]
    .rename_i hv;rw[vS,pY (E:=E) hi hv rfl]
    .cases hr
  unfold vM at hr;dsimp only at hr;split at hr
  .rename_i hv;rw[vS,pY (E:=E) hi hv rfl]
  .rename_i hv;rw[vS,pY (E:=E) hi hv rfl]
  .rename_i hv;rw[vS,pY (E:=E) hi hv rfl]
  .cases hr
 case store t a y=>
  have h':=h;unfold runM at h';rw[ho] at h';dsimp only at h';split at h'
  .rename_i hst;unfold XP at hst;split at hst
   .rename_i hv _;rw[zN,pY (E:=E) hi hv rfl]
   .cases hst
  .split at h'
   .rename_i hr;rcases Bb hr with hr|hr
    .unfold uG at hr;dsimp only at hr;split at hr
     .rename_i hv _;rw[zN,pY (E:=E) hi hv rfl]
     .rename_i hv _;rw[zN,pY (E:=E) hi hv rfl]
     .cases hr
    unfold vM at hr;dsimp only at hr;split at hr
    .rename_i hv _;rw[zN,pY (E:=E) hi hv rfl]
    .cases hr
   .cases h'
 case convert a b' y=>
  obtain⟨r,hr⟩:=hop aD aD aD;rcases Bb hr with hr|hr
  .unfold uG at hr;dsimp only at hr;split at hr
   .rename_i hv;rw[vS,pY (E:=E) hi hv rfl]
   .cases hr
  unfold vM at hr;dsimp only at hr;split at hr
  .rename_i v hv;rw[vS,pY (E:=E) hi hv (by unfold R6 at hr;split at hr<;>first|rfl|cases hr)]
  .cases hr
 case slice t y lo hi' mx=>
  obtain⟨r,hr⟩:=hop aD aD aD;cases mx with
  |some m=>
   rcases Bb hr with hr|hr
   .cases hi' with
    |none=>unfold uG at hr;cases hr|some h1=>
     unfold uG at hr;dsimp only at hr;split at hr
     .rename_i hv _ _ _;rw[vS,pY (E:=E) hi hv rfl]
     .cases hr
   .unfold vM at hr;cases hr
  |none=>
   rcases Bb hr with hr|hr
   .unfold uG at hr;dsimp only at hr;split at hr
    .rename_i v hv;have key:∀lo hi,CK E R t v lo hi st=some r->IL v=true:=(by intro lo hi hs;unfold CK at hs;split at hs<;>first|rfl|cases hs);rw[vS,pY (E:=E) hi hv (by
      split at hr
      .exact key _ _ hr
      .split at hr
       .exact key _ _ hr
       .cases hr
      .split at hr
       .exact key _ _ hr
       .cases hr
      .split at hr
       .exact key _ _ hr
       .cases hr)]
    .cases hr
   unfold vM at hr;dsimp only at hr;split at hr
   .rename_i v hv;have hw:Ir st v=none:=(by unfold zG at hd;rw[aZ] at hd;have hd:=hd.2;rw[ho] at hd;dsimp only at hd;rw[hv] at hd;simpa using hd);have key:∀lo hi,CG E R t v lo hi st=some r->IL v=true:=by
     intro lo hi hs;unfold CG R8 at hs;rw[hw] at hs;dsimp only at hs;unfold R7 at hs;split at hs
     .split at hs<;>first|rfl|cases hs
     .cases hs
    rw[vS,pY (E:=E) hi hv (by
     split at hr
     .exact key _ _ hr
     .split at hr
      .exact key _ _ hr
      .cases hr
     .split at hr
      .exact key _ _ hr
      .cases hr
     .split at hr
      .exact key _ _ hr
      .cases hr)]
   .cases hr
 case lookup t m y ok=>
  have h':=h;unfold runM at h';rw[ho] at h';dsimp only at h';split at h'
  .rename_i hsm;unfold XO at hsm;cases hsm
  .split at h'
   .rename_i hr;rcases Bb hr with hr|hr
    .unfold uG at hr;cases hr
    unfold vM at hr;dsimp only at hr;split at hr
    .rename_i hv _;rw[vS,pY (E:=E) hi hv (by unfold R9 at hr;cases hr)]
    .cases hr
   .cases h'
 case mapUpdate t m k' v=>
  obtain⟨r,hr⟩:=hop aD aD aD;rcases Bb hr with hr|hr
  .unfold uG at hr;cases hr
  unfold vM at hr;dsimp only at hr;split at hr
  .rename_i hv _ _;rw[zN,pY (E:=E) hi hv (by unfold Iu at hr;cases hr)]
  .cases hr
 case insert t m k' v=>
  obtain⟨r,hr⟩:=hop aD aD aD;rcases Bb hr with hr|hr
  .unfold uG at hr;cases hr
  unfold vM at hr;dsimp only at hr;split at hr
  .rename_i hv _ _;rw[zN,pY (E:=E) hi hv (by unfold Iu at hr;cases hr)]
  .cases hr
 case alloc t=>rw[zN];exact congrArg nC (Ti hi iQ)
 case box t y=>rw[zN];exact congrArg nC (Ti hi iQ)
 case makeMap t y=>rw[zN];exact congrArg nC (Ti hi iQ)
 case makeSlice t y z=>rw[zN];exact congrArg nC (congrArg (Key.top:: ·) (Ti hi iQ))
 case call c=>
  obtain⟨r,hr⟩:=hop aD aD aD;unfold zG at hd;rw[aZ,xY] at hd;obtain⟨hown,hd⟩:=hd;rw[ho] at hd;dsimp only at hd;cases hc:c.callee with
  |invoke y m=>rfl|builtin bi=>
   rw[hc] at hd;dsimp only at hd;rw[wI] at hd;rcases hd with hd|hd
   .cases bi<;>dsimp only at hd⊢ <;>(try cases hd);rw[hi.aj,bQ];rfl
   split at hd
   .rename_i vs hvs;have:=ajR (E:=E) hi hvs hd;cases bi<;>dsimp only<;>(try rw[<-this])<;>(try rfl);rw[hi.aj,bQ];cases aj<;>rfl
   .cases hd
  |value f=>
   rcases Bb hr with hr|hr
   .unfold uG at hr;dsimp only at hr;rw[hc] at hr;cases hr
   unfold vM at hr;dsimp only at hr;rw[hc] at hd hr;dsimp only at hd hr;split at hd
   .rename_i f' a' b' vs hf hvs;simp only[hf,hvs] at hr;cases himp:E.imp f' with
    |true=>rw[himp] at hr;cases hr|false=>
     obtain⟨va,vb,h1,h2,h3⟩:=(bS (E:=E) hi .nil hf).pF;dsimp only;rw[hf,h1];dsimp only;have eX:lU E fr o f=false:=(by have:=Nf hi hown;unfold yJ at this;rw[ho] at this;dsimp only at this;rw[hc] at this;exact this);simp only[himp,eX,dG,if_false];rw[hvs];dsimp only;have hrel:=(h2.append (zJ (E:=E) hi .nil hvs)).append h3;cases hcl:Cz (a'++vs++b') with
     |true=>rw[M5 hR hcl hrel];rfl|false=>rw[hcl,Bool.false_or] at hd;rw[ajS hd hrel];rfl
   .cases hd
omit hR in
theorem Tj (c:eP)(all:List Oper)(o:Oper):(sG all o).map (Key.mv c)=sG all o:=by
 have key:∀l:List Key,(∀k∈l,∃t,k= .slot t)->l.map (Key.mv c)=l:=by
  intro l;induction l with
  |nil=>intro _;rfl|cons k l ih=>intro h;obtain⟨t,e⟩:=h k (jv ..);rw[iH,ih fun k hk=>h k (jT _ hk),e];rfl
 refine key _ fun k hk=>?_;unfold sG at hk;rw[rH] at hk;rcases hk with hk|hk
 .rw[List.mem_filterMap] at hk;obtain⟨a,_,ha⟩:=hk;split at ha
  .cases ha;exact⟨_,rfl⟩
  .cases ha
 .split at hk
  .split at hk
   .exact⟨_,iZ.1 hk⟩
   .cases hk
  .cases hk
omit hR in
theorem Tk (c:eP)(o:Oper):(nY o).map (Key.mv c)=nY o:=by unfold nY;cases o.dst<;>rfl
omit hR in
theorem YS {c:eP}(f:dP)(a b:List Key)(ha:a.map (Key.mv c)=a)(hb:b.map (Key.mv c)=b):dP.mv c ⟨f.qw,f.mh,a++f.t,b++f.w⟩=⟨(f.mv c).qw,(f.mv c).mh,a++(f.mv c).t,b++(f.mv c).w⟩:=by unfold dP.mv;dsimp only;rw[qM,qM,ha,hb]
theorem avu {aj:Bool}{β:Type}{F:Nat->List (iy R)}(bQ:Z.aj.aj=aj)(iQ:∀d,o.dst=some d->d<F0)(hi:aT Z b st fr Y){k:aO R.T->Option β}{x:β}{all:List Oper}(h:runM E R aj F o st k=some x)(hd:zG E aj st o=true):(tq E aj all st o true).mv Z.aj=d9 E all fr o true:=by have key:=avt hR bQ iQ hi h hd;unfold tq d9;rw[if_pos rfl,if_pos rfl,<-key];exact YS _ _ _ (Tj _ _ _) (Tk _ _)
omit hR in
theorem ajT {aj:Bool}{all:List Oper}{c:eP}:(tq E aj all st o false).mv c=d9 E all fr o false:=by unfold tq d9 dP.mv;rw[if_neg aD,if_neg aD];dsimp only;rw[Tj,Tk]
omit hR in
theorem avv {aj:Bool}{all:List Oper}{c:Call}{f:Operand}{g:FuncId}{a vb:List V}(hi:aT Z b st fr Y)(himp:w9 E st o=true)(eX:yJ E fr o=false)(h1:o.op= .call c)(h2:c.callee= .value f)(h3:fr.ev E f= .fn (.func g) a vb)(h4:E.imp g=true):(tq E aj all st o true).mv Z.aj=d9 E all fr o true:=by
 have key:(MP E aj st o).mv Z.aj=gB E fr o:=by
  unfold w9 at himp;rw[h1] at himp;dsimp only at himp;rw[h2] at himp;dsimp only at himp;unfold yJ at eX;rw[h1] at eX;dsimp only at eX;rw[h2] at eX;dsimp only at eX;unfold MP gB;rw[h1];dsimp only;rw[h2];dsimp only;rw[eX,h3];split at himp
  .rename_i g' a' b' hf
   (try rw[hf])
   (try dsimp only)
   rw[if_pos himp,if_neg aD]
   (try dsimp only)
   rw[if_pos h4];rfl
  .cases himp
 unfold tq d9;rw[if_pos rfl,if_pos rfl,<-key];exact YS _ _ _ (Tj _ _ _) (Tk _ _)
omit hR in
theorem avw {β:Type}{F:Nat->List (iy R)}{k:aO R.T->Option β}{x:β}{all:List Oper}(hi:aT Z b st fr Y)(h:zD R F o st k=some x)(hown:nV E st o=true):(MQ all o).mv Z.aj=d9 E all fr o true:=by
 have key:gB E fr o=nC [.top]:=by
  unfold zD at h;split at h
  .rename_i c d ho hd;split at h
   .rename_i f fV;split at h
    .rename_i g a' b' vs hf hvs;obtain⟨va,vb,h1,_,_⟩:=(bS (E:=E) hi .nil hf).pF;have hg:E.own g d=true:=(by unfold nV at hown;rw[ho] at hown;dsimp only at hown;rw[fV] at hown;dsimp only at hown;rw[hf] at hown;dsimp only at hown;rw[hd] at hown;exact hown);have eX:lU E fr o f=true:=(by unfold lU;rw[h1,hd];exact hg);unfold gB;rw[ho];dsimp only;rw[fV];dsimp only;rw[if_pos eX]
    .cases h
   .cases h
  .cases h
 unfold MQ d9;rw[if_pos rfl,key];exact YS ⟨false,false,[],[.top]⟩ _ _ (Tj _ _ _) (Tk _ _)
theorem Jc {aj:Bool}{β:Type}{F:Nat->List (iy R)}(hF:bg E F){M:Nat->List (qV R)}(hM:Tc E M){ms:List Nat}{all:List Oper}{k:aO R.T->Option β}{x:β}{Q:Fr->ah->Prop}:∀(os:List Oper)(aN:Nat)(Z:bC)(st:aO R.T)(fr:Fr)(Y:ah)(fs:List dP),(∀d,bM d (mX E os)=true->d<F0)->Z.aj.aj=aj->aT Z aN st fr Y->aN+os.length<=Y.next->qZ E R aj F M ms all os st fs k=some x->(∀Z' st' fr' Y',aT Z' (aN+os.length) st' fr' Y'->Y.next<=Y'.next->Kp (os.all (yG E)) (mX E os) st fr Y Z st' fr' Y' Z'->k st'=some x->Q fr' Y')->dJ E ms all aN os fr Y (fs.map (dP.mv Z.aj)) Q
 | [],aN,Z,st,fr,Y,fs,hW0,bQ,hi,hsn,h,hq=>by unfold qZ at h;obtain⟨h1,h⟩:=gG h;exact dJ.nil (by rw[avq];exact h1) (hq Z st fr Y hi (iR _) .refl h)
 |o::os,aN,Z,st,fr,Y,fs,hW0,bQ,hi,hsn,h,hq=>by
  have iQ:∀d,o.dst=some d->d<F0:=fun d hd=>hW0 d (ajN hd);have hW1:∀d,bM d (mX E os)=true->d<F0:=fun d hd=>hW0 d (ajO hd);have vR:∀{Y':ah},Y.next<=Y'.next->aN+1+os.length<=Y'.next:=fun h=>by rw[List.length_cons] at hsn;omega
  have hg:=ajL (o:=o) (all:=all) hi;unfold qZ at h;have hW:∀p,bM p (mX E (o::os))=false->qF E o p/\bM p (mX E os)=false:=fun p hp=>ajM hp;have hq':∀(Z1:bC)(st1:aO R.T)(y:V)(aB:ah),(∀p,qF E o p->bT (yG E o) p st Z Y st1 Z1 aB)->Y.next<=aB.next->∀Z' st' fr' Y',aT Z' (aN+1+os.length) st' fr' Y'->aB.next<=Y'.next->Kp (os.all (yG E)) (mX E os) st1 (fr.put o.dst y) aB Z1 st' fr' Y' Z'->k st'=some x->Q fr' Y':=fun Z1 st1 y aB hkp h1 Z' st' fr' Y' hi' hn zM hk=>
   hq Z' st' fr' Y' (by rw[List.length_cons,Nat.add_comm os.length,<-oZ];exact hi') (eZ h1 hn) (((Kp.op (Q:=fun p=>qF E o p) (fun p hp=>⟨(hW p hp).1.1,(hW p hp).1⟩) hkp).nr (Nh:=(o::os).all (yG E)) (fun e=>by rw[List.all_cons,aZ] at e;exact e.1)).trans ((zM.mono fun p hp=>(hW p hp).2).nr (fun e=>by rw[List.all_cons,aZ] at e;exact e.2))) hk
  have run:∀(st1:aO R.T),st1.ob=st.ob->aT Z aN st1 fr Y->fJ all fr o=some true->(bif w9 E st1 o then (bif nV E st1 o then none else Fp R M o st1 (fun st'=>qZ E R aj F M ms all os st' (fs++[tq E aj all st1 o true]) k)) else bif nV E st1 o then zD R F o st1 (fun st'=>qZ E R aj F M ms all os st' (fs++[MQ all o]) k) else bif !(zG E aj st1 o) then none else runM E R aj F o st1 (fun st'=>qZ E R aj F M ms all os st' (fs++[tq E aj all st1 o true]) k))=some x->dJ E ms all aN (o::os) fr Y (fs.map (dP.mv Z.aj)) Q:=by
   intro st1 Hl hi hg h;have hkq:∀(st':aO R.T)(Z':bC)(Y':ah),(∀p,qF E o p->bT true p st1 Z Y st' Z' Y')->∀p,qF E o p->bT true p st Z Y st' Z' Y':=fun st' Z' Y' h p hp=>(h p hp).from Hl;cases himp:w9 E st1 o with
   |true=>
    rw[himp,cond_true] at h;cases hown:nV E st1 o with
    |true=>rw[hown] at h;cases h|false=>
    rw[hown,cond_false] at h;have eX:=Nf hi hown;obtain⟨c,f,g',a,vb,f1,f2,f3,f4,n',v,Y',f5,st2,i1,i2,i3,i4⟩:=YL hR hM hi RS h;have hf:=avv (aj:=aj) (all:=all) hi himp eX f1 f2 f3 f4;refine dJ.AJ hg f1 f2 f3 f4 ⟨n',v,Y',f5,?_⟩ (YR eX f1 f2 f3);have:=Jc hF hM os (aN+1) Z st2 _ Y' _ hW1 bQ i1 (vR i2) i4 (hq' Z st2 v Y' (fun p _=>by rw[YQ himp];exact(i3 p).from Hl) i2);rw[qM,iH,List.map_nil,hf] at this;exact this
   |false=>
   rw[himp,cond_false] at h;cases hown:nV E st1 o with
   |true=>rw[hown,cond_true] at h;refine avn hR hF hi h hown hg (fun Z' st' y Y' hi' hn hkp hk=>?_);have:=Jc hF hM os (aN+1) Z' st' _ Y' _ hW1 ((congrArg eP.aj (FH hkp)).trans bQ) hi' (vR (zi hn.symm)) hk (hq' Z' st' y Y' (fun p hp=>(hkq st' Z' Y' hkp p hp).of) (zi hn.symm));rw[FH hkp,qM,iH,List.map_nil,avw hi h hown] at this;exact this
   |false=>
   rw[hown,cond_false] at h;cases hd:zG E aj st1 o
   .rw[hd] at h;cases h
   .rw[hd] at h;have h':runM E R aj F o st1 (fun st'=>qZ E R aj F M ms all os st' (fs++[tq E aj all st1 o true]) k)=some x:=h;have hf:=avu hR (all:=all) bQ iQ hi h' hd;exact YM hR hF bQ iQ hi h' (rest:=fun fr' Y'=>dJ E ms all (aN+1) os fr' Y' (fs.map (dP.mv Z.aj)++[d9 E all fr o true]) Q) (fun y Y' hst hr=>hst.2 (Nf hi (by unfold zG at hd;rw[aZ,xY] at hd;exact hd.1)) ms all os (fs.map (dP.mv Z.aj)) Q hg hr) (fun Z' st' y Y' hi' hn hkp hk=>by have:=Jc hF hM os (aN+1) Z' st' _ Y' _ hW1 ((congrArg eP.aj (FH hkp)).trans bQ) hi' (vR (zi hn.symm)) hk (hq' Z' st' y Y' (fun p hp=>(hkq st' Z' Y' hkp p hp).of) (zi hn.symm));rw[FH hkp,qM,iH,List.map_nil,hf] at this;exact this)
  split at h
  .rename_i hgm;rw[hgm] at hg;exact run st rfl hi hg h
  .rename_i hgm;rw[hgm] at hg;have:=Jc hF hM os (aN+1) Z _ _ Y _ hW1 bQ ((hi.le (kU _)).iD o.dst gY) (vR (iR _)) h (hq' Z _ aP Y (fun p _=>bT.same za) (iR _));rw[qM,iH,List.map_nil,ajT (fr:=fr)] at this;exact dJ.skip hg this
  .rename_i j w c g hgm;rw[hgm] at hg;obtain⟨⟨n,hn⟩,hg2⟩:=hg;obtain⟨e1,e2,e3⟩:=FE hi n j w c g hn;cases c with
   |true=>obtain⟨l1,l2⟩:=Tf hi (e1 rfl).2 (Tg hi n j w g hn);exact run (st.oO g) l2 l1 hg2 h
   |false=>obtain⟨l1,l2⟩:=YN hi hn;have:=Jc hF hM os (aN+1) Z _ _ Y _ hW1 bQ ((l1.le (kU _)).iD o.dst gY) (vR (iR _)) h (hq' Z _ aP Y (fun p _=>bT.same (Aj.trans l2)) (iR _));rw[qM,iH,List.map_nil,ajT (fr:=fr)] at this;exact dJ.skip hg2 this
  .cases h
end
section
variable {E:Env}{fr:Fr}{Y:ah}
def ah.enter (Y:ah)(fr:Fr)(ps:Array Tmp)(gF body:Code):ah:=({Y with next:=Y.next+1}:ah).nP Y.next {st:=0,pend:=none,fr:=fr,ps:=ps.toList,gF:=gF,body:=body}
def Tm (E:Env)(l:Nat)(args:List V)(Y:ah)(b:Bool)(Y':ah):Prop:=∃n,yt (bI E n) l args Y=some (.bool b,Y')
theorem aF.range {f:Operand}{ps:Array Tmp}{gF body:Code}{g:FuncId}{a b:List V}{Q:Ex->Fr->ah->Prop}(hf:fr.ev E f= .fn (.func g) a b)(hi:E.imp g=true)(h:iX E g (a++[.fn (.yield Y.next) [] []]++b) (fr.d+1) (Y.enter fr ps gF body) (fun _ cO=>∃r,cO.loops Y.next=some r/\r.st≠1/\Q (match r.pend with|none=>.normal|some e=>e) fr (cO.u6 Y.next))):aF E (.rangeFunc f ps gF body) fr Y Q:=by
 obtain⟨n,v,cO,h1,r,h2,h3,h4⟩:=h;refine⟨n,_,fr,_,?_,h4⟩;have h1':jL E (bI E n) fr.d (Y.enter fr ps gF body) (.fn (.func g) a b) [.fn (.yield Y.next) [] []]=some (v,cO):=by unfold jL;simp only[hi,if_true];exact h1
 unfold eu;rw[hf];simp only[VL,if_true];unfold ah.enter at h1';rw[h1'];simp only[Option.bind_some,h2,if_neg h3];cases r.pend<;>rfl
theorem Tm.of {l:Nat}{args:List V}{r:Ey}{b:Bool}{Y':ah}(hl:Y.loops l=some r)(hst:r.st=0)(hlen:r.ps.length=args.length)(h:aF E r.gF {r.fr with tm:=(r.ps.zip args).foldl (fun tm (p,a)=>upd tm p a) r.fr.tm} Y (fun e bJ aB=>e= .normal/\∃r1,aB.loops l=some r1/\r1.st=0/\
   aF E r.body bJ (aB.nP l {r1 with st:=1}) (fun e _ cO=>∃r2,cO.loops l=some r2/\r2.st=1/\match e with
    |.normal=>b=true/\Y'=cO.nP l {r2 with st:=0,pend:=none}
    |e=>b=false/\Y'=cO.nP l {r2 with st:=2,pend:=some e}))):Tm E l args Y b Y':=by
 obtain⟨n,e,bJ,aB,h1,rfl,r1,hl1,hs1,m,e2,jd,cO,h2,r2,hl2,hs2,h3⟩:=h;have h1':(bI E (max n m+1)).code r.gF {r.fr with tm:=(r.ps.zip args).foldl (fun tm (p,a)=>upd tm p a) r.fr.tm} Y=some (.normal,bJ,aB):=zw (jM (sK n m)) _ _ _ _ h1;have h2':(bI E (max n m+1)).code r.body bJ (aB.nP l {r1 with st:=1})=some (e2,jd,cO):=zw (jM (qL n m)) _ _ _ _ h2;refine⟨max n m+1,?_⟩;unfold yt;simp only[hl,Option.bind_some,hst,hlen,and_self,if_true,h1',hl1,hs1,h2',hl2,hs2];cases e2 with
 |normal=>obtain⟨rfl,rfl⟩:=h3;rfl
 |exit i=>obtain⟨rfl,rfl⟩:=h3;rfl
 |ret=>obtain⟨rfl,rfl⟩:=h3;rfl
theorem ay.yield {all:List Oper}{st:Nat}{o:Oper}{os:List Oper}{Q:Fr->ah->Prop}{c:Call}{f:Operand}{l:Nat}{b:Bool}{aB:ah}(hw:fJ all fr o=some true)(ho:o.op= .call c)(fV:c.callee= .value f)(hf:fr.ev E f= .fn (.yield l) [] [])(hr:Tm E l (c.args.toList.map (fr.ev E)) Y b aB)(h:ay E all (st+1) os (fr.put o.dst (.bool b)) aB Q):ay E all st (o::os) fr Y Q:=by
 obtain⟨n,fr',Y',h1,h2⟩:=h;obtain⟨m,hm⟩:=hr;have hm':=Xa (jM (qL n m)) hm;have h1':=Mq (jM (sK n m)) _ _ _ _ _ _ h1;refine⟨max n m,fr',Y',?_,h2⟩;have:jL E (bI E (max n m)) fr.d Y (.fn (.yield l) [] []) (c.args.toList.map (fr.ev E))=some (.bool b,aB):=by unfold jL;exact hm'
 have eX:lU E fr o f=false:=by unfold lU;rw[hf]
 simp only[opsE,hw,Option.bind_some,if_true,opC,ho,fV,eX,dG,if_false,hf,this,Option.map_some,h1']
structure Shift (d:Nat)(Y Y':ah):Prop where
 next:Y.next<=Y'.next
 top:∀s,s<Y.next->Y'.top s=Y.top s
 loops:∀l,l<Y.next->Y'.loops l=Y.loops l
 obj:∀a o,a<=d->Y'.obj (a,o)=Y.obj (a,o)
theorem Shift.refl {d:Nat}{Y:ah}:Shift d Y Y:=⟨iR _,fun _ _=>rfl,fun _ _=>rfl,fun _ _ _=>rfl⟩
theorem Shift.trans {d:Nat}{Y Y' pG:ah}(h:Shift d Y Y')(g:Shift d Y' pG):Shift d Y pG:=
 ⟨eZ h.next g.next,fun s hs=>(g.top s (nD hs h.next)).trans (h.top s hs),fun s hs=>(g.loops s (nD hs h.next)).trans (h.loops s hs),fun a o ha=>(g.obj a o ha).trans (h.obj a o ha)⟩
def avx (E:Env)(f:FuncId)(a b:List V)(L:List (List V)):Prop:=∀(d l:Nat)(Y:ah)(J:List (List V)->ah->Prop)(D:ah->Prop),
 (∀xs Y Y',l<Y.next->J xs Y->Shift d Y Y'->J xs Y')->(∀Y Y',l<Y.next->D Y->Shift d Y Y'->D Y')->
 (∀x xs Y,l<Y.next->J (x::xs) Y->∃c Y',Tm E l x Y c Y'/\Y.next<=Y'.next/\(∀a o,d<a->Y'.obj (a,o)=Y.obj (a,o))/\(∀s,s<Y.next->Y'.loops s=Y.loops s\/s=l)/\(c=true->J xs Y')/\(c=false->D Y'))->
 l<Y.next->J L Y->iX E f (a++[.fn (.yield l) [] []]++b) (d+1) Y fun _ Y'=>Y.next<=Y'.next/\(J [] Y'\/D Y')
end
end aQ
end
