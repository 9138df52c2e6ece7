import Derived.Test.YtgdialomgeijcaaGreatF3509
set_option linter.all false
section
namespace Aq
open Go
section
variable {R:Reg} {E:Env} {Z Z':ak} {b stp:Nat} {st:MS R.T} {fr:Fr} {Y:Sig} {o:Oper} (hR:RegOK R)
include hR
def FMOK (E:Env) (g:Nat) (r:FM R):Prop:=∀p q y q',r.F p q=some (y,q')->∀(Z:ak) (vs:List V) (Y:Sig),Z.om.om=E.om g->(∀t,Z.tk t=none)->Z.om.lo<=Y.next->
 ah R Z Y.top (upL R .any r.args p) vs->(∀o x,look (upOs R r.obs q) o=some x->aQ Z Y o x)->
 Imp E g vs Z.om.dp Y fun v Y'=>(∃ws,v=retV ws/\ah R Z Y'.top (upL R .any r.res y) ws)/\(∀o x,look (upOs R r.obs q') o=some x->aQ Z Y' o x)/\Y.next<=Y'.next/\(∀l,l<Y.next->Y'.loops l=Y.loops l)/\(∀s,s<Z.om.lo->Y'.top s=Y.top s)/\
  ∀L:Loc,L.1<=Z.om.dp->Z.om.out L->Y'.obj L=Y.obj L
def sK (E:Env) (M:Nat->List (FM R)):Prop:=∀g,∀r∈M g,E.imp g=true/\FMOK E g r
omit hR in
theorem DJ {i:Nat}:∀{l:List Nat},memN i l=true->i∈l
 | [],h=>by cases h
 |j::l,h=>by
  have h':(Nat.beq i j||memN i l)=true:=h
  rw[QS] at h'
  rcases h' with h'|h'
  .rw[bB h'];exact Qa ..
  .exact Qb _ (DJ h')
omit hR in
theorem xR {i:Nat}:∀{l:List Nat},i∈l->memN i l=true
 | [],h=>by cases h
 |j::l,h=>by
  show (Nat.beq i j||memN i l)=true
  rw[QS]
  rcases P9.1 h with h|h
  .left;rw[h];exact QH _
  .right;exact xR h
omit hR in
theorem DK:∀{l:List Nat} {n o p:Nat},look (numL l n) o=some p->n<=p/\l[p-n]? =some o
 | [],_,_,_,h=>by cases h
 |a::l,n,o,p,h=>by
  have h':look ((a,n)::numL l (n+1)) o=some p:=h
  by_cases e:o=a
  .subst e;rw[bP] at h';cases h';exact⟨mF _,by simp⟩
  .rw[bg _ _ e] at h'
   obtain⟨h1,h2⟩:=DK h'
   refine⟨by omega,?_⟩
   have:p-n=(p-(n+1))+1:=by omega
   rw[this];simpa using h2
omit hR in
theorem DL:∀{l:List Nat} {n o p:Nat},look (invL (numL l n)) p=some o->n<=p/\l[p-n]? =some o
 | [],_,_,_,h=>by cases h
 |a::l,n,o,p,h=>by
  have h':look ((n,a)::invL (numL l (n+1))) p=some o:=h
  by_cases e:p=n
  .subst e;rw[bP] at h';cases h';exact⟨mF _,by simp⟩
  .rw[bg _ _ e] at h'
   obtain⟨h1,h2⟩:=DL h'
   refine⟨by omega,?_⟩
   have:p-n=(p-(n+1))+1:=by omega
   rw[this];simpa using h2
omit hR in
theorem DN:∀{l:List Nat},ndB l=true->∀{i j o:Nat},l[i]? =some o->l[j]? =some o->i=j
 | [],_,i,j,o,hi,_=>by simp at hi
 |a::l,h,i,j,o,hi,hj=>by
  have h':(!(memN a l)&& ndB l)=true:=h
  rw[P6,QN] at h'
  cases i with
  |zero=>
   cases j with
   |zero=>rfl
   |succ j=>
    have e:a=o:=by simpa using hi
    have e2:l[j]? =some o:=by simpa using hj
    rw[e,xR (Qw e2)] at h'
    exact absurd h'.1 (by simp)
  |succ i=>
   cases j with
   |zero=>
    have e:a=o:=by simpa using hj
    have e2:l[i]? =some o:=by simpa using hi
    rw[e,xR (Qw e2)] at h'
    exact absurd h'.1 (by simp)
   |succ j=>rw[DN h'.2 (show l[i]? =some o by simpa using hi) (show l[j]? =some o by simpa using hj)]
omit hR in
theorem xS:∀{l:List Nat} {n p:Nat} {x:Ob R.T},look (mobs st (numL l n)) p=some x->∃o,n<=p/\l[p-n]? =some o/\look st.ob o=some x
 | [],_,_,_,h=>by cases h
 |a::l,n,p,x,h=>by
  have up:look (mobs st (numL l (n+1))) p=some x->∃o,n<=p/\(a::l)[p-n]? =some o/\look st.ob o=some x:=fun h=>by
   obtain⟨o,h1,h2,h3⟩:=xS h
   refine⟨o,by omega,?_,h3⟩
   have:p-n=(p-(n+1))+1:=by omega
   rw[this];simpa using h2
  have h':=h
  unfold numL mobs at h'
  split at h'
  .rename_i y hy
   by_cases e:p=n
   .subst e;rw[bP] at h';cases h';exact⟨a,mF _,by simp,hy⟩
   .rw[bg _ _ e] at h';exact up h'
  .exact up h'
omit hR in
theorem xU {L:List (Nat×Ob R.T)}:∀{l:List Nat} {n o:Nat} {y:Ob R.T},look (bobs (numL l n) L) o=some y->∃p,n<=p/\l[p-n]? =some o/\look L p=some y
 | [],_,_,_,h=>by cases h
 |a::l,n,o,y,h=>by
  have up:look (bobs (numL l (n+1)) L) o=some y->∃p,n<=p/\(a::l)[p-n]? =some o/\look L p=some y:=fun h=>by
   obtain⟨p,h1,h2,h3⟩:=xU h
   refine⟨p,by omega,?_,h3⟩
   have:p-n=(p-(n+1))+1:=by omega
   rw[this];simpa using h2
  have h':=h
  unfold numL bobs at h'
  split at h'
  .rename_i z hz
   by_cases e:o=a
   .subst e;rw[bP] at h';cases h';exact⟨n,mF _,by simp,hz⟩
   .rw[bg _ _ e] at h';exact up h'
  .exact up h'
omit hR in
theorem DR {L:List (Nat×Ob R.T)}:∀{l:List Nat} {n o:Nat},(∀p,n<=p->p<n+l.length->∃y,look L p=some y)->look (bobs (numL l n) L) o=none->o∉l
 | [],_,_,_,_=>by simp
 |a::l,n,o,hL,h=>by
  obtain⟨y,hy⟩:=hL n (mF _) (by simp)
  have h':=h
  unfold numL bobs at h'
  rw[hy] at h'
  by_cases e:o=a
  .subst e;rw[bP] at h';cases h'
  .rw[bg _ _ e] at h'
   have:=DR (fun p h1 h2=>hL p (by omega) (by rw[List.length_cons];omega)) h'
   simp[e,this]
omit hR in
theorem sM:∀{l:List Nat} {n:Nat} {obs:List (Nat×ObSk)} {q:PayOs R.T obs},eqKs (numL l n) obs=true->∀p,n<=p->p<n+l.length->∃y,look (upOs R obs q) p=some y
 | [],n,_,_,_,p,h1,h2=>by simp at h2;omega
 |a::l,n,[],_,h,_,_,_=>by cases h
 |a::l,n,[(j,k)],q,h,p,h1,h2=>by
  have h':(Nat.beq n j&& eqKs (numL l (n+1)) [])=true:=h
  rw[P6] at h'
  have hj:=bB h'.1
  subst hj
  by_cases e:p=n
  .subst e;exact⟨_,bP _ _ _⟩
  .obtain⟨y,hy⟩:=sM (q:=show PayOs R.T [] from ()) h'.2 p (by omega) (by rw[List.length_cons] at h2;omega)
   cases hy
 |a::l,n,(j,k)::x::obs,q,h,p,h1,h2=>by
  have h':(Nat.beq n j&& eqKs (numL l (n+1)) (x::obs))=true:=h
  rw[P6] at h'
  have hj:=bB h'.1
  subst hj
  show∃y,look ((n,upO R k q.1)::upOs R (x::obs) q.2) p=some y
  by_cases e:p=n
  .subst e;exact⟨_,bP _ _ _⟩
  .rw[bg _ _ e]
   exact sM h'.2 p (by omega) (by rw[List.length_cons] at h2;omega)
omit hR in
theorem sN {L:List (Nat×Ob R.T)}:∀(l:List (Nat×ObSk)) (x:PayOs R.T l),pkOs R L l=some x->∀i v,look (upOs R l x) i=some v->∃k y z,look L i=some y/\pkO R k y=some z/\v=upO R k z/\(okOs l=true->okO k=true)
 | [],x,hx,i,v,hv=>by cases hv
 | [(j,k)],x,hx,i,v,hv=>by
   unfold pkOs at hx
   split at hx
   .rename_i y hy
    by_cases e:i=j
    .subst e
     have hv':look [(i,upO R k x)] i=some v:=hv
     rw[bP] at hv';cases hv'
     exact⟨k,y,x,hy,hx,rfl,fun h=>by unfold okOs at h;rw[P6] at h;exact h.1⟩
    .have hv':look [(j,upO R k x)] i=some v:=hv
     rw[bg _ _ e] at hv';cases hv'
   .cases hx
 | (j,k)::q::l,x,hx,i,v,hv=>by
   unfold pkOs at hx
   split at hx
   .rename_i y hy
    cases hu:pkO R k y with
    |none=>simp only[hu] at hx;cases hx
    |some z=>
     cases hs:pkOs R L (q::l) with
     |none=>simp only[hu,hs] at hx;cases hx
     |some p=>
      simp only[hu,hs] at hx
      obtain rfl:=Qn hx
      have hv':look ((j,upO R k z)::upOs R (q::l) p) i=some v:=hv
      by_cases e:i=j
      .subst e
       rw[bP] at hv';cases hv'
       exact⟨k,y,z,hy,hu,rfl,fun h=>by unfold okOs at h;rw[P6] at h;exact h.1⟩
      .rw[bg _ _ e] at hv'
       obtain⟨k',y',z',h1,h2,h3,h4⟩:=sN (q::l) p hs i v hv'
       exact⟨k',y',z',h1,h2,h3,fun h=>h4 (by unfold okOs at h;rw[P6] at h;exact h.2)⟩
   .cases hx
omit hR in
theorem DT:∀{l:List (Nat×ObSk)} {x:PayOs R.T l},okOs l=true->∀{i:Nat} {v:Ob R.T},look (upOs R l x) i=some v->∃k z,okO k=true/\v=upO R k z
 | [],x,_,i,v,hv=>by cases hv
 | [(j,k)],x,h,i,v,hv=>by
   unfold okOs at h;rw[P6] at h
   have hv':look [(j,upO R k x)] i=some v:=hv
   by_cases e:i=j
   .subst e;rw[bP] at hv';cases hv';exact⟨k,x,h.1,rfl⟩
   .rw[bg _ _ e] at hv';cases hv'
 | (j,k)::q::l,x,h,i,v,hv=>by
   unfold okOs at h;rw[P6] at h
   have hv':look ((j,upO R k x.1)::upOs R (q::l) x.2) i=some v:=hv
   by_cases e:i=j
   .subst e;rw[bP] at hv';cases hv';exact⟨k,x.1,h.1,rfl⟩
   .rw[bg _ _ e] at hv';exact DT h.2 hv'
omit hR in
theorem Ns {top top':Nat->Nat} {t:Ty} {x:Den R.T t} {v:V} (h:Rl R Z top (tvD R .any t x) v):Rl R Z' top' (tvD R .any t x) v:=by
 cases t with
 |st n=>obtain⟨l,hv,hl⟩:=Rl.dn (R:=R) h;exact⟨l,hv,kI _ _ _ hl⟩
 |int k=>exact h
 |bool=>exact h
 |str=>exact h
 |slice t=>exact h
omit hR in
mutual
theorem DU {top top':Nat->Nat}:∀(k:Sk) (z:PayS R.T k) (v:V),dS1 k=true->Rl R Z top (up R .any k z) v->Rl R Z' top' (up R .any k z) v
 |.d t,z,v,_,h=>by unfold up at h⊢;exact Ns h
 |.cref l off,z,v,hd,h=>by
  unfold up at h⊢
  obtain⟨cs,rfl,h1⟩:=h.gH
  unfold Rl
  exact⟨cs,rfl,qj (by unfold dS1 at hd;exact hd) h1⟩
 |.fn f a b,z,v,hd,h=>by
  unfold up at h⊢
  obtain⟨x,y,rfl,h1,h2⟩:=h.dW
  unfold dS1 at hd
  rw[P6] at hd
  unfold Rl
  exact⟨x,y,rfl,qj hd.1 h1,qj hd.2 h2⟩
 |.l _ _,_,_,hd,_=>by cases hd
 |.agg _,_,_,hd,_=>by cases hd
 |.ref _ _,_,_,hd,_=>by cases hd
 |.mapr _,_,_,hd,_=>by cases hd
 |.mapc _ _,_,_,hd,_=>by cases hd
 |.nils,_,_,hd,_=>by cases hd
 |.vw _ _,_,_,hd,_=>by cases hd
 |.sub _ _,_,_,hd,_=>by cases hd
 |.sg _,_,_,hd,_=>by cases hd
 |.undef,_,_,hd,_=>by cases hd
theorem qj {top top':Nat->Nat}:∀{l:List Sk} {z:PayL R.T l} {cs:List V},dSk l=true->ah R Z top (upL R .any l z) cs->ah R Z' top' (upL R .any l z) cs
 | [],_,_,_,h=>h
 | [k],z,cs,hd,h=>by
   unfold dSk at hd;rw[P6] at hd
   obtain⟨v,ws,rfl,h1,h2⟩:=ah.aS (ts:=[]) (show ah R Z top [up R .any k z] cs from h)
   rw[h2.bA]
   exact .cons' (DU k z v hd.1 h1) rfl
 |k::q::l,z,cs,hd,h=>by
  unfold dSk at hd;rw[P6] at hd
  obtain⟨v,ws,rfl,h1,h2⟩:=ah.aS (show ah R Z top (up R .any k z.1::upL R .any (q::l) z.2) cs from h)
  exact .cons' (DU k z.1 v hd.1 h1) (qj (l:=q::l) hd.2 h2)
end
omit hR in
theorem xV {o p:Nat} {k:ObSk} {z:PayO R.T k} (hk:okO k=true) (hb:Z'.ob p=Z.ob o) (hn:Z'.ln p=Z.ln o) (hl:Z'.om.lc p=Z.om.lc o) (h:aQ Z Y o (upO R k z)):aQ Z' Y p (upO R k z):=by
 cases k with
 |cells l=>obtain⟨s,cs,h1,h2,h3⟩:=h;exact⟨s,cs,by rw[hb];exact h1,by rw[hl];exact h2,qj hk h3⟩
 |st n=>obtain⟨s,cs,h1,h2,h3⟩:=h;exact⟨s,cs,by rw[hb];exact h1,by rw[hl];exact h2,kI _ _ _ h3⟩
 |map k e=>obtain⟨s,h1,h2⟩:=h;exact⟨s,by rw[hb];exact h1,by rw[hl];exact h2⟩
 |arr t=>
  refine⟨h.1.trans hn.symm,?_⟩
  rcases h.2 with h| ⟨s,cs,h1,h2,h3⟩
  .exact .inl ⟨h.1,by rw[hb];exact h.2⟩
  .exact .inr ⟨s,cs,by rw[hb];exact h1,by rw[hl];exact h2,iT _ cs h3⟩
 |sg l=>obtain⟨s,h1,h2⟩:=h;exact⟨s,by rw[hb];exact h1,by rw[hl];exact h2⟩
omit hR in
mutual
theorem Rl.ren {top:Nat->Nat} {m:List (Nat×Nat)} (hm:∀o p,look m o=some p->Z'.om.lc p=Z.om.lc o/\Z'.ob p=Z.ob o/\Z'.ln p=Z.ln o):∀(x:TV R.T) (v:V),Rl R Z top x v->Rl R Z' top (renV m x) v
 |.ref o off,v,h=>by
  obtain⟨s,h1,h2⟩:=h
  unfold renV
  split
  .rename_i p hp;obtain⟨a,b,c⟩:=hm _ _ hp;exact⟨s,by rw[b];exact h1,by rw[a];exact h2⟩
  .unfold Rl;trivial
 |.mapr o,v,h=>by
  obtain⟨s,h1,h2⟩:=h
  unfold renV
  split
  .rename_i p hp;obtain⟨a,b,c⟩:=hm _ _ hp;exact⟨s,by rw[b];exact h1,by rw[a];exact h2⟩
  .unfold Rl;trivial
 |.vw o t,v,h=>by
  unfold renV
  split
  .rename_i p hp
   obtain⟨a,b,c⟩:=hm _ _ hp
   rcases h with ⟨s,h1,h2⟩| ⟨h1,h2⟩
   .exact .inl ⟨s,by rw[b];exact h1,by rw[a,c];exact h2⟩
   .exact .inr ⟨by rw[c];exact h1,h2⟩
  .unfold Rl;trivial
 |.sub o t x y,v,h=>by
  unfold renV
  split
  .rename_i p hp
   obtain⟨a,b,c⟩:=hm _ _ hp
   obtain⟨g0,g1,g2,h⟩:=h
   refine⟨g0,g1,by rw[c];exact g2,?_⟩
   rcases h with ⟨s,cp,h1,h2,h3⟩|h
   .exact .inl ⟨s,cp,by rw[b];exact h1,h2,by rw[a];exact h3⟩
   .exact .inr h
  .unfold Rl;trivial
 |.eref o t i off,v,h=>by
  obtain⟨s,h1,h2⟩:=h
  unfold renV
  split
  .rename_i p hp;obtain⟨a,b,c⟩:=hm _ _ hp;exact⟨s,by rw[b];exact h1,by rw[a];exact h2⟩
  .unfold Rl;trivial
 |.sv o _ _ _ _ _,v,h=>by
  obtain⟨s,h1,h2⟩:=h
  unfold renV
  split
  .rename_i p hp;obtain⟨a,b,c⟩:=hm _ _ hp;exact⟨s,by rw[b];exact h1,by rw[a];exact h2⟩
  .unfold Rl;trivial
 |.sel o _ _ _ _ _,v,h=>by
  obtain⟨s,h1,h2⟩:=h
  unfold renV
  split
  .rename_i p hp;obtain⟨a,b,c⟩:=hm _ _ hp;exact⟨s,by rw[b];exact h1,by rw[a];exact h2⟩
  .unfold Rl;trivial
 |.lst c t l,v,h=>by
  obtain⟨c',hv,hc⟩:=h
  unfold renV
  cases c with
  |own u=>exact⟨c',hv,trivial⟩
  |any=>exact⟨c',hv,trivial⟩
  |sh=>exact⟨c',hv,hc⟩
  |nil=>exact⟨c',hv,hc⟩
  |full=>exact⟨c',hv,hc⟩
 |.agg cs,v,h=>by obtain⟨l,hv,hl⟩:=h;exact⟨l,hv,ah.ren hm cs l hl⟩
 |.tup cs,v,h=>by obtain⟨l,hv,hl⟩:=h;exact⟨l,hv,ah.ren hm cs l hl⟩
 |.cref cs off,v,h=>by obtain⟨l,hv,hl⟩:=h;exact⟨l,hv,ah.ren hm cs l hl⟩
 |.fn f a b,v,h=>by obtain⟨a',b',hv,ha,hb⟩:=h;exact⟨a',b',hv,ah.ren hm a a' ha,ah.ren hm b b' hb⟩
 |.opt _ _ _,_,h=>h.elim
 |.int _ _,_,h=>h
 |.bool _,_,h=>h
 |.blit _,_,h=>h
 |.str _,_,h=>h
 |.nilp,_,h=>h
 |.nilf,_,h=>h
 |.nilm,_,h=>h
 |.nili,_,h=>h
 |.nils,_,h=>h
 |.mapc _ _ _,_,h=>h
 |.undef,_,h=>h
 |.sg _,_,h=>h
 |.gel _ _ _ _,_,h=>h
 |.gone,_,h=>h
theorem ah.ren {top:Nat->Nat} {m:List (Nat×Nat)} (hm:∀o p,look m o=some p->Z'.om.lc p=Z.om.lc o/\Z'.ob p=Z.ob o/\Z'.ln p=Z.ln o):∀(x:List (TV R.T)) (v:List V),ah R Z top x v->ah R Z' top (renL m x) v
 | [],_,h=>h
 |x::xs,_,⟨v,vs,e,h1,h2⟩=>⟨v,vs,e,Rl.ren hm x v h1,ah.ren hm xs vs h2⟩
end
omit hR in
mutual
theorem Rl.top {Z:ak} {t t':Nat->Nat} (ht:∀u s,Z.tk u=some s->t' s=t s):∀(x:TV R.T) (v:V),Rl R Z t x v->Rl R Z t' x v
 |.lst c ty l,v,h=>by
  obtain⟨c',hv,hc⟩:=h
  refine⟨c',hv,?_⟩
  cases c<;>first|exact hc|skip
  rcases hc with hc|hc| ⟨s,h1,h2,h3⟩
  .exact .inl hc
  .exact .inr (.inl hc)
  .exact .inr (.inr ⟨s,h1,h2,(ht _ _ h2).trans h3⟩)
 |.agg cs,v,h=>by obtain⟨l,hv,hl⟩:=h;exact⟨l,hv,ah.top ht cs l hl⟩
 |.tup cs,v,h=>by obtain⟨l,hv,hl⟩:=h;exact⟨l,hv,ah.top ht cs l hl⟩
 |.cref cs off,v,h=>by obtain⟨l,hv,hl⟩:=h;exact⟨l,hv,ah.top ht cs l hl⟩
 |.fn f a b,v,h=>by obtain⟨a',b',hv,ha,hb⟩:=h;exact⟨a',b',hv,ah.top ht a a' ha,ah.top ht b b' hb⟩
 |.ref _ _,_,h=>h
 |.mapr _,_,h=>h
 |.vw _ _,_,h=>h
 |.sub _ _ _ _,_,h=>h
 |.eref _ _ _ _,_,h=>h
 |.opt _ _ _,_,h=>h.elim
 |.int _ _,_,h=>h
 |.bool _,_,h=>h
 |.blit _,_,h=>h
 |.str _,_,h=>h
 |.nilp,_,h=>h
 |.nilf,_,h=>h
 |.nilm,_,h=>h
 |.nili,_,h=>h
 |.nils,_,h=>h
 |.mapc _ _ _,_,h=>h
 |.undef,_,h=>h
 |.sg _,_,h=>h
 |.sv _ _ _ _ _ _,_,h=>h
 |.sel _ _ _ _ _ _,_,h=>h
 |.gel _ _ _ _,_,h=>h
 |.gone,_,h=>h
theorem ah.top {Z:ak} {t t':Nat->Nat} (ht:∀u s,Z.tk u=some s->t' s=t s):∀(x:List (TV R.T)) (v:List V),ah R Z t x v->ah R Z t' x v
 | [],_,h=>h
 |x::xs,_,⟨v,vs,e,h1,h2⟩=>⟨v,vs,e,Rl.top ht x v h1,ah.top ht xs vs h2⟩
end
omit hR in
theorem bK.top {fr:Fr} {Z:ak} {t t':Nat->Nat} (ht:∀u s,Z.tk u=some s->t' s=t s) {x:TV R.T} {v:V} (h:bK fr Z t x v):bK fr Z t' x v:=by
 cases x with
 |opt j w y=>exact⟨fun hc=>Rl.top ht y v (h.1 hc),h.2⟩
 |_=>exact .of (Rl.top ht _ v h)
omit hR in
theorem xW {Z:ak} {Y Y':Sig} {p:Nat} (hp:Y'.obj (Z.om.lc p)=Y.obj (Z.om.lc p)) (ht:∀u s,Z.tk u=some s->Y'.top s=Y.top s):∀{x:Ob R.T},aQ Z Y p x->aQ Z Y' p x
 |.cells cs,h=>by
  obtain⟨s,l,h1,h2,h3⟩:=h
  exact⟨s,l,h1,by unfold Sig.cellsAt at h2⊢;rw[hp];exact h2,ah.top ht _ _ h3⟩
 |.map k e m,h=>by
  obtain⟨s,h1,h2⟩:=h
  exact⟨s,h1,by unfold Sig.aZ at h2⊢;rw[hp];exact h2⟩
 |.smap ks vs,h=>by
  obtain⟨s,k,l,h1,h2,h3,h4⟩:=h
  exact⟨s,k,l,h1,by unfold Sig.aZ at h2⊢;rw[hp];exact h2,ah.top ht _ _ h3,ah.top ht _ _ h4⟩
 |.arr t l,h=>by
  refine⟨h.1,?_⟩
  rcases h.2 with h| ⟨s,cs,h1,h2,h3⟩
  .exact .inl h
  .exact .inr ⟨s,cs,h1,by unfold Sig.cellsAt at h2⊢;rw[hp];exact h2,iT l cs h3⟩
 |.sg ss,h=>by
  obtain⟨s,h1,h2⟩:=h
  exact⟨s,h1,by unfold Sig.cellsAt at h2⊢;rw[hp];exact h2⟩
 |.gone,_=>trivial
 |.ro b,h=>xW hp ht (x:=b) h
omit hR in
theorem aj.shift {Z:ak} {b:Nat} {st:MS R.T} {fr:Fr} {Y Y':Sig} (h:aj Z b st fr Y) (hp:∀p,Y'.obj (Z.om.lc p)=Y.obj (Z.om.lc p)) (ht:∀s,s<b->Y'.top s=Y.top s):aj Z b st fr Y':={h with
 fr:=fun i v hv=>(h.fr i v hv).top fun u s hu=>ht s (h.lt u s hu)
 ob:=fun o x hx=>xW (hp o) (fun u s hu=>ht s (h.lt u s hu)) (h.ob o x hx)}
omit hR in
theorem Nt {top:Nat->Nat} {xs:List (TV R.T)} {vs:List V} (h:ah R Z top xs vs):Rl R Z top (retW xs) (retV vs):=by
 match xs,vs,h with
 | [],_,h=>rw[h.bA];exact⟨[],rfl,rfl⟩
 | [x],_,h=>obtain⟨v,l,rfl,h1,h2⟩:=h.aS;rw[h2.bA];exact h1
 |x::y::l,_,h=>
  obtain⟨v,ws,rfl,h1,h2⟩:=h.aS
  obtain⟨w,us,rfl,h3,h4⟩:=h2.aS
  exact⟨v::w::us,rfl,.cons' h1 (.cons' h3 h4)⟩
omit hR in
theorem DV {m:List (Nat×Nat)} {A:List (TV R.T)} {B:List (Nat×Ob R.T)}:∀{l:List (FM R)} {r:FM R} {x:Option (PayL R.T r.res×PayOs R.T r.obs)},findM R m A B l=some ⟨r,x⟩->r∈l/\∃p q,pkL R r.args A=some p/\pkOs R B r.obs=some q/\eqKs m r.obs=true/\scS r.res=true/\okOs r.obs=true/\x=r.F p q
 | [],_,_,h=>by cases h
 |s::l,r,x,h=>by
  unfold findM at h
  split at h
  .rename_i p q hp hq
   obtain⟨hb,h⟩:=bn h
   rw[P6,P6] at hb
   cases h
   exact⟨Qa ..,p,q,hp,hq,hb.1,hb.2.1,hb.2.2,rfl⟩
  .obtain⟨h1,h2⟩:=DV h
   exact⟨Qb _ h1,h2⟩
def Cx.call (c:Cx) (om:Bool) (lo:Nat) (ids:List Nat) (hnd:ndB ids=true):Cx where
 om:=om
 dp:=c.dp+1
 lo:=lo
 fl:=fun p=>if F0<=p then (ids[p-F0]?).map c.lc else none
 lt:=fun p L h=>by
  split at h
  .rename_i hp
   obtain⟨o,_,rfl⟩:=PZ.1 h
   exact⟨hp,Nat.lt_succ_of_le (c.nE o)⟩
  .cases h
 inj:=fun p q L h g=>by
  split at h
  .split at g
   .rename_i hp hq
    obtain⟨o,h1,rfl⟩:=PZ.1 h
    obtain⟨o',h2,e⟩:=PZ.1 g
    have:=c.wG e
    subst this
    have:=DN hnd h1 h2
    omega
   .cases g
  .cases h
omit hR in
theorem Cx.Nu {c:Cx} {om:Bool} {lo:Nat} {ids:List Nat} {hnd:ndB ids=true} {p o:Nat} (hp:F0<=p) (h:ids[p-F0]? =some o):(c.call om lo ids hnd).lc p=c.lc o:=by
 unfold Cx.lc Cx.call
 dsimp only
 rw[if_pos hp,h]
 rfl
omit hR in
theorem Cx.DW {c:Cx} {om:Bool} {lo:Nat} {ids:List Nat} {hnd:ndB ids=true} {L:Loc} (hL:L.1<=c.dp) (h:∀o∈ids,L≠c.lc o):(c.call om lo ids hnd).out L:=by
 intro p e
 unfold Cx.lc Cx.call at e
 dsimp only at e
 split at e
 .rename_i M hM
  split at hM
  .obtain⟨o,h1,rfl⟩:=PZ.1 hM
   exact h o (Qw h1) e
  .cases hM
 .rw[e] at hL;dsimp only at hL;omega
theorem xX {β:Type} {M:Nat->List (FM R)} (hM:sK E M) (hi:aj Z stp st fr Y) (hsn:stp<=Y.next) {k:MS R.T->Option β} {x:β} (h:impM R M o st k=some x):
 ∃c f g a vb,o.op= .call c/\c.callee= .value f/\fr.ev E f= .fn (.func g) a vb/\E.imp g=true/\Imp E g (a++c.args.toList.map (fr.ev E)++vb) (fr.d+1) Y fun v Y1=>∃st1,aj Z (stp+1) st1 (fr.put o.dst v) Y1/\Y.next<=Y1.next/\(∀p,aB false p st Z Y st1 Z Y1)/\k st1=some x:=by
 unfold impM at h
 split at h
 .rename_i c hop
  split at h
  .rename_i f bH
   split at h
   .rename_i g a' b' vs hf hvs
    obtain⟨hnd,h⟩:=bn h
    generalize PU:idsL (a'++vs++b') []=ids at*
    split at h
    .rename_i r x' hfm
     obtain⟨⟨y,q'⟩,hy,hk⟩:=iP.1 h
     obtain⟨hr,p,q,hp,hq,hks,hsc,hok,rfl⟩:=DV hfm
     obtain⟨va,vb,jf,hva,hvb⟩:=(aI (E:=E) hi .nil hf).dW
     have hA:=(hva.append (lX (E:=E) hi .nil hvs)).append hvb
     let Zcz:ak:=⟨fun p=>if F0<=p then (ids[p-F0]?).bind Z.ob else none,fun _=>none,fun p=>if F0<=p then (match ids[p-F0]? with|some o=>Z.ln o|none=>0) else 0,Z.om.call (E.om g) Y.next ids hnd⟩
     have hZ:∀{p o},F0<=p->ids[p-F0]? =some o->Zcz.om.lc p=Z.om.lc o/\Zcz.ob p=Z.ob o/\Zcz.ln p=Z.ln o:=fun {p o} h1 h2=>by
      refine⟨Cx.Nu (hnd:=hnd) h1 h2,?_,?_⟩
      .show (if F0<=p then (ids[p-F0]?).bind Z.ob else none)=_
       rw[if_pos h1,h2];rfl
      .show (if F0<=p then (match ids[p-F0]? with|some o=>Z.ln o|none=>0) else 0)=_
       rw[if_pos h1,h2]
     have hm:∀o p,look (numL ids F0) o=some p->Zcz.om.lc p=Z.om.lc o/\Zcz.ob p=Z.ob o/\Zcz.ln p=Z.ln o:=fun o p hp=>by
      obtain⟨h1,h2⟩:=DK hp
      exact hZ h1 h2
     obtain⟨himp,hF⟩:=hM g r hr
     obtain⟨n,v,Y',hcall,⟨wz,hv,hwz⟩,Nv,hnx,hlp,htp,hout⟩:=hF p q y q' hy Zcz (va++c.args.toList.map (fr.ev E)++vb) Y rfl (fun _=>rfl) (mF _) (kK hR r.args p _ _ hp (ah.ren hm _ _ hA)) (fun i w hw=>by
      obtain⟨kk,yy,z,h1,h2,rfl,h4⟩:=sN r.obs q hq i w hw
      obtain⟨o',h5,h6,h7⟩:=xS h1
      obtain⟨e1,e2,e3⟩:=hZ h5 h6
      exact xV (h4 hok) e2 e3 e1 (rX hR h2 (hi.ob _ _ h7)))
     have hst:∀s,s<stp->Y'.top s=Y.top s:=fun s hs=>htp s (Qg hs hsn)
     have hno:∀o',o'∉ids->Y'.obj (Z.om.lc o')=Y.obj (Z.om.lc o'):=fun o' ho'=>
      hout _ (Nat.le_succ_of_le (Z.om.nE o')) (Cx.DW (hnd:=hnd) (Z.om.nE o') fun o'' h2 e=>ho' (by rw[Z.om.wG e];exact h2))
     have wY:aj Z (stp+1) (⟨st.fr,bobs (numL ids F0) (upOs R r.obs q')++st.ob⟩:MS R.T) fr Y':={
      d:=hi.d
      om:=hi.om
      fr:=fun i w hw=>(hi.fr i w hw).top fun u s hu=>hst s (hi.lt u s hu)
      ob:=fun o' w hw=>by
       have hw':look (bobs (numL ids F0) (upOs R r.obs q')++st.ob) o'=some w:=hw
       rw[jQ] at hw'
       split at hw'
       .rename_i z hz
        cases hw'
        obtain⟨p',h1,h2,h3⟩:=xU hz
        obtain⟨kk,zz,h4,rfl⟩:=DT hok h3
        obtain⟨e1,e2,e3⟩:=hZ h1 h2
        exact xV h4 e2.symm e3.symm e1.symm (Nv _ _ h3)
       .rename_i hz
        have hn:=DR (fun p' h1 h2=>sM hks p' h1 h2) hz
        exact xW (hno o' hn) (fun u s hu=>hst s (hi.lt u s hu)) (hi.ob _ _ hw')
      inj:=hi.inj
      lt:=fun t s ht=>Nat.lt_succ_of_lt (hi.lt t s ht)
      ge:=hi.ge
      nx:=Nat.le_succ_of_le hi.nx}
     refine⟨c,f,g,va,vb,hop,bH,jf,himp,n,v,Y',?_,_,?_,hnx,?_,hk⟩
     .rw[hi.d];exact hcall
     .rw[hv]
      exact wY.putO o.dst (Nt (ah.ren (Z:=Zcz) (fun p' o' hpo=>by
       obtain⟨h1,h2⟩:=DL hpo
       obtain⟨e1,e2,e3⟩:=hZ h1 h2
       exact⟨e1.symm,e2.symm,e3.symm⟩) _ _ hwz))
     .intro p'
      refine aB.congr (st':=(⟨st.fr,bobs (numL ids F0) (upOs R r.obs q')++st.ob⟩:MS R.T)) ⟨rfl,rfl,rfl,hnx,⟨hlp,fun s hs=>hst s (Qg hs hi.nx)⟩,fun L hL ho=>?_,fun hro=>?_⟩ dP
      .have hL':L.1<=Z.om.dp:=by rcases hL with e|e;cases e;exact e
       exact hout L (Nat.le_succ_of_le hL') (Cx.DW (hnd:=hnd) hL' fun o' _=>ho o')
      .have hn:p'∉ids:=by
        intro hmem
        obtain⟨i,hi'⟩:=List.getElem?_of_mem hmem
        have hlt:i<ids.length:=by
         rcases Nat.lt_or_ge i ids.length with h|h
         .exact h
         .rw[List.getElem?_eq_none h] at hi';cases hi'
        obtain⟨w,hw⟩:=sM (q:=q) hks (F0+i) (Qf _ _) (by omega)
        obtain⟨kk,yy,z,h1,h2,_,_⟩:=sN r.obs q hq _ _ hw
        obtain⟨o',h5,h6,h7⟩:=xS h1
        rw[Rb,hi'] at h6
        cases h6
        exact wV h2 (hro _ h7)
       refine⟨fun w hw=>?_,fun s=>?_⟩
       .have hw':look (bobs (numL ids F0) (upOs R r.obs q')++st.ob) p'=some w:=hw
        rw[jQ] at hw'
        split at hw'
        .rename_i z hz
         obtain⟨p'',h1,h2,h3⟩:=xU hz
         exact absurd (Qw h2) hn
        .exact hro _ hw'
       .unfold Sig.cellsAt Sig.aZ
        rw[hno p' hn]
        exact⟨rfl,rfl⟩
    .cases h
   .cases h
  .cases h
 .cases h
end
end Aq
end
section
namespace Aq
open Go
section
variable {R:Reg} {E:Env}
variable {Z:ak} {b stp:Nat} {st:MS R.T} {fr:Fr} {Y:Sig} {o:Oper}
theorem Nw {j:Nat} {t:Bool} (h:evM [] st (.tmp j)=some (.bool t)):look st.fr j=some (.bool t):=by
 unfold evM at h
 dsimp only at h
 split at h
 .rename_i v hv
  cases v<;>first| (cases h;exact hv)| (simp[resG,look] at h;done)
 .cases h
variable (hR:RegOK R)
include hR
omit hR in
theorem DX {β:Type} {top:Nat->Nat} {x z:TV R.T} {v zv:V} {k:TV R.T->Bool->Option β} {res:β} (hx:Rl R Z top x v) (hz:Rl R Z top z zv):∀{ks vs:List (TV R.T)} {kl vl:List V},lookS x ks vs z k=some res->ah R Z top ks kl->ah R Z top vs vl->
 ∃y b w r,Rl R Z top y w/\fD v kl vl=some r/\((r=none->w=zv/\b=false)/\∀u,r=some u->w=u/\b=true)/\k y b=some res
 | [],[],kl,vl,h,h1,h2=>by
   rw[h1.bA,h2.bA]
   exact⟨z,false,zv,none,hz,rfl,⟨fun _=>⟨rfl,rfl⟩,fun u h=>by cases h⟩,h⟩
 | [],_::_,_,_,h,_,_=>by cases h
 |_::_,[],_,_,h,_,_=>by cases h
 |a::ks,b::vs,kl,vl,h,h1,h2=>by
  obtain⟨k0,k',rfl,g1,g2⟩:=h1.aS
  obtain⟨l0,l',rfl,g3,g4⟩:=h2.aS
  unfold lookS at h
  split at h
  .rename_i c hc
   have he:=Dw hc hx g1
   cases c with
   |true=>exact⟨b,true,l0,some l0,g3,by simp[fD,he],⟨fun h=>(by cases h),fun u h=>by cases h;exact⟨rfl,rfl⟩⟩,h⟩
   |false=>
    obtain⟨y,bb,w,r,e1,e2,e3,e4⟩:=DX hx hz h g2 g4
    exact⟨y,bb,w,r,e1,by simp[fD,he,e2],e3,e4⟩
  .cases h
theorem xY {om:Bool} {β:Type} {F:Nat->List (FR R)} (hF:RegsOK E F) (aD:Z.om.om=om) (bq:∀d,o.dst=some d->d<F0) (hi:aj Z stp st fr Y) {k:MS R.T->Option β} {x:β} (h:runM E R om F o st k=some x) {G:Prop} {rest:Fr->Sig->Prop}
 (hs:∀y Y',dG E fr Y stp o y Y'->rest (fr.put o.dst y) Y'->G) (hk:∀Z' st' y Y',aj Z' (stp+1) st' (fr.put o.dst y) Y'->Y'.next=Y.next->(∀p,ND E o p->aB true p st Z Y st' Z' Y')->k st'=some x->rest (fr.put o.dst y) Y'):G:=by
 have hi1:=hi.le (Qm stp)
 unfold runM at h
 split at h
 .rename_i c a' b' hop
  split at h
  .rename_i t hc
   have hc':=(aI (E:=E) hi .nil hc).gG
   split at h
   .rename_i v hv
    refine hs _ _ (.dx (nU hop hc')) (hk Z _ _ Y (hi1.putO o.dst ?_) rfl (fun p _=>aB.same (by first|exact dP|rfl)) h)
    cases t
    .exact aI (E:=E) hi .nil hv
    .exact aI (E:=E) hi .nil hv
   .cases h
  .rename_i t hc
   have hc':=(aI (E:=E) hi .nil hc).fq
   split at h
   .rename_i j
    have hj:=hc'
    rw[pW] at hj
    split at h
    .rename_i x' y' hx hy
     split at h
     .rename_i v hv
      refine hs _ _ (.dx (nU hop hc')) (hk Z _ _ Y (hi1.putO o.dst ?_) rfl (fun p _=>aB.same (by first|exact dP|rfl)) h)
      cases t
      .exact Dv hv (aI (E:=E) hi (.cons hj .nil) hy)
      .exact Du hv (aI (E:=E) hi (.cons hj .nil) hx)
     .cases t
      .exact hs _ _ (.dx (nU hop hc')) (hk Z _ _ Y ((hi1.learn hj).putO o.dst (aI (E:=E) hi (.cons hj .nil) hy)) rfl (fun p _=>aB.same (by first|exact dP|rfl)) h)
      .exact hs _ _ (.dx (nU hop hc')) (hk Z _ _ Y ((hi1.learn hj).putO o.dst (aI (E:=E) hi (.cons hj .nil) hx)) rfl (fun p _=>aB.same (by first|exact dP|rfl)) h)
    .cases h
   .cases h
  .cases h
 .rename_i t a y hop
  split at h
  .rename_i τ p i off l v hst
   unfold elSt at hst
   split at hst
   .rename_i p' τ1 i' off' v' ha hv
    split at hst
    .rename_i τ' l0 sz hl hsz
     split at hst
     .rename_i l1 hl1
      obtain⟨hc,hst⟩:=bn hst
      cases hst
      obtain⟨e,e2⟩:=gJ hl1;subst e;cases e2
      simp only[P6] at hc
      obtain⟨⟨⟨c1,c2⟩,c3⟩,c4⟩:=hc
      obtain⟨z,hz,h⟩:=iP.1 h
      split at h
      .rename_i y' hu
       obtain⟨s,h1,_,h2⟩:=(aI (E:=E) hi .nil ha).lV
       obtain⟨h6,h7⟩:=gK c4 (aI (E:=E) hi .nil hv)
       have hO:=hi.ob _ _ hl
       obtain⟨cs,k1,k2,k3,k4⟩:=MO hR hO h1 hz h6 (QC c2) hu
       refine hs undefV (Y.setObj (Z.om.lc p) s (.cells (spliceL cs (i.toNat*szD R τ'+off) (fr.ev E y).cells))) (.dx (o:=o) ?_) (hk Z _ undefV _ ((hi1.set p s (x:=.arr τ' (setL l0 i y')) (a:=.cells (spliceL cs (i.toNat*szD R τ'+off) (fr.ev E y).cells)) ⟨k4.trans hO.1,.inr ⟨s,_,h1,cells_eq _ _ _ _,k3⟩⟩).putO o.dst (x:=.undef) (by unfold Rl;rfl)) rfl (fun q _=>(aB.set hl rfl).congr dP) h)
       simp only[aF,hop,h2,k1,Option.bind_some]
       rw[if_pos ⟨by rw[hsz,h6.length,bB c1],k2,nP c3 h6⟩]
      .cases h
     .cases hst
    .cases hst
   .cases hst
  .split at h
   .rename_i v st' hr
    rw[<-hop] at hr
    obtain⟨y,Y',Z',h1,h2,h3,h4,h5⟩:=jl hR hF aD bq .nil hi hr
    exact hs y Y' h1 (hk Z' _ y Y' (h2.putO o.dst h4) h3 (fun p hp=>(h5 p hp).congr dP) h)
   .cases h
 .rename_i t m y ok hop
  split at h
  .rename_i ks vs q z hsm
   unfold lookSM at hsm
   split at hsm
   .rename_i p hm
    split at hsm
    .rename_i ks' vs' hl
     split at hsm
     .rename_i q' kt et hq ht
      split at hsm
      .rename_i z' hz
       obtain⟨hkey,hsm⟩:=bn hsm
       cases hsm
       obtain⟨s,a1,a2⟩:=(aI (E:=E) hi .nil hm).jM
       obtain⟨s',k0,l0,b1,b2,b3,b4⟩:=hi.rd hl
       rw[a1] at b1;cases b1
       have hqr:=aI (E:=E) hi .nil hq
       obtain⟨zv,z1,z2⟩:=qc (Z:=Z) (top:=Y.top) hz
       obtain⟨v,bb,w,r,c1,c2,c3,c4⟩:=DX hqr z2 h b3 b4
       have hlk:iY E.P Y t (fr.ev E m) (fr.ev E y) ok=some (if ok then .tup [w,.bool bb] else w):=by
        rw[CJ,ht];simp only[Option.bind_some]
        rw[if_pos (Dx hkey hqr),a2]
        show (Y.aZ (Z.om.lc p) s).bind _=_
        rw[b2];simp only[Option.bind_some,c2]
        cases r with
        |none=>simp only[z1,Option.map_some];obtain⟨e1,e2⟩:=c3.1 rfl;rw[e1,e2]
        |some u=>simp only[Option.map_some];obtain⟨e1,e2⟩:=c3.2 u rfl;rw[e1,e2]
       refine hs _ Y (.dx (o:=o) ?_) (hk Z _ (if ok then .tup [w,.bool bb] else w) Y (hi1.putO o.dst ?_) rfl (fun p _=>aB.same (by first|exact dP|rfl)) c4)
       .simp only[aF,hop,hlk,Option.map_some]
       .cases ok
        .exact c1
        .rw[cond_true,if_pos rfl];unfold Rl;exact⟨_,rfl,.cons' c1 (.cons' (by unfold Rl;rfl) rfl)⟩
      .cases hsm
     .cases hsm
    .cases hsm
   .cases hsm
  .split at h
   .rename_i v hr
    rw[<-hop] at hr
    obtain⟨y,h1,h2⟩:=jl hR hF aD bq .nil hi hr
    exact hs y Y h1 (hk Z _ y Y (hi1.putO o.dst h2) rfl (fun p _=>aB.same (by first|exact dP|rfl)) h)
   .cases h
 .split at h
  .rename_i v hr
   obtain⟨y,h1,h2⟩:=jl hR hF aD bq .nil hi hr
   exact hs y Y h1 (hk Z _ y Y (hi1.putO o.dst h2) rfl (fun p _=>aB.same (by first|exact dP|rfl)) h)
  .rename_i c v hr
   obtain⟨hc,h⟩:=bn h
   obtain⟨y,h1,h2⟩:=jl hR hF aD bq .nil hi hr hc
   exact hs y Y h1 (hk Z _ y Y (hi1.putO o.dst h2) rfl (fun p _=>aB.same (by first|exact dP|rfl)) h)
  .rename_i v st' hr
   obtain⟨y,Y',Z',h1,h2,h3,h4,h5⟩:=jl hR hF aD bq .nil hi hr
   exact hs y Y' h1 (hk Z' _ y Y' (h2.putO o.dst h4) h3 (fun p hp=>(h5 p hp).congr dP) h)
  .rename_i c v st' hr
   obtain⟨hc,h⟩:=bn h
   obtain⟨y,Y',Z',h1,h2,h3,h4,h5⟩:=jl hR hF aD bq .nil hi hr hc
   exact hs y Y' h1 (hk Z' _ y Y' (h2.putO o.dst h4) h3 (fun p hp=>(h5 p hp).congr dP) h)
  .rename_i U z q f hr
   obtain⟨a,ha,h⟩:=iP.1 h
   obtain⟨y,h1,h2⟩:=jl hR hF aD bq .nil hi hr a ha
   exact hs y Y h1 (hk Z _ y Y (hi1.putO o.dst h2) rfl (fun p _=>aB.same (by first|exact dP|rfl)) h)
  .cases h
omit hR in
theorem l7 (hi:aj Z b st fr Y):∀(n j:Nat) (w c:Bool) (g:List (Nat×Bool)),effM st n j w=some (c,g)->(c=true->fr.tm j= .bool w/\fF fr g)/\(c=false->fr.tm j= .bool (!w)\/fr.tm j=undefV)/\(g=[(j,w)]->c=false->fr.tm j= .bool (!w))
 |0,j,w,c,g,h=>by cases h
 |n+1,j,w,c,g,h=>by
  have key:∀(i:Nat) (u a:Bool) (y:TV R.T),look st.fr j=some (.opt i u y)->(∀v,Rl R Z Y.top y v->v= .bool a)->(match effM st n i u with
   |some (c,g)=>some (andB c (eqw a w),(j,w)::g)
   |none=>none)=some (c,g)->(c=true->fr.tm j= .bool w/\fF fr g)/\(c=false->fr.tm j= .bool (!w)\/fr.tm j=undefV)/\(g=[(j,w)]->c=false->fr.tm j= .bool (!w)):=by
   intro i u a y hl hy h
   split at h
   .rename_i c0 g0 he
    cases h
    obtain⟨h1,h2,h3⟩:=l7 hi n i u c0 g0 he
    have hr:=hi.fr _ _ hl
    have hg0:g0≠[]:=by
     rintro rfl
     cases n with
     |zero=>cases he
     |succ n=>
      unfold effM at he
      split at he
      .cases he
      .split at he<;>cases he
      .split at he<;>cases he
      .cases he
    refine⟨fun hc=>?_,fun hc=>?_,fun hg=>absurd (by simpa using hg) hg0⟩
    .cases c0 with
     |false=>cases hc
     |true=>
      obtain⟨a1,a2⟩:=h1 rfl
      have hv:=hy _ (hr.1 a1)
      have hc':eqw a w=true:=hc
      have:a=w:=by cases a<;>cases w<;>first|rfl|cases hc'
      subst this
      exact⟨hv,.cons hv a2⟩
    .cases c0 with
     |false=>exact .inr (hr.2 (h2 rfl))
     |true=>
      obtain⟨a1,a2⟩:=h1 rfl
      have hv:=hy _ (hr.1 a1)
      have hc':eqw a w=false:=hc
      have:a= !w:=by cases a<;>cases w<;>first|rfl|cases hc'
      subst this
      exact .inl hv
   .cases h
  unfold effM at h
  split at h
  .rename_i a hl
   cases h
   have hv:=(show Rl R Z Y.top (.bool a) (fr.tm j) from hi.fr _ _ hl).fq
   refine⟨fun hc=>?_,fun hc=>.inl ?_,fun _ hc=>?_⟩
   .have:a=w:=by cases a<;>cases w<;>first|rfl|cases hc
    subst this;exact⟨hv,.cons hv .nil⟩
   .have:a= !w:=by cases a<;>cases w<;>first|rfl|cases hc
    subst this;exact hv
   .have:a= !w:=by cases a<;>cases w<;>first|rfl|cases hc
    subst this;exact hv
  .rename_i i u a hl;exact key i u a _ hl (fun v hv=>hv.fq) h
  .rename_i i u a hl;exact key i u a _ hl (fun v hv=>hv.gG) h
  .cases h
omit hR in
theorem DY {all:List Oper} (hi:aj Z b st fr Y):match guardM all st o with
 |.run=>aO all fr o=some true
 |.skip=>aO all fr o=some false
 |.dyn j w c g=>(∃n,effM st n j w=some (c,g))/\aO all fr o=some c
 |.no=>True:=by
 unfold guardM aO
 cases hg:o.guard with
 |none=>rfl
 |some p=>
  obtain⟨j,w⟩:=p
  dsimp only
  cases hj:all[j]? with
  |none=>rfl
  |some p=>
   simp only[Option.bind_some]
   cases hd:p.dst with
   |none=>rfl
   |some t=>
    dsimp only
    have dyn:∀c g,effM st 12 t w=some (c,g)->(match fr.tm t with
     |.bool b=>some (b==w)
     |.raw _=>none
     |_=>some false)=some c:=by
     intro c g he
     obtain⟨h1,h2,_⟩:=l7 hi 12 t w c g he
     cases c with
     |true=>rw[(h1 rfl).1];simp
     |false=>
      rcases h2 rfl with h2|h2
      .rw[h2];cases w<;>rfl
      .rw[h2];rfl
    cases hl:look st.fr t with
    |none=>
     dsimp only
     cases he:effM st 12 t w with
     |none=>trivial
     |some q=>exact⟨⟨12,he⟩,dyn _ _ he⟩
    |some v=>
     have hr:=hi.fr _ _ hl
     cases v with
     |blit c=>
      have:=(show Rl R Z Y.top (.blit c) (fr.tm t) from hr).gG
      rw[this]
      cases c<;>cases w<;>rfl
     |undef=>
      have:=(show Rl R Z Y.top .undef (fr.tm t) from hr).Bv
      rw[this];rfl
     |_=>
      dsimp only
      cases he:effM st 12 t w with
      |none=>trivial
      |some q=>exact⟨⟨12,he⟩,dyn _ _ he⟩
omit hR in
theorem sO (hi:aj Z b st fr Y):∀{g:List (Nat×Bool)},fF fr g->(∀j u,(j,u)∈g->fr.tm j= .bool u)->aj Z b (st.learnG g) fr Y/\(st.learnG g).ob=st.ob
 | [],_,_=>⟨hi,rfl⟩
 | (j,w)::g,hg,hm=>by
   obtain⟨h1,h2⟩:=sO hi (g:=g) (fun i u h=>by
    exact hm i u (by
     have:∀g:List (Nat×Bool),look g i=some u->(i,u)∈g:=by
      intro g
      induction g with
      |nil=>intro h;cases h
      |cons p g ih=>
       intro h
       obtain⟨k,v⟩:=p
       by_cases e:i=k
       .subst e;rw[bP] at h;cases h;simp
       .rw[bg _ _ e] at h;simp[ih h]
     exact Qb _ (this g h))) (fun i u h=>hm i u (by simp[h]))
   exact⟨h1.learn (hm j w (by simp)),h2⟩
omit hR in
theorem sP (hi:aj Z b st fr Y):∀(n j:Nat) (w:Bool) (g:List (Nat×Bool)),effM st n j w=some (true,g)->∀i u,(i,u)∈g->fr.tm i= .bool u
 |0,j,w,g,h=>by cases h
 |n+1,j,w,g,h=>by
  have hj:=((l7 hi (n+1) j w true g h).1 rfl).1
  unfold effM at h
  split at h
  .simp only[iE,iR] at h
   obtain⟨_,rfl⟩:=h
   intro i u hm;simp at hm;obtain⟨rfl,rfl⟩:=hm;exact hj
  all_goals first
   | (split at h
      .rename_i c0 g0 he
       simp only[iE,iR] at h
       obtain⟨hc,rfl⟩:=h
       cases c0 with
       |false=>cases hc
       |true=>
        intro i u hm
        rcases P9.1 hm with hm|hm
        .cases hm;exact hj
        .exact sP hi n _ _ g0 he i u hm
      .cases h)
   |cases h
omit hR in
theorem xZ (hi:aj Z b st fr Y) {n j:Nat} {w:Bool} {g:List (Nat×Bool)} (hj:effM st n j w=some (false,g)):aj Z b (st.learnN g) fr Y/\(st.learnN g).ob=st.ob:=by
 obtain⟨_,_,e3⟩:=l7 hi n j w false g hj
 rcases g with _| ⟨⟨j',w'⟩,_| ⟨p,g⟩⟩
 .exact⟨hi,rfl⟩
 .have hj':j'=j/\w'=w:=by
   cases n with
   |zero=>cases hj
   |succ n=>
    unfold effM at hj
    split at hj
    .simp only[iE,iR,QA] at hj
     exact⟨hj.2.1.1.symm,hj.2.1.2.symm⟩
    .split at hj
     .simp only[iE,iR,QA] at hj
      exact⟨hj.2.1.1.symm,hj.2.1.2.symm⟩
     .exact absurd hj (by simp)
    .split at hj
     .simp only[iE,iR,QA] at hj
      exact⟨hj.2.1.1.symm,hj.2.1.2.symm⟩
     .exact absurd hj (by simp)
    .exact absurd hj (by simp)
  obtain⟨rfl,rfl⟩:=hj'
  exact⟨hi.learn (e3 rfl rfl),rfl⟩
 .exact⟨hi,rfl⟩
theorem Ny {om:Bool} {β:Type} {F:Nat->List (FR R)} (hF:RegsOK E F) (aD:Z.om.om=om) (bq:∀d,o.dst=some d->d<F0) (hi:aj Z stp st fr Y) {j n:Nat} {w c:Bool} {g:List (Nat×Bool)} (hj:effM st n j w=some (c,g)) {k:MS R.T->Option β} {x:β} (h:dynM E R om F o j w c g st k=some x) {G:Prop} {rest:Fr->Sig->Prop}
 (hs:c=true->∀y Y',dG E fr Y stp o y Y'->rest (fr.put o.dst y) Y'->G) (hs':c=false->rest (fr.put o.dst undefV) Y->G)
 (hk:∀Z' st' y Y',aj Z' (stp+1) st' (fr.put o.dst y) Y'->Y'.next=Y.next->(∀p,ND E o p->aB true p st Z Y st' Z' Y')->k st'=some x->rest (fr.put o.dst y) Y'):G:=by
 have hi1:=hi.le (Qm stp)
 obtain⟨e1,e2,e3⟩:=l7 hi n j w c g hj
 have yg:(bif c then runM E R om F o (st.learnG g) k else k ((st.learnN g).putO o.dst .undef))=some x->G:=by
  intro h
  cases c with
  |true=>
   obtain⟨l1,l2⟩:=sO hi (e1 rfl).2 (sP hi n j w g hj)
   exact xY hR hF aD bq l1 h (hs rfl) (fun Z' st' y Y' a b c d=>hk Z' st' y Y' a b (fun p hp=>(c p hp).from l2) d)
  |false=>
   obtain⟨n1,n2⟩:=xZ hi hj
   have hN:aj Z (stp+1) (st.learnN g) fr Y/\(st.learnN g).ob=st.ob:=⟨n1.le (Qm _),n2⟩
   refine hs' rfl (hk Z _ undefV Y (hN.1.putO o.dst (by unfold Rl;rfl)) rfl (fun p _=>aB.same (dP.trans hN.2)) h)
 unfold dynM at h
 split at h
 .rename_i d hd
  have hput:memN d (g.map (·.1))=false->∀(v:TV R.T) (y:V),(c=true->Rl R Z Y.top v y)->(c=false->y=undefV)->aj Z (stp+1) (st.put d (.opt j w v)) (fr.put o.dst y) Y:=by
   intro hdj v y h1 h2
   have hne:(fr.set d y).tm j=fr.tm j:=by
    refine set_ne _ _ ?_
    cases n with
    |zero=>cases hj
    |succ n=>
     have hmem:memN d (g.map (·.1))=false:=hdj
     have:∃g',g=(j,w)::g':=by
      unfold effM at hj
      split at hj
      .cases hj;exact⟨[],rfl⟩
      all_goals first
       | (split at hj
          .simp only[iE,iR] at hj
           exact⟨_,hj.2.symm⟩
          .cases hj)
       |cases hj
     obtain⟨g',rfl⟩:=this
     have h':(Nat.beq d j||memN d (g'.map (·.1)))=false:=hmem
     rw[QG] at h'
     simpa using (rU h'.1).symm
   rw[hd,put_some]
   refine hi1.put d ⟨fun hc=>?_,fun hc=>?_⟩
   .rw[hne] at hc
    refine h1 ?_
    cases c with
    |true=>rfl
    |false=>
     rcases e2 rfl with e|e
     .rw[e] at hc;cases w<;>cases hc
     .rw[e] at hc;cases hc
   .rw[hne] at hc
    refine h2 ?_
    cases c with
    |false=>rfl
    |true=>
     rw[(e1 rfl).1] at hc
     rcases hc with hc|hc
     .cases w<;>cases hc
     .cases hc
  cases hdj:memN d (g.map (·.1))
  .rw[hdj] at h
   simp only[cond_false] at h
   split at h
   .rename_i v hr
    cases c with
    |true=>
     obtain⟨y,h1,h2⟩:=jl hR hF aD bq (e1 rfl).2 hi hr
     exact hs rfl y Y h1 (hk Z _ y Y (hput hdj v y (fun _=>h2) (fun h=>by cases h)) rfl (fun p _=>aB.same rfl) h)
    |false=>exact hs' rfl (hk Z _ undefV Y (hput hdj v undefV (fun h=>by cases h) (fun _=>rfl)) rfl (fun p _=>aB.same rfl) h)
   .rename_i q v hr
    obtain⟨hq,hh⟩:=bn h
    clear h
    cases c with
    |true=>
     obtain⟨y,h1,h2⟩:=jl hR hF aD bq (e1 rfl).2 hi hr hq
     exact hs rfl y Y h1 (hk Z _ y Y (hput hdj v y (fun _=>h2) (fun h=>by cases h)) rfl (fun p _=>aB.same rfl) hh)
    |false=>exact hs' rfl (hk Z _ undefV Y (hput hdj v undefV (fun h=>by cases h) (fun _=>rfl)) rfl (fun p _=>aB.same rfl) hh)
   .rename_i U z q f hr
    obtain⟨a,ha,hh⟩:=iP.1 h
    clear h
    cases c with
    |true=>
     obtain⟨y,h1,h2⟩:=jl hR hF aD bq (e1 rfl).2 hi hr a ha
     exact hs rfl y Y h1 (hk Z _ y Y (hput hdj _ y (fun _=>h2) (fun h=>by cases h)) rfl (fun p _=>aB.same rfl) hh)
    |false=>exact hs' rfl (hk Z _ undefV Y (hput hdj _ undefV (fun h=>by cases h) (fun _=>rfl)) rfl (fun p _=>aB.same rfl) hh)
   .exact yg h
  .rw[hdj] at h
   exact yg h
 .exact yg h
omit hR in
theorem l8 {Z':ak} {st':MS R.T} {Y':Sig} (h:∀p,ND E o p->aB true p st Z Y st' Z' Y'):Z'.om=Z.om:=by
 cases hd:o.dst with
 |none=>exact(h 0 ⟨by rw[hd];simp,fun d e=>by rw[hd] at e;cases e⟩).om
 |some d=>exact(h (d+E.cn d+1) ⟨fun e=>by rw[hd] at e;exact absurd (Qn e) (Qx (Nat.lt_succ_of_le (Qf d (E.cn d)))),fun d' e=>by rw[hd] at e;cases e;exact Qx (Nat.lt_succ_of_le (Nat.le_add_left (E.cn d) d))⟩).om
omit hR in
theorem DZ {os:List Oper} {p:Nat} (h:memN p (dstsL E (o::os))=false):ND E o p/\memN p (dstsL E os)=false:=by
 unfold dstsL at h
 split at h
 .rename_i d hd
  have h':(Nat.beq p d||(Nat.beq p (E.cn d)||memN p (dstsL E os)))=false:=h
  rw[QG,QG] at h'
  refine⟨⟨fun e=>?_,fun d' e e2=>?_⟩,h'.2.2⟩
  .rw[hd] at e;cases e;rw[QH] at h';exact absurd h'.1 (by simp)
  .rw[hd] at e;cases e;rw[e2,QH] at h';exact absurd h'.2.1 (by simp)
 .rename_i hd
  refine⟨⟨fun e=>?_,fun d' e=>?_⟩,h⟩
  .rw[hd] at e;cases e
  .rw[hd] at e;cases e
omit hR in
theorem ql (hi:aj Z b st fr Y) (h:isOwnM E st o=false):iV E fr o=false:=by
 unfold isOwnM at h
 unfold iV
 split at h
 .rename_i c hc
  rw[hc]
  dsimp only
  split at h
  .rename_i f hf
   rw[hf]
   dsimp only
   split at h
   .rename_i g a' b' hv
    obtain⟨va,vb,h1,_,_⟩:=(aI (E:=E) hi .nil hv).dW
    unfold eO
    rw[h1]
    split at h
    .rename_i d hd;rw[hd];exact h
    .rename_i hd;rw[hd]
   .cases h
  .rename_i hne
   split
   .rename_i f hf;exact absurd hf (hne f)
   .rfl
 .rename_i hne
  split
  .rename_i c hc;exact absurd hc (hne c)
  .rfl
theorem Nz {β:Type} {F:Nat->List (FR R)} (hF:RegsOK E F) (hi:aj Z stp st fr Y) {k:MS R.T->Option β} {x:β} (h:ownM R F o st k=some x) (hown:isOwnM E st o=true) {all os:List Oper} {Q:Fr->Sig->Prop} (hw:aO all fr o=some true)
 (hk:∀(Z':ak) (st':MS R.T) (y:V) (Y':Sig),aj Z' (stp+1) st' (fr.put o.dst y) Y'->Y'.next=Y.next->(∀p,ND E o p->aB true p st Z Y st' Z' Y')->k st'=some x->OW E all (stp+1) os (fr.put o.dst y) Y' Q):OW E all stp (o::os) fr Y Q:=by
 unfold ownM at h
 cases h
theorem NA {β:Type} {F:Nat->List (FR R)} (hF:RegsOK E F) (hi:aj Z stp st fr Y) {k:MS R.T->Option β} {x:β} (h:ownM R F o st k=some x) (hown:isOwnM E st o=true) {ms:List Nat} {fs:List Foot} {all os:List Oper} {Q:Fr->Sig->Prop} (hw:aO all fr o=some true)
 (hk:∀(Z':ak) (st':MS R.T) (y:V) (Y':Sig),aj Z' (stp+1) st' (fr.put o.dst y) Y'->Y'.next=Y.next->(∀p,ND E o p->aB true p st Z Y st' Z' Y')->k st'=some x->aN E ms all (stp+1) os (fr.put o.dst y) Y' (fs++[aX E all fr o true]) Q):aN E ms all stp (o::os) fr Y fs Q:=by
 unfold ownM at h
 cases h
omit hR in
theorem D5 {o:Oper} {os:List Oper} {d:Nat} (h:o.dst=some d):memN d (dstsL E (o::os))=true:=by
 unfold dstsL
 rw[h]
 show (Nat.beq d d||_)=true
 rw[QH];rfl
omit hR in
theorem D6 {o:Oper} {os:List Oper} {d:Nat} (h:memN d (dstsL E os)=true):memN d (dstsL E (o::os))=true:=by
 unfold dstsL
 cases o.dst with
 |none=>exact h
 |some e=>show (Nat.beq d e||(Nat.beq d (E.cn e)||memN d (dstsL E os)))=true;rw[h,Bool.or_true,Bool.or_true]
omit hR in
theorem aB.of {nr:Bool} {o:Nat} {st st':MS R.T} {Z Z':ak} {Y Y':Sig} (h:aB true o st Z Y st' Z' Y'):aB nr o st Z Y st' Z' Y':=⟨h.ob,h.ln,h.om,h.nx,h.lp,fun L _=>h.dp L (.inl rfl),h.ro⟩
omit hR in
theorem Kp.nr {nr qm:Bool} {W:List Nat} {st st':MS R.T} {fr fr':Fr} {Z Z':ak} {Y Y':Sig} (hn:qm=true->nr=true) (h:Kp nr W st fr Y Z st' fr' Y' Z'):Kp qm W st fr Y Z st' fr' Y' Z':=⟨h.fr,fun o ho=>⟨(h.ob o ho).ob,(h.ob o ho).ln,(h.ob o ho).om,(h.ob o ho).nx,(h.ob o ho).lp,fun L hL=>(h.ob o ho).dp L (hL.imp hn id),(h.ob o ho).ro⟩⟩
omit hR in
theorem yh (h:isImpM E st o=true):nrOp E o=false:=by
 unfold isImpM at h
 unfold nrOp
 split at h
 .rename_i c hc
  (try rw[hc]);(try dsimp only)
  split at h
  .rename_i f hf
   (try rw[hf])
   cases f with
   |func g=>
    have h':E.imp g=true:=h
    (try dsimp only);rw[h'];rfl
   |tmp _=>rfl
   |const _=>rfl
   | «global» _=>rfl
  .cases h
 .cases h
omit hR in
theorem yj {c:Call} {f:Operand} {g:FuncId} {a vb:List V} (h:iV E fr o=false) (h1:o.op= .call c) (h2:c.callee= .value f) (h3:fr.ev E f= .fn (.func g) a vb):∀d,o.dst=some d->E.own g d=false:=by
 intro d hd
 unfold iV at h
 rw[h1] at h;dsimp only at h
 rw[h2] at h;dsimp only at h
 unfold eO at h
 rw[h3,hd] at h
 exact h
theorem kR {om:Bool} {β:Type} {F:Nat->List (FR R)} (hF:RegsOK E F) {M:Nat->List (FM R)} (hM:sK E M) {all:List Oper} {k:MS R.T->Option β} {x:β} {Q:Fr->Sig->Prop}:∀(os:List Oper) (stp:Nat) (Z:ak) (st:MS R.T) (fr:Fr) (Y:Sig),(∀d,memN d (dstsL E os)=true->d<F0)->Z.om.om=om->aj Z stp st fr Y->stp+os.length<=Y.next->opsM E R om F M all os st k=some x->
 (∀Z' st' fr' Y',aj Z' (stp+os.length) st' fr' Y'->Y.next<=Y'.next->Kp (os.all (nrOp E)) (dstsL E os) st fr Y Z st' fr' Y' Z'->k st'=some x->Q fr' Y')->OW E all stp os fr Y Q
 | [],stp,Z,st,fr,Y,hW0,aD,hi,hsn,h,hq=>OW.nil (hq Z st fr Y hi (mF _) .refl h)
 |o::os,stp,Z,st,fr,Y,hW0,aD,hi,hsn,h,hq=>by
  have bq:∀d,o.dst=some d->d<F0:=fun d hd=>hW0 d (D5 hd)
  have hW1:∀d,memN d (dstsL E os)=true->d<F0:=fun d hd=>hW0 d (D6 hd)
  have gL:∀{Y':Sig},Y.next<=Y'.next->stp+1+os.length<=Y'.next:=fun h=>by rw[List.length_cons] at hsn;omega
  have hg:=DY (o:=o) (all:=all) hi
  unfold opsM at h
  have hW:∀p,memN p (dstsL E (o::os))=false->ND E o p/\memN p (dstsL E os)=false:=fun p hp=>DZ hp
  have hq':∀(Z1:ak) (st1:MS R.T) (y:V) (Y1:Sig),(∀p,ND E o p->aB (nrOp E o) p st Z Y st1 Z1 Y1)->Y.next<=Y1.next->∀Z' st' fr' Y',aj Z' (stp+1+os.length) st' fr' Y'->Y1.next<=Y'.next->Kp (os.all (nrOp E)) (dstsL E os) st1 (fr.put o.dst y) Y1 Z1 st' fr' Y' Z'->k st'=some x->Q fr' Y':=fun Z1 st1 y Y1 hkp h1 Z' st' fr' Y' hi' hn jm hk=>
   hq Z' st' fr' Y' (by rw[List.length_cons,Nat.add_comm os.length,<-QK];exact hi') (P7 h1 hn) (((Kp.op (Q:=fun p=>ND E o p) (fun p hp=>⟨(hW p hp).1.1,(hW p hp).1⟩) hkp).nr (qm:=(o::os).all (nrOp E)) (fun e=>by rw[List.all_cons,P6] at e;exact e.1)).trans ((jm.mono fun p hp=>(hW p hp).2).nr (fun e=>by rw[List.all_cons,P6] at e;exact e.2))) hk
  split at h
  .rename_i hgm
   rw[hgm] at hg
   cases hown:isOwnM E st o with
   |true=>
    rw[hown,cond_true] at h
    exact Nz hR hF hi h hown hg (fun Z' st' y Y' hi' hn hkp hk=>kR hF hM os (stp+1) Z' st' _ Y' hW1 ((congrArg Cx.om (l8 hkp)).trans aD) hi' (gL (QV hn.symm)) hk (hq' Z' st' y Y' (fun p hp=>(hkp p hp).of) (QV hn.symm)))
   |false=>
   rw[hown,cond_false] at h
   have aW:=ql hi hown
   cases himp:isImpM E st o with
   |true=>
    rw[himp,cond_true] at h
    obtain⟨c,f,g,a,vb,e1,e2,e3,e4,n,v,Y',e5,st1,i1,i2,i3,i4⟩:=xX hR hM hi (by omega) h
    exact OW.callI hg e1 e2 e3 e4 ⟨n,v,Y',e5,kR hF hM os (stp+1) Z st1 _ Y' hW1 aD i1 (gL i2) i4 (hq' Z st1 v Y' (fun p _=>by rw[yh himp];exact i3 p) i2)⟩ (yj aW e1 e2 e3)
   |false=>
   rw[himp,cond_false] at h
   exact xY hR hF aD bq hi h (rest:=fun fr' Y'=>OW E all (stp+1) os fr' Y' Q) (fun y Y' hst hr=>hst.1 aW all os Q hg hr) (fun Z' st' y Y' hi' hn hkp hk=>kR hF hM os (stp+1) Z' st' _ Y' hW1 ((congrArg Cx.om (l8 hkp)).trans aD) hi' (gL (QV hn.symm)) hk (hq' Z' st' y Y' (fun p hp=>(hkp p hp).of) (QV hn.symm)))
  .rename_i hgm
   rw[hgm] at hg
   refine OW.skip hg (kR hF hM os (stp+1) Z _ _ Y hW1 aD ?_ (gL (mF _)) h (hq' Z _ undefV Y (fun p _=>aB.same (by first|exact dP|rfl)) (mF _)))
   exact(hi.le (Qm _)).putO o.dst (by unfold Rl;rfl)
  .rename_i j w c g hgm
   rw[hgm] at hg
   obtain⟨⟨n,hn⟩,hg2⟩:=hg
   cases hown:(isOwnM E st o||isOwnM E (st.learnG g) o) with
   |true=>rw[hown] at h;cases h
   |false=>
   rw[hown,cond_false] at h
   rw[QG] at hown
   have aW:=ql hi hown.1
   cases himp:isImpM E (st.learnG g) o with
   |true=>
    rw[himp,cond_true] at h
    obtain⟨e1,e2,e3⟩:=l7 hi n j w c g hn
    cases c with
    |true=>
     rw[cond_true] at h
     obtain⟨l1,l2⟩:=sO hi (e1 rfl).2 (sP hi n j w g hn)
     obtain⟨c,f,g',a,vb,f1,f2,f3,f4,n',v,Y',f5,st1,i1,i2,i3,i4⟩:=xX hR hM l1 (by omega) h
     exact OW.callI hg2 f1 f2 f3 f4 ⟨n',v,Y',f5,kR hF hM os (stp+1) Z st1 _ Y' hW1 aD i1 (gL i2) i4 (hq' Z st1 v Y' (fun p _=>by rw[yh himp];exact(i3 p).from l2) i2)⟩ (yj aW f1 f2 f3)
    |false=>
     rw[cond_false] at h
     obtain⟨l1,l2⟩:=xZ hi hn
     exact OW.skip hg2 (kR hF hM os (stp+1) Z _ _ Y hW1 aD ((l1.le (Qm _)).putO o.dst (by unfold Rl;rfl)) (gL (mF _)) h (hq' Z _ undefV Y (fun p _=>aB.same (dP.trans l2)) (mF _)))
   |false=>
   rw[himp,cond_false] at h
   exact Ny hR hF aD bq hi hn h (rest:=fun fr' Y'=>OW E all (stp+1) os fr' Y' Q) (fun e y Y' hst hr=>hst.1 aW all os Q (by rw[hg2,e]) hr) (fun e hr=>OW.skip (by rw[hg2,e]) hr)
    (fun Z' st' y Y' hi' hn hkp hk=>kR hF hM os (stp+1) Z' st' _ Y' hW1 ((congrArg Cx.om (l8 hkp)).trans aD) hi' (gL (QV hn.symm)) hk (hq' Z' st' y Y' (fun p hp=>(hkp p hp).of) (QV hn.symm)))
  .cases h
def Key.mv (c:Cx):Key->Key
 |.obj l=>.obj (c.lc l.2)
 |k=>k
def Foot.mv (c:Cx) (f:Foot):Foot:=⟨f.tAll,f.wAll,f.t.map (Key.mv c),f.w.map (Key.mv c)⟩
omit hR in
theorem NC (c:Cx) (a b:Key):(a.mv c).eq (b.mv c)=a.nm.eq b.nm:=by
 cases a<;>cases b<;>try rfl
 rename_i l m
 show fZ (c.lc l.2) (c.lc m.2)=fZ (1,l.2) (1,m.2)
 by_cases e:l.2=m.2
 .rw[e,vZ];unfold fZ;simp
 .rw[wP c e,vZ];simp[e]
omit hR in
theorem NG (c:Cx) (f g:Foot):clash (f.mv c) (g.mv c)=clash f.nm g.nm:=by
 have hr:∀k:Key,(k.mv c).eq .rest=k.nm.eq .rest:=fun k=>by cases k<;>rfl
 have hs:∀k:Key,(k.mv c).state=k.nm.state:=fun k=>by cases k<;>rfl
 unfold clash Foot.mv Foot.nm
 dsimp only
 simp only[List.any_map,Function.comp_def,NC,hr,hs]
omit hR in
theorem getD_map (h:Foot->Foot) (ha:h allF=allF):∀(fs:List Foot) (i:Nat),(fs.map h).getD i allF=h (fs.getD i allF)
 | [],i=>by simp[ha]
 |f::fs,0=>rfl
 |f::fs,i+1=>by simpa using getD_map h ha fs i
omit hR in
theorem NH (c:Cx) (ms:List Nat) (fs:List Foot):pairsOK ms (fs.map (Foot.mv c))=pairsOK ms (fs.map Foot.nm):=by
 unfold pairsOK tT
 simp only[Qi,getD_map (Foot.mv c) rfl,getD_map Foot.nm rfl,NG]
omit hR in
theorem l9 (c:Cx) (l:List Key):(rdF l).mv c=rdF (l.map (Key.mv c)):=rfl
omit hR in
theorem kS (c:Cx) (l:List Key):(wrF l).mv c=wrF (l.map (Key.mv c)):=rfl
omit hR in
theorem mv_nil (c:Cx):(rdF []).mv c=rdF []:=rfl
omit hR in
theorem D7 (c:Cx):allF.mv c=allF:=rfl
omit hR in
theorem NI {top:Nat->Nat} {x:TV R.T} {v:V} (hg:x≠ .gone) (hv:(∀o t,x≠ .vw o t)/\∀o t a b,x≠ .sub o t a b) (h:Rl R Z top x v):bE v=(refKM x).map (Key.mv Z.om):=by
 cases x with
 |gone=>exact absurd rfl hg
 |opt j w y=>exact h.Bw.elim
 |agg cs=>obtain⟨l,rfl,_⟩:=h.dn;rfl
 |tup cs=>obtain⟨l,rfl,_⟩:=h.nH;rfl
 |lst c t l=>obtain⟨l,rfl,_⟩:=h.dD;rfl
 |ref p off=>obtain⟨s,_,rfl⟩:=h.iQ;rfl
 |mapr p=>obtain⟨s,_,rfl⟩:=h.jM;rfl
 |cref l p=>obtain⟨s,rfl,_⟩:=h.gH;rfl
 |fn f a b=>obtain⟨a',b',rfl,_⟩:=h.dW;rfl
 |vw o t=>exact absurd rfl (hv.1 o t)
 |sub o t a b=>exact absurd rfl (hv.2 o t a b)
 |eref p t i off=>obtain⟨s,_,_,rfl⟩:=h.lV;rfl
 |sv p off k n lo hi=>obtain⟨s,_,_,rfl⟩:=h.rQ;rfl
 |sel p off k n i m=>obtain⟨s,_,_,_,rfl⟩:=h.wH;rfl
 |gel k n y i=>obtain⟨_,_,rfl⟩:=h.wI;rfl
 |_=>unfold Rl at h;subst h;rfl
omit hR in
theorem D8 {x:TV R.T} (h:notV x=true):x≠ .gone/\(∀o t,x≠ .vw o t)/\∀o t a b,x≠ .sub o t a b:=⟨(by rintro rfl;cases h),(by rintro o t rfl;cases h),(by rintro o t a b rfl;cases h)⟩
omit hR in
theorem ig (hi:aj Z b st fr Y) {x:Operand} {v:TV R.T} (h:evM [] st x=some v) (hg:notV v=true):(rkM st x).map (Key.mv Z.om)=bE (fr.ev E x):=by
 unfold rkM
 rw[h]
 exact(NI (D8 hg).1 (D8 hg).2 (aI hi .nil h)).symm
omit hR in
theorem D9 (hi:aj Z b st fr Y):∀{l:List Operand} {vs:List (TV R.T)},evMs [] st l=some vs->vs.all notV=true->(l.flatMap (fun x=>rkM st x)).map (Key.mv Z.om)=l.flatMap fun x=>bE (fr.ev E x)
 | [],vs,h,_=>rfl
 |x::l,vs,h,hg=>by
  unfold evMs at h
  cases h1:evM [] st x with
  |none=>simp only[h1] at h;cases h
  |some a=>
   cases h2:evMs [] st l with
   |none=>simp only[h1,h2] at h;cases h
   |some as=>
    simp only[h1,h2] at h;cases h
    rw[List.all_cons,P6] at hg
    rw[Qo,Qo,QT,ig (E:=E) hi h1 hg.1,D9 hi h2 hg.2]
omit hR in
theorem NJ {om:Bool} {β:Type} {F:Nat->List (FR R)} {k:MS R.T->Option β} {x:β} (h:runM E R om F o st k=some x) (hp:∀c a b,o.op≠ .pick c a b) (hl:∀t m y ok,o.op≠ .lookup t m y ok) (hst:∀t a y,o.op≠ .store t a y):∃r,opM E R om F [] o.dst o.op st=some r:=by
 unfold runM at h
 split at h
 .rename_i c a b hop;exact absurd hop (hp _ _ _)
 .rename_i t a y hop;exact absurd hop (hst _ _ _)
 .rename_i t m y ok hop;exact absurd hop (hl _ _ _ _)
 .cases hr:opM E R om F [] o.dst o.op st with
  |some r=>exact⟨r,rfl⟩
  |none=>rw[hr] at h;cases h
omit hR in
theorem jU {om:Bool} {F:Nat->List (FR R)} {g:List (Nat×Bool)} {d:Option Nat} {op:Op} {r:Res R} (h:opM E R om F g d op st=some r):opX E R g d op st=some r\/opO E R om F g d op st=some r:=by
 unfold opM at h
 split at h
 .rename_i r' hx;cases h;exact .inl hx
 .exact .inr h
omit hR in
theorem Ea {top:Nat->Nat}:∀{x:List (TV R.T)} {v:List V},anySv x=true->ah R Z top x v->v.all (fun a=>pclean (er a))=false
 | [],_,h,_=>by cases h
 |x::l,v,h,hr=>by
  obtain⟨y,ys,rfl,h1,h2⟩:=hr.aS
  rw[List.all_cons]
  by_cases e:∃o off k n lo hi,x= .sv o off k n lo hi
  .obtain⟨o,off,k,n,lo,hi,rfl⟩:=e
   obtain⟨s,_,_,rfl⟩:=h1.rQ
   simp[er,pclean]
  .by_cases e2:∃o off,x= .ref o off
   .obtain⟨o,off,rfl⟩:=e2
    obtain⟨s,_,rfl⟩:=h1.iQ
    simp[er,pclean]
   have h':anySv l=true:=by
    cases x<;>first|exact h|exact absurd ⟨_,_,_,_,_,_,rfl⟩ e|exact absurd ⟨_,_,rfl⟩ e2
   rw[Ea h' h2,Bool.and_false]
omit hR in
theorem sQ (hi:aj Z b st fr Y) (bq:∀d,o.dst=some d->d<F0):(dstKM o).map (Key.mv Z.om)=iG fr o:=by
 unfold dstKM iG
 cases hd:o.dst with
 |none=>rfl
 |some d=>dsimp only;rw[hi.at (bq d hd)];rfl
theorem NK {om:Bool} {β:Type} {F:Nat->List (FR R)} (aD:Z.om.om=om) (bq:∀d,o.dst=some d->d<F0) (hi:aj Z b st fr Y) {k:MS R.T->Option β} {x:β} (h:runM E R om F o st k=some x) (hd:drOK E st o=true):(footSM E om st o).mv Z.om=bO E fr o:=by
 unfold footSM bO
 have hop:=NJ h
 cases ho:o.op<;>rw[ho] at hop<;>dsimp only<;>(try exact mv_nil _)<;>(try exact D7 _)
 case move y=>
  unfold drOK at hd;rw[P6] at hd
  have hd:=hd.2
  rw[ho] at hd;dsimp only at hd
  have hz:fzM E o.dst=false:=by simpa using hd
  rw[hz];exact mv_nil _
 case buildSlice t len ps=>
  cases hz:bsM E o.dst
  .exact mv_nil _
  .exact D7 _
 case load t a=>
  obtain⟨r,hr⟩:=hop (by simp) (by simp) (by simp)
  rcases jU hr with hr|hr
  .unfold opX at hr;cases hr
  unfold opO at hr;dsimp only at hr
  split at hr
  .rename_i hv;rw[l9,ig (E:=E) hi hv rfl]
  .rename_i hv;rw[l9,ig (E:=E) hi hv rfl]
  .rename_i hv;rw[l9,ig (E:=E) hi hv rfl]
  .cases hr
 case store t a y=>
  have h':=h
  unfold runM at h'
  rw[ho] at h'
  dsimp only at h'
  split at h'
  .rename_i hst
   unfold elSt at hst
   split at hst
   .rename_i hv _;rw[kS,ig (E:=E) hi hv rfl]
   .cases hst
  .split at h'
   .rename_i hr
    rcases jU hr with hr|hr
    .unfold opX at hr;cases hr
    unfold opO at hr;dsimp only at hr
    split at hr
    .rename_i hv _;rw[kS,ig (E:=E) hi hv rfl]
    .cases hr
   .cases h'
 case convert a b' y=>
  obtain⟨r,hr⟩:=hop (by simp) (by simp) (by simp)
  rcases jU hr with hr|hr
  .unfold opX at hr;cases hr
  unfold opO at hr;dsimp only at hr
  split at hr
  .rename_i v hv
   rw[l9,ig (E:=E) hi hv (by
    unfold convM at hr
    split at hr<;>first|rfl|cases hr)]
  .cases hr
 case slice t y lo hi' mx=>
  obtain⟨r,hr⟩:=hop (by simp) (by simp) (by simp)
  cases mx with
  |some m=>
   rcases jU hr with hr|hr
   .unfold opX at hr;cases hr
   .unfold opO at hr;cases hr
  |none=>
   rcases jU hr with hr|hr
   .unfold opX at hr;cases hr
   unfold opO at hr;dsimp only at hr
   split at hr
   .rename_i v hv
    have hw:asW st v=none:=by
     unfold drOK at hd;rw[P6] at hd
     have hd:=hd.2
     rw[ho] at hd;dsimp only at hd
     rw[hv] at hd;simpa using hd
    have key:∀lo hi,sliceX E R t v lo hi st=some r->notV v=true:=by
     intro lo hi hs
     unfold sliceX slcW at hs
     rw[hw] at hs
     dsimp only at hs
     unfold sliceM at hs
     split at hs
     .split at hs<;>first|rfl|cases hs
     .cases hs
    rw[l9,ig (E:=E) hi hv (by
     split at hr
     .exact key _ _ hr
     .split at hr
      .exact key _ _ hr
      .cases hr
     .split at hr
      .exact key _ _ hr
      .cases hr
     .split at hr
      .exact key _ _ hr
      .cases hr)]
   .cases hr
 case lookup t m y ok=>
  have h':=h
  unfold runM at h'
  rw[ho] at h'
  dsimp only at h'
  split at h'
  .rename_i hsm
   unfold lookSM at hsm
   split at hsm
   .rename_i hv;rw[l9,ig (E:=E) hi hv rfl]
   .cases hsm
  .split at h'
   .rename_i hr
    rcases jU hr with hr|hr
    .unfold opX at hr;cases hr
    unfold opO at hr;dsimp only at hr
    split at hr
    .rename_i hv _
     rw[l9,ig (E:=E) hi hv (by
      unfold lookupM at hr
      split at hr<;>first|rfl|cases hr)]
    .cases hr
   .cases h'
 case mapUpdate t m k' v=>
  obtain⟨r,hr⟩:=hop (by simp) (by simp) (by simp)
  rcases jU hr with hr|hr
  .unfold opX at hr;cases hr
  unfold opO at hr;dsimp only at hr
  split at hr
  .rename_i hv _ _
   rw[kS,ig (E:=E) hi hv (by
    unfold updateM at hr
    split at hr<;>first|rfl|cases hr)]
  .cases hr
 case insert t m k' v=>
  obtain⟨r,hr⟩:=hop (by simp) (by simp) (by simp)
  rcases jU hr with hr|hr
  .unfold opX at hr;cases hr
  unfold opO at hr;dsimp only at hr
  split at hr
  .rename_i hv _ _
   rw[kS,ig (E:=E) hi hv (by
    unfold updateM at hr
    split at hr<;>first|rfl|cases hr)]
  .cases hr
 case alloc t=>rw[kS];exact congrArg wrF (sQ hi bq)
 case box t y=>rw[kS];exact congrArg wrF (sQ hi bq)
 case makeMap t y=>rw[kS];exact congrArg wrF (sQ hi bq)
 case makeSlice t y z=>rw[kS];exact congrArg wrF (congrArg (Key.top:: ·) (sQ hi bq))
 case call c=>
  obtain⟨r,hr⟩:=hop (by simp) (by simp) (by simp)
  unfold drOK at hd;rw[P6,QN] at hd
  obtain⟨hown,hd⟩:=hd
  rw[ho] at hd;dsimp only at hd
  cases hc:c.callee with
  |invoke y m=>rfl
  |builtin bi=>
   rw[hc] at hd;dsimp only at hd
   split at hd
   .rename_i vs hvs
    have:=D9 (E:=E) hi hvs hd
    cases bi<;>dsimp only<;>(try rw[<-this])<;>(try rfl)
    rw[hi.om,aD];cases om<;>rfl
   .cases hd
  |value f=>
   rcases jU hr with hr|hr
   .unfold opX at hr;cases hr
   unfold opO at hr;dsimp only at hr
   rw[hc] at hd hr;dsimp only at hd hr
   split at hd
   .rename_i f' a' b' vs hf hvs
    simp only[hf,hvs] at hr
    cases himp:E.imp f' with
    |true=>rw[himp] at hr;cases hr
    |false=>
     obtain⟨va,vb,h1,h2,h3⟩:=(aI (E:=E) hi .nil hf).dW
     dsimp only;rw[hf,h1];dsimp only
     have aW:eO E fr o f=false:=by
      have:=ql hi hown
      unfold iV at this
      rw[ho] at this;dsimp only at this
      rw[hc] at this;exact this
     simp only[himp,aW,P8,if_false]
     rw[hvs];dsimp only
     have hrel:=(h2.append (lX (E:=E) hi .nil hvs)).append h3
     cases hcl:clVs (a'++vs++b') with
     |true=>rw[xP hR hcl hrel];rfl
     |false=>
      rw[hcl,Bool.false_or] at hd
      rw[Ea hd hrel];rfl
   .cases hd
omit hR in
theorem yt (c:Cx) (all:List Oper) (o:Oper):(slotsT all o).map (Key.mv c)=slotsT all o:=by
 have key:∀l:List Key,(∀k∈l,∃t,k= .slot t)->l.map (Key.mv c)=l:=by
  intro l
  induction l with
  |nil=>intro _;rfl
  |cons k l ih=>
   intro h
   obtain⟨t,e⟩:=h k (Qa ..)
   rw[Qd,ih fun k hk=>h k (Qb _ hk),e];rfl
 refine key _ fun k hk=>?_
 unfold slotsT at hk
 rw[List.mem_append] at hk
 rcases hk with hk|hk
 .rw[List.mem_filterMap] at hk
  obtain⟨a,_,ha⟩:=hk
  split at ha
  .cases ha;exact⟨_,rfl⟩
  .cases ha
 .split at hk
  .split at hk
   .exact⟨_,Ql.1 hk⟩
   .cases hk
  .cases hk
omit hR in
theorem yu (c:Cx) (o:Oper):(slotsW o).map (Key.mv c)=slotsW o:=by
 unfold slotsW
 cases o.dst<;>rfl
omit hR in
theorem Eb {c:Cx} (f:Foot) (a b:List Key) (ha:a.map (Key.mv c)=a) (hb:b.map (Key.mv c)=b):Foot.mv c ⟨f.tAll,f.wAll,a++f.t,b++f.w⟩=⟨(f.mv c).tAll,(f.mv c).wAll,a++(f.mv c).t,b++(f.mv c).w⟩:=by
 unfold Foot.mv
 dsimp only
 rw[QT,QT,ha,hb]
theorem NM {om:Bool} {β:Type} {F:Nat->List (FR R)} (aD:Z.om.om=om) (bq:∀d,o.dst=some d->d<F0) (hi:aj Z b st fr Y) {k:MS R.T->Option β} {x:β} {all:List Oper} (h:runM E R om F o st k=some x) (hd:drOK E st o=true):(footM E om all st o true).mv Z.om=aX E all fr o true:=by
 have key:=NK hR aD bq hi h hd
 unfold footM aX
 rw[if_pos rfl,if_pos rfl,<-key]
 exact Eb _ _ _ (yt _ _ _) (yu _ _)
omit hR in
theorem Ec {om:Bool} {all:List Oper} {c:Cx}:(footM E om all st o false).mv c=aX E all fr o false:=by
 unfold footM aX Foot.mv
 rw[if_neg (by simp),if_neg (by simp)]
 dsimp only
 rw[yt,yu]
omit hR in
theorem NP {om:Bool} {all:List Oper} {c:Call} {f:Operand} {g:FuncId} {a vb:List V} (hi:aj Z b st fr Y) (himp:isImpM E st o=true) (aW:iV E fr o=false) (h1:o.op= .call c) (h2:c.callee= .value f) (h3:fr.ev E f= .fn (.func g) a vb) (h4:E.imp g=true):(footM E om all st o true).mv Z.om=aX E all fr o true:=by
 have key:(footSM E om st o).mv Z.om=bO E fr o:=by
  unfold isImpM at himp
  rw[h1] at himp;dsimp only at himp
  rw[h2] at himp;dsimp only at himp
  unfold iV at aW
  rw[h1] at aW;dsimp only at aW
  rw[h2] at aW;dsimp only at aW
  unfold footSM bO
  rw[h1];dsimp only
  rw[h2];dsimp only
  rw[aW,h3]
  split at himp
  .rename_i g' a' b' hf
   (try rw[hf])
   (try dsimp only)
   rw[if_pos himp,if_neg (by simp)]
   (try dsimp only)
   rw[if_pos h4]
   rfl
  .cases himp
 unfold footM aX
 rw[if_pos rfl,if_pos rfl,<-key]
 exact Eb _ _ _ (yt _ _ _) (yu _ _)
omit hR in
theorem NR {β:Type} {F:Nat->List (FR R)} {k:MS R.T->Option β} {x:β} {all:List Oper} (hi:aj Z b st fr Y) (h:ownM R F o st k=some x) (hown:isOwnM E st o=true):(ownFt all o).mv Z.om=aX E all fr o true:=by
 unfold ownM at h
 cases h
theorem nV {om:Bool} {β:Type} {F:Nat->List (FR R)} (hF:RegsOK E F) {M:Nat->List (FM R)} (hM:sK E M) {ms:List Nat} {all:List Oper} {k:MS R.T->Option β} {x:β} {Q:Fr->Sig->Prop}:∀(os:List Oper) (stp:Nat) (Z:ak) (st:MS R.T) (fr:Fr) (Y:Sig) (fs:List Foot),(∀d,memN d (dstsL E os)=true->d<F0)->Z.om.om=om->aj Z stp st fr Y->stp+os.length<=Y.next->opsDM E R om F M ms all os st fs k=some x->
 (∀Z' st' fr' Y',aj Z' (stp+os.length) st' fr' Y'->Y.next<=Y'.next->Kp (os.all (nrOp E)) (dstsL E os) st fr Y Z st' fr' Y' Z'->k st'=some x->Q fr' Y')->aN E ms all stp os fr Y (fs.map (Foot.mv Z.om)) Q
 | [],stp,Z,st,fr,Y,fs,hW0,aD,hi,hsn,h,hq=>by
   unfold opsDM at h
   obtain⟨h1,h⟩:=bn h
   exact aN.nil (by rw[NH];exact h1) (hq Z st fr Y hi (mF _) .refl h)
 |o::os,stp,Z,st,fr,Y,fs,hW0,aD,hi,hsn,h,hq=>by
  have bq:∀d,o.dst=some d->d<F0:=fun d hd=>hW0 d (D5 hd)
  have hW1:∀d,memN d (dstsL E os)=true->d<F0:=fun d hd=>hW0 d (D6 hd)
  have gL:∀{Y':Sig},Y.next<=Y'.next->stp+1+os.length<=Y'.next:=fun h=>by rw[List.length_cons] at hsn;omega
  have hg:=DY (o:=o) (all:=all) hi
  unfold opsDM at h
  have hW:∀p,memN p (dstsL E (o::os))=false->ND E o p/\memN p (dstsL E os)=false:=fun p hp=>DZ hp
  have hq':∀(Z1:ak) (st1:MS R.T) (y:V) (Y1:Sig),(∀p,ND E o p->aB (nrOp E o) p st Z Y st1 Z1 Y1)->Y.next<=Y1.next->∀Z' st' fr' Y',aj Z' (stp+1+os.length) st' fr' Y'->Y1.next<=Y'.next->Kp (os.all (nrOp E)) (dstsL E os) st1 (fr.put o.dst y) Y1 Z1 st' fr' Y' Z'->k st'=some x->Q fr' Y':=fun Z1 st1 y Y1 hkp h1 Z' st' fr' Y' hi' hn jm hk=>
   hq Z' st' fr' Y' (by rw[List.length_cons,Nat.add_comm os.length,<-QK];exact hi') (P7 h1 hn) (((Kp.op (Q:=fun p=>ND E o p) (fun p hp=>⟨(hW p hp).1.1,(hW p hp).1⟩) hkp).nr (qm:=(o::os).all (nrOp E)) (fun e=>by rw[List.all_cons,P6] at e;exact e.1)).trans ((jm.mono fun p hp=>(hW p hp).2).nr (fun e=>by rw[List.all_cons,P6] at e;exact e.2))) hk
  have run:∀(st1:MS R.T),st1.ob=st.ob->aj Z stp st1 fr Y->aO all fr o=some true->(bif isImpM E st1 o then (bif isOwnM E st1 o then none else impM R M o st1 (fun st'=>opsDM E R om F M ms all os st' (fs++[footM E om all st1 o true]) k)) else bif isOwnM E st1 o then ownM R F o st1 (fun st'=>opsDM E R om F M ms all os st' (fs++[ownFt all o]) k) else bif !(drOK E st1 o) then none else runM E R om F o st1 (fun st'=>opsDM E R om F M ms all os st' (fs++[footM E om all st1 o true]) k))=some x->aN E ms all stp (o::os) fr Y (fs.map (Foot.mv Z.om)) Q:=by
   intro st1 je hi hg h
   have hkq:∀(st':MS R.T) (Z':ak) (Y':Sig),(∀p,ND E o p->aB true p st1 Z Y st' Z' Y')->∀p,ND E o p->aB true p st Z Y st' Z' Y':=fun st' Z' Y' h p hp=>(h p hp).from je
   cases himp:isImpM E st1 o with
   |true=>
    rw[himp,cond_true] at h
    cases hown:isOwnM E st1 o with
    |true=>rw[hown] at h;cases h
    |false=>
    rw[hown,cond_false] at h
    have aW:=ql hi hown
    obtain⟨c,f,g',a,vb,f1,f2,f3,f4,n',v,Y',f5,st2,i1,i2,i3,i4⟩:=xX hR hM hi (by omega) h
    have hf:=NP (om:=om) (all:=all) hi himp aW f1 f2 f3 f4
    refine aN.callI hg f1 f2 f3 f4 ⟨n',v,Y',f5,?_⟩ (yj aW f1 f2 f3)
    have:=nV hF hM os (stp+1) Z st2 _ Y' _ hW1 aD i1 (gL i2) i4 (hq' Z st2 v Y' (fun p _=>by rw[yh himp];exact(i3 p).from je) i2)
    rw[QT,Qd,List.map_nil,hf] at this
    exact this
   |false=>
   rw[himp,cond_false] at h
   cases hown:isOwnM E st1 o with
   |true=>
    rw[hown,cond_true] at h
    refine NA hR hF hi h hown hg (fun Z' st' y Y' hi' hn hkp hk=>?_)
    have:=nV hF hM os (stp+1) Z' st' _ Y' _ hW1 ((congrArg Cx.om (l8 hkp)).trans aD) hi' (gL (QV hn.symm)) hk (hq' Z' st' y Y' (fun p hp=>(hkq st' Z' Y' hkp p hp).of) (QV hn.symm))
    rw[l8 hkp,QT,Qd,List.map_nil,NR hi h hown] at this
    exact this
   |false=>
   rw[hown,cond_false] at h
   cases hd:drOK E st1 o
   .rw[hd] at h;cases h
   .rw[hd] at h
    have h':runM E R om F o st1 (fun st'=>opsDM E R om F M ms all os st' (fs++[footM E om all st1 o true]) k)=some x:=h
    have hf:=NM hR (all:=all) aD bq hi h' hd
    exact xY hR hF aD bq hi h' (rest:=fun fr' Y'=>aN E ms all (stp+1) os fr' Y' (fs.map (Foot.mv Z.om)++[aX E all fr o true]) Q) (fun y Y' hst hr=>hst.2 (ql hi (by unfold drOK at hd;rw[P6,QN] at hd;exact hd.1)) ms all os (fs.map (Foot.mv Z.om)) Q hg hr) (fun Z' st' y Y' hi' hn hkp hk=>by
     have:=nV hF hM os (stp+1) Z' st' _ Y' _ hW1 ((congrArg Cx.om (l8 hkp)).trans aD) hi' (gL (QV hn.symm)) hk (hq' Z' st' y Y' (fun p hp=>(hkq st' Z' Y' hkp p hp).of) (QV hn.symm))
     rw[l8 hkp,QT,Qd,List.map_nil,hf] at this
     exact this)
  split at h
  .rename_i hgm
   rw[hgm] at hg
   exact run st rfl hi hg h
  .rename_i hgm
   rw[hgm] at hg
   have:=nV hF hM os (stp+1) Z _ _ Y _ hW1 aD ((hi.le (Qm _)).putO o.dst (by unfold Rl;rfl)) (gL (mF _)) h (hq' Z _ undefV Y (fun p _=>aB.same (by first|exact dP|rfl)) (mF _))
   rw[QT,Qd,List.map_nil,Ec (fr:=fr)] at this
   exact aN.skip hg this
  .rename_i j w c g hgm
   rw[hgm] at hg
   obtain⟨⟨n,hn⟩,hg2⟩:=hg
   obtain⟨e1,e2,e3⟩:=l7 hi n j w c g hn
   cases c with
   |true=>
    obtain⟨l1,l2⟩:=sO hi (e1 rfl).2 (sP hi n j w g hn)
    exact run (st.learnG g) l2 l1 hg2 h
   |false=>
    obtain⟨l1,l2⟩:=xZ hi hn
    have:=nV hF hM os (stp+1) Z _ _ Y _ hW1 aD ((l1.le (Qm _)).putO o.dst (by unfold Rl;rfl)) (gL (mF _)) h (hq' Z _ undefV Y (fun p _=>aB.same (dP.trans l2)) (mF _))
    rw[QT,Qd,List.map_nil,Ec (fr:=fr)] at this
    exact aN.skip hg2 this
  .cases h
end
section
variable {E:Env} {fr:Fr} {Y:Sig}
def Sig.enter (Y:Sig) (fr:Fr) (ps:Array Tmp) (aJ body:Code):Sig:=({Y with next:=Y.next+1}:Sig).aV Y.next {st:=0,pend:=none,fr:=fr,ps:=ps.toList,aJ:=aJ,body:=body}
def Rnd (E:Env) (l:Nat) (args:List V) (Y:Sig) (b:Bool) (Y':Sig):Prop:=∃n,iD (evl E n) l args Y=some (.bool b,Y')
theorem CW.range {f:Operand} {ps:Array Tmp} {aJ body:Code} {g:FuncId} {a b:List V} {Q:Ex->Fr->Sig->Prop} (hf:fr.ev E f= .fn (.func g) a b) (hi:E.imp g=true)
 (h:Imp E g (a++[.fn (.yield Y.next) [] []]++b) (fr.d+1) (Y.enter fr ps aJ body) (fun _ Y2=>∃r,Y2.loops Y.next=some r/\r.st≠1/\Q (match r.pend with|none=>.normal|some e=>e) fr (Y2.dR Y.next))):CW E (.rangeFunc f ps aJ body) fr Y Q:=by
 obtain⟨n,v,Y2,h1,r,h2,h3,h4⟩:=h
 refine⟨n,_,fr,_,?_,h4⟩
 have h1':bV E (evl E n) fr.d (Y.enter fr ps aJ body) (.fn (.func g) a b) [.fn (.yield Y.next) [] []]=some (v,Y2):=by
  unfold bV;simp only[hi,if_true];exact h1
 unfold aL
 rw[hf]
 simp only[mI,if_true]
 unfold Sig.enter at h1'
 rw[h1']
 simp only[Option.bind_some,h2,if_neg h3]
 cases r.pend<;>rfl
theorem Rnd.of {l:Nat} {args:List V} {r:fB} {b:Bool} {Y':Sig} (hl:Y.loops l=some r) (hst:r.st=0) (hlen:r.ps.length=args.length)
 (h:CW E r.aJ {r.fr with tm:=(r.ps.zip args).foldl (fun tm (p,a)=>upd tm p a) r.fr.tm} Y (fun e ay Y1=>e= .normal/\∃r1,Y1.loops l=some r1/\r1.st=0/\
   CW E r.body ay (Y1.aV l {r1 with st:=1}) (fun e _ Y2=>∃r2,Y2.loops l=some r2/\r2.st=1/\match e with
    |.normal=>b=true/\Y'=Y2.aV l {r2 with st:=0,pend:=none}
    |e=>b=false/\Y'=Y2.aV l {r2 with st:=2,pend:=some e}))):Rnd E l args Y b Y':=by
 obtain⟨n,e,ay,Y1,h1,rfl,r1,hl1,hs1,m,e2,aP,Y2,h2,r2,hl2,hs2,h3⟩:=h
 have h1':(evl E (max n m+1)).code r.aJ {r.fr with tm:=(r.ps.zip args).foldl (fun tm (p,a)=>upd tm p a) r.fr.tm} Y=some (.normal,ay,Y1):=lU (eZ (Q9 n m)) _ _ _ _ h1
 have h2':(evl E (max n m+1)).code r.body ay (Y1.aV l {r1 with st:=1})=some (e2,aP,Y2):=lU (eZ (Q5 n m)) _ _ _ _ h2
 refine⟨max n m+1,?_⟩
 unfold iD
 simp only[hl,Option.bind_some,hst,hlen,and_self,if_true,h1',hl1,hs1,h2',hl2,hs2]
 cases e2 with
 |normal=>obtain⟨rfl,rfl⟩:=h3;rfl
 |exit i=>obtain⟨rfl,rfl⟩:=h3;rfl
 |ret=>obtain⟨rfl,rfl⟩:=h3;rfl
theorem OW.yield {all:List Oper} {st:Nat} {o:Oper} {os:List Oper} {Q:Fr->Sig->Prop} {c:Call} {f:Operand} {l:Nat} {b:Bool} {Y1:Sig} (hw:aO all fr o=some true) (ho:o.op= .call c) (bH:c.callee= .value f)
 (hf:fr.ev E f= .fn (.yield l) [] []) (hr:Rnd E l (c.args.toList.map (fr.ev E)) Y b Y1) (h:OW E all (st+1) os (fr.put o.dst (.bool b)) Y1 Q):OW E all st (o::os) fr Y Q:=by
 obtain⟨n,fr',Y',h1,h2⟩:=h
 obtain⟨m,hm⟩:=hr
 have hm':=Ba (eZ (Q5 n m)) hm
 have h1':=rG (eZ (Q9 n m)) _ _ _ _ _ _ h1
 refine⟨max n m,fr',Y',?_,h2⟩
 have:bV E (evl E (max n m)) fr.d Y (.fn (.yield l) [] []) (c.args.toList.map (fr.ev E))=some (.bool b,Y1):=by
  unfold bV;exact hm'
 have aW:eO E fr o f=false:=by unfold eO;rw[hf]
 simp only[opsE,hw,Option.bind_some,if_true,opC,ho,bH,aW,P8,if_false,hf,this,Option.map_some,h1']
structure Shift (d:Nat) (Y Y':Sig):Prop where
 next:Y.next<=Y'.next
 top:∀s,s<Y.next->Y'.top s=Y.top s
 loops:∀l,l<Y.next->Y'.loops l=Y.loops l
 obj:∀a o,a<=d->Y'.obj (a,o)=Y.obj (a,o)
theorem Shift.refl {d:Nat} {Y:Sig}:Shift d Y Y:=⟨mF _,fun _ _=>rfl,fun _ _=>rfl,fun _ _ _=>rfl⟩
theorem Shift.trans {d:Nat} {Y Y' dF:Sig} (h:Shift d Y Y') (g:Shift d Y' dF):Shift d Y dF:=
 ⟨P7 h.next g.next,fun s hs=>(g.top s (Qg hs h.next)).trans (h.top s hs),fun s hs=>(g.loops s (Qg hs h.next)).trans (h.loops s hs),fun a o ha=>(g.obj a o ha).trans (h.obj a o ha)⟩
def IterOK (E:Env) (f:FuncId) (a b:List V) (L:List (List V)):Prop:=∀(d l:Nat) (Y:Sig) (J:List (List V)->Sig->Prop) (D:Sig->Prop),
 (∀xs Y Y',l<Y.next->J xs Y->Shift d Y Y'->J xs Y')->(∀Y Y',l<Y.next->D Y->Shift d Y Y'->D Y')->
 (∀x xs Y,l<Y.next->J (x::xs) Y->∃c Y',Rnd E l x Y c Y'/\Y.next<=Y'.next/\(∀a o,d<a->Y'.obj (a,o)=Y.obj (a,o))/\(∀s,s<Y.next->Y'.loops s=Y.loops s\/s=l)/\(c=true->J xs Y')/\(c=false->D Y'))->
 l<Y.next->J L Y->Imp E f (a++[.fn (.yield l) [] []]++b) (d+1) Y fun _ Y'=>Y.next<=Y'.next/\(J [] Y'\/D Y')
end
end Aq
end
