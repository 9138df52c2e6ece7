import Derived.Test.YtabmooekodficaaGreatDoorF4411
set_option linter.all false
namespace Aq
open Go
section
variable {R:Reg} {E:Env} {ρ ρ':au} {b aj:Nat} {st:MS R.T} {fr:Fr} {σ:Sig} {o:Oper} (hR:RegOK R)
include hR
def FMOK1 (E:Env) (g:Nat) (args:List Sk) (obs:List (Nat×ObSk)) (res:List Sk) (F:PayL R.T args->PayOs R.T obs->Option (PayL R.T res×PayOs R.T obs)):Prop:=∀p q y q',F p q=some (y,q')->∀(ρ:au) (vs:List V) (σ:Sig),ρ.om.om=E.om g->(∀t,ρ.tk t=none)->ρ.om.lo<=σ.next->
 RlL R ρ σ.top (upL R .any args p) vs->(∀o x,look (upOs R obs q) o=some x->aR ρ σ o x)->
 Imp E g vs ρ.om.dp σ fun v σ'=>(∃ws,v=retV ws/\RlL R ρ σ'.top (upL R .any res y) ws)/\(∀o x,look (upOs R obs q') o=some x->aR ρ σ' o x)/\σ.next<=σ'.next/\(∀l,l<σ.next->σ'.loops l=σ.loops l)/\(∀s,s<ρ.om.lo->σ'.top s=σ.top s)/\
  ∀L:Loc,L.1<=ρ.om.dp->ρ.om.out L->σ'.obj L=σ.obj L
def Og (ρ:au) (σ':Sig):(k:NK)->PayN R.T k->V->Prop
 |.no,_,_=>False
 |.arr t,l,v=>(∃L s cs,ρ.om.dp<=L.1/\v= .vw L s 0 l.length l.length (szD R t) (isSt t)/\σ'.obj L=some (s,.cells cs)/\RlL R ρ σ'.top (l.flatMap fun x=>(tvD R .any t x).cells) cs)\/(l=[]/\(v= .lst .nil []\/v= .lst .full []))
 |.fnc g a b cs,(x,y,z),v=>∃L s c,ρ.om.dp<=L.1/\v= .fn (.func g) (encSL R a x) (.ref L s 0::encSL R b y)/\σ'.obj L=some (s,.cells c)/\RlL R ρ σ'.top (upL R .any cs z) c/\(cSkL a&& (cSkL b&& dSk cs))=true
def FNOK1 (E:Env) (g:Nat) (args:List Sk) (obs:List (Nat×ObSk)) (nk:NK) (ob2:List (Nat×ObSk)) (G:PayL R.T args->PayOs R.T obs->Option (PayN R.T nk×PayOs R.T ob2)):Prop:=∀p q y q',G p q=some (y,q')->∀(ρ:au) (vs:List V) (σ:Sig),ρ.om.om=E.om g->(∀t,ρ.tk t=none)->ρ.om.lo<=σ.next->
 RlL R ρ σ.top (upFL R args p) vs->(∀o x,look (upOs R obs q) o=some x->aR ρ σ o x)->
 Imp E g vs ρ.om.dp σ fun v σ'=>Og ρ σ' nk y v/\(∀o x,look (upOs R ob2 q') o=some x->aR ρ σ' o x)/\σ.next<=σ'.next/\(∀l,l<σ.next->σ'.loops l=σ.loops l)/\(∀s,s<ρ.om.lo->σ'.top s=σ.top s)/\
  ∀L:Loc,L.1<=ρ.om.dp->ρ.om.out L->σ'.obj L=σ.obj L
def FMOK (E:Env) (g:Nat) (r:FM R):Prop:=FMOK1 E g r.args r.obs r.res r.F/\FNOK1 E g r.args r.obs r.nk r.ob2 r.G
def BP (E:Env) (M:Nat->List (FM R)):Prop:=∀g,∀r∈M g,E.imp g=true/\FMOK E g r
omit hR in
theorem Oh {i:Nat}:∀{l:List Nat},memN i l=true->i∈l
 | [],h=>by cases h
 |j::l,h=>by
  have h':(Nat.beq i j||memN i l)=true:=h
  rw[afp] at h'
  rcases h' with h'|h'
  ·rw[aP h'];exact aeW ..
  ·exact ae0 _ (Oh h')
omit hR in
theorem Hr {i:Nat}:∀{l:List Nat},i∈l->memN i l=true
 | [],h=>by cases h
 |j::l,h=>by
  show (Nat.beq i j||memN i l)=true
  rw[afp]
  rcases aeQ.1 h with h|h
  ·left;rw[h];exact afi _
  ·right;exact Hr h
omit hR in
theorem Ht:∀{l:List Nat} {n o p:Nat},look (numL l n) o=some p->n<=p/\l[p-n]? =some o
 | [],_,_,_,h=>by cases h
 |a::l,n,o,p,h=>by
  have h':look ((a,n)::numL l (n+1)) o=some p:=h
  by_cases e:o=a
  ·subst e;rw[bX] at h';cases h';exact⟨iP _,by simp⟩
  ·rw[bf _ _ e] at h'
   obtain⟨h1,h2⟩:=Ht h'
   refine⟨by omega,?_⟩
   have:p-n=(p-(n+1))+1:=by omega
   rw[this];simpa using h2
omit hR in
theorem Oi:∀{l:List Nat} {n o p:Nat},look (invL (numL l n)) p=some o->n<=p/\l[p-n]? =some o
 | [],_,_,_,h=>by cases h
 |a::l,n,o,p,h=>by
  have h':look ((n,a)::invL (numL l (n+1))) p=some o:=h
  by_cases e:p=n
  ·subst e;rw[bX] at h';cases h';exact⟨iP _,by simp⟩
  ·rw[bf _ _ e] at h'
   obtain⟨h1,h2⟩:=Oi h'
   refine⟨by omega,?_⟩
   have:p-n=(p-(n+1))+1:=by omega
   rw[this];simpa using h2
omit hR in
theorem Oj:∀{l:List Nat},ndB l=true->∀{i j o:Nat},l[i]? =some o->l[j]? =some o->i=j
 | [],_,i,j,o,hi,_=>by simp at hi
 |a::l,h,i,j,o,hi,hj=>by
  have h':(!(memN a l)&& ndB l)=true:=h
  rw[RS,aff] at h'
  cases i with
  |zero=>
   cases j with
   |zero=>rfl
   |succ j=>
    have e:a=o:=by simpa using hi
    have e2:l[j]? =some o:=by simpa using hj
    rw[e,Hr (afH e2)] at h'
    exact absurd h'.1 (by simp)
  |succ i=>
   cases j with
   |zero=>
    have e:a=o:=by simpa using hj
    have e2:l[i]? =some o:=by simpa using hi
    rw[e,Hr (afH e2)] at h'
    exact absurd h'.1 (by simp)
   |succ j=>rw[Oj h'.2 (show l[i]? =some o by simpa using hi) (show l[j]? =some o by simpa using hj)]
omit hR in
theorem BQ:∀{l:List Nat} {n p:Nat} {x:Ob R.T},look (mobs st (numL l n)) p=some x->∃o,n<=p/\l[p-n]? =some o/\look st.ob o=some x
 | [],_,_,_,h=>by cases h
 |a::l,n,p,x,h=>by
  have up:look (mobs st (numL l (n+1))) p=some x->∃o,n<=p/\(a::l)[p-n]? =some o/\look st.ob o=some x:=fun h=>by
   obtain⟨o,h1,h2,h3⟩:=BQ h
   refine⟨o,by omega,?_,h3⟩
   have:p-n=(p-(n+1))+1:=by omega
   rw[this];simpa using h2
  have h':=h
  unfold numL mobs at h'
  split at h'
  ·rename_i y hy
   by_cases e:p=n
   ·subst e;rw[bX] at h';cases h';exact⟨a,iP _,by simp,hy⟩
   ·rw[bf _ _ e] at h';exact up h'
  ·exact up h'
omit hR in
theorem xY {L:List (Nat×Ob R.T)}:∀{l:List Nat} {n o:Nat} {y:Ob R.T},look (bobs (numL l n) L) o=some y->∃p,n<=p/\l[p-n]? =some o/\look L p=some y
 | [],_,_,_,h=>by cases h
 |a::l,n,o,y,h=>by
  have up:look (bobs (numL l (n+1)) L) o=some y->∃p,n<=p/\(a::l)[p-n]? =some o/\look L p=some y:=fun h=>by
   obtain⟨p,h1,h2,h3⟩:=xY h
   refine⟨p,by omega,?_,h3⟩
   have:p-n=(p-(n+1))+1:=by omega
   rw[this];simpa using h2
  have h':=h
  unfold numL bobs at h'
  split at h'
  ·rename_i z hz
   by_cases e:o=a
   ·subst e;rw[bX] at h';cases h';exact⟨n,iP _,by simp,hz⟩
   ·rw[bf _ _ e] at h';exact up h'
  ·exact up h'
omit hR in
theorem Ol {L:List (Nat×Ob R.T)}:∀{l:List Nat} {n o:Nat},(∀p,n<=p->p<n+l.length->∃y,look L p=some y)->look (bobs (numL l n) L) o=none->o∉l
 | [],_,_,_,_=>by simp
 |a::l,n,o,hL,h=>by
  obtain⟨y,hy⟩:=hL n (iP _) (by simp)
  have h':=h
  unfold numL bobs at h'
  rw[hy] at h'
  by_cases e:o=a
  ·subst e;rw[bX] at h';cases h'
  ·rw[bf _ _ e] at h'
   have:=Ol (fun p h1 h2=>hL p (by omega) (by rw[List.length_cons];omega)) h'
   simp[e,this]
omit hR in
theorem xZ:∀{l:List Nat} {n:Nat} {obs:List (Nat×ObSk)} {q:PayOs R.T obs},eqKs (numL l n) obs=true->∀p,n<=p->p<n+l.length->∃y,look (upOs R obs q) p=some y
 | [],n,_,_,_,p,h1,h2=>by simp at h2;omega
 |a::l,n,[],_,h,_,_,_=>by cases h
 |a::l,n,[(j,k)],q,h,p,h1,h2=>by
  have h':(Nat.beq n j&& eqKs (numL l (n+1)) [])=true:=h
  rw[RS] at h'
  have hj:=aP h'.1
  subst hj
  by_cases e:p=n
  ·subst e;exact⟨_,bX _ _ _⟩
  ·obtain⟨y,hy⟩:=xZ (q:=show PayOs R.T [] from ()) h'.2 p (by omega) (by rw[List.length_cons] at h2;omega)
   cases hy
 |a::l,n,(j,k)::x::obs,q,h,p,h1,h2=>by
  have h':(Nat.beq n j&& eqKs (numL l (n+1)) (x::obs))=true:=h
  rw[RS] at h'
  have hj:=aP h'.1
  subst hj
  show∃y,look ((n,upO R k q.1)::upOs R (x::obs) q.2) p=some y
  by_cases e:p=n
  ·subst e;exact⟨_,bX _ _ _⟩
  ·rw[bf _ _ e]
   exact xZ h'.2 p (by omega) (by rw[List.length_cons] at h2;omega)
omit hR in
theorem BR {L:List (Nat×Ob R.T)}:∀(l:List (Nat×ObSk)) (x:PayOs R.T l),pkOs R L l=some x->∀i v,look (upOs R l x) i=some v->∃k y z,look L i=some y/\pkO R k y=some z/\v=upO R k z/\(okOs l=true->okO k=true)
 | [],x,hx,i,v,hv=>by cases hv
 | [(j,k)],x,hx,i,v,hv=>by
   unfold pkOs at hx
   split at hx
   ·rename_i y hy
    by_cases e:i=j
    ·subst e
     have hv':look [(i,upO R k x)] i=some v:=hv
     rw[bX] at hv';cases hv'
     exact⟨k,y,x,hy,hx,rfl,fun h=>by unfold okOs at h;rw[RS] at h;exact h.1⟩
    ·have hv':look [(j,upO R k x)] i=some v:=hv
     rw[bf _ _ e] at hv';cases hv'
   ·cases hx
 | (j,k)::q::l,x,hx,i,v,hv=>by
   unfold pkOs at hx
   split at hx
   ·rename_i y hy
    cases hu:pkO R k y with
    |none=>simp only[hu] at hx;cases hx
    |some z=>
     cases hs:pkOs R L (q::l) with
     |none=>simp only[hu,hs] at hx;cases hx
     |some p=>
      simp only[hu,hs] at hx
      obtain rfl:=aeF hx
      have hv':look ((j,upO R k z)::upOs R (q::l) p) i=some v:=hv
      by_cases e:i=j
      ·subst e
       rw[bX] at hv';cases hv'
       exact⟨k,y,z,hy,hu,rfl,fun h=>by unfold okOs at h;rw[RS] at h;exact h.1⟩
      ·rw[bf _ _ e] at hv'
       obtain⟨k',y',z',h1,h2,h3,h4⟩:=BR (q::l) p hs i v hv'
       exact⟨k',y',z',h1,h2,h3,fun h=>h4 (by unfold okOs at h;rw[RS] at h;exact h.2)⟩
   ·cases hx
omit hR in
theorem Hu:∀{l:List (Nat×ObSk)} {x:PayOs R.T l},okOs l=true->∀{i:Nat} {v:Ob R.T},look (upOs R l x) i=some v->∃k z,okO k=true/\v=upO R k z
 | [],x,_,i,v,hv=>by cases hv
 | [(j,k)],x,h,i,v,hv=>by
   unfold okOs at h;rw[RS] at h
   have hv':look [(j,upO R k x)] i=some v:=hv
   by_cases e:i=j
   ·subst e;rw[bX] at hv';cases hv';exact⟨k,x,h.1,rfl⟩
   ·rw[bf _ _ e] at hv';cases hv'
 | (j,k)::q::l,x,h,i,v,hv=>by
   unfold okOs at h;rw[RS] at h
   have hv':look ((j,upO R k x.1)::upOs R (q::l) x.2) i=some v:=hv
   by_cases e:i=j
   ·subst e;rw[bX] at hv';cases hv';exact⟨k,x.1,h.1,rfl⟩
   ·rw[bf _ _ e] at hv';exact Hu h.2 hv'
omit hR in
theorem Za {top top':Nat->Nat} {t:Ty} {x:Den R.T t} {v:V} (h:Rl R ρ top (tvD R .any t x) v):Rl R ρ' top' (tvD R .any t x) v:=by
 cases t with
 |st n=>obtain⟨l,hv,hl⟩:=Rl.dL (R:=R) h;exact⟨l,hv,nY _ _ _ hl⟩
 |int k=>exact h
 |bool=>exact h
 |str=>exact h
 |slice t=>exact h
omit hR in
mutual
theorem Om {top top':Nat->Nat}:∀(k:Sk) (z:PayS R.T k) (v:V),dS1 k=true->Rl R ρ top (up R .any k z) v->Rl R ρ' top' (up R .any k z) v
 |.d t,z,v,_,h=>by unfold up at h⊢;exact Za h
 |.cref l off,z,v,hd,h=>by
  unfold up at h⊢
  obtain⟨cs,rfl,h1⟩:=h.iI
  unfold Rl
  exact⟨cs,rfl,ug (by unfold dS1 at hd;exact hd) h1⟩
 |.fn f a b,z,v,hd,h=>by
  unfold up at h⊢
  obtain⟨x,y,rfl,h1,h2⟩:=h.eB
  unfold dS1 at hd
  rw[RS] at hd
  unfold Rl
  exact⟨x,y,rfl,ug hd.1 h1,ug hd.2 h2⟩
 |.l _ _,_,_,hd,_=>by cases hd
 |.agg _,_,_,hd,_=>by cases hd
 |.ref _ _,_,_,hd,_=>by cases hd
 |.mapr _,_,_,hd,_=>by cases hd
 |.mapc _ _,_,_,hd,_=>by cases hd
 |.nils,_,_,hd,_=>by cases hd
 |.vw _ _,_,_,hd,_=>by cases hd
 |.sub _ _,_,_,hd,_=>by cases hd
 |.sg _,_,_,hd,_=>by cases hd
 |.undef,_,_,hd,_=>by cases hd
theorem ug {top top':Nat->Nat}:∀{l:List Sk} {z:PayL R.T l} {cs:List V},dSk l=true->RlL R ρ top (upL R .any l z) cs->RlL R ρ' top' (upL R .any l z) cs
 | [],_,_,_,h=>h
 | [k],z,cs,hd,h=>by
   unfold dSk at hd;rw[RS] at hd
   obtain⟨v,ws,rfl,h1,h2⟩:=RlL.inv_cons (ts:=[]) (show RlL R ρ top [up R .any k z] cs from h)
   rw[h2.inv_nil]
   exact .cons' (Om k z v hd.1 h1) rfl
 |k::q::l,z,cs,hd,h=>by
  unfold dSk at hd;rw[RS] at hd
  obtain⟨v,ws,rfl,h1,h2⟩:=RlL.inv_cons (show RlL R ρ top (up R .any k z.1::upL R .any (q::l) z.2) cs from h)
  exact .cons' (Om k z.1 v hd.1 h1) (ug (l:=q::l) hd.2 h2)
end
omit hR in
theorem Hw {o p:Nat} {k:ObSk} {z:PayO R.T k} (hk:okO k=true) (hb:ρ'.ob p=ρ.ob o) (hn:ρ'.ln p=ρ.ln o) (hl:ρ'.om.lc p=ρ.om.lc o) (h:aR ρ σ o (upO R k z)):aR ρ' σ p (upO R k z):=by
 cases k with
 |cells l=>obtain⟨s,cs,h1,h2,h3⟩:=h;exact⟨s,cs,by rw[hb];exact h1,by rw[hl];exact h2,ug hk h3⟩
 |st n=>obtain⟨s,cs,h1,h2,h3⟩:=h;exact⟨s,cs,by rw[hb];exact h1,by rw[hl];exact h2,nY _ _ _ h3⟩
 |map k e=>obtain⟨s,h1,h2⟩:=h;exact⟨s,by rw[hb];exact h1,by rw[hl];exact h2⟩
 |arr t=>
  refine⟨h.1.trans hn.symm,?_⟩
  rcases h.2 with h| ⟨s,cs,h1,h2,h3⟩
  ·exact .inl ⟨h.1,by rw[hb];exact h.2⟩
  ·exact .inr ⟨s,cs,by rw[hb];exact h1,by rw[hl];exact h2,jL _ cs h3⟩
 |sg l=>obtain⟨s,h1,h2⟩:=h;exact⟨s,by rw[hb];exact h1,by rw[hl];exact h2⟩
omit hR in
mutual
theorem Rl.ren {top:Nat->Nat} {m:List (Nat×Nat)} (hm:∀o p,look m o=some p->ρ'.om.lc p=ρ.om.lc o/\ρ'.ob p=ρ.ob o/\ρ'.ln p=ρ.ln o):∀(x:TV R.T) (v:V),Rl R ρ top x v->Rl R ρ' top (renV m x) v
 |.ref o off,v,h=>by
  obtain⟨s,h1,h2⟩:=h
  unfold renV
  split
  ·rename_i p hp;obtain⟨a,b,c⟩:=hm _ _ hp;exact⟨s,by rw[b];exact h1,by rw[a];exact h2⟩
  ·unfold Rl;trivial
 |.mapr o,v,h=>by
  obtain⟨s,h1,h2⟩:=h
  unfold renV
  split
  ·rename_i p hp;obtain⟨a,b,c⟩:=hm _ _ hp;exact⟨s,by rw[b];exact h1,by rw[a];exact h2⟩
  ·unfold Rl;trivial
 |.vw o t,v,h=>by
  unfold renV
  split
  ·rename_i p hp
   obtain⟨a,b,c⟩:=hm _ _ hp
   rcases h with ⟨s,h1,h2⟩| ⟨h1,h2⟩
   ·exact .inl ⟨s,by rw[b];exact h1,by rw[a,c];exact h2⟩
   ·exact .inr ⟨by rw[c];exact h1,h2⟩
  ·unfold Rl;trivial
 |.sub o t x y,v,h=>by
  unfold renV
  split
  ·rename_i p hp
   obtain⟨a,b,c⟩:=hm _ _ hp
   obtain⟨g0,g1,g2,h⟩:=h
   refine⟨g0,g1,by rw[c];exact g2,?_⟩
   rcases h with ⟨s,cp,h1,h2,h3⟩|h
   ·exact .inl ⟨s,cp,by rw[b];exact h1,h2,by rw[a];exact h3⟩
   ·exact .inr h
  ·unfold Rl;trivial
 |.eref o t i off,v,h=>by
  obtain⟨s,h1,h2⟩:=h
  unfold renV
  split
  ·rename_i p hp;obtain⟨a,b,c⟩:=hm _ _ hp;exact⟨s,by rw[b];exact h1,by rw[a];exact h2⟩
  ·unfold Rl;trivial
 |.sv o _ _ _ _ _,v,h=>by
  obtain⟨s,h1,h2⟩:=h
  unfold renV
  split
  ·rename_i p hp;obtain⟨a,b,c⟩:=hm _ _ hp;exact⟨s,by rw[b];exact h1,by rw[a];exact h2⟩
  ·unfold Rl;trivial
 |.sel o _ _ _ _ _,v,h=>by
  obtain⟨s,h1,h2⟩:=h
  unfold renV
  split
  ·rename_i p hp;obtain⟨a,b,c⟩:=hm _ _ hp;exact⟨s,by rw[b];exact h1,by rw[a];exact h2⟩
  ·unfold Rl;trivial
 |.lst c t l,v,h=>by
  obtain⟨c',hv,hc⟩:=h
  unfold renV
  cases c with
  |own u=>exact⟨c',hv,trivial⟩
  |any=>exact⟨c',hv,trivial⟩
  |sh=>exact⟨c',hv,hc⟩
  |nil=>exact⟨c',hv,hc⟩
  |full=>exact⟨c',hv,hc⟩
 |.agg cs,v,h=>by obtain⟨l,hv,hl⟩:=h;exact⟨l,hv,RlL.ren hm cs l hl⟩
 |.tup cs,v,h=>by obtain⟨l,hv,hl⟩:=h;exact⟨l,hv,RlL.ren hm cs l hl⟩
 |.cref cs off,v,h=>by obtain⟨l,hv,hl⟩:=h;exact⟨l,hv,RlL.ren hm cs l hl⟩
 |.fn f a b,v,h=>by obtain⟨a',b',hv,ha,hb⟩:=h;exact⟨a',b',hv,RlL.ren hm a a' ha,RlL.ren hm b b' hb⟩
 |.opt _ _ _,_,h=>h.elim
 |.int _ _,_,h=>h
 |.bool _,_,h=>h
 |.blit _,_,h=>h
 |.str _,_,h=>h
 |.nilp,_,h=>h
 |.nilf,_,h=>h
 |.nilm,_,h=>h
 |.nili,_,h=>h
 |.nils,_,h=>h
 |.mapc _ _ _,_,h=>h
 |.undef,_,h=>h
 |.sg _,_,h=>h
 |.gel _ _ _ _,_,h=>h
 |.gone,_,h=>h
theorem RlL.ren {top:Nat->Nat} {m:List (Nat×Nat)} (hm:∀o p,look m o=some p->ρ'.om.lc p=ρ.om.lc o/\ρ'.ob p=ρ.ob o/\ρ'.ln p=ρ.ln o):∀(x:List (TV R.T)) (v:List V),RlL R ρ top x v->RlL R ρ' top (renL m x) v
 | [],_,h=>h
 |x::xs,_,⟨v,vs,e,h1,h2⟩=>⟨v,vs,e,Rl.ren hm x v h1,RlL.ren hm xs vs h2⟩
end
omit hR in
mutual
theorem Rl.top {ρ:au} {t t':Nat->Nat} (ht:∀u s,ρ.tk u=some s->t' s=t s):∀(x:TV R.T) (v:V),Rl R ρ t x v->Rl R ρ t' x v
 |.lst c ty l,v,h=>by
  obtain⟨c',hv,hc⟩:=h
  refine⟨c',hv,?_⟩
  cases c<;>first|exact hc|skip
  rcases hc with hc|hc| ⟨s,h1,h2,h3⟩
  ·exact .inl hc
  ·exact .inr (.inl hc)
  ·exact .inr (.inr ⟨s,h1,h2,(ht _ _ h2).trans h3⟩)
 |.agg cs,v,h=>by obtain⟨l,hv,hl⟩:=h;exact⟨l,hv,RlL.top ht cs l hl⟩
 |.tup cs,v,h=>by obtain⟨l,hv,hl⟩:=h;exact⟨l,hv,RlL.top ht cs l hl⟩
 |.cref cs off,v,h=>by obtain⟨l,hv,hl⟩:=h;exact⟨l,hv,RlL.top ht cs l hl⟩
 |.fn f a b,v,h=>by obtain⟨a',b',hv,ha,hb⟩:=h;exact⟨a',b',hv,RlL.top ht a a' ha,RlL.top ht b b' hb⟩
 |.ref _ _,_,h=>h
 |.mapr _,_,h=>h
 |.vw _ _,_,h=>h
 |.sub _ _ _ _,_,h=>h
 |.eref _ _ _ _,_,h=>h
 |.opt _ _ _,_,h=>h.elim
 |.int _ _,_,h=>h
 |.bool _,_,h=>h
 |.blit _,_,h=>h
 |.str _,_,h=>h
 |.nilp,_,h=>h
 |.nilf,_,h=>h
 |.nilm,_,h=>h
 |.nili,_,h=>h
 |.nils,_,h=>h
 |.mapc _ _ _,_,h=>h
 |.undef,_,h=>h
 |.sg _,_,h=>h
 |.sv _ _ _ _ _ _,_,h=>h
 |.sel _ _ _ _ _ _,_,h=>h
 |.gel _ _ _ _,_,h=>h
 |.gone,_,h=>h
theorem RlL.top {ρ:au} {t t':Nat->Nat} (ht:∀u s,ρ.tk u=some s->t' s=t s):∀(x:List (TV R.T)) (v:List V),RlL R ρ t x v->RlL R ρ t' x v
 | [],_,h=>h
 |x::xs,_,⟨v,vs,e,h1,h2⟩=>⟨v,vs,e,Rl.top ht x v h1,RlL.top ht xs vs h2⟩
end
omit hR in
theorem bY.top {fr:Fr} {ρ:au} {t t':Nat->Nat} (ht:∀u s,ρ.tk u=some s->t' s=t s) {x:TV R.T} {v:V} (h:bY fr ρ t x v):bY fr ρ t' x v:=by
 cases x with
 |opt j w y=>exact⟨fun hc=>Rl.top ht y v (h.1 hc),h.2⟩
 |_=>exact .of (Rl.top ht _ v h)
omit hR in
theorem yg {ρ:au} {σ σ':Sig} {p:Nat} (hp:σ'.obj (ρ.om.lc p)=σ.obj (ρ.om.lc p)) (ht:∀u s,ρ.tk u=some s->σ'.top s=σ.top s):∀{x:Ob R.T},aR ρ σ p x->aR ρ σ' p x
 |.cells cs,h=>by
  obtain⟨s,l,h1,h2,h3⟩:=h
  exact⟨s,l,h1,by unfold Sig.cellsAt at h2⊢;rw[hp];exact h2,RlL.top ht _ _ h3⟩
 |.map k e m,h=>by
  obtain⟨s,h1,h2⟩:=h
  exact⟨s,h1,by unfold Sig.bg at h2⊢;rw[hp];exact h2⟩
 |.smap ks vs,h=>by
  obtain⟨s,k,l,h1,h2,h3,h4⟩:=h
  exact⟨s,k,l,h1,by unfold Sig.bg at h2⊢;rw[hp];exact h2,RlL.top ht _ _ h3,RlL.top ht _ _ h4⟩
 |.arr t l,h=>by
  refine⟨h.1,?_⟩
  rcases h.2 with h| ⟨s,cs,h1,h2,h3⟩
  ·exact .inl h
  ·exact .inr ⟨s,cs,h1,by unfold Sig.cellsAt at h2⊢;rw[hp];exact h2,jL l cs h3⟩
 |.sg ss,h=>by
  obtain⟨s,h1,h2⟩:=h
  exact⟨s,h1,by unfold Sig.cellsAt at h2⊢;rw[hp];exact h2⟩
 |.gone,_=>trivial
 |.ro b,h=>yg hp ht (x:=b) h
omit hR in
theorem ak.shift {ρ:au} {b:Nat} {st:MS R.T} {fr:Fr} {σ σ':Sig} (h:ak ρ b st fr σ) (hp:∀p,σ'.obj (ρ.om.lc p)=σ.obj (ρ.om.lc p)) (ht:∀s,s<b->σ'.top s=σ.top s):ak ρ b st fr σ':={h with
 fr:=fun i v hv=>(h.fr i v hv).top fun u s hu=>ht s (h.lt u s hu)
 ob:=fun o x hx=>yg (hp o) (fun u s hu=>ht s (h.lt u s hu)) (h.ob o x hx)}
omit hR in
theorem Zb {top:Nat->Nat} {xs:List (TV R.T)} {vs:List V} (h:RlL R ρ top xs vs):Rl R ρ top (retW xs) (retV vs):=by
 match xs,vs,h with
 | [],_,h=>rw[h.inv_nil];exact⟨[],rfl,rfl⟩
 | [x],_,h=>obtain⟨v,l,rfl,h1,h2⟩:=h.inv_cons;rw[h2.inv_nil];exact h1
 |x::y::l,_,h=>
  obtain⟨v,ws,rfl,h1,h2⟩:=h.inv_cons
  obtain⟨w,us,rfl,h3,h4⟩:=h2.inv_cons
  exact⟨v::w::us,rfl,.cons' h1 (.cons' h3 h4)⟩
omit hR in
theorem Oo {m:List (Nat×Nat)} {A:List (TV R.T)} {B:List (Nat×Ob R.T)}:∀{l:List (FM R)} {r:FM R} {x:Option (PayL R.T r.res×PayOs R.T r.obs)},findM R m A B l=some ⟨r,x⟩->r∈l/\∃p q,pkL R r.args A=some p/\pkOs R B r.obs=some q/\eqKs m r.obs=true/\scS r.res=true/\okOs r.obs=true/\x=r.F p q
 | [],_,_,h=>by cases h
 |s::l,r,x,h=>by
  unfold findM at h
  split at h
  ·rename_i p q hp hq
   obtain⟨hb,h⟩:=aM h
   rw[RS,RS] at hb
   cases h
   exact⟨aeW ..,p,q,hp,hq,hb.1,hb.2.1,hb.2.2,rfl⟩
  ·obtain⟨h1,h2⟩:=Oo h
   exact⟨ae0 _ h1,h2⟩
def Cx.call (c:Cx) (om:Bool) (lo:Nat) (ids:List Nat) (hnd:ndB ids=true):Cx where
 om:=om
 dp:=c.dp+1
 lo:=lo
 fl:=fun p=>if F0<=p then (ids[p-F0]?).map c.lc else none
 lt:=fun p L h=>by
  split at h
  ·rename_i hp
   obtain⟨o,_,rfl⟩:=aat.1 h
   exact⟨hp,Nat.lt_succ_of_le (c.jh o)⟩
  ·cases h
 inj:=fun p q L h g=>by
  split at h
  ·split at g
   ·rename_i hp hq
    obtain⟨o,h1,rfl⟩:=aat.1 h
    obtain⟨o',h2,e⟩:=aat.1 g
    have:=c.xC e
    subst this
    have:=Oj hnd h1 h2
    omega
   ·cases g
  ·cases h
omit hR in
theorem Cx.Zc {c:Cx} {om:Bool} {lo:Nat} {ids:List Nat} {hnd:ndB ids=true} {p o:Nat} (hp:F0<=p) (h:ids[p-F0]? =some o):(c.call om lo ids hnd).lc p=c.lc o:=by
 unfold Cx.lc Cx.call
 dsimp only
 rw[if_pos hp,h]
 rfl
omit hR in
theorem Cx.BS {c:Cx} {om:Bool} {lo:Nat} {ids:List Nat} {hnd:ndB ids=true} {L:Loc} (hL:L.1<=c.dp) (h:∀o∈ids,L≠c.lc o):(c.call om lo ids hnd).out L:=by
 intro p e
 unfold Cx.lc Cx.call at e
 dsimp only at e
 split at e
 ·rename_i M hM
  split at hM
  ·obtain⟨o,h1,rfl⟩:=aat.1 hM
   exact h o (afH h1) e
  ·cases hM
 ·rw[e] at hL;dsimp only at hL;omega
omit hR in
theorem Hy {m:List (Nat×Nat)} {A:List (TV R.T)} {B:List (Nat×Ob R.T)}:∀{l:List (FM R)} {r:FM R} {x:Option (PayN R.T r.nk×PayOs R.T r.ob2)},findN R m A B l=some ⟨r,x⟩->r∈l/\∃p q,pkL R r.args A=some p/\pkOs R B r.obs=some q/\eqKs m r.obs=true/\okOs r.obs=true/\okOs r.ob2=true/\chkF r.args A=true/\x=r.G p q
 | [],_,_,h=>by cases h
 |s::l,r,x,h=>by
  unfold findN at h
  split at h
  ·rename_i p q hp hq
   cases hb:(s.nk.is&& (eqKs m s.obs&& okOs s.obs&& okOs s.ob2)&& chkF s.args A)
   ·rw[hb] at h
    obtain⟨h1,h2⟩:=Hy h
    exact⟨ae0 _ h1,h2⟩
   ·rw[hb] at h
    rw[RS,RS,RS,RS] at hb
    cases h
    exact⟨aeW ..,p,q,hp,hq,hb.1.2.1.1,hb.1.2.1.2,hb.1.2.2,hb.2,rfl⟩
  ·obtain⟨h1,h2⟩:=Hy h
   exact⟨ae0 _ h1,h2⟩
omit hR in
theorem Zd {L' L:Loc} {s:Nat} {σ:Sig} {v v':V} (h:L.1<=L'.1):jE L' L s σ v v'=(v,σ):=by
 unfold jE;rw[if_neg (by omega)]
omit hR in
theorem Ze {ρ:au} {σ:Sig} {L':Option Loc} {top:Nat->Nat} (hL:∀l p s,L'=some l->ρ.ob p=some s->(ρ.om.lc p).1<=l.1):∀{l:List Sk} {y:PayL R.T l} {vs:List V},scS l=true->RlL R ρ top (upL R .any l y) vs->bD L' σ (retV vs)=(retV vs,σ)
 | [],_,vs,_,h=>by rw[RlL.inv_nil (show RlL R ρ top [] vs from h)];rfl
 | [k],y,vs,hs,h=>by
   obtain⟨v,ws,rfl,h1,h2⟩:=RlL.inv_cons (ts:=[]) (show RlL R ρ top [up R .any k y] vs from h)
   rw[h2.inv_nil]
   show bD L' σ v=(v,σ)
   match k,y,hs,h1 with
   |.d (.int kd),y,_,h1=>have h3:v= .int kd y:=h1;rw[h3];rfl
   |.d .bool,y,_,h1=>have h3:v= .bool y:=h1;rw[h3];rfl
   |.d .str,y,_,h1=>have h3:v= .str y:=h1;rw[h3];rfl
   |.sub p t,y,hs,h1=>
    obtain⟨_,_,_,h3⟩:=Rl.nW (R:=R) (o:=p) (t:=t) (a:=y.1) (b:=y.2) h1
    rcases h3 with ⟨s,cp,hs,_,rfl⟩| ⟨_,c,rfl⟩
    ·unfold bD
     cases L' with
     |none=>rfl
     |some l=>exact Zd (hL l p s rfl hs)
    ·rfl
 |k::k2::l,y,vs,_,h=>by
  obtain⟨v,ws,rfl,_,h2⟩:=RlL.inv_cons (show RlL R ρ top (up R .any k y.1::upL R .any (k2::l) y.2) vs from h)
  have:∃w us,ws=w::us:=by
   cases l with
   |nil=>obtain⟨w,us,rfl,_,_⟩:=RlL.inv_cons (ts:=[]) (show RlL R ρ top [up R .any k2 y.2] ws from h2);exact⟨_,_,rfl⟩
   |cons k3 l=>obtain⟨w,us,rfl,_,_⟩:=RlL.inv_cons (show RlL R ρ top (up R .any k2 y.2.1::upL R .any (k3::l) y.2.2) ws from h2);exact⟨_,_,rfl⟩
  obtain⟨w,us,rfl⟩:=this
  rfl
def au.call (ρ:au) (om:Bool) (lo:Nat) (ids:List Nat) (hnd:ndB ids=true):au:=⟨fun p=>if F0<=p then (ids[p-F0]?).bind ρ.ob else none,fun _=>none,fun p=>if F0<=p then (match ids[p-F0]? with|some o=>ρ.ln o|none=>0) else 0,ρ.om.call om lo ids hnd⟩
omit hR in
theorem au.BU {om:Bool} {lo:Nat} {ids:List Nat} {hnd:ndB ids=true} {p o:Nat} (h1:F0<=p) (h2:ids[p-F0]? =some o):(ρ.call om lo ids hnd).om.lc p=ρ.om.lc o/\(ρ.call om lo ids hnd).ob p=ρ.ob o/\(ρ.call om lo ids hnd).ln p=ρ.ln o:=by
 refine⟨Cx.Zc (hnd:=hnd) h1 h2,?_,?_⟩
 ·show (if F0<=p then (ids[p-F0]?).bind ρ.ob else none)=_
  rw[if_pos h1,h2];rfl
 ·show (if F0<=p then (match ids[p-F0]? with|some o=>ρ.ln o|none=>0) else 0)=_
  rw[if_pos h1,h2]
theorem Oq (hi:ak ρ aj st fr σ) (hsn:aj<=σ.next) {ids:List Nat} (hnd:ndB ids=true) (fJ:Bool) {A:List (TV R.T)} {vA:List V} (hA:RlL R ρ σ.top A vA) {args:List Sk} {obs:List (Nat×ObSk)} {p:PayL R.T args} {q:PayOs R.T obs}
 (hp:pkL R args (renL (numL ids F0) A)=some p) (hq:pkOs R (mobs st (numL ids F0)) obs=some q) (hks:eqKs (numL ids F0) obs=true) (hok:okOs obs=true):
 RlL R (ρ.call fJ σ.next ids hnd) σ.top (upL R .any args p) vA/\(∀o x,look (upOs R obs q) o=some x->aR (ρ.call fJ σ.next ids hnd) σ o x)/\
 (∀q' σ',(∀o x,look (upOs R obs q') o=some x->aR (ρ.call fJ σ.next ids hnd) σ' o x)->σ.next<=σ'.next->(∀l,l<σ.next->σ'.loops l=σ.loops l)->(∀s,s<σ.next->σ'.top s=σ.top s)->
   (∀L:Loc,L.1<=ρ.om.dp+1->(ρ.om.call fJ σ.next ids hnd).out L->σ'.obj L=σ.obj L)->
   ak ρ (aj+1) (⟨st.fr,bobs (numL ids F0) (upOs R obs q')++st.ob⟩:MS R.T) fr σ'/\∀p,ay false p st ρ σ (⟨st.fr,bobs (numL ids F0) (upOs R obs q')++st.ob⟩:MS R.T) ρ σ')/\
 ∀(xs:List (TV R.T)) (ws:List V) (top:Nat->Nat),RlL R (ρ.call fJ σ.next ids hnd) top xs ws->RlL R ρ top (renL (invL (numL ids F0)) xs) ws:=by
 have hρ:∀{p o},F0<=p->ids[p-F0]? =some o->(ρ.call fJ σ.next ids hnd).om.lc p=ρ.om.lc o/\(ρ.call fJ σ.next ids hnd).ob p=ρ.ob o/\(ρ.call fJ σ.next ids hnd).ln p=ρ.ln o:=fun {p o} h1 h2=>au.BU h1 h2
 have hm:∀o p,look (numL ids F0) o=some p->(ρ.call fJ σ.next ids hnd).om.lc p=ρ.om.lc o/\(ρ.call fJ σ.next ids hnd).ob p=ρ.ob o/\(ρ.call fJ σ.next ids hnd).ln p=ρ.ln o:=fun o p hp=>by
  obtain⟨h1,h2⟩:=Ht hp
  exact hρ h1 h2
 refine⟨nZ hR args p _ _ hp (RlL.ren hm _ _ hA),fun i w hw=>?_,?_,fun xs ws top h=>RlL.ren (ρ:=ρ.call fJ σ.next ids hnd) (fun p' o' hpo=>by
  obtain⟨h1,h2⟩:=Oi hpo
  obtain⟨e1,e2,e3⟩:=hρ h1 h2
  exact⟨e1.symm,e2.symm,e3.symm⟩) _ _ h⟩
 ·obtain⟨kk,yy,z,h1,h2,rfl,h4⟩:=BR obs q hq i w hw
  obtain⟨o',h5,h6,h7⟩:=BQ h1
  obtain⟨e1,e2,e3⟩:=hρ h5 h6
  exact Hw (h4 hok) e2 e3 e1 (Gr hR h2 (hi.ob _ _ h7))
 ·intro q' σ' qx hnx hlp htp hout
  have hst:∀s,s<aj->σ'.top s=σ.top s:=fun s hs=>htp s (aeD hs hsn)
  have hno:∀o',o'∉ids->σ'.obj (ρ.om.lc o')=σ.obj (ρ.om.lc o'):=fun o' ho'=>
   hout _ (Nat.le_succ_of_le (ρ.om.jh o')) (Cx.BS (hnd:=hnd) (ρ.om.jh o') fun o'' h2 e=>ho' (by rw[ρ.om.xC e];exact h2))
  refine⟨{
   d:=hi.d
   om:=hi.om
   fr:=fun i w hw=>(hi.fr i w hw).top fun u s hu=>hst s (hi.lt u s hu)
   ob:=fun o' w hw=>by
    have hw':look (bobs (numL ids F0) (upOs R obs q')++st.ob) o'=some w:=hw
    rw[kC] at hw'
    split at hw'
    ·rename_i z hz
     cases hw'
     obtain⟨p',h1,h2,h3⟩:=xY hz
     obtain⟨kk,zz,h4,rfl⟩:=Hu hok h3
     obtain⟨e1,e2,e3⟩:=hρ h1 h2
     exact Hw h4 e2.symm e3.symm e1.symm (qx _ _ h3)
    ·rename_i hz
     have hn:=Ol (fun p' h1 h2=>xZ hks p' h1 h2) hz
     exact yg (hno o' hn) (fun u s hu=>hst s (hi.lt u s hu)) (hi.ob _ _ hw')
   inj:=hi.inj
   lt:=fun t s ht=>Nat.lt_succ_of_lt (hi.lt t s ht)
   ge:=hi.ge
   nx:=Nat.le_succ_of_le hi.nx},?_⟩
  intro p'
  refine⟨rfl,rfl,rfl,hnx,⟨hlp,fun s hs=>hst s (aeD hs hi.nx)⟩,fun L hL ho=>?_,fun hro=>?_⟩
  ·have hL':L.1<=ρ.om.dp:=by rcases hL with e|e;cases e;exact e
   exact hout L (Nat.le_succ_of_le hL') (Cx.BS (hnd:=hnd) hL' fun o' _=>ho o')
  ·have hn:p'∉ids:=by
    intro hmem
    obtain⟨i,hi'⟩:=List.getElem?_of_mem hmem
    have hlt:i<ids.length:=by
     rcases Nat.lt_or_ge i ids.length with h|h
     ·exact h
     ·rw[List.getElem?_eq_none h] at hi';cases hi'
    obtain⟨w,hw⟩:=xZ (q:=q) hks (F0+i) (aeG _ _) (by omega)
    obtain⟨kk,yy,z,h1,h2,_,_⟩:=BR obs q hq _ _ hw
    obtain⟨o',h5,h6,h7⟩:=BQ h1
    rw[afs,hi'] at h6
    cases h6
    exact Bq h2 (hro _ h7)
   refine⟨fun w hw=>?_,fun s=>?_⟩
   ·have hw':look (bobs (numL ids F0) (upOs R obs q')++st.ob) p'=some w:=hw
    rw[kC] at hw'
    split at hw'
    ·rename_i z hz
     obtain⟨p'',h1,h2,h3⟩:=xY hz
     exact absurd (afH h2) hn
    ·exact hro _ hw'
   ·unfold Sig.cellsAt Sig.bg
    rw[hno p' hn]
    exact⟨rfl,rfl⟩
omit hR in
theorem Hz {α:Type} {o:Nat} {w:α}:∀{is:List Nat} {l:List (Nat×α)},look (delL is l) o=some w->o∉is/\look l o=some w
 | [],l,h=>⟨by simp,h⟩
 |i::is,l,h=>by
  obtain⟨h1,h2⟩:=Hz (is:=is) (l:=delF i l) h
  by_cases e:o=i
  ·subst e;rw[Bz] at h2;cases h2
  ·rw[eY e] at h2
   exact⟨by simp[e,h1],h2⟩
omit hR in
theorem Ot {k k':Sk} {l:List Sk} {c:TV R.T} {cs:List (TV R.T)} {p:PayL R.T (k::k'::l)} (h:pkL R (k::k'::l) (c::cs)=some p):∃y z,pk R k c=some y/\pkL R (k'::l) cs=some z/\p=(y,z):=by
 unfold pkL at h
 cases h1:pk R k c with
 |none=>simp only[h1] at h;cases h
 |some y=>
  cases h2:pkL R (k'::l) cs with
  |none=>simp only[h1,h2] at h;cases h
  |some z=>simp only[h1,h2] at h;cases h;exact⟨y,z,rfl,rfl,rfl⟩
theorem Ou {top:Nat->Nat} {k:Sk} {x:PayS R.T k} {tv:TV R.T} {v:V} (hc:okV k tv=true) (h:pk R k tv=some x) (hr:Rl R ρ top tv v):Rl R ρ top (up R .sh k x) v:=by
 unfold okV at hc
 rw[afp] at hc
 rcases hc with hc|hc
 ·cases k<;>first| (cases hc;done)|skip
  exact xE hR _ x tv v h hr
 ·simp only[RS] at hc
  have e:=G5 hR k x tv v hc.1.1 h hr 19 Sig.init (by have:=ae2 hc.2;omega)
  rw[closeV_clean (n:=18) (xO hR tv v hc.1.2 hr)] at e
  cases e
  exact G7 hR k x hc.1.1
theorem HV {top:Nat->Nat}:∀{l:List Sk} {x:PayL R.T l} {tvs:List (TV R.T)} {vs:List V},okVs l tvs=true->pkL R l tvs=some x->RlL R ρ top tvs vs->RlL R ρ top (upL R .sh l x) vs
 | [],x,tvs,vs,hc,h,hr=>by
   cases tvs with
   |nil=>rw[hr.inv_nil];rfl
   |cons c cs=>cases hc
 | [k],x,tvs,vs,hc,h,hr=>by
   match tvs,hc,h,hr with
   | [t],hc,h,hr=>
     obtain⟨v,ws,rfl,h1,h2⟩:=hr.inv_cons
     rw[h2.inv_nil]
     have hc':(okV k t&& true)=true:=hc
     rw[Bool.and_true] at hc'
     exact .cons' (Ou hR hc' h h1) rfl
   |t::u::l,hc,h,hr=>cases h
 |k::q::l,x,tvs,vs,hc,h,hr=>by
  match tvs,hc,h,hr with
  |t::ts,hc,h,hr=>
   obtain⟨v,ws,rfl,h1,h2⟩:=hr.inv_cons
   have hc':(okV k t&& okVs (q::l) ts)=true:=hc
   rw[RS] at hc'
   obtain⟨y,z,e1,e2,rfl⟩:=Ot h
   exact .cons' (Ou hR hc'.1 e1 h1) (HV hc'.2 e2 h2)
theorem Ov {top:Nat->Nat} {k:Sk} {x:PayS R.T k} {tv:TV R.T} {v:V} (hc:chkF1 k tv=true) (h:pk R k tv=some x) (hr:Rl R ρ top tv v):Rl R ρ top (up R (capF k) k x) v:=by
 cases k<;>first|exact xE hR _ x tv v h hr|skip
 rename_i f a b
 cases tv<;>first| (cases hc;done)|skip
 rename_i f' a' b'
 have hc':(okVs a a'&& okVs b b')=true:=hc
 rw[RS] at hc'
 have h':(bif Nat.beq f' f then (match pkL R a a' with
  |some x=>match pkL R b b' with
   |some y=>some (x,y)
   |none=>none
  |none=>none) else none)=some x:=h
 obtain⟨hf,hm⟩:=aM h'
 clear h' h
 have hf:=aP hf
 subst hf
 cases ha:pkL R a a' with
 |none=>rw[ha] at hm;cases hm
 |some xa=>
  cases hb:pkL R b b' with
  |none=>simp only[ha,hb] at hm;cases hm
  |some xb=>
   simp only[ha,hb] at hm
   cases hm
   obtain⟨va,vb,rfl,r1,r2⟩:=hr.eB
   show Rl R ρ top (.fn f' (upL R .sh a xa) (upL R .sh b xb)) _
   unfold Rl
   exact⟨va,vb,rfl,HV hR hc'.1 ha r1,HV hR hc'.2 hb r2⟩
theorem Ow {top:Nat->Nat}:∀{l:List Sk} {x:PayL R.T l} {tvs:List (TV R.T)} {vs:List V},pkL R l tvs=some x->RlL R ρ top tvs vs->chkF l tvs=true->RlL R ρ top (upFL R l x) vs
 | [],x,tvs,vs,h,hr,hc=>by
   cases tvs with
   |nil=>rw[hr.inv_nil];rfl
   |cons c cs=>cases h
 | [k],x,tvs,vs,h,hr,hc=>by
   match tvs,hc,h,hr with
   | [t],hc,h,hr=>
     obtain⟨v,ws,rfl,h1,h2⟩:=hr.inv_cons
     rw[h2.inv_nil]
     have hc':(chkF1 k t&& true)=true:=hc
     rw[Bool.and_true] at hc'
     exact .cons' (Ov hR hc' h h1) rfl
   |t::u::l,hc,h,hr=>cases h
 |k::q::l,x,tvs,vs,h,hr,hc=>by
  match tvs,hc,h,hr with
  |t::ts,hc,h,hr=>
   obtain⟨v,ws,rfl,h1,h2⟩:=hr.inv_cons
   have hc':(chkF1 k t&& chkF (q::l) ts)=true:=hc
   rw[RS] at hc'
   obtain⟨y,z,e1,e2,rfl⟩:=Ot h
   exact .cons' (Ov hR hc'.1 e1 h1) (Ow e2 h2 hc'.2)
theorem Zf (hi:ak ρ aj st fr σ) (hsn:aj<=σ.next) {ids:List Nat} (hnd:ndB ids=true) (fJ:Bool) {obs ob2:List (Nat×ObSk)} {q:PayOs R.T obs}
 (hq:pkOs R (mobs st (numL ids F0)) obs=some q) (hks:eqKs (numL ids F0) obs=true) (hok:okOs ob2=true):
 ∀(q':PayOs R.T ob2) σ',(∀o x,look (upOs R ob2 q') o=some x->aR (ρ.call fJ σ.next ids hnd) σ' o x)->σ.next<=σ'.next->(∀l,l<σ.next->σ'.loops l=σ.loops l)->(∀s,s<σ.next->σ'.top s=σ.top s)->
  (∀L:Loc,L.1<=ρ.om.dp+1->(ρ.om.call fJ σ.next ids hnd).out L->σ'.obj L=σ.obj L)->
  ak ρ (aj+1) (⟨st.fr,bobs (numL ids F0) (upOs R ob2 q')++delL ids st.ob⟩:MS R.T) fr σ'/\∀p,ay false p st ρ σ (⟨st.fr,bobs (numL ids F0) (upOs R ob2 q')++delL ids st.ob⟩:MS R.T) ρ σ':=by
 intro q' σ' qx hnx hlp htp hout
 have hρ:∀{p o},F0<=p->ids[p-F0]? =some o->(ρ.call fJ σ.next ids hnd).om.lc p=ρ.om.lc o/\(ρ.call fJ σ.next ids hnd).ob p=ρ.ob o/\(ρ.call fJ σ.next ids hnd).ln p=ρ.ln o:=fun {p o} h1 h2=>au.BU h1 h2
 have hst:∀s,s<aj->σ'.top s=σ.top s:=fun s hs=>htp s (aeD hs hsn)
 have hno:∀o',o'∉ids->σ'.obj (ρ.om.lc o')=σ.obj (ρ.om.lc o'):=fun o' ho'=>
  hout _ (Nat.le_succ_of_le (ρ.om.jh o')) (Cx.BS (hnd:=hnd) (ρ.om.jh o') fun o'' h2 e=>ho' (by rw[ρ.om.xC e];exact h2))
 refine⟨{
  d:=hi.d
  om:=hi.om
  fr:=fun i w hw=>(hi.fr i w hw).top fun u s hu=>hst s (hi.lt u s hu)
  ob:=fun o' w hw=>by
   have hw':look (bobs (numL ids F0) (upOs R ob2 q')++delL ids st.ob) o'=some w:=hw
   rw[kC] at hw'
   split at hw'
   ·rename_i z hz
    cases hw'
    obtain⟨p',h1,h2,h3⟩:=xY hz
    obtain⟨kk,zz,h4,rfl⟩:=Hu hok h3
    obtain⟨e1,e2,e3⟩:=hρ h1 h2
    exact Hw h4 e2.symm e3.symm e1.symm (qx _ _ h3)
   ·obtain⟨h1,h2⟩:=Hz (is:=ids) hw'
    exact yg (hno o' h1) (fun u s hu=>hst s (hi.lt u s hu)) (hi.ob _ _ h2)
  inj:=hi.inj
  lt:=fun t s ht=>Nat.lt_succ_of_lt (hi.lt t s ht)
  ge:=hi.ge
  nx:=Nat.le_succ_of_le hi.nx},?_⟩
 intro p'
 refine⟨rfl,rfl,rfl,hnx,⟨hlp,fun s hs=>hst s (aeD hs hi.nx)⟩,fun L hL ho=>?_,fun hro=>?_⟩
 ·have hL':L.1<=ρ.om.dp:=by rcases hL with e|e;cases e;exact e
  exact hout L (Nat.le_succ_of_le hL') (Cx.BS (hnd:=hnd) hL' fun o' _=>ho o')
 ·have hn:p'∉ids:=by
   intro hmem
   obtain⟨i,hi'⟩:=List.getElem?_of_mem hmem
   have hlt:i<ids.length:=by
    rcases Nat.lt_or_ge i ids.length with h|h
    ·exact h
    ·rw[List.getElem?_eq_none h] at hi';cases hi'
   obtain⟨w,hw⟩:=xZ (q:=q) hks (F0+i) (aeG _ _) (by omega)
   obtain⟨kk,yy,z,h1,h2,_,_⟩:=BR obs q hq _ _ hw
   obtain⟨o',h5,h6,h7⟩:=BQ h1
   rw[afs,hi'] at h6
   cases h6
   exact Bq h2 (hro _ h7)
  refine⟨fun w hw=>?_,fun s=>?_⟩
  ·have hw':look (bobs (numL ids F0) (upOs R ob2 q')++delL ids st.ob) p'=some w:=hw
   rw[kC] at hw'
   split at hw'
   ·rename_i z hz
    obtain⟨p'',h1,h2,h3⟩:=xY hz
    exact absurd (afH h2) hn
   ·exact hro _ (Hz (is:=ids) hw').2
  ·unfold Sig.cellsAt Sig.bg
   rw[hno p' hn]
   exact⟨rfl,rfl⟩
omit hR in
theorem ak.yh (h:ak ρ b st fr σ) {L:Loc} (hL:ρ.om.dp<L.1):ak ρ b st fr (σ.aX L):=h.shift (fun p=>by
 have:=ρ.om.jh p
 show upd σ.obj L none (ρ.om.lc p)=_
 exact upd_ne _ _ (fun e=>by rw[e] at this;omega)) fun _ _=>rfl
omit hR in
theorem ay.yh {o:Nat} {L:Loc} (hL:ρ.om.dp<L.1):ay false o st ρ σ st ρ (σ.aX L):=by
 have hne:∀M:Loc,M.1<=ρ.om.dp->(σ.aX L).obj M=σ.obj M:=fun M hM=>by
  show upd σ.obj L none M=_
  exact upd_ne _ _ (fun e=>by rw[e] at hM;omega)
 refine⟨rfl,rfl,rfl,iP _,⟨fun _ _=>rfl,fun _ _=>rfl⟩,fun M hM _=>hne M (by rcases hM with e|e;cases e;exact e),fun hr=>⟨hr,fun s=>?_⟩⟩
 unfold Sig.cellsAt Sig.bg
 rw[hne _ (ρ.om.jh o)]
 exact⟨rfl,rfl⟩
omit hR in
theorem ay.Zg {nr:Bool} {o:Nat} {st st':MS R.T} {ρ ρ':au} {σ σ':Sig} (h:ay true o st ρ σ st' ρ' σ'):ay nr o st ρ σ st' ρ' σ':=⟨h.ob,h.ln,h.om,h.nx,h.lp,fun L _=>h.dp L (.inl rfl),h.ro⟩
theorem Zh {β:Type} {mid:MS R.T} {d:Nat} (hd':E.cn d<F0) (hd:o.dst=some d) {nk:NK} {y:PayN R.T nk} {k:MS R.T->Option β} {x:β} (h:newM R d (E.cn d) nk y mid k=some x) {ρc:au} (hc:ρc.om.dp=ρ.om.dp+1) {v:V} {σ1:Sig}
 (hi:ak ρ b mid fr σ1) (hv:Og ρc σ1 nk y v):∃ρ1 st1,ak ρ1 b st1 (fr.put o.dst (bD (fT E fr.d o.dst) σ1 v).1) (bD (fT E fr.d o.dst) σ1 v).2/\(∀p,ND E o p->ay false p mid ρ σ1 st1 ρ1 (bD (fT E fr.d o.dst) σ1 v).2)/\k st1=some x:=by
 have hL:fT E fr.d o.dst=some (ρ.om.lc (E.cn d)):=by
  unfold fT;rw[hd,Cx.xB _ hd',hi.d];rfl
 rw[hL]
 have hlt:(ρ.om.lc (E.cn d)).1=ρ.om.dp:=by rw[Cx.xB _ hd']
 have Ox:∀{L:Loc} {s:Nat} {ob:AObj} {v v':V},ρc.om.dp<=L.1->σ1.obj L=some (s,ob)->jE (ρ.om.lc (E.cn d)) L s σ1 v v'=(v',(σ1.aX L).setObj (ρ.om.lc (E.cn d)) s ob):=fun {L s ob v v'} h1 h2=>by
  unfold jE;rw[if_pos (by rw[hlt];omega),h2];dsimp only;rw[if_pos rfl]
 cases nk with
 |no=>exact hv.elim
 |arr t=>
  have hk:k ((mid.new (E.cn d) (.arr t y)).put d (.vw (E.cn d) t))=some x:=h
  rcases hv with ⟨L,s,cs,h1,rfl,h2,h3⟩| ⟨h1,h2⟩
  ·have e:bD (some (ρ.om.lc (E.cn d))) σ1 (.vw L s 0 (List.length y) (List.length y) (szD R t) (isSt t))=(.vw (ρ.om.lc (E.cn d)) s 0 (List.length y) (List.length y) (szD R t) (isSt t),(σ1.aX L).setObj (ρ.om.lc (E.cn d)) s (.cells cs)):=Ox h1 h2
   rw[e]
   have yj:ρ.om.dp<L.1:=by omega
   have kD:=(hi.yh yj).qj (E.cn d) s (List.length y) (x:=.arr t y) (a:=.cells cs) ⟨(jM (ρ:=ρ.dI (E.cn d) s)).symm,.inr ⟨s,cs,fH (ρ:=ρ),cells_eq _ _ _ _,jL y cs h3⟩⟩
   refine⟨ρ.ku (E.cn d) s (List.length y),_,?_,fun p hp=>?_,hk⟩
   ·rw[hd]
    refine kD.put d (.of ?_)
    unfold Rl
    exact .inl ⟨s,fH (ρ:=ρ),by rw[show (ρ.ku (E.cn d) s (List.length y)).ln (E.cn d)=List.length y from jM (ρ:=ρ.dI (E.cn d) s)];rfl⟩
   ·have iq:p≠E.cn d:=fun e=>hp.2 _ hd e.symm
    exact(ay.yh yj).trans (ay.congr (ay.qj iq).Zg rfl)
  ·have hy:y=([]:List (Den R.T t)):=h1
   have e:bD (some (ρ.om.lc (E.cn d))) σ1 v=(v,σ1):=by rcases h2 with rfl|rfl<;>rfl
   rw[e]
   have kD:=hi.ghost (E.cn d) t
   refine⟨ρ.gh (E.cn d),_,?_,fun p hp=>?_,by rw[hy] at hk;exact hk⟩
   ·rw[hd]
    refine kD.put d (.of ?_)
    unfold Rl
    exact .inr ⟨jM (ρ:=ρ) (n:=0),h2⟩
   ·have iq:p≠E.cn d:=fun e=>hp.2 _ hd e.symm
    exact⟨(fG p iq).1,(fG p iq).2,rfl,iP _,⟨fun _ _=>rfl,fun _ _=>rfl⟩,fun _ _ _=>rfl,fun hr=>⟨((ay.new (nr:=true) (ρ:=ρ) (σ:=σ1) (s:=0) (a:=.cells []) iq).ro hr).1,fun _=>⟨rfl,rfl⟩⟩⟩
 |fnc g a b' cs=>
  obtain⟨y1,y2,y3⟩:=y
  obtain⟨L,s,c,h1,rfl,h2,h5,h6⟩:=hv
  have h':(bif mentL (E.cn d) (upL R .any cs y3) then none else k ((mid.new (E.cn d) (.cells (upL R .any cs y3))).put d (.fn g (upL R .sh a y1) (.ref (E.cn d) 0::upL R .sh b' y2))))=some x:=h
  cases hm:mentL (E.cn d) (upL R .any cs y3)
  ·rw[hm,cond_false] at h'
   simp only[RS] at h6
   have e:bD (some (ρ.om.lc (E.cn d))) σ1 (.fn (.func g) (encSL R a y1) (.ref L s 0::encSL R b' y2))=(.fn (.func g) (encSL R a y1) (.ref (ρ.om.lc (E.cn d)) s 0::encSL R b' y2),(σ1.aX L).setObj (ρ.om.lc (E.cn d)) s (.cells c)):=Ox h1 h2
   rw[e]
   have yj:ρ.om.dp<L.1:=by omega
   have hid:=hi.yh yj
   have kD:ak (ρ.dI (E.cn d) s) b (mid.new (E.cn d) (.cells (upL R .any cs y3))) fr ((σ1.aX L).setObj (ρ.om.lc (E.cn d)) s (.cells c)):=
    hid.new (E.cn d) s ⟨s,c,fH,cells_eq _ _ _ _,ug h6.2.2 h5⟩
   refine⟨ρ.dI (E.cn d) s,_,?_,fun p hp=>?_,h'⟩
   ·rw[hd]
    refine kD.put d (.of ?_)
    unfold Rl
    exact⟨encSL R a y1,_,rfl,kG hR a y1 h6.1,.cons' (by unfold Rl;exact⟨s,fH,rfl⟩) (kG hR b' y2 h6.2.1)⟩
   ·have iq:p≠E.cn d:=fun e=>hp.2 _ hd e.symm
    exact(ay.yh yj).trans (ay.congr (ay.new iq) rfl)
  ·rw[hm,cond_true] at h';cases h'
theorem HY {β:Type} {M:Nat->List (FM R)} (hM:BP E M) (aZ:∀d,o.dst=some d->d<F0) (hi:ak ρ aj st fr σ) (hsn:aj<=σ.next) {k:MS R.T->Option β} {x:β} (h:impM E R M o st k=some x):
 ∃c f g a vb,o.op= .call c/\c.callee= .value f/\fr.ev E f= .fn (.func g) a vb/\E.imp g=true/\Imp E g (a++c.args.toList.map (fr.ev E)++vb) (fr.d+1) σ fun v σ1=>∃ρ1 st1,ak ρ1 (aj+1) st1 (fr.put o.dst (bD (fT E fr.d o.dst) σ1 v).1) (bD (fT E fr.d o.dst) σ1 v).2/\σ.next<=(bD (fT E fr.d o.dst) σ1 v).2.next/\(∀p,ND E o p->ay false p st ρ σ st1 ρ1 (bD (fT E fr.d o.dst) σ1 v).2)/\k st1=some x:=by
 unfold impM at h
 split at h
 ·rename_i c hop
  split at h
  ·rename_i f aQ
   split at h
   ·rename_i g a' b' vs hf hvs
    obtain⟨hnd,h⟩:=aM h
    generalize aeI:idsL (a'++vs++b') []=ids at*
    obtain⟨va,vb,pX,hva,hvb⟩:=(aF (E:=E) hi .nil hf).eB
    have hA:=(hva.append (kY (E:=E) hi .nil hvs)).append hvb
    have hdp:∀om lo,(ρ.call om lo ids hnd).om.dp=ρ.om.dp+1:=fun _ _=>rfl
    split at h
    ·rename_i d r x' hd hfn
     cases hcn:Nat.ble F0 (E.cn d)
     ·rw[hcn,cond_false] at h
      have hd':E.cn d<F0:=by
       rcases Nat.lt_or_ge (E.cn d) F0 with h|h
       ·exact h
       ·rw[Nat.ble_eq_true_of_le h] at hcn;cases hcn
      obtain⟨⟨y,q'⟩,hy,hk⟩:=iR.1 h
      obtain⟨hr,p,q,hp,hq,hks,hok,hok2,hch,rfl⟩:=Hy hfn
      obtain⟨himp,_,hF⟩:=hM g r hr
      obtain⟨m1,m2,m3,m4⟩:=Oq hR hi hsn hnd (E.om g) hA hp hq hks hok
      have Zi:=Ow hR hp (RlL.ren (ρ:=ρ) (ρ':=ρ.call (E.om g) σ.next ids hnd) (fun o p hp=>by
       obtain⟨h1,h2⟩:=Ht hp
       exact au.BU h1 h2) _ _ hA) hch
      obtain⟨n,v,σ',hcall,hnew,qx,hnx,hlp,htp,hout⟩:=hF p q y q' hy (ρ.call (E.om g) σ.next ids hnd) (va++c.args.toList.map (fr.ev E)++vb) σ rfl (fun _=>rfl) (iP _) Zi m2
      obtain⟨kD,hkp⟩:=Zf hR hi hsn hnd (E.om g) hq hks hok2 q' σ' qx hnx hlp htp hout
      obtain⟨ρ1,st1,i1,i2,i3⟩:=Zh hR hd' hd hk (hdp _ _) kD hnew
      refine⟨c,f,g,va,vb,hop,aQ,pX,himp,n,v,σ',by rw[hi.d];exact hcall,ρ1,st1,i1,?_,fun p hp=>(hkp p).trans (i2 p hp),i3⟩
      rw[pW];exact hnx
     ·rw[hcn,cond_true] at h;cases h
    ·split at h
     ·rename_i r x' hfm
      obtain⟨⟨y,q'⟩,hy,hk⟩:=iR.1 h
      obtain⟨hr,p,q,hp,hq,hks,hsc,hok,rfl⟩:=Oo hfm
      obtain⟨himp,hF,_⟩:=hM g r hr
      obtain⟨m1,m2,m3,m4⟩:=Oq hR hi hsn hnd (E.om g) hA hp hq hks hok
      obtain⟨n,v,σ',hcall,⟨wz,hv,hwz⟩,qx,hnx,hlp,htp,hout⟩:=hF p q y q' hy (ρ.call (E.om g) σ.next ids hnd) (va++c.args.toList.map (fr.ev E)++vb) σ rfl (fun _=>rfl) (iP _) m1 m2
      obtain⟨kD,hkp⟩:=m3 q' σ' qx hnx hlp htp hout
      have iG:bD (fT E fr.d o.dst) σ' v=(v,σ'):=by
       rw[hv]
       refine Ze (fun l p s hl hs=>?_) hsc hwz
       have hs':(if F0<=p then (ids[p-F0]?).bind ρ.ob else none)=some s:=hs
       split at hs'
       ·rename_i h1
        obtain⟨i,h2,_⟩:=iR.1 hs'
        rw[(au.BU (ρ:=ρ) (om:=E.om g) (lo:=σ.next) (hnd:=hnd) h1 h2).1]
        unfold fT at hl
        obtain⟨t,_,rfl⟩:=aat.1 hl
        show _<=fr.d
        rw[hi.d];exact ρ.om.jh i
       ·cases hs'
      refine⟨c,f,g,va,vb,hop,aQ,pX,himp,n,v,σ',by rw[hi.d];exact hcall,ρ,_,?_,?_,?_,hk⟩
      ·rw[iG,hv]
       exact kD.putO o.dst (Zb (m4 _ _ _ hwz))
      ·rw[iG];exact hnx
      ·intro p _
       rw[iG]
       exact ay.congr (hkp p) eZ
     ·cases h
   ·cases h
  ·cases h
 ·cases h
end
end Aq
