import Derived.Test.YthadiihdjhakdaaGreatF2910
set_option linter.all false
namespace aY
open Go
section
variable {R:gY}{E:Env}{ρ ρ':aT}{b aH:Nat}{st:aD R.T}{fr:Fr}{σ:au}{o:Oper}(hR:rE R)
include hR
def sI (E:Env)(g:Nat)(args:List aM)(obs:List (Nat×d9))(res:List aM)(F:aW R.T args->cZ R.T obs->Option (aW R.T res×cZ R.T obs)):Prop:=∀p q y q',F p q=some (y,q')->∀(ρ:aT)(vs:List V)(σ:au),ρ.aj.aj=E.aj g->(∀t,ρ.tk t=none)->ρ.aj.lo<=σ.next->
 aF R ρ σ.top (eY R .any args p) vs->(∀o x,look (gF R obs q) o=some x->eT ρ σ o x)->
 oI E g vs ρ.aj.dp σ fun v σ'=>(∃ws,v=nZ ws/\aF R ρ σ'.top (eY R .any res y) ws)/\(∀o x,look (gF R obs q') o=some x->eT ρ σ' o x)/\σ.next<=σ'.next/\(∀l,l<σ.next->σ'.loops l=σ.loops l)/\(∀s,s<ρ.aj.lo->σ'.top s=σ.top s)/\
  ∀L:Loc,L.1<=ρ.aj.dp->ρ.aj.out L->σ'.obj L=σ.obj L
def DK (ρ:aT)(σ':au):(k:r9)->sj R.T k->V->Prop
 |.no,_,_=>False|.arr t,l,v=>(∃L s cs,ρ.aj.dp<=L.1/\v= .aJ L s 0 l.length l.length (cK R t) (iA t)/\σ'.obj L=some (s,.cells cs)/\aF R ρ σ'.top (l.flatMap fun x=>(jk R .any t x).cells) cs)\/(l=[]/\(v= .ay .nil []\/v= .ay .full []))
 |.Ip g a b cs,(x,y,z),v=>∃L s c,ρ.aj.dp<=L.1/\v= .fn (.func g) (bX R a x) (.ref L s 0::bX R b y)/\σ'.obj L=some (s,.cells c)/\aF R ρ σ'.top (eY R .any cs z) c/\(gu a&& (gu b&& yu cs))=true
def Uk (E:Env)(g:Nat)(args:List aM)(obs:List (Nat×d9))(jy:r9)(gQ:List (Nat×d9))(G:aW R.T args->cZ R.T obs->Option (sj R.T jy×cZ R.T gQ)):Prop:=∀p q y q',G p q=some (y,q')->∀(ρ:aT)(vs:List V)(σ:au),ρ.aj.aj=E.aj g->(∀t,ρ.tk t=none)->ρ.aj.lo<=σ.next->
 aF R ρ σ.top (vw R args p) vs->(∀o x,look (gF R obs q) o=some x->eT ρ σ o x)->
 oI E g vs ρ.aj.dp σ fun v σ'=>DK ρ σ' jy y v/\(∀o x,look (gF R gQ q') o=some x->eT ρ σ' o x)/\σ.next<=σ'.next/\(∀l,l<σ.next->σ'.loops l=σ.loops l)/\(∀s,s<ρ.aj.lo->σ'.top s=σ.top s)/\
  ∀L:Loc,L.1<=ρ.aj.dp->ρ.aj.out L->σ'.obj L=σ.obj L
def nK (E:Env)(g:Nat)(r:mg R):Prop:=sI E g r.args r.obs r.res r.F/\Uk E g r.args r.obs r.jy r.gQ r.G
omit hR in
theorem nK.M {g:Nat}{args:List aM}{obs:List (Nat×d9)}{res:List aM}{F:aW R.T args->cZ R.T obs->Option (aW R.T res×cZ R.T obs)}(h:sI E g args obs res F):nK E g (jA args obs res F):=⟨h,fun p q y q' h=>nomatch (show (none:Option _)=some _ from h)⟩
omit hR in
theorem nK.N {g:Nat}{args:List aM}{obs:List (Nat×d9)}{jy:r9}{gQ:List (Nat×d9)}{G:aW R.T args->cZ R.T obs->Option (sj R.T jy×cZ R.T gQ)}(h:Uk E g args obs jy gQ G):nK E g (ML args obs jy gQ G):=⟨fun p q y q' h=>(nomatch (show (none:Option _)=some _ from h)),h⟩
def Nq (E:Env)(M:Nat->List (mg R)):Prop:=∀g,∀r∈M g,E.imp g=true/\nK E g r
omit hR in
theorem ahf {i:Nat}:∀{l:List Nat},bf i l=true->i∈l
 | [],h=>bC|j::l,h=>by
  have h':(Nat.beq i j||bf i l)=true:=h;rw[qP] at h';rcases h' with h'|h'
  ·rw[gG h'];exact fE ..
  ·exact iK _ (ahf h')
omit hR in
theorem Z0 {i:Nat}:∀{l:List Nat},i∈l->bf i l=true
 | [],h=>bC|j::l,h=>by
  show (Nat.beq i j||bf i l)=true;rw[qP];rcases iC.1 h with h|h
  ·left;rw[h];exact xA _
  ·right;exact Z0 h
omit hR in
theorem Z4:∀{l:List Nat}{n o p:Nat},look (iQ l n) o=some p->n<=p/\l[p-n]? =some o
 | [],_,_,_,h=>bC|a::l,n,o,p,h=>by
  have h':look ((a,n)::iQ l (n+1)) o=some p:=h;by_cases e:o=a
  ·subst e;rw[lD] at h';cases h';exact⟨RS _,aC⟩
  ·rw[je _ _ e] at h'
   obtain⟨h1,h2⟩:=Z4 h';refine⟨ah,?_⟩;have:p-n=(p-(n+1))+1:=ah
   rw[this];simpa using h2
omit hR in
theorem ahg:∀{l:List Nat}{n o p:Nat},look (MZ (iQ l n)) p=some o->n<=p/\l[p-n]? =some o
 | [],_,_,_,h=>bC|a::l,n,o,p,h=>by
  have h':look ((n,a)::MZ (iQ l (n+1))) p=some o:=h;by_cases e:p=n
  ·subst e;rw[lD] at h';cases h';exact⟨RS _,aC⟩
  ·rw[je _ _ e] at h'
   obtain⟨h1,h2⟩:=ahg h';refine⟨ah,?_⟩;have:p-n=(p-(n+1))+1:=ah
   rw[this];simpa using h2
omit hR in
theorem ahh:∀{l:List Nat},zl l=true->∀{i j o:Nat},l[i]? =some o->l[j]? =some o->i=j
 | [],_,i,j,o,hi,_=>by simp at hi|a::l,h,i,j,o,hi,hj=>by
  have h':(!(bf a l)&& zl l)=true:=h;rw[iP,rU] at h';cases i with
  |zero=>
   cases j with
   |zero=>rfl|succ j=>have e:a=o:=jI;have e2:l[j]? =some o:=vO;rw[e,Z0 (Bv e2)] at h';exact absurd h'.1 aC
  |succ i=>
   cases j with
   |zero=>have e:a=o:=vO;have e2:l[i]? =some o:=jI;rw[e,Z0 (Bv e2)] at h';exact absurd h'.1 aC|succ j=>rw[ahh h'.2 (show l[i]? =some o by simpa using hi) (show l[j]? =some o by simpa using hj)]
omit hR in
theorem Ul:∀{l:List Nat}{n p:Nat}{x:aG R.T},look (BS st (iQ l n)) p=some x->∃o,n<=p/\l[p-n]? =some o/\look st.ob o=some x
 | [],_,_,_,h=>bC|a::l,n,p,x,h=>by
  have up:look (BS st (iQ l (n+1))) p=some x->∃o,n<=p/\(a::l)[p-n]? =some o/\look st.ob o=some x:=fun h=>by
   obtain⟨o,h1,h2,h3⟩:=Ul h;refine⟨o,ah,?_,h3⟩;have:p-n=(p-(n+1))+1:=ah
   rw[this];simpa using h2
  have h':=h;unfold iQ BS at h';split at h'
  ·rename_i y hy
   by_cases e:p=n
   ·subst e;rw[lD] at h';cases h';exact⟨a,RS _,aC,hy⟩
   ·rw[je _ _ e] at h';exact up h'
  ·exact up h'
omit hR in
theorem Nr {L:List (Nat×aG R.T)}:∀{l:List Nat}{n o:Nat}{y:aG R.T},look (rD (iQ l n) L) o=some y->∃p,n<=p/\l[p-n]? =some o/\look L p=some y
 | [],_,_,_,h=>bC|a::l,n,o,y,h=>by
  have up:look (rD (iQ l (n+1)) L) o=some y->∃p,n<=p/\(a::l)[p-n]? =some o/\look L p=some y:=fun h=>by
   obtain⟨p,h1,h2,h3⟩:=Nr h;refine⟨p,ah,?_,h3⟩;have:p-n=(p-(n+1))+1:=ah
   rw[this];simpa using h2
  have h':=h;unfold iQ rD at h';split at h'
  ·rename_i z hz
   by_cases e:o=a
   ·subst e;rw[lD] at h';cases h';exact⟨n,RS _,aC,hz⟩
   ·rw[je _ _ e] at h';exact up h'
  ·exact up h'
omit hR in
theorem ahi {L:List (Nat×aG R.T)}:∀{l:List Nat}{n o:Nat},(∀p,n<=p->p<n+l.length->∃y,look L p=some y)->look (rD (iQ l n) L) o=none->o∉l
 | [],_,_,_,_=>aC|a::l,n,o,hL,h=>by
  obtain⟨y,hy⟩:=hL n (RS _) aC;have h':=h;unfold iQ rD at h';rw[hy] at h';by_cases e:o=a
  ·subst e;rw[lD] at h';cases h'
  ·rw[je _ _ e] at h'
   have:=ahi (fun p h1 h2=>hL p ah tH) h';simp[e,this]
omit hR in
theorem Ns:∀{l:List Nat}{n:Nat}{obs:List (Nat×d9)}{q:cZ R.T obs},zm (iQ l n) obs=true->∀p,n<=p->p<n+l.length->∃y,look (gF R obs q) p=some y
 | [],n,_,_,_,p,h1,h2=>Ry|a::l,n,[],_,h,_,_,_=>bC|a::l,n,[(j,k)],q,h,p,h1,h2=>by
  have h':(Nat.beq n j&& zm (iQ l (n+1)) [])=true:=h;rw[iP] at h';have hj:=gG h'.1;subst hj;by_cases e:p=n
  ·subst e;exact⟨_,lD _ _ _⟩
  ·obtain⟨y,hy⟩:=Ns (q:=show cZ R.T [] from ()) h'.2 p ah (by rw[List.length_cons] at h2;omega)
   cases hy
 |a::l,n,(j,k)::x::obs,q,h,p,h1,h2=>by
  have h':(Nat.beq n j&& zm (iQ l (n+1)) (x::obs))=true:=h;rw[iP] at h';have hj:=gG h'.1;subst hj;show∃y,look ((n,mY R k q.1)::gF R (x::obs) q.2) p=some y;by_cases e:p=n
  ·subst e;exact⟨_,lD _ _ _⟩
  ·rw[je _ _ e]
   exact Ns h'.2 p ah (by rw[List.length_cons] at h2;omega)
omit hR in
theorem Jr {L:List (Nat×aG R.T)}:∀(l:List (Nat×d9))(x:cZ R.T l),lQ R L l=some x->∀i v,look (gF R l x) i=some v->∃k y z,look L i=some y/\Du R k y=some z/\v=mY R k z/\(oJ l=true->okO k=true)
 | [],x,hx,i,v,hv=>EC| [(j,k)],x,hx,i,v,hv=>by
   unfold lQ at hx;split at hx
   ·rename_i y hy
    by_cases e:i=j
    ·subst e
     have hv':look [(i,mY R k x)] i=some v:=hv;rw[lD] at hv';cases hv';exact⟨k,y,x,hy,hx,rfl,fun h=>by unfold oJ at h;rw[iP] at h;exact h.1⟩
    ·have hv':look [(j,mY R k x)] i=some v:=hv
     rw[je _ _ e] at hv';cases hv'
   ·cases hx
 | (j,k)::q::l,x,hx,i,v,hv=>by
   unfold lQ at hx;split at hx
   ·rename_i y hy
    cases hu:Du R k y with
    |none=>simp only[hu] at hx;cases hx|some z=>
     cases hs:lQ R L (q::l) with
     |none=>simp only[hu,hs] at hx;cases hx|some p=>
      simp only[hu,hs] at hx;obtain rfl:=lX hx;have hv':look ((j,mY R k z)::gF R (q::l) p) i=some v:=hv;by_cases e:i=j
      ·subst e
       rw[lD] at hv';cases hv';exact⟨k,y,z,hy,hu,rfl,fun h=>by unfold oJ at h;rw[iP] at h;exact h.1⟩
      ·rw[je _ _ e] at hv'
       obtain⟨k',y',z',h1,h2,h3,h4⟩:=Jr (q::l) p hs i v hv';exact⟨k',y',z',h1,h2,h3,fun h=>h4 (by unfold oJ at h;rw[iP] at h;exact h.2)⟩
   ·cases hx
omit hR in
theorem Z5:∀{l:List (Nat×d9)}{x:cZ R.T l},oJ l=true->∀{i:Nat}{v:aG R.T},look (gF R l x) i=some v->∃k z,okO k=true/\v=mY R k z
 | [],x,_,i,v,hv=>EC| [(j,k)],x,h,i,v,hv=>by
   unfold oJ at h;rw[iP] at h;have hv':look [(j,mY R k x)] i=some v:=hv;by_cases e:i=j
   ·subst e;rw[lD] at hv';cases hv';exact⟨k,x,h.1,rfl⟩
   ·rw[je _ _ e] at hv';cases hv'
 | (j,k)::q::l,x,h,i,v,hv=>by
   unfold oJ at h;rw[iP] at h;have hv':look ((j,mY R k x.1)::gF R (q::l) x.2) i=some v:=hv;by_cases e:i=j
   ·subst e;rw[lD] at hv';cases hv';exact⟨k,x.1,h.1,rfl⟩
   ·rw[je _ _ e] at hv';exact Z5 h.2 hv'
omit hR in
theorem aru {top top':Nat->Nat}{t:Ty}{x:Den R.T t}{v:V}(h:av R ρ top (jk R .any t x) v):av R ρ' top' (jk R .any t x) v:=by
 cases t with
 |st n=>obtain⟨l,hv,hl⟩:=av.lT (R:=R) h;exact⟨l,hv,DF _ _ _ hl⟩
 |int k=>exact h|bool=>exact h|str=>exact h|slice t=>exact h
omit hR in
mutual
theorem ahj {top top':Nat->Nat}:∀(k:aM)(z:ru R.T k)(v:V),Tw k=true->av R ρ top (up R .any k z) v->av R ρ' top' (up R .any k z) v
 |.d t,z,v,_,h=>by unfold up at h⊢;exact aru h|.aI l off,z,v,hd,h=>by unfold up at h⊢;obtain⟨cs,rfl,h1⟩:=h.uj;unfold av;exact⟨cs,rfl,FM (by unfold Tw at hd;exact hd) h1⟩
 |.fn f a b,z,v,hd,h=>by unfold up at h⊢;obtain⟨x,y,rfl,h1,h2⟩:=h.lg;unfold Tw at hd;rw[iP] at hd;unfold av;exact⟨x,y,rfl,FM hd.1 h1,FM hd.2 h2⟩
 |.l _ _,_,_,hd,_=>vR|.agg _,_,_,hd,_=>vR|.ref _ _,_,_,hd,_=>vR|.dJ _,_,_,hd,_=>vR|.eU _ _,_,_,hd,_=>vR|.gT,_,_,hd,_=>vR|.aJ _ _,_,_,hd,_=>vR|.sub _ _,_,_,hd,_=>vR|.sg _,_,_,hd,_=>vR|.undef,_,_,hd,_=>vR|.kl _,_,_,hd,_=>vR|.dF,_,_,hd,_=>vR|.cB,_,_,hd,_=>vR
theorem FM {top top':Nat->Nat}:∀{l:List aM}{z:aW R.T l}{cs:List V},yu l=true->aF R ρ top (eY R .any l z) cs->aF R ρ' top' (eY R .any l z) cs
 | [],_,_,_,h=>h| [k],z,cs,hd,h=>by unfold yu at hd;rw[iP] at hd;obtain⟨v,ws,rfl,h1,h2⟩:=aF.dW (ts:=[]) (show aF R ρ top [up R .any k z] cs from h);rw[h2.iJ];exact .cons' (ahj k z v hd.1 h1) rfl
 |k::q::l,z,cs,hd,h=>by unfold yu at hd;rw[iP] at hd;obtain⟨v,ws,rfl,h1,h2⟩:=aF.dW (show aF R ρ top (up R .any k z.1::eY R .any (q::l) z.2) cs from h);exact .cons' (ahj k z.1 v hd.1 h1) (FM (l:=q::l) hd.2 h2)
end
omit hR in
theorem Nt {o p:Nat}{k:d9}{z:Dn R.T k}(hk:okO k=true)(hb:ρ'.ob p=ρ.ob o)(hn:ρ'.ln p=ρ.ln o)(hl:ρ'.aj.lc p=ρ.aj.lc o)(h:eT ρ σ o (mY R k z)):eT ρ' σ p (mY R k z):=by
 cases k with
 |cells l=>obtain⟨s,cs,h1,h2,h3⟩:=h;exact⟨s,cs,Li,Lj,FM hk h3⟩
 |st n=>obtain⟨s,cs,h1,h2,h3⟩:=h;exact⟨s,cs,Li,Lj,DF _ _ _ h3⟩
 |map k e=>obtain⟨s,h1,h2⟩:=h;exact⟨s,Li,Lj⟩
 |arr t=>
  refine⟨h.1.trans hn.symm,?_⟩;rcases h.2 with h| ⟨s,cs,h1,h2,h3⟩
  ·exact .inl ⟨h.1,by rw[hb];exact h.2⟩
  ·exact .inr ⟨s,cs,Li,Lj,yw _ cs h3⟩
 |sg l=>obtain⟨s,h1,h2⟩:=h;exact⟨s,Li,Lj⟩
omit hR in
mutual
theorem av.ren {top:Nat->Nat}{m:List (Nat×Nat)}(hm:∀o p,look m o=some p->ρ'.aj.lc p=ρ.aj.lc o/\ρ'.ob p=ρ.ob o/\ρ'.ln p=ρ.ln o):∀(x:ak R.T)(v:V),av R ρ top x v->av R ρ' top (AL m x) v
 |.ref o off,v,h=>by
  obtain⟨s,h1,h2⟩:=h;unfold AL;split
  ·rename_i p hp;obtain⟨a,b,c⟩:=hm _ _ hp;exact⟨s,Ew,Ll⟩
  ·unfold av;trivial
 |.dJ o,v,h=>by
  obtain⟨s,h1,h2⟩:=h;unfold AL;split
  ·rename_i p hp;obtain⟨a,b,c⟩:=hm _ _ hp;exact⟨s,Ew,Ll⟩
  ·unfold av;trivial
 |.aJ o t,v,h=>by
  unfold AL;split
  ·rename_i p hp
   obtain⟨a,b,c⟩:=hm _ _ hp;rcases h with ⟨s,h1,h2⟩| ⟨h1,h2⟩
   ·exact .inl ⟨s,Ew,by rw[a,c];exact h2⟩
   ·exact .inr ⟨by rw[c];exact h1,h2⟩
  ·unfold av;trivial
 |.sub o t x y,v,h=>by
  unfold AL;split
  ·rename_i p hp
   obtain⟨a,b,c⟩:=hm _ _ hp;obtain⟨g0,g1,g2,h⟩:=h;refine⟨g0,g1,by rw[c];exact g2,?_⟩;rcases h with ⟨s,cp,h1,h2,h3⟩|h
   ·exact .inl ⟨s,cp,Ew,h2,by rw[a];exact h3⟩
   ·exact .inr h
  ·unfold av;trivial
 |.l9 o t i off,v,h=>by
  obtain⟨s,h1,h2⟩:=h;unfold AL;split
  ·rename_i p hp;obtain⟨a,b,c⟩:=hm _ _ hp;exact⟨s,Ew,Ll⟩
  ·unfold av;trivial
 |.sv o _ _ _ _ _,v,h=>by
  obtain⟨s,h1,h2⟩:=h;unfold AL;split
  ·rename_i p hp;obtain⟨a,b,c⟩:=hm _ _ hp;exact⟨s,Ew,Ll⟩
  ·unfold av;trivial
 |.sel o _ _ _ _ _,v,h=>by
  obtain⟨s,h1,h2⟩:=h;unfold AL;split
  ·rename_i p hp;obtain⟨a,b,c⟩:=hm _ _ hp;exact⟨s,Ew,Ll⟩
  ·unfold av;trivial
 |.ay c t l,v,h=>by
  obtain⟨c',hv,hc⟩:=h;unfold AL;cases c with
  |own u=>exact⟨c',hv,trivial⟩|any=>exact⟨c',hv,trivial⟩|sh=>exact⟨c',hv,hc⟩|nil=>exact⟨c',hv,hc⟩|full=>exact⟨c',hv,hc⟩
 |.agg cs,v,h=>by obtain⟨l,hv,hl⟩:=h;exact⟨l,hv,aF.ren hm cs l hl⟩
 |.bq cs,v,h=>by obtain⟨l,hv,hl⟩:=h;exact⟨l,hv,aF.ren hm cs l hl⟩
 |.aI cs off,v,h=>by obtain⟨l,hv,hl⟩:=h;exact⟨l,hv,aF.ren hm cs l hl⟩
 |.kl cs,v,h=>by obtain⟨c,l,hv,hl⟩:=h;exact⟨c,l,hv,aF.ren hm cs l hl⟩
 |.fn f a b,v,h=>by obtain⟨a',b',hv,ha,hb⟩:=h;exact⟨a',b',hv,aF.ren hm a a' ha,aF.ren hm b b' hb⟩
 |.opt _ _ _,_,h=>h.elim|.int _ _,_,h=>h|.bool _,_,h=>h|.ji _,_,h=>h|.str _,_,h=>h|.cB,_,h=>h|.dF,_,h=>h|.gL,_,h=>h|.iD,_,h=>h|.gT,_,h=>h|.eU _ _ _,_,h=>h|.undef,_,h=>h|.sg _,_,h=>h|.zh _ _ _ _,_,h=>h|.gone,_,h=>h
theorem aF.ren {top:Nat->Nat}{m:List (Nat×Nat)}(hm:∀o p,look m o=some p->ρ'.aj.lc p=ρ.aj.lc o/\ρ'.ob p=ρ.ob o/\ρ'.ln p=ρ.ln o):∀(x:List (ak R.T))(v:List V),aF R ρ top x v->aF R ρ' top (wG m x) v
 | [],_,h=>h|x::xs,_,⟨v,vs,e,h1,h2⟩=>⟨v,vs,e,av.ren hm x v h1,aF.ren hm xs vs h2⟩
end
omit hR in
mutual
theorem av.top {ρ:aT}{t t':Nat->Nat}(ht:∀u s,ρ.tk u=some s->t' s=t s):∀(x:ak R.T)(v:V),av R ρ t x v->av R ρ t' x v
 |.ay c ty l,v,h=>by
  obtain⟨c',hv,hc⟩:=h;refine⟨c',hv,?_⟩;cases c<;>first|exact hc|skip
  rcases hc with hc|hc| ⟨s,h1,h2,h3⟩
  ·exact .inl hc
  ·exact .inr (.inl hc)
  ·exact .inr (.inr ⟨s,h1,h2,(ht _ _ h2).trans h3⟩)
 |.agg cs,v,h=>by obtain⟨l,hv,hl⟩:=h;exact⟨l,hv,aF.top ht cs l hl⟩
 |.bq cs,v,h=>by obtain⟨l,hv,hl⟩:=h;exact⟨l,hv,aF.top ht cs l hl⟩
 |.aI cs off,v,h=>by obtain⟨l,hv,hl⟩:=h;exact⟨l,hv,aF.top ht cs l hl⟩
 |.kl cs,v,h=>by obtain⟨c,l,hv,hl⟩:=h;exact⟨c,l,hv,aF.top ht cs l hl⟩
 |.fn f a b,v,h=>by obtain⟨a',b',hv,ha,hb⟩:=h;exact⟨a',b',hv,aF.top ht a a' ha,aF.top ht b b' hb⟩
 |.ref _ _,_,h=>h|.dJ _,_,h=>h|.aJ _ _,_,h=>h|.sub _ _ _ _,_,h=>h|.l9 _ _ _ _,_,h=>h|.opt _ _ _,_,h=>h.elim|.int _ _,_,h=>h|.bool _,_,h=>h|.ji _,_,h=>h|.str _,_,h=>h|.cB,_,h=>h|.dF,_,h=>h|.gL,_,h=>h|.iD,_,h=>h|.gT,_,h=>h|.eU _ _ _,_,h=>h|.undef,_,h=>h|.sg _,_,h=>h|.sv _ _ _ _ _ _,_,h=>h|.sel _ _ _ _ _ _,_,h=>h|.zh _ _ _ _,_,h=>h|.gone,_,h=>h
theorem aF.top {ρ:aT}{t t':Nat->Nat}(ht:∀u s,ρ.tk u=some s->t' s=t s):∀(x:List (ak R.T))(v:List V),aF R ρ t x v->aF R ρ t' x v
 | [],_,h=>h|x::xs,_,⟨v,vs,e,h1,h2⟩=>⟨v,vs,e,av.top ht x v h1,aF.top ht xs vs h2⟩
end
omit hR in
theorem j6.top {fr:Fr}{ρ:aT}{t t':Nat->Nat}(ht:∀u s,ρ.tk u=some s->t' s=t s){x:ak R.T}{v:V}(h:j6 fr ρ t x v):j6 fr ρ t' x v:=by
 cases x with
 |opt j w y=>exact⟨fun hc=>av.top ht y v (h.1 hc),h.2⟩
 |_=>exact .of (av.top ht _ v h)
omit hR in
theorem Nu {ρ:aT}{σ σ':au}{p:Nat}(hp:σ'.obj (ρ.aj.lc p)=σ.obj (ρ.aj.lc p))(ht:∀u s,ρ.tk u=some s->σ'.top s=σ.top s):∀{x:aG R.T},eT ρ σ p x->eT ρ σ' p x
 |.cells cs,h=>by obtain⟨s,l,h1,h2,h3⟩:=h;exact⟨s,l,h1,GL,aF.top ht _ _ h3⟩
 |.map k e m,h=>by obtain⟨s,h1,h2⟩:=h;exact⟨s,h1,Rf⟩
 |.smap ks vs,h=>by obtain⟨s,k,l,h1,h2,h3,h4⟩:=h;exact⟨s,k,l,h1,Rf,aF.top ht _ _ h3,aF.top ht _ _ h4⟩
 |.arr t l,h=>by
  refine⟨h.1,?_⟩;rcases h.2 with h| ⟨s,cs,h1,h2,h3⟩
  ·exact .inl h
  ·exact .inr ⟨s,cs,h1,GL,yw l cs h3⟩
 |.sg ss,h=>by obtain⟨s,h1,h2⟩:=h;exact⟨s,h1,GL⟩
 |.gone,_=>trivial|.ro b,h=>Nu hp ht (x:=b) h
omit hR in
theorem aL.shift {ρ:aT}{b:Nat}{st:aD R.T}{fr:Fr}{σ σ':au}(h:aL ρ b st fr σ)(hp:∀p,σ'.obj (ρ.aj.lc p)=σ.obj (ρ.aj.lc p))(ht:∀s,s<b->σ'.top s=σ.top s):aL ρ b st fr σ':={h with
 fr:=fun i v hv=>(h.fr i v hv).top fun u s hu=>ht s (h.lt u s hu)
 ob:=fun o x hx=>Nu (hp o) (fun u s hu=>ht s (h.lt u s hu)) (h.ob o x hx)}
omit hR in
theorem arv {top:Nat->Nat}{xs:List (ak R.T)}{vs:List V}(h:aF R ρ top xs vs):av R ρ top (afJ xs) (nZ vs):=by
 match xs,vs,h with
 | [],_,h=>rw[h.iJ];exact⟨[],rfl,rfl⟩| [x],_,h=>obtain⟨v,l,rfl,h1,h2⟩:=h.dW;rw[h2.iJ];exact h1
 |x::y::l,_,h=>obtain⟨v,ws,rfl,h1,h2⟩:=h.dW;obtain⟨w,us,rfl,h3,h4⟩:=h2.dW;exact⟨v::w::us,rfl,.cons' h1 (.cons' h3 h4)⟩
omit hR in
theorem ahk {m:List (Nat×Nat)}{A:List (ak R.T)}{B:List (Nat×aG R.T)}:∀{l:List (mg R)}{r:mg R}{x:Option (aW R.T r.res×cZ R.T r.obs)},Tx R m A B l=some ⟨r,x⟩->r∈l/\∃p q,dV R r.args A=some p/\lQ R B r.obs=some q/\zm m r.obs=true/\vv r.res=true/\oJ r.obs=true/\x=r.F p q
 | [],_,_,h=>bC|s::l,r,x,h=>by
  unfold Tx at h;split at h
  ·rename_i p q hp hq
   obtain⟨hb,h⟩:=gH h;rw[iP,iP] at hb;cases h;exact⟨fE ..,p,q,hp,hq,hb.1,hb.2.1,hb.2.2,rfl⟩
  ·obtain⟨h1,h2⟩:=ahk h
   exact⟨iK _ h1,h2⟩
def cu.call (c:cu)(aj:Bool)(lo:Nat)(ids:List Nat)(hnd:zl ids=true):cu where
 aj:=aj
 dp:=c.dp+1
 lo:=lo
 fl:=fun p=>if F0<=p then (ids[p-F0]?).map c.lc else none
 lt:=fun p L h=>by
  split at h
  ·rename_i hp
   obtain⟨o,_,rfl⟩:=aZ.1 h;exact⟨hp,Nat.lt_succ_of_le (c.wJ o)⟩
  ·cases h
 inj:=fun p q L h g=>by
  split at h
  ·split at g
   ·rename_i hp hq
    obtain⟨o,h1,rfl⟩:=aZ.1 h;obtain⟨o',h2,e⟩:=aZ.1 g;have:=c.M8 e;subst this;have:=ahh hnd h1 h2;omega
   ·cases g
  ·cases h
omit hR in
theorem cu.arw {c:cu}{aj:Bool}{lo:Nat}{ids:List Nat}{hnd:zl ids=true}{p o:Nat}(hp:F0<=p)(h:ids[p-F0]? =some o):(c.call aj lo ids hnd).lc p=c.lc o:=by unfold cu.lc cu.call;dsimp only;rw[if_pos hp,h];rfl
omit hR in
theorem cu.Um {c:cu}{aj:Bool}{lo:Nat}{ids:List Nat}{hnd:zl ids=true}{L:Loc}(hL:L.1<=c.dp)(h:∀o∈ids,L≠c.lc o):(c.call aj lo ids hnd).out L:=by
 intro p e;unfold cu.lc cu.call at e;dsimp only at e;split at e
 ·rename_i M hM
  split at hM
  ·obtain⟨o,h1,rfl⟩:=aZ.1 hM
   exact h o (Bv h1) e
  ·cases hM
 ·rw[e] at hL;dsimp only at hL;omega
omit hR in
theorem Z6 {m:List (Nat×Nat)}{A:List (ak R.T)}{B:List (Nat×aG R.T)}:∀{l:List (mg R)}{r:mg R}{x:Option (sj R.T r.jy×cZ R.T r.gQ)},M0 R m A B l=some ⟨r,x⟩->r∈l/\∃p q,dV R r.args A=some p/\lQ R B r.obs=some q/\zm m r.obs=true/\oJ r.obs=true/\oJ r.gQ=true/\I8 r.args A=true/\x=r.G p q
 | [],_,_,h=>bC|s::l,r,x,h=>by
  unfold M0 at h;split at h
  ·rename_i p q hp hq
   cases hb:(s.jy.is&& (zm m s.obs&& oJ s.obs&& oJ s.gQ)&& I8 s.args A)
   ·rw[hb] at h
    obtain⟨h1,h2⟩:=Z6 h;exact⟨iK _ h1,h2⟩
   ·rw[hb] at h
    rw[iP,iP,iP,iP] at hb;cases h;exact⟨fE ..,p,q,hp,hq,hb.1.2.1.1,hb.1.2.1.2,hb.1.2.2,hb.2,rfl⟩
  ·obtain⟨h1,h2⟩:=Z6 h
   exact⟨iK _ h1,h2⟩
omit hR in
theorem arx {L' L:Loc}{s:Nat}{σ:au}{v v':V}(h:L.1<=L'.1):xL L' L s σ v v'=(v,σ):=by unfold xL;rw[if_neg ah]
omit hR in
theorem arz {ρ:aT}{σ:au}{L':Option Loc}{top:Nat->Nat}(hL:∀l p s,L'=some l->ρ.ob p=some s->(ρ.aj.lc p).1<=l.1):∀{l:List aM}{y:aW R.T l}{vs:List V},vv l=true->aF R ρ top (eY R .any l y) vs->jP L' σ (nZ vs)=(nZ vs,σ)
 | [],_,vs,_,h=>by rw[aF.iJ (show aF R ρ top [] vs from h)];rfl| [k],y,vs,hs,h=>by
   obtain⟨v,ws,rfl,h1,h2⟩:=aF.dW (ts:=[]) (show aF R ρ top [up R .any k y] vs from h);rw[h2.iJ];show jP L' σ v=(v,σ)
   match k,y,hs,h1 with
   |.d (.int kd),y,_,h1=>have h3:v= .int kd y:=h1;rw[h3];rfl|.d .bool,y,_,h1=>have h3:v= .bool y:=h1;rw[h3];rfl|.d .str,y,_,h1=>have h3:v= .str y:=h1;rw[h3];rfl|.sub p t,y,hs,h1=>
    obtain⟨_,_,_,h3⟩:=av.BU (R:=R) (o:=p) (t:=t) (a:=y.1) (b:=y.2) h1;rcases h3 with ⟨s,cp,hs,_,rfl⟩| ⟨_,c,rfl⟩
    ·unfold jP
     cases L' with
     |none=>rfl|some l=>exact arx (hL l p s rfl hs)
    ·rfl
 |k::k2::l,y,vs,_,h=>by
  obtain⟨v,ws,rfl,_,h2⟩:=aF.dW (show aF R ρ top (up R .any k y.1::eY R .any (k2::l) y.2) vs from h);have:∃w us,ws=w::us:=by
   cases l with
   |nil=>obtain⟨w,us,rfl,_,_⟩:=aF.dW (ts:=[]) (show aF R ρ top [up R .any k2 y.2] ws from h2);exact⟨_,_,rfl⟩
   |cons k3 l=>obtain⟨w,us,rfl,_,_⟩:=aF.dW (show aF R ρ top (up R .any k2 y.2.1::eY R .any (k3::l) y.2.2) ws from h2);exact⟨_,_,rfl⟩
  obtain⟨w,us,rfl⟩:=this;rfl
def aT.call (ρ:aT)(aj:Bool)(lo:Nat)(ids:List Nat)(hnd:zl ids=true):aT:=⟨fun p=>if F0<=p then (ids[p-F0]?).bind ρ.ob else none,fun _=>none,fun p=>if F0<=p then (match ids[p-F0]? with|some o=>ρ.ln o|none=>0) else 0,ρ.aj.call aj lo ids hnd⟩
omit hR in
theorem aT.Un {aj:Bool}{lo:Nat}{ids:List Nat}{hnd:zl ids=true}{p o:Nat}(h1:F0<=p)(h2:ids[p-F0]? =some o):(ρ.call aj lo ids hnd).aj.lc p=ρ.aj.lc o/\(ρ.call aj lo ids hnd).ob p=ρ.ob o/\(ρ.call aj lo ids hnd).ln p=ρ.ln o:=by
 refine⟨cu.arw (hnd:=hnd) h1 h2,?_,?_⟩
 ·show (if F0<=p then (ids[p-F0]?).bind ρ.ob else none)=_
  rw[if_pos h1,h2];rfl
 ·show (if F0<=p then (match ids[p-F0]? with|some o=>ρ.ln o|none=>0) else 0)=_
  rw[if_pos h1,h2]
theorem ahl (hi:aL ρ aH st fr σ)(hsn:aH<=σ.next){ids:List Nat}(hnd:zl ids=true)(qF:Bool){A:List (ak R.T)}{vA:List V}(hA:aF R ρ σ.top A vA){args:List aM}{obs:List (Nat×d9)}{p:aW R.T args}{q:cZ R.T obs}(hp:dV R args (wG (iQ ids F0) A)=some p)(hq:lQ R (BS st (iQ ids F0)) obs=some q)(hks:zm (iQ ids F0) obs=true)(hok:oJ obs=true):
 aF R (ρ.call qF σ.next ids hnd) σ.top (eY R .any args p) vA/\(∀o x,look (gF R obs q) o=some x->eT (ρ.call qF σ.next ids hnd) σ o x)/\
 (∀q' σ',(∀o x,look (gF R obs q') o=some x->eT (ρ.call qF σ.next ids hnd) σ' o x)->σ.next<=σ'.next->(∀l,l<σ.next->σ'.loops l=σ.loops l)->(∀s,s<σ.next->σ'.top s=σ.top s)->
   (∀L:Loc,L.1<=ρ.aj.dp+1->(ρ.aj.call qF σ.next ids hnd).out L->σ'.obj L=σ.obj L)->
   aL ρ (aH+1) (⟨st.fr,rD (iQ ids F0) (gF R obs q')++st.ob⟩:aD R.T) fr σ'/\∀p,bB false p st ρ σ (⟨st.fr,rD (iQ ids F0) (gF R obs q')++st.ob⟩:aD R.T) ρ σ')/\
 ∀(xs:List (ak R.T))(ws:List V)(top:Nat->Nat),aF R (ρ.call qF σ.next ids hnd) top xs ws->aF R ρ top (wG (MZ (iQ ids F0)) xs) ws:=by
 have hρ:∀{p o},F0<=p->ids[p-F0]? =some o->(ρ.call qF σ.next ids hnd).aj.lc p=ρ.aj.lc o/\(ρ.call qF σ.next ids hnd).ob p=ρ.ob o/\(ρ.call qF σ.next ids hnd).ln p=ρ.ln o:=fun {p o} h1 h2=>aT.Un h1 h2;have hm:∀o p,look (iQ ids F0) o=some p->(ρ.call qF σ.next ids hnd).aj.lc p=ρ.aj.lc o/\(ρ.call qF σ.next ids hnd).ob p=ρ.ob o/\(ρ.call qF σ.next ids hnd).ln p=ρ.ln o:=fun o p hp=>by obtain⟨h1,h2⟩:=Z4 hp;exact hρ h1 h2
 refine⟨zx hR args p _ _ hp (aF.ren hm _ _ hA),fun i w hw=>?_,?_,fun xs ws top h=>aF.ren (ρ:=ρ.call qF σ.next ids hnd) (fun p' o' hpo=>by obtain⟨h1,h2⟩:=ahg hpo;obtain⟨e1,e2,e3⟩:=hρ h1 h2;exact⟨e1.symm,e2.symm,e3.symm⟩) _ _ h⟩
 ·obtain⟨kk,yy,z,h1,h2,rfl,h4⟩:=Jr obs q hq i w hw
  obtain⟨o',h5,h6,h7⟩:=Ul h1;obtain⟨e1,e2,e3⟩:=hρ h5 h6;exact Nt (h4 hok) e2 e3 e1 (Nc hR h2 (hi.ob _ _ h7))
 ·intro q' σ' FN hnx hlp htp hout
  have hst:∀s,s<aH->σ'.top s=σ.top s:=fun s hs=>htp s (iq hs hsn);have hno:∀o',o'∉ids->σ'.obj (ρ.aj.lc o')=σ.obj (ρ.aj.lc o'):=fun o' ho'=>
   hout _ (Nat.le_succ_of_le (ρ.aj.wJ o')) (cu.Um (hnd:=hnd) (ρ.aj.wJ o') fun o'' h2 e=>ho' (by rw[ρ.aj.M8 e];exact h2))
  refine⟨{
   d:=hi.d
   aj:=hi.aj
   fr:=fun i w hw=>(hi.fr i w hw).top fun u s hu=>hst s (hi.lt u s hu)
   ob:=fun o' w hw=>by
    have hw':look (rD (iQ ids F0) (gF R obs q')++st.ob) o'=some w:=hw;rw[zy] at hw';split at hw'
    ·rename_i z hz
     cases hw';obtain⟨p',h1,h2,h3⟩:=Nr hz;obtain⟨kk,zz,h4,rfl⟩:=Z5 hok h3;obtain⟨e1,e2,e3⟩:=hρ h1 h2;exact Nt h4 e2.symm e3.symm e1.symm (FN _ _ h3)
    ·rename_i hz
     have hn:=ahi (fun p' h1 h2=>Ns hks p' h1 h2) hz;exact Nu (hno o' hn) (fun u s hu=>hst s (hi.lt u s hu)) (hi.ob _ _ hw')
   inj:=hi.inj
   lt:=fun t s ht=>Nat.lt_succ_of_lt (hi.lt t s ht)
   ge:=hi.ge
   nx:=Nat.le_succ_of_le hi.nx},?_⟩
  intro p';refine⟨rfl,rfl,rfl,hnx,⟨hlp,fun s hs=>hst s (iq hs hi.nx)⟩,fun L hL ho=>?_,fun hro=>?_⟩
  ·have hL':L.1<=ρ.aj.dp:=by rcases hL with e|e;cases e;exact e
   exact hout L (Nat.le_succ_of_le hL') (cu.Um (hnd:=hnd) hL' fun o' _=>ho o')
  ·have hn:p'∉ids:=by
    intro hmem;obtain⟨i,hi'⟩:=List.getElem?_of_mem hmem;have hlt:i<ids.length:=by
     rcases Nat.lt_or_ge i ids.length with h|h
     ·exact h
     ·rw[List.getElem?_eq_none h] at hi';cases hi'
    obtain⟨w,hw⟩:=Ns (q:=q) hks (F0+i) (gD _ _) ah;obtain⟨kk,yy,z,h1,h2,_,_⟩:=Jr obs q hq _ _ hw;obtain⟨o',h5,h6,h7⟩:=Ul h1;rw[CQ,hi'] at h6;cases h6;exact TT h2 (hro _ h7)
   refine⟨fun w hw=>?_,fun s=>?_⟩
   ·have hw':look (rD (iQ ids F0) (gF R obs q')++st.ob) p'=some w:=hw
    rw[zy] at hw';split at hw'
    ·rename_i z hz
     obtain⟨p'',h1,h2,h3⟩:=Nr hz;exact absurd (Bv h2) hn
    ·exact hro _ hw'
   ·unfold au.dB au.jw
    rw[hno p' hn];exact⟨rfl,rfl⟩
omit hR in
theorem Z7 {α:Type}{o:Nat}{w:α}:∀{is:List Nat}{l:List (Nat×α)},look (Fw is l) o=some w->o∉is/\look l o=some w
 | [],l,h=>⟨aC,h⟩|i::is,l,h=>by
  obtain⟨h1,h2⟩:=Z7 (is:=is) (l:=jE i l) h;by_cases e:o=i
  ·subst e;rw[Ud] at h2;cases h2
  ·rw[rH e] at h2
   exact⟨by simp[e,h1],h2⟩
omit hR in
theorem ahm {k k':aM}{l:List aM}{c:ak R.T}{cs:List (ak R.T)}{p:aW R.T (k::k'::l)}(h:dV R (k::k'::l) (c::cs)=some p):∃y z,pk R k c=some y/\dV R (k'::l) cs=some z/\p=(y,z):=by
 unfold dV at h;cases h1:pk R k c with
 |none=>simp only[h1] at h;cases h|some y=>
  cases h2:dV R (k'::l) cs with
  |none=>simp only[h1,h2] at h;cases h|some z=>simp only[h1,h2] at h;cases h;exact⟨y,z,rfl,rfl,rfl⟩
theorem ahn {top:Nat->Nat}{k:aM}{x:ru R.T k}{tv:ak R.T}{v:V}(hc:okV k tv=true)(h:pk R k tv=some x)(hr:av R ρ top tv v):av R ρ top (up R .sh k x) v:=by
 unfold okV at hc;rw[qP] at hc;rcases hc with hc|hc
 ·cases k<;>first| (cases hc;done)|skip
  exact Nb hR _ x tv v h hr
 ·simp only[iP] at hc
  have e:=ZW hR k x tv v hc.1.1 h hr 19 au.init (by have:=kQ hc.2;omega);rw[l8 (n:=18) (Ui hR tv v hc.1.2 hr)] at e;cases e;exact ZY hR k x hc.1.1
theorem Z8 {top:Nat->Nat}:∀{l:List aM}{x:aW R.T l}{gq:List (ak R.T)}{vs:List V},Fv l gq=true->dV R l gq=some x->aF R ρ top gq vs->aF R ρ top (eY R .sh l x) vs
 | [],x,gq,vs,hc,h,hr=>by
   cases gq with
   |nil=>rw[hr.iJ];rfl|cons c cs=>cases hc
 | [k],x,gq,vs,hc,h,hr=>by
   match gq,hc,h,hr with
   | [t],hc,h,hr=>obtain⟨v,ws,rfl,h1,h2⟩:=hr.dW;rw[h2.iJ];have hc':(okV k t&& true)=true:=hc;rw[Bool.and_true] at hc';exact .cons' (ahn hR hc' h h1) rfl
   |t::u::l,hc,h,hr=>cases h
 |k::q::l,x,gq,vs,hc,h,hr=>by
  match gq,hc,h,hr with
  |t::ts,hc,h,hr=>obtain⟨v,ws,rfl,h1,h2⟩:=hr.dW;have hc':(okV k t&& Fv (q::l) ts)=true:=hc;rw[iP] at hc';obtain⟨y,z,e1,e2,rfl⟩:=ahm h;exact .cons' (ahn hR hc'.1 e1 h1) (Z8 hc'.2 e2 h2)
theorem aho {top:Nat->Nat}{k:aM}{x:ru R.T k}{tv:ak R.T}{v:V}(hc:Tz k tv=true)(h:pk R k tv=some x)(hr:av R ρ top tv v):av R ρ top (up R (Zt k) k x) v:=by
 cases k<;>first|exact Nb hR _ x tv v h hr|skip
 rename_i f a b;cases tv<;>first| (cases hc;done)|skip
 rename_i f' a' b';have hc':(Fv a a'&& Fv b b')=true:=hc;rw[iP] at hc';have h':(bif Nat.beq f' f then (match dV R a a' with
  |some x=>match dV R b b' with
   |some y=>some (x,y)|none=>none
  |none=>none) else none)=some x:=h
 obtain⟨hf,hm⟩:=gH h';clear h' h;have hf:=gG hf;subst hf;cases ha:dV R a a' with
 |none=>rw[ha] at hm;cases hm|some xa=>
  cases hb:dV R b b' with
  |none=>simp only[ha,hb] at hm;cases hm|some xb=>simp only[ha,hb] at hm;cases hm;obtain⟨va,vb,rfl,r1,r2⟩:=hr.lg;show av R ρ top (.fn f' (eY R .sh a xa) (eY R .sh b xb)) _;unfold av;exact⟨va,vb,rfl,Z8 hR hc'.1 ha r1,Z8 hR hc'.2 hb r2⟩
theorem ahp {top:Nat->Nat}:∀{l:List aM}{x:aW R.T l}{gq:List (ak R.T)}{vs:List V},dV R l gq=some x->aF R ρ top gq vs->I8 l gq=true->aF R ρ top (vw R l x) vs
 | [],x,gq,vs,h,hr,hc=>by
   cases gq with
   |nil=>rw[hr.iJ];rfl|cons c cs=>cases h
 | [k],x,gq,vs,h,hr,hc=>by
   match gq,hc,h,hr with
   | [t],hc,h,hr=>obtain⟨v,ws,rfl,h1,h2⟩:=hr.dW;rw[h2.iJ];have hc':(Tz k t&& true)=true:=hc;rw[Bool.and_true] at hc';exact .cons' (aho hR hc' h h1) rfl
   |t::u::l,hc,h,hr=>cases h
 |k::q::l,x,gq,vs,h,hr,hc=>by
  match gq,hc,h,hr with
  |t::ts,hc,h,hr=>obtain⟨v,ws,rfl,h1,h2⟩:=hr.dW;have hc':(Tz k t&& I8 (q::l) ts)=true:=hc;rw[iP] at hc';obtain⟨y,z,e1,e2,rfl⟩:=ahm h;exact .cons' (aho hR hc'.1 e1 h1) (ahp e2 h2 hc'.2)
theorem arA (hi:aL ρ aH st fr σ)(hsn:aH<=σ.next){ids:List Nat}(hnd:zl ids=true)(qF:Bool){obs gQ:List (Nat×d9)}{q:cZ R.T obs}(hq:lQ R (BS st (iQ ids F0)) obs=some q)(hks:zm (iQ ids F0) obs=true)(hok:oJ gQ=true):
 ∀(q':cZ R.T gQ) σ',(∀o x,look (gF R gQ q') o=some x->eT (ρ.call qF σ.next ids hnd) σ' o x)->σ.next<=σ'.next->(∀l,l<σ.next->σ'.loops l=σ.loops l)->(∀s,s<σ.next->σ'.top s=σ.top s)->
  (∀L:Loc,L.1<=ρ.aj.dp+1->(ρ.aj.call qF σ.next ids hnd).out L->σ'.obj L=σ.obj L)->
  aL ρ (aH+1) (⟨st.fr,rD (iQ ids F0) (gF R gQ q')++Fw ids st.ob⟩:aD R.T) fr σ'/\∀p,bB false p st ρ σ (⟨st.fr,rD (iQ ids F0) (gF R gQ q')++Fw ids st.ob⟩:aD R.T) ρ σ':=by
 intro q' σ' FN hnx hlp htp hout;have hρ:∀{p o},F0<=p->ids[p-F0]? =some o->(ρ.call qF σ.next ids hnd).aj.lc p=ρ.aj.lc o/\(ρ.call qF σ.next ids hnd).ob p=ρ.ob o/\(ρ.call qF σ.next ids hnd).ln p=ρ.ln o:=fun {p o} h1 h2=>aT.Un h1 h2;have hst:∀s,s<aH->σ'.top s=σ.top s:=fun s hs=>htp s (iq hs hsn);have hno:∀o',o'∉ids->σ'.obj (ρ.aj.lc o')=σ.obj (ρ.aj.lc o'):=fun o' ho'=>
  hout _ (Nat.le_succ_of_le (ρ.aj.wJ o')) (cu.Um (hnd:=hnd) (ρ.aj.wJ o') fun o'' h2 e=>ho' (by rw[ρ.aj.M8 e];exact h2))
 refine⟨{
  d:=hi.d
  aj:=hi.aj
  fr:=fun i w hw=>(hi.fr i w hw).top fun u s hu=>hst s (hi.lt u s hu)
  ob:=fun o' w hw=>by
   have hw':look (rD (iQ ids F0) (gF R gQ q')++Fw ids st.ob) o'=some w:=hw;rw[zy] at hw';split at hw'
   ·rename_i z hz
    cases hw';obtain⟨p',h1,h2,h3⟩:=Nr hz;obtain⟨kk,zz,h4,rfl⟩:=Z5 hok h3;obtain⟨e1,e2,e3⟩:=hρ h1 h2;exact Nt h4 e2.symm e3.symm e1.symm (FN _ _ h3)
   ·obtain⟨h1,h2⟩:=Z7 (is:=ids) hw'
    exact Nu (hno o' h1) (fun u s hu=>hst s (hi.lt u s hu)) (hi.ob _ _ h2)
  inj:=hi.inj
  lt:=fun t s ht=>Nat.lt_succ_of_lt (hi.lt t s ht)
  ge:=hi.ge
  nx:=Nat.le_succ_of_le hi.nx},?_⟩
 intro p';refine⟨rfl,rfl,rfl,hnx,⟨hlp,fun s hs=>hst s (iq hs hi.nx)⟩,fun L hL ho=>?_,fun hro=>?_⟩
 ·have hL':L.1<=ρ.aj.dp:=by rcases hL with e|e;cases e;exact e
  exact hout L (Nat.le_succ_of_le hL') (cu.Um (hnd:=hnd) hL' fun o' _=>ho o')
 ·have hn:p'∉ids:=by
   intro hmem;obtain⟨i,hi'⟩:=List.getElem?_of_mem hmem;have hlt:i<ids.length:=by
    rcases Nat.lt_or_ge i ids.length with h|h
    ·exact h
    ·rw[List.getElem?_eq_none h] at hi';cases hi'
   obtain⟨w,hw⟩:=Ns (q:=q) hks (F0+i) (gD _ _) ah;obtain⟨kk,yy,z,h1,h2,_,_⟩:=Jr obs q hq _ _ hw;obtain⟨o',h5,h6,h7⟩:=Ul h1;rw[CQ,hi'] at h6;cases h6;exact TT h2 (hro _ h7)
  refine⟨fun w hw=>?_,fun s=>?_⟩
  ·have hw':look (rD (iQ ids F0) (gF R gQ q')++Fw ids st.ob) p'=some w:=hw
   rw[zy] at hw';split at hw'
   ·rename_i z hz
    obtain⟨p'',h1,h2,h3⟩:=Nr hz;exact absurd (Bv h2) hn
   ·exact hro _ (Z7 (is:=ids) hw').2
  ·unfold au.dB au.jw
   rw[hno p' hn];exact⟨rfl,rfl⟩
omit hR in
theorem aL.Nv (h:aL ρ b st fr σ){L:Loc}(hL:ρ.aj.dp<L.1):aL ρ b st fr (σ.eG L):=h.shift (fun p=>by
 have:=ρ.aj.wJ p;show upd σ.obj L none (ρ.aj.lc p)=_;exact upd_ne _ _ (fun e=>by rw[e] at this;omega)) fun _ _=>rfl
omit hR in
theorem bB.Nv {o:Nat}{L:Loc}(hL:ρ.aj.dp<L.1):bB false o st ρ σ st ρ (σ.eG L):=by
 have hne:∀M:Loc,M.1<=ρ.aj.dp->(σ.eG L).obj M=σ.obj M:=fun M hM=>by show upd σ.obj L none M=_;exact upd_ne _ _ (fun e=>by rw[e] at hM;omega)
 refine⟨rfl,rfl,rfl,RS _,⟨fun _ _=>rfl,fun _ _=>rfl⟩,fun M hM _=>hne M (by rcases hM with e|e;cases e;exact e),fun hr=>⟨hr,fun s=>?_⟩⟩;unfold au.dB au.jw;rw[hne _ (ρ.aj.wJ o)];exact⟨rfl,rfl⟩
omit hR in
theorem bB.arB {nr:Bool}{o:Nat}{st st':aD R.T}{ρ ρ':aT}{σ σ':au}(h:bB true o st ρ σ st' ρ' σ'):bB nr o st ρ σ st' ρ' σ':=⟨h.ob,h.ln,h.aj,h.nx,h.lp,fun L _=>h.dp L (.inl rfl),h.ro⟩
theorem arC {β:Type}{mid:aD R.T}{d:Nat}(hd':E.cn d<F0)(hd:o.dst=some d){jy:r9}{y:sj R.T jy}{k:aD R.T->Option β}{x:β}(h:afK R d (E.cn d) jy y mid k=some x){Z9:aT}(hc:Z9.aj.dp=ρ.aj.dp+1){v:V}{σ1:au}(hi:aL ρ b mid fr σ1)(hv:DK Z9 σ1 jy y v):∃jv st1,aL jv b st1 (fr.put o.dst (jP (q9 E fr.d o.dst) σ1 v).1) (jP (q9 E fr.d o.dst) σ1 v).2/\(∀p,nJ E o p->bB false p mid ρ σ1 st1 jv (jP (q9 E fr.d o.dst) σ1 v).2)/\k st1=some x:=by
 have hL:q9 E fr.d o.dst=some (ρ.aj.lc (E.cn d)):=by unfold q9;rw[hd,cu.Dz _ hd',hi.d];rfl
 rw[hL];have hlt:(ρ.aj.lc (E.cn d)).1=ρ.aj.dp:=by rw[cu.Dz _ hd']
 have ahq:∀{L:Loc}{s:Nat}{ob:jo}{v v':V},Z9.aj.dp<=L.1->σ1.obj L=some (s,ob)->xL (ρ.aj.lc (E.cn d)) L s σ1 v v'=(v',(σ1.eG L).setObj (ρ.aj.lc (E.cn d)) s ob):=fun {L s ob v v'} h1 h2=>by unfold xL;rw[if_pos (by rw[hlt];omega),h2];dsimp only;rw[if_pos rfl]
 cases jy with
 |no=>exact hv.elim|arr t=>
  have hk:k ((mid.new (E.cn d) (.arr t y)).put d (.aJ (E.cn d) t))=some x:=h;rcases hv with ⟨L,s,cs,h1,rfl,h2,h3⟩| ⟨h1,h2⟩
  ·have e:jP (some (ρ.aj.lc (E.cn d))) σ1 (.aJ L s 0 (List.length y) (List.length y) (cK R t) (iA t))=(.aJ (ρ.aj.lc (E.cn d)) s 0 (List.length y) (List.length y) (cK R t) (iA t),(σ1.eG L).setObj (ρ.aj.lc (E.cn d)) s (.cells cs)):=ahq h1 h2
   rw[e];have Ce:ρ.aj.dp<L.1:=ah
   have sG:=(hi.Nv Ce).BX (E.cn d) s (List.length y) (x:=.arr t y) (a:=.cells cs) ⟨(um (ρ:=ρ.mh (E.cn d) s)).symm,.inr ⟨s,cs,uO (ρ:=ρ),Av _ _ _ _,yw y cs h3⟩⟩;refine⟨ρ.vE (E.cn d) s (List.length y),_,?_,fun p hp=>?_,hk⟩
   ·rw[hd]
    refine sG.put d (.of ?_);unfold av;exact .inl ⟨s,uO (ρ:=ρ),by rw[show (ρ.vE (E.cn d) s (List.length y)).ln (E.cn d)=List.length y from um (ρ:=ρ.mh (E.cn d) s)];rfl⟩
   ·have oh:p≠E.cn d:=fun e=>hp.2 _ hd e.symm
    exact(bB.Nv Ce).trans (bB.congr (bB.BX oh).arB rfl)
  ·have hy:y=([]:List (Den R.T t)):=h1
   have e:jP (some (ρ.aj.lc (E.cn d))) σ1 v=(v,σ1):=by rcases h2 with rfl|rfl<;>rfl
   rw[e];have sG:=hi.ghost (E.cn d) t;refine⟨ρ.gh (E.cn d),_,?_,fun p hp=>?_,by rw[hy] at hk;exact hk⟩
   ·rw[hd]
    refine sG.put d (.of ?_);unfold av;exact .inr ⟨um (ρ:=ρ) (n:=0),h2⟩
   ·have oh:p≠E.cn d:=fun e=>hp.2 _ hd e.symm
    exact⟨(oL p oh).1,(oL p oh).2,rfl,RS _,⟨fun _ _=>rfl,fun _ _=>rfl⟩,fun _ _ _=>rfl,fun hr=>⟨((bB.new (nr:=true) (ρ:=ρ) (σ:=σ1) (s:=0) (a:=.cells []) oh).ro hr).1,fun _=>⟨rfl,rfl⟩⟩⟩
 |Ip g a b' cs=>
  obtain⟨y1,y2,y3⟩:=y;obtain⟨L,s,c,h1,rfl,h2,h5,h6⟩:=hv;have h':(bif nE (E.cn d) (eY R .any cs y3) then none else k ((mid.new (E.cn d) (.cells (eY R .any cs y3))).put d (.fn g (eY R .sh a y1) (.ref (E.cn d) 0::eY R .sh b' y2))))=some x:=h;cases hm:nE (E.cn d) (eY R .any cs y3)
  ·rw[hm,cond_false] at h'
   simp only[iP] at h6;have e:jP (some (ρ.aj.lc (E.cn d))) σ1 (.fn (.func g) (bX R a y1) (.ref L s 0::bX R b' y2))=(.fn (.func g) (bX R a y1) (.ref (ρ.aj.lc (E.cn d)) s 0::bX R b' y2),(σ1.eG L).setObj (ρ.aj.lc (E.cn d)) s (.cells c)):=ahq h1 h2;rw[e];have Ce:ρ.aj.dp<L.1:=ah
   have hid:=hi.Nv Ce;have sG:aL (ρ.mh (E.cn d) s) b (mid.new (E.cn d) (.cells (eY R .any cs y3))) fr ((σ1.eG L).setObj (ρ.aj.lc (E.cn d)) s (.cells c)):=
    hid.new (E.cn d) s ⟨s,c,uO,Av _ _ _ _,FM h6.2.2 h5⟩
   refine⟨ρ.mh (E.cn d) s,_,?_,fun p hp=>?_,h'⟩
   ·rw[hd]
    refine sG.put d (.of ?_);unfold av;exact⟨bX R a y1,_,rfl,yB hR a y1 h6.1,.cons' (by unfold av;exact⟨s,uO,rfl⟩) (yB hR b' y2 h6.2.1)⟩
   ·have oh:p≠E.cn d:=fun e=>hp.2 _ hd e.symm
    exact(bB.Nv Ce).trans (bB.congr (bB.new oh) rfl)
  ·rw[hm,cond_true] at h';cases h'
theorem aac {β:Type}{M:Nat->List (mg R)}(hM:Nq E M)(gV:∀d,o.dst=some d->d<F0)(hi:aL ρ aH st fr σ)(hsn:aH<=σ.next){k:aD R.T->Option β}{x:β}(h:Fx E R M o st k=some x):
 ∃c f g a vb,o.op= .call c/\c.callee= .value f/\fr.ev E f= .fn (.func g) a vb/\E.imp g=true/\oI E g (a++c.args.toList.map (fr.ev E)++vb) (fr.d+1) σ fun v σ1=>∃jv st1,aL jv (aH+1) st1 (fr.put o.dst (jP (q9 E fr.d o.dst) σ1 v).1) (jP (q9 E fr.d o.dst) σ1 v).2/\σ.next<=(jP (q9 E fr.d o.dst) σ1 v).2.next/\(∀p,nJ E o p->bB false p st ρ σ st1 jv (jP (q9 E fr.d o.dst) σ1 v).2)/\k st1=some x:=by
 unfold Fx at h;split at h
 ·rename_i c hop
  split at h
  ·rename_i f fC
   split at h
   ·rename_i g a' b' vs hf hvs
    obtain⟨hnd,h⟩:=gH h;generalize aBq:pQ (a'++vs++b') []=ids at*;obtain⟨va,vb,Dl,hva,hvb⟩:=(dz (E:=E) hi .nil hf).lg;have hA:=(hva.append (AQ (E:=E) hi .nil hvs)).append hvb;have hdp:∀aj lo,(ρ.call aj lo ids hnd).aj.dp=ρ.aj.dp+1:=fun _ _=>rfl;split at h
    ·rename_i d r x' hd hfn
     cases hcn:Nat.ble F0 (E.cn d)
     ·rw[hcn,cond_false] at h
      have hd':E.cn d<F0:=by
       rcases Nat.lt_or_ge (E.cn d) F0 with h|h
       ·exact h
       ·rw[Nat.ble_eq_true_of_le h] at hcn;cases hcn
      obtain⟨⟨y,q'⟩,hy,hk⟩:=iR.1 h;obtain⟨hr,p,q,hp,hq,hks,hok,hok2,hch,rfl⟩:=Z6 hfn;obtain⟨himp,_,hF⟩:=hM g r hr;obtain⟨m1,m2,m3,m4⟩:=ahl hR hi hsn hnd (E.aj g) hA hp hq hks hok;have aad:=ahp hR hp (aF.ren (ρ:=ρ) (ρ':=ρ.call (E.aj g) σ.next ids hnd) (fun o p hp=>by obtain⟨h1,h2⟩:=Z4 hp;exact aT.Un h1 h2) _ _ hA) hch;obtain⟨n,v,σ',hcall,hnew,FN,hnx,hlp,htp,hout⟩:=hF p q y q' hy (ρ.call (E.aj g) σ.next ids hnd) (va++c.args.toList.map (fr.ev E)++vb) σ rfl (fun _=>rfl) (RS _) aad m2;obtain⟨sG,hkp⟩:=arA hR hi hsn hnd (E.aj g) hq hks hok2 q' σ' FN hnx hlp htp hout;obtain⟨jv,st1,i1,i2,i3⟩:=arC hR hd' hd hk (hdp _ _) sG hnew;refine⟨c,f,g,va,vb,hop,fC,Dl,himp,n,v,σ',by rw[hi.d];exact hcall,jv,st1,i1,?_,fun p hp=>(hkp p).trans (i2 p hp),i3⟩;rw[ET];exact hnx
     ·rw[hcn,cond_true] at h;cases h
    ·split at h
     ·rename_i r x' hfm
      obtain⟨⟨y,q'⟩,hy,hk⟩:=iR.1 h;obtain⟨hr,p,q,hp,hq,hks,hsc,hok,rfl⟩:=ahk hfm;obtain⟨himp,hF,_⟩:=hM g r hr;obtain⟨m1,m2,m3,m4⟩:=ahl hR hi hsn hnd (E.aj g) hA hp hq hks hok;obtain⟨n,v,σ',hcall,⟨aBr,hv,hwz⟩,FN,hnx,hlp,htp,hout⟩:=hF p q y q' hy (ρ.call (E.aj g) σ.next ids hnd) (va++c.args.toList.map (fr.ev E)++vb) σ rfl (fun _=>rfl) (RS _) m1 m2;obtain⟨sG,hkp⟩:=m3 q' σ' FN hnx hlp htp hout;have Aq:jP (q9 E fr.d o.dst) σ' v=(v,σ'):=by
       rw[hv];refine arz (fun l p s hl hs=>?_) hsc hwz;have hs':(if F0<=p then (ids[p-F0]?).bind ρ.ob else none)=some s:=hs;split at hs'
       ·rename_i h1
        obtain⟨i,h2,_⟩:=iR.1 hs';rw[(aT.Un (ρ:=ρ) (aj:=E.aj g) (lo:=σ.next) (hnd:=hnd) h1 h2).1];unfold q9 at hl;obtain⟨t,_,rfl⟩:=aZ.1 hl;show _<=fr.d;rw[hi.d];exact ρ.aj.wJ i
       ·cases hs'
      refine⟨c,f,g,va,vb,hop,fC,Dl,himp,n,v,σ',by rw[hi.d];exact hcall,ρ,_,?_,?_,?_,hk⟩
      ·rw[Aq,hv]
       exact sG.gU o.dst (arv (m4 _ _ _ hwz))
      ·rw[Aq];exact hnx
      ·intro p _
       rw[Aq];exact bB.congr (hkp p) Bq
     ·cases h
   ·cases h
  ·cases h
 ·cases h
omit hR in
theorem ahr {A C:List (ak R.T)}:∀{l:List (mg R)}{t:Ty}{x:Option (List (Den R.T t))},I9 R A C l=some ⟨t,x⟩->∃(bQ res:List aM) (F:aW R.T bQ->cZ R.T []->Option (aW R.T res×cZ R.T [])) (G:aW R.T bQ->cZ R.T []->Option (sj R.T (.arr t)×cZ R.T [])) (p:aW R.T bQ),(⟨bQ,[],res,F,.arr t,[],G⟩:mg R)∈l/\dV R bQ C=some p/\gu bQ=true/\Nat.ble (kY bQ) 18=true/\wC A=true/\TA bQ=true/\x=(G p ()).map fun y=>y.1
 | [],_,_,h=>bC|s::l,t,x,h=>by
  have rest:I9 R A C l=some ⟨t,x⟩->_:=fun h=>ahr h;unfold I9 at h;split at h
  ·cases h
  ·rename_i bQ res F t' G l' heq
   obtain⟨e1,e2⟩:=List.cons.inj heq;subst e2;subst e1;split at h
   ·rename_i p hp
    obtain⟨hc,h⟩:=gH h;simp only[iP] at hc;obtain⟨⟨c1,c2⟩,c3,c4⟩:=hc;cases h;exact⟨bQ,res,F,G,p,fE ..,hp,c1,c2,c3,c4,rfl⟩
   ·obtain⟨as',res',F',G',p',h1,h2⟩:=rest h
    exact⟨as',res',F',G',p',iK _ h1,h2⟩
  ·rename_i s' l' _ heq
   obtain⟨e1,e2⟩:=List.cons.inj heq;subst e2;obtain⟨as',res',F',G',p',h1,h2⟩:=rest h;exact⟨as',res',F',G',p',iK _ h1,h2⟩
theorem ahs {ρ:aT}{top:Nat->Nat}:∀(l:List aM)(x:aW R.T l),TA l=true->aF R ρ top (vw R l x) (bX R l x)
 | [],_,_=>rfl| [k],x,h=>by
   cases k<;>first| (cases h;done)|exact .cons' (TP hR .any (.inl rfl) _ x) rfl
 |k::k'::l,x,h=>by
  cases k<;>first| (cases h;done)|exact .cons' (TP hR .any (.inl rfl) _ x.1) (ahs (k'::l) x.2 h)
def cu.blank (aj:Bool):cu:=⟨aj,1,0,fun _=>none,fun _ _ h=>bC,fun _ _ _ h=>bC⟩
def aT.blank (aj:Bool):aT:=⟨fun _=>none,fun _=>none,fun _=>0,cu.blank aj⟩
theorem aht {t:Ty}:∀l:List (Den R.T t),bN ((l.map (aX R t)).flatMap V.cells)=true
 | []=>rfl|x::l=>by
  have h:=qC hR t x;have h2:bN (aX R t x).cells=true:=by
   cases hv:aX R t x with
   |agg cs=>rw[hv] at h;simpa [aU,V.cells] using h|_=>rw[hv] at h;simpa [V.cells,bN] using h
  rw[fG,ny];have key:∀a b:List V,bN a=true->bN b=true->bN (a++b)=true:=by
   intro a b ha hb;induction a with
   |nil=>exact hb|cons v a ih=>have ha':(aU v&& bN a)=true:=(by simpa [bN] using ha);rw[iP] at ha';show bN (v::(a++b))=true;simp only[bN,ha'.1,ih ha'.2,Bool.and_self]
  exact key _ _ h2 (aht l)
theorem arD {β:Type}{M:Nat->List (mg R)}(hM:Nq E M)(hi:aL ρ aH st fr σ){k:aD R.T->Option β}{x:β}(h:M4 E R M o st k=some x)(hown:mZ E st o=true):
 ∃c f g a vb d bQ m v0 v σ1 σ2,o.op= .call c/\c.callee= .value f/\fr.ev E f= .fn (.func g) a vb/\o.dst=some d/\E.own g d=true/\E.imp g=true/\qW (E.vU g) σ (a++c.args.toList.map (fr.ev E)++vb)=some bQ/\
  (a++c.args.toList.map (fr.ev E)++vb).all (fun x=>aU (er x))=true/\(dX E m).call g bQ 1 au.init=some (v0,σ1)/\vW σ aH (some (fr.d,E.cn d)) σ1 v0=some (v,σ2)/\σ2.next=σ.next/\E.cn d<F0/\
  ∃jv st1,aL jv (aH+1) st1 (fr.put o.dst v) σ2/\(∀p,nJ E o p->bB true p st ρ σ st1 jv σ2)/\k st1=some x:=by
 unfold M4 at h;split at h
 ·rename_i c d hop hd
  split at h
  ·rename_i f fC
   split at h
   ·rename_i g a' b' vs hf hvs
    cases hcn:(Nat.ble F0 (E.cn d)||E.vU g)
    ·rw[hcn,cond_false] at h
     rw[kP] at hcn;have hd':E.cn d<F0:=by
      rcases Nat.lt_or_ge (E.cn d) F0 with h|h
      ·exact h
      ·rw[Nat.ble_eq_true_of_le h] at hcn;cases hcn.1
     split at h
     ·rename_i t xo hfn
      obtain⟨l,hl,hk⟩:=iR.1 h;obtain⟨bQ,res,F,G,p,hr,hp,c1,c2,c3,c4,rfl⟩:=ahr hfn;obtain⟨⟨y,q'⟩,hy,rfl⟩:=aZ.1 hl;obtain⟨himp,_,hF⟩:=hM g _ hr;obtain⟨va,vb,Dl,hva,hvb⟩:=(dz (E:=E) hi .nil hf).lg;have hA:=(hva.append (AQ (E:=E) hi .nil hvs)).append hvb;have hg:E.own g d=true:=(by unfold mZ at hown;rw[hop] at hown;dsimp only at hown;rw[fC] at hown;dsimp only at hown;rw[hf] at hown;dsimp only at hown;rw[hd] at hown;exact hown);obtain⟨vs',v1,v2⟩:=Jp hR hi hA;have FL:=qE hR bQ p _ _ c1 hp v1 20 σ (by have:=kQ c2;omega);have has:qW (E.vU g) σ (va++c.args.toList.map (fr.ev E)++vb)=some (bX R bQ p):=(by rw[hcn.2];unfold qW;rw[if_neg aC];exact(v2 14).trans FL);obtain⟨n,v0,σ1,hcall,hnew, -⟩:=hF p () y q' hy (aT.blank (E.aj g)) (bX R bQ p) au.init rfl (fun _=>rfl) (kN _) (ahs hR bQ p c4) (fun o x hx=>CJ);have Ce:ρ.aj.lc (E.cn d)=(fr.d,E.cn d):=(by rw[cu.Dz _ hd',hi.d]);rcases hnew with ⟨L,s,cs,h1,rfl,h2,h3⟩| ⟨h1,h2⟩
      ·have hcs:σ1.dB L s=some cs:=by unfold au.dB;rw[h2];simp
       have he:=Uf hR y cs h3;have hor:vW σ aH (some (fr.d,E.cn d)) σ1 (.aJ L s 0 (List.length y) (List.length y) (cK R t) (iA t))=some (.aJ (fr.d,E.cn d) aH 0 (List.length y) (List.length y) (cK R t) (iA t),σ.setObj (fr.d,E.cn d) aH (.cells (cs.map eD))):=(by unfold vW;dsimp only;rw[Option.bind_some,hcs,Option.bind_some,if_pos (by rw[he];exact aht hR y)]);have sG:=(hi.le (kD aH)).BX (E.cn d) aH (List.length y) (x:=.arr t y) (a:=.cells (cs.map eD)) ⟨(um (ρ:=ρ.mh (E.cn d) aH)).symm,.inr ⟨aH,cs.map eD,uO (ρ:=ρ),Av _ _ _ _,by rw[he];exact FI hR t y⟩⟩;rw[Ce] at sG;refine⟨c,f,g,va,vb,d,_,n,_,_,σ1,_,hop,fC,Dl,hd,hg,himp,has,FK hR c3 hA,hcall,hor,rfl,hd',ρ.vE (E.cn d) aH (List.length y),_,?_,fun p hp=>?_,hk⟩
       ·rw[hd]
        refine sG.put d (.of ?_);unfold av;exact .inl ⟨aH,uO (ρ:=ρ),by rw[show (ρ.vE (E.cn d) aH (List.length y)).ln (E.cn d)=List.length y from um (ρ:=ρ.mh (E.cn d) aH),show (ρ.vE (E.cn d) aH (List.length y)).aj.lc (E.cn d)=(fr.d,E.cn d) from Ce]⟩
       ·have oh:p≠E.cn d:=fun e=>hp.2 _ hd e.symm
        rw[<-Ce];exact bB.congr (bB.BX oh) rfl
      ·have hy0:y=([]:List (Den R.T t)):=h1
       have hor:vW σ aH (some (fr.d,E.cn d)) σ1 v0=some (v0,σ):=(by rcases h2 with rfl|rfl<;>rfl);have sG:=(hi.le (kD aH)).ghost (E.cn d) t;refine⟨c,f,g,va,vb,d,_,n,_,_,σ1,_,hop,fC,Dl,hd,hg,himp,has,FK hR c3 hA,hcall,hor,rfl,hd',ρ.gh (E.cn d),_,?_,fun p hp=>?_,by rw[show y=[] from hy0] at hk;exact hk⟩
       ·rw[hd]
        refine sG.put d (.of ?_);unfold av;exact .inr ⟨um (ρ:=ρ) (n:=0),h2⟩
       ·have oh:p≠E.cn d:=fun e=>hp.2 _ hd e.symm
        exact⟨(oL p oh).1,(oL p oh).2,rfl,RS _,⟨fun _ _=>rfl,fun _ _=>rfl⟩,fun _ _ _=>rfl,fun hr=>⟨((bB.new (nr:=true) (ρ:=ρ) (σ:=σ) (s:=0) (a:=.cells []) oh).ro hr).1,fun _=>⟨rfl,rfl⟩⟩⟩
     ·cases h
    ·rw[hcn,cond_true] at h;cases h
   ·cases h
  ·cases h
 ·cases h
end
end aY
