import Derived.Test.YthadiihdjhakdaaGreatF2210
set_option linter.all false
namespace aR
open Go
section
variable {R:iI}{E:Env}{ρ ρ':aV}{b aK:Nat}{st:aH R.T}{fr:Fr}{σ:ak}{o:Oper}(hR:qE R)
include hR
def BJ (E:Env)(g:Nat)(args:List aC)(obs:List (Nat×fA))(res:List aC)(F:av R.T args->eD R.T obs->Option (av R.T res×eD R.T obs)):Prop:=∀p q y q',F p q=some (y,q')->∀(ρ:aV)(vs:List V)(σ:ak),ρ.aj.aj=E.aj g->(∀t,ρ.tk t=none)->ρ.aj.lo<=σ.next->
 aI R ρ σ.top (eF R .any args p) vs->(∀o x,look (iF R obs q) o=some x->eZ ρ σ o x)->
 mX E g vs ρ.aj.dp σ fun v σ'=>(∃ws,v=bq ws/\aI R ρ σ'.top (eF R .any res y) ws)/\(∀o x,look (iF R obs q') o=some x->eZ ρ σ' o x)/\σ.next<=σ'.next/\(∀l,l<σ.next->σ'.loops l=σ.loops l)/\(∀s,s<ρ.aj.lo->σ'.top s=σ.top s)/\
  ∀L:Loc,L.1<=ρ.aj.dp->ρ.aj.out L->σ'.obj L=σ.obj L
def Jb (ρ:aV)(σ':ak):(k:sw)->tX R.T k->V->Prop
 |.no,_,_=>False|.arr t,l,v=>(∃L s cs,ρ.aj.dp<=L.1/\v= .aM L s 0 l.length l.length (dA R t) (jq t)/\σ'.obj L=some (s,.cells cs)/\aI R ρ σ'.top (l.flatMap fun x=>(iJ R .any t x).cells) cs)\/(l=[]/\(v= .ay .nil []\/v= .ay .full []))
 |.Ia g a b cs,(x,y,z),v=>∃L s c,ρ.aj.dp<=L.1/\v= .fn (.func g) (aF R a x) (.ref L s 0::aF R b y)/\σ'.obj L=some (s,.cells c)/\aI R ρ σ'.top (eF R .any cs z) c/\(gP a&& (gP b&& wW cs))=true
def aaN (E:Env)(g:Nat)(args:List aC)(obs:List (Nat×fA))(jB:sw)(gV:List (Nat×fA))(G:av R.T args->eD R.T obs->Option (tX R.T jB×eD R.T gV)):Prop:=∀p q y q',G p q=some (y,q')->∀(ρ:aV)(vs:List V)(σ:ak),ρ.aj.aj=E.aj g->(∀t,ρ.tk t=none)->ρ.aj.lo<=σ.next->
 aI R ρ σ.top (Dq R args p) vs->(∀o x,look (iF R obs q) o=some x->eZ ρ σ o x)->
 mX E g vs ρ.aj.dp σ fun v σ'=>Jb ρ σ' jB y v/\(∀o x,look (iF R gV q') o=some x->eZ ρ σ' o x)/\σ.next<=σ'.next/\(∀l,l<σ.next->σ'.loops l=σ.loops l)/\(∀s,s<ρ.aj.lo->σ'.top s=σ.top s)/\
  ∀L:Loc,L.1<=ρ.aj.dp->ρ.aj.out L->σ'.obj L=σ.obj L
def uq (E:Env)(g:Nat)(r:mD R):Prop:=BJ E g r.args r.obs r.res r.F/\aaN E g r.args r.obs r.jB r.gV r.G
omit hR in
theorem uq.M {g:Nat}{args:List aC}{obs:List (Nat×fA)}{res:List aC}{F:av R.T args->eD R.T obs->Option (av R.T res×eD R.T obs)}(h:BJ E g args obs res F):uq E g (nN args obs res F):=⟨h,fun p q y q' h=>nomatch (show (none:Option _)=some _ from h)⟩
omit hR in
theorem uq.N {g:Nat}{args:List aC}{obs:List (Nat×fA)}{jB:sw}{gV:List (Nat×fA)}{G:av R.T args->eD R.T obs->Option (tX R.T jB×eD R.T gV)}(h:aaN E g args obs jB gV G):uq E g (ZC args obs jB gV G):=⟨fun p q y q' h=>(nomatch (show (none:Option _)=some _ from h)),h⟩
def OY (E:Env)(M:Nat->List (mD R)):Prop:=∀g,∀r∈M g,E.imp g=true/\uq E g r
omit hR in
theorem ahB {i:Nat}:∀{l:List Nat},bg i l=true->i∈l
 | [],h=>bL|j::l,h=>by
  have h':(Nat.beq i j||bg i l)=true:=h;rw[oF] at h';rcases h' with h'|h'
  ·rw[iK h'];exact iw ..
  ·exact iZ _ (ahB h')
omit hR in
theorem aaO {i:Nat}:∀{l:List Nat},i∈l->bg i l=true
 | [],h=>bL|j::l,h=>by
  show (Nat.beq i j||bg i l)=true;rw[oF];rcases fV.1 h with h|h
  ·left;rw[h];exact vS _
  ·right;exact aaO h
omit hR in
theorem aaP:∀{l:List Nat}{n o p:Nat},look (iW l n) o=some p->n<=p/\l[p-n]? =some o
 | [],_,_,_,h=>bL|a::l,n,o,p,h=>by
  have h':look ((a,n)::iW l (n+1)) o=some p:=h;by_cases e:o=a
  ·subst e;rw[kZ] at h';cases h';exact⟨iP _,aD⟩
  ·rw[jh _ _ e] at h'
   obtain⟨h1,h2⟩:=aaP h';refine⟨ah,?_⟩;have:p-n=(p-(n+1))+1:=ah
   rw[this];simpa using h2
omit hR in
theorem ahC:∀{l:List Nat}{n o p:Nat},look (OA (iW l n)) p=some o->n<=p/\l[p-n]? =some o
 | [],_,_,_,h=>bL|a::l,n,o,p,h=>by
  have h':look ((n,a)::OA (iW l (n+1))) p=some o:=h;by_cases e:p=n
  ·subst e;rw[kZ] at h';cases h';exact⟨iP _,aD⟩
  ·rw[jh _ _ e] at h'
   obtain⟨h1,h2⟩:=ahC h';refine⟨ah,?_⟩;have:p-n=(p-(n+1))+1:=ah
   rw[this];simpa using h2
omit hR in
theorem ahD:∀{l:List Nat},yB l=true->∀{i j o:Nat},l[i]? =some o->l[j]? =some o->i=j
 | [],_,i,j,o,hi,_=>by simp at hi|a::l,h,i,j,o,hi,hj=>by
  have h':(!(bg a l)&& yB l)=true:=h;rw[aT,pE] at h';cases i with
  |zero=>
   cases j with
   |zero=>rfl|succ j=>have e:a=o:=jm;have e2:l[j]? =some o:=ql;rw[e,aaO (pF e2)] at h';exact absurd h'.1 aD
  |succ i=>
   cases j with
   |zero=>have e:a=o:=ql;have e2:l[i]? =some o:=jm;rw[e,aaO (pF e2)] at h';exact absurd h'.1 aD|succ j=>rw[ahD h'.2 (show l[i]? =some o by simpa using hi) (show l[j]? =some o by simpa using hj)]
omit hR in
theorem Wo:∀{l:List Nat}{n p:Nat}{x:bA R.T},look (Bw st (iW l n)) p=some x->∃o,n<=p/\l[p-n]? =some o/\look st.ob o=some x
 | [],_,_,_,h=>bL|a::l,n,p,x,h=>by
  have up:look (Bw st (iW l (n+1))) p=some x->∃o,n<=p/\(a::l)[p-n]? =some o/\look st.ob o=some x:=fun h=>by
   obtain⟨o,h1,h2,h3⟩:=Wo h;refine⟨o,ah,?_,h3⟩;have:p-n=(p-(n+1))+1:=ah
   rw[this];simpa using h2
  have h':=h;unfold iW Bw at h';split at h'
  ·rename_i y hy
   by_cases e:p=n
   ·subst e;rw[kZ] at h';cases h';exact⟨a,iP _,aD,hy⟩
   ·rw[jh _ _ e] at h';exact up h'
  ·exact up h'
omit hR in
theorem OZ {L:List (Nat×bA R.T)}:∀{l:List Nat}{n o:Nat}{y:bA R.T},look (qD (iW l n) L) o=some y->∃p,n<=p/\l[p-n]? =some o/\look L p=some y
 | [],_,_,_,h=>bL|a::l,n,o,y,h=>by
  have up:look (qD (iW l (n+1)) L) o=some y->∃p,n<=p/\(a::l)[p-n]? =some o/\look L p=some y:=fun h=>by
   obtain⟨p,h1,h2,h3⟩:=OZ h;refine⟨p,ah,?_,h3⟩;have:p-n=(p-(n+1))+1:=ah
   rw[this];simpa using h2
  have h':=h;unfold iW qD at h';split at h'
  ·rename_i z hz
   by_cases e:o=a
   ·subst e;rw[kZ] at h';cases h';exact⟨n,iP _,aD,hz⟩
   ·rw[jh _ _ e] at h';exact up h'
  ·exact up h'
omit hR in
theorem ahE {L:List (Nat×bA R.T)}:∀{l:List Nat}{n o:Nat},(∀p,n<=p->p<n+l.length->∃y,look L p=some y)->look (qD (iW l n) L) o=none->o∉l
 | [],_,_,_,_=>aD|a::l,n,o,hL,h=>by
  obtain⟨y,hy⟩:=hL n (iP _) aD;have h':=h;unfold iW qD at h';rw[hy] at h';by_cases e:o=a
  ·subst e;rw[kZ] at h';cases h'
  ·rw[jh _ _ e] at h'
   have:=ahE (fun p h1 h2=>hL p ah (by rw[List.length_cons];omega)) h';simp[e,this]
omit hR in
theorem O1:∀{l:List Nat}{n:Nat}{obs:List (Nat×fA)}{q:eD R.T obs},yC (iW l n) obs=true->∀p,n<=p->p<n+l.length->∃y,look (iF R obs q) p=some y
 | [],n,_,_,_,p,h1,h2=>Uo|a::l,n,[],_,h,_,_,_=>bL|a::l,n,[(j,k)],q,h,p,h1,h2=>by
  have h':(Nat.beq n j&& yC (iW l (n+1)) [])=true:=h;rw[aT] at h';have hj:=iK h'.1;subst hj;by_cases e:p=n
  ·subst e;exact⟨_,kZ _ _ _⟩
  ·obtain⟨y,hy⟩:=O1 (q:=show eD R.T [] from ()) h'.2 p ah (by rw[List.length_cons] at h2;omega)
   cases hy
 |a::l,n,(j,k)::x::obs,q,h,p,h1,h2=>by
  have h':(Nat.beq n j&& yC (iW l (n+1)) (x::obs))=true:=h;rw[aT] at h';have hj:=iK h'.1;subst hj;show∃y,look ((n,mG R k q.1)::iF R (x::obs) q.2) p=some y;by_cases e:p=n
  ·subst e;exact⟨_,kZ _ _ _⟩
  ·rw[jh _ _ e]
   exact O1 h'.2 p ah (by rw[List.length_cons] at h2;omega)
omit hR in
theorem Jc {L:List (Nat×bA R.T)}:∀(l:List (Nat×fA))(x:eD R.T l),lF R L l=some x->∀i v,look (iF R l x) i=some v->∃k y z,look L i=some y/\Dn R k y=some z/\v=mG R k z/\(og l=true->okO k=true)
 | [],x,hx,i,v,hv=>Et| [(j,k)],x,hx,i,v,hv=>by
   unfold lF at hx;split at hx
   ·rename_i y hy
    by_cases e:i=j
    ·subst e
     have hv':look [(i,mG R k x)] i=some v:=hv;rw[kZ] at hv';cases hv';exact⟨k,y,x,hy,hx,rfl,fun h=>by unfold og at h;rw[aT] at h;exact h.1⟩
    ·have hv':look [(j,mG R k x)] i=some v:=hv
     rw[jh _ _ e] at hv';cases hv'
   ·cases hx
 | (j,k)::q::l,x,hx,i,v,hv=>by
   unfold lF at hx;split at hx
   ·rename_i y hy
    cases hu:Dn R k y with
    |none=>simp only[hu] at hx;cases hx|some z=>
     cases hs:lF R L (q::l) with
     |none=>simp only[hu,hs] at hx;cases hx|some p=>
      simp only[hu,hs] at hx;obtain rfl:=jP hx;have hv':look ((j,mG R k z)::iF R (q::l) p) i=some v:=hv;by_cases e:i=j
      ·subst e
       rw[kZ] at hv';cases hv';exact⟨k,y,z,hy,hu,rfl,fun h=>by unfold og at h;rw[aT] at h;exact h.1⟩
      ·rw[jh _ _ e] at hv'
       obtain⟨k',y',z',h1,h2,h3,h4⟩:=Jc (q::l) p hs i v hv';exact⟨k',y',z',h1,h2,h3,fun h=>h4 (by unfold og at h;rw[aT] at h;exact h.2)⟩
   ·cases hx
omit hR in
theorem aaQ:∀{l:List (Nat×fA)}{x:eD R.T l},og l=true->∀{i:Nat}{v:bA R.T},look (iF R l x) i=some v->∃k z,okO k=true/\v=mG R k z
 | [],x,_,i,v,hv=>Et| [(j,k)],x,h,i,v,hv=>by
   unfold og at h;rw[aT] at h;have hv':look [(j,mG R k x)] i=some v:=hv;by_cases e:i=j
   ·subst e;rw[kZ] at hv';cases hv';exact⟨k,x,h.1,rfl⟩
   ·rw[jh _ _ e] at hv';cases hv'
 | (j,k)::q::l,x,h,i,v,hv=>by
   unfold og at h;rw[aT] at h;have hv':look ((j,mG R k x.1)::iF R (q::l) x.2) i=some v:=hv;by_cases e:i=j
   ·subst e;rw[kZ] at hv';cases hv';exact⟨k,x.1,h.1,rfl⟩
   ·rw[jh _ _ e] at hv';exact aaQ h.2 hv'
omit hR in
theorem aun {top top':Nat->Nat}{t:Ty}{x:Den R.T t}{v:V}(h:aB R ρ top (iJ R .any t x) v):aB R ρ' top' (iJ R .any t x) v:=by
 cases t with
 |st n=>obtain⟨l,hv,hl⟩:=aB.mH (R:=R) h;exact⟨l,hv,Dv _ _ _ hl⟩
 |int k=>exact h|bool=>exact h|str=>exact h|slice t=>exact h
omit hR in
mutual
theorem ahF {top top':Nat->Nat}:∀(k:aC)(z:qA R.T k)(v:V),VE k=true->aB R ρ top (up R .any k z) v->aB R ρ' top' (up R .any k z) v
 |.d t,z,v,_,h=>by unfold up at h⊢;exact aun h|.aY l off,z,v,hd,h=>by unfold up at h⊢;obtain⟨cs,rfl,h1⟩:=h.vw;unfold aB;exact⟨cs,rfl,Fy (by unfold VE at hd;exact hd) h1⟩
 |.fn f a b,z,v,hd,h=>by unfold up at h⊢;obtain⟨x,y,rfl,h1,h2⟩:=h.lG;unfold VE at hd;rw[aT] at hd;unfold aB;exact⟨x,y,rfl,Fy hd.1 h1,Fy hd.2 h2⟩
 |.l _ _,_,_,hd,_=>zo|.agg _,_,_,hd,_=>zo|.ref _ _,_,_,hd,_=>zo|.cu _,_,_,hd,_=>zo|.dV _ _,_,_,hd,_=>zo|.fF,_,_,hd,_=>zo|.aM _ _,_,_,hd,_=>zo|.sub _ _,_,_,hd,_=>zo|.sg _,_,_,hd,_=>zo|.undef,_,_,hd,_=>zo
theorem Fy {top top':Nat->Nat}:∀{l:List aC}{z:av R.T l}{cs:List V},wW l=true->aI R ρ top (eF R .any l z) cs->aI R ρ' top' (eF R .any l z) cs
 | [],_,_,_,h=>h| [k],z,cs,hd,h=>by unfold wW at hd;rw[aT] at hd;obtain⟨v,ws,rfl,h1,h2⟩:=aI.dS (ts:=[]) (show aI R ρ top [up R .any k z] cs from h);rw[h2.iq];exact .cons' (ahF k z v hd.1 h1) rfl
 |k::q::l,z,cs,hd,h=>by unfold wW at hd;rw[aT] at hd;obtain⟨v,ws,rfl,h1,h2⟩:=aI.dS (show aI R ρ top (up R .any k z.1::eF R .any (q::l) z.2) cs from h);exact .cons' (ahF k z.1 v hd.1 h1) (Fy (l:=q::l) hd.2 h2)
end
omit hR in
theorem O4 {o p:Nat}{k:fA}{z:Dj R.T k}(hk:okO k=true)(hb:ρ'.ob p=ρ.ob o)(hn:ρ'.ln p=ρ.ln o)(hl:ρ'.aj.lc p=ρ.aj.lc o)(h:eZ ρ σ o (mG R k z)):eZ ρ' σ p (mG R k z):=by
 cases k with
 |cells l=>obtain⟨s,cs,h1,h2,h3⟩:=h;exact⟨s,cs,M4,M5,Fy hk h3⟩
 |st n=>obtain⟨s,cs,h1,h2,h3⟩:=h;exact⟨s,cs,M4,M5,Dv _ _ _ h3⟩
 |map k e=>obtain⟨s,h1,h2⟩:=h;exact⟨s,M4,M5⟩
 |arr t=>
  refine⟨h.1.trans hn.symm,?_⟩;rcases h.2 with h| ⟨s,cs,h1,h2,h3⟩
  ·exact .inl ⟨h.1,by rw[hb];exact h.2⟩
  ·exact .inr ⟨s,cs,M4,M5,wY _ cs h3⟩
 |sg l=>obtain⟨s,h1,h2⟩:=h;exact⟨s,M4,M5⟩
omit hR in
mutual
theorem aB.ren {top:Nat->Nat}{m:List (Nat×Nat)}(hm:∀o p,look m o=some p->ρ'.aj.lc p=ρ.aj.lc o/\ρ'.ob p=ρ.ob o/\ρ'.ln p=ρ.ln o):∀(x:au R.T)(v:V),aB R ρ top x v->aB R ρ' top (zW m x) v
 |.ref o off,v,h=>by
  obtain⟨s,h1,h2⟩:=h;unfold zW;split
  ·rename_i p hp;obtain⟨a,b,c⟩:=hm _ _ hp;exact⟨s,Eo,M8⟩
  ·unfold aB;trivial
 |.cu o,v,h=>by
  obtain⟨s,h1,h2⟩:=h;unfold zW;split
  ·rename_i p hp;obtain⟨a,b,c⟩:=hm _ _ hp;exact⟨s,Eo,M8⟩
  ·unfold aB;trivial
 |.aM o t,v,h=>by
  unfold zW;split
  ·rename_i p hp
   obtain⟨a,b,c⟩:=hm _ _ hp;rcases h with ⟨s,h1,h2⟩| ⟨h1,h2⟩
   ·exact .inl ⟨s,Eo,by rw[a,c];exact h2⟩
   ·exact .inr ⟨by rw[c];exact h1,h2⟩
  ·unfold aB;trivial
 |.sub o t x y,v,h=>by
  unfold zW;split
  ·rename_i p hp
   obtain⟨a,b,c⟩:=hm _ _ hp;obtain⟨g0,g1,g2,h⟩:=h;refine⟨g0,g1,by rw[c];exact g2,?_⟩;rcases h with ⟨s,cp,h1,h2,h3⟩|h
   ·exact .inl ⟨s,cp,Eo,h2,by rw[a];exact h3⟩
   ·exact .inr h
  ·unfold aB;trivial
 |.lT o t i off,v,h=>by
  obtain⟨s,h1,h2⟩:=h;unfold zW;split
  ·rename_i p hp;obtain⟨a,b,c⟩:=hm _ _ hp;exact⟨s,Eo,M8⟩
  ·unfold aB;trivial
 |.sv o _ _ _ _ _,v,h=>by
  obtain⟨s,h1,h2⟩:=h;unfold zW;split
  ·rename_i p hp;obtain⟨a,b,c⟩:=hm _ _ hp;exact⟨s,Eo,M8⟩
  ·unfold aB;trivial
 |.sel o _ _ _ _ _,v,h=>by
  obtain⟨s,h1,h2⟩:=h;unfold zW;split
  ·rename_i p hp;obtain⟨a,b,c⟩:=hm _ _ hp;exact⟨s,Eo,M8⟩
  ·unfold aB;trivial
 |.ay c t l,v,h=>by
  obtain⟨c',hv,hc⟩:=h;unfold zW;cases c with
  |own u=>exact⟨c',hv,trivial⟩|any=>exact⟨c',hv,trivial⟩|sh=>exact⟨c',hv,hc⟩|nil=>exact⟨c',hv,hc⟩|full=>exact⟨c',hv,hc⟩
 |.agg cs,v,h=>by obtain⟨l,hv,hl⟩:=h;exact⟨l,hv,aI.ren hm cs l hl⟩
 |.bB cs,v,h=>by obtain⟨l,hv,hl⟩:=h;exact⟨l,hv,aI.ren hm cs l hl⟩
 |.aY cs off,v,h=>by obtain⟨l,hv,hl⟩:=h;exact⟨l,hv,aI.ren hm cs l hl⟩
 |.fn f a b,v,h=>by obtain⟨a',b',hv,ha,hb⟩:=h;exact⟨a',b',hv,aI.ren hm a a' ha,aI.ren hm b b' hb⟩
 |.opt _ _ _,_,h=>h.elim|.int _ _,_,h=>h|.bool _,_,h=>h|.jA _,_,h=>h|.str _,_,h=>h|.iC,_,h=>h|.gQ,_,h=>h|.gD,_,h=>h|.iH,_,h=>h|.fF,_,h=>h|.dV _ _ _,_,h=>h|.undef,_,h=>h|.sg _,_,h=>h|.yx _ _ _ _,_,h=>h|.gone,_,h=>h
theorem aI.ren {top:Nat->Nat}{m:List (Nat×Nat)}(hm:∀o p,look m o=some p->ρ'.aj.lc p=ρ.aj.lc o/\ρ'.ob p=ρ.ob o/\ρ'.ln p=ρ.ln o):∀(x:List (au R.T))(v:List V),aI R ρ top x v->aI R ρ' top (wV m x) v
 | [],_,h=>h|x::xs,_,⟨v,vs,e,h1,h2⟩=>⟨v,vs,e,aB.ren hm x v h1,aI.ren hm xs vs h2⟩
end
omit hR in
mutual
theorem aB.top {ρ:aV}{t t':Nat->Nat}(ht:∀u s,ρ.tk u=some s->t' s=t s):∀(x:au R.T)(v:V),aB R ρ t x v->aB R ρ t' x v
 |.ay c ty l,v,h=>by
  obtain⟨c',hv,hc⟩:=h;refine⟨c',hv,?_⟩;cases c<;>first|exact hc|skip
  rcases hc with hc|hc| ⟨s,h1,h2,h3⟩
  ·exact .inl hc
  ·exact .inr (.inl hc)
  ·exact .inr (.inr ⟨s,h1,h2,(ht _ _ h2).trans h3⟩)
 |.agg cs,v,h=>by obtain⟨l,hv,hl⟩:=h;exact⟨l,hv,aI.top ht cs l hl⟩
 |.bB cs,v,h=>by obtain⟨l,hv,hl⟩:=h;exact⟨l,hv,aI.top ht cs l hl⟩
 |.aY cs off,v,h=>by obtain⟨l,hv,hl⟩:=h;exact⟨l,hv,aI.top ht cs l hl⟩
 |.fn f a b,v,h=>by obtain⟨a',b',hv,ha,hb⟩:=h;exact⟨a',b',hv,aI.top ht a a' ha,aI.top ht b b' hb⟩
 |.ref _ _,_,h=>h|.cu _,_,h=>h|.aM _ _,_,h=>h|.sub _ _ _ _,_,h=>h|.lT _ _ _ _,_,h=>h|.opt _ _ _,_,h=>h.elim|.int _ _,_,h=>h|.bool _,_,h=>h|.jA _,_,h=>h|.str _,_,h=>h|.iC,_,h=>h|.gQ,_,h=>h|.gD,_,h=>h|.iH,_,h=>h|.fF,_,h=>h|.dV _ _ _,_,h=>h|.undef,_,h=>h|.sg _,_,h=>h|.sv _ _ _ _ _ _,_,h=>h|.sel _ _ _ _ _ _,_,h=>h|.yx _ _ _ _,_,h=>h|.gone,_,h=>h
theorem aI.top {ρ:aV}{t t':Nat->Nat}(ht:∀u s,ρ.tk u=some s->t' s=t s):∀(x:List (au R.T))(v:List V),aI R ρ t x v->aI R ρ t' x v
 | [],_,h=>h|x::xs,_,⟨v,vs,e,h1,h2⟩=>⟨v,vs,e,aB.top ht x v h1,aI.top ht xs vs h2⟩
end
omit hR in
theorem jX.top {fr:Fr}{ρ:aV}{t t':Nat->Nat}(ht:∀u s,ρ.tk u=some s->t' s=t s){x:au R.T}{v:V}(h:jX fr ρ t x v):jX fr ρ t' x v:=by
 cases x with
 |opt j w y=>exact⟨fun hc=>aB.top ht y v (h.1 hc),h.2⟩
 |_=>exact .of (aB.top ht _ v h)
omit hR in
theorem O5 {ρ:aV}{σ σ':ak}{p:Nat}(hp:σ'.obj (ρ.aj.lc p)=σ.obj (ρ.aj.lc p))(ht:∀u s,ρ.tk u=some s->σ'.top s=σ.top s):∀{x:bA R.T},eZ ρ σ p x->eZ ρ σ' p x
 |.cells cs,h=>by obtain⟨s,l,h1,h2,h3⟩:=h;exact⟨s,l,h1,Gx,aI.top ht _ _ h3⟩
 |.map k e m,h=>by obtain⟨s,h1,h2⟩:=h;exact⟨s,h1,Ua⟩
 |.smap ks vs,h=>by obtain⟨s,k,l,h1,h2,h3,h4⟩:=h;exact⟨s,k,l,h1,Ua,aI.top ht _ _ h3,aI.top ht _ _ h4⟩
 |.arr t l,h=>by
  refine⟨h.1,?_⟩;rcases h.2 with h| ⟨s,cs,h1,h2,h3⟩
  ·exact .inl h
  ·exact .inr ⟨s,cs,h1,Gx,wY l cs h3⟩
 |.sg ss,h=>by obtain⟨s,h1,h2⟩:=h;exact⟨s,h1,Gx⟩
 |.gone,_=>trivial|.ro b,h=>O5 hp ht (x:=b) h
omit hR in
theorem aO.shift {ρ:aV}{b:Nat}{st:aH R.T}{fr:Fr}{σ σ':ak}(h:aO ρ b st fr σ)(hp:∀p,σ'.obj (ρ.aj.lc p)=σ.obj (ρ.aj.lc p))(ht:∀s,s<b->σ'.top s=σ.top s):aO ρ b st fr σ':={h with
 fr:=fun i v hv=>(h.fr i v hv).top fun u s hu=>ht s (h.lt u s hu)
 ob:=fun o x hx=>O5 (hp o) (fun u s hu=>ht s (h.lt u s hu)) (h.ob o x hx)}
omit hR in
theorem auo {top:Nat->Nat}{xs:List (au R.T)}{vs:List V}(h:aI R ρ top xs vs):aB R ρ top (agb xs) (bq vs):=by
 match xs,vs,h with
 | [],_,h=>rw[h.iq];exact⟨[],rfl,rfl⟩| [x],_,h=>obtain⟨v,l,rfl,h1,h2⟩:=h.dS;rw[h2.iq];exact h1
 |x::y::l,_,h=>obtain⟨v,ws,rfl,h1,h2⟩:=h.dS;obtain⟨w,us,rfl,h3,h4⟩:=h2.dS;exact⟨v::w::us,rfl,.cons' h1 (.cons' h3 h4)⟩
omit hR in
theorem ahG {m:List (Nat×Nat)}{A:List (au R.T)}{B:List (Nat×bA R.T)}:∀{l:List (mD R)}{r:mD R}{x:Option (av R.T r.res×eD R.T r.obs)},VF R m A B l=some ⟨r,x⟩->r∈l/\∃p q,dQ R r.args A=some p/\lF R B r.obs=some q/\yC m r.obs=true/\uh r.res=true/\og r.obs=true/\x=r.F p q
 | [],_,_,h=>bL|s::l,r,x,h=>by
  unfold VF at h;split at h
  ·rename_i p q hp hq
   obtain⟨hb,h⟩:=gH h;rw[aT,aT] at hb;cases h;exact⟨iw ..,p,q,hp,hq,hb.1,hb.2.1,hb.2.2,rfl⟩
  ·obtain⟨h1,h2⟩:=ahG h
   exact⟨iZ _ h1,h2⟩
def cZ.call (c:cZ)(aj:Bool)(lo:Nat)(ids:List Nat)(hnd:yB ids=true):cZ where
 aj:=aj
 dp:=c.dp+1
 lo:=lo
 fl:=fun p=>if F0<=p then (ids[p-F0]?).map c.lc else none
 lt:=fun p L h=>by
  split at h
  ·rename_i hp
   obtain⟨o,_,rfl⟩:=bf.1 h;exact⟨hp,Nat.lt_succ_of_le (c.vo o)⟩
  ·cases h
 inj:=fun p q L h g=>by
  split at h
  ·split at g
   ·rename_i hp hq
    obtain⟨o,h1,rfl⟩:=bf.1 h;obtain⟨o',h2,e⟩:=bf.1 g;have:=c.OG e;subst this;have:=ahD hnd h1 h2;omega
   ·cases g
  ·cases h
omit hR in
theorem cZ.aup {c:cZ}{aj:Bool}{lo:Nat}{ids:List Nat}{hnd:yB ids=true}{p o:Nat}(hp:F0<=p)(h:ids[p-F0]? =some o):(c.call aj lo ids hnd).lc p=c.lc o:=by unfold cZ.lc cZ.call;dsimp only;rw[if_pos hp,h];rfl
omit hR in
theorem cZ.Wp {c:cZ}{aj:Bool}{lo:Nat}{ids:List Nat}{hnd:yB ids=true}{L:Loc}(hL:L.1<=c.dp)(h:∀o∈ids,L≠c.lc o):(c.call aj lo ids hnd).out L:=by
 intro p e;unfold cZ.lc cZ.call at e;dsimp only at e;split at e
 ·rename_i M hM
  split at hM
  ·obtain⟨o,h1,rfl⟩:=bf.1 hM
   exact h o (pF h1) e
  ·cases hM
 ·rw[e] at hL;dsimp only at hL;omega
omit hR in
theorem aaR {m:List (Nat×Nat)}{A:List (au R.T)}{B:List (Nat×bA R.T)}:∀{l:List (mD R)}{r:mD R}{x:Option (tX R.T r.jB×eD R.T r.gV)},OB R m A B l=some ⟨r,x⟩->r∈l/\∃p q,dQ R r.args A=some p/\lF R B r.obs=some q/\yC m r.obs=true/\og r.obs=true/\og r.gV=true/\IK r.args A=true/\x=r.G p q
 | [],_,_,h=>bL|s::l,r,x,h=>by
  unfold OB at h;split at h
  ·rename_i p q hp hq
   cases hb:(s.jB.is&& (yC m s.obs&& og s.obs&& og s.gV)&& IK s.args A)
   ·rw[hb] at h
    obtain⟨h1,h2⟩:=aaR h;exact⟨iZ _ h1,h2⟩
   ·rw[hb] at h
    rw[aT,aT,aT,aT] at hb;cases h;exact⟨iw ..,p,q,hp,hq,hb.1.2.1.1,hb.1.2.1.2,hb.1.2.2,hb.2,rfl⟩
  ·obtain⟨h1,h2⟩:=aaR h
   exact⟨iZ _ h1,h2⟩
omit hR in
theorem auq {L' L:Loc}{s:Nat}{σ:ak}{v v':V}(h:L.1<=L'.1):wE L' L s σ v v'=(v,σ):=by unfold wE;rw[if_neg ah]
omit hR in
theorem aur {ρ:aV}{σ:ak}{L':Option Loc}{top:Nat->Nat}(hL:∀l p s,L'=some l->ρ.ob p=some s->(ρ.aj.lc p).1<=l.1):∀{l:List aC}{y:av R.T l}{vs:List V},uh l=true->aI R ρ top (eF R .any l y) vs->jD L' σ (bq vs)=(bq vs,σ)
 | [],_,vs,_,h=>by rw[aI.iq (show aI R ρ top [] vs from h)];rfl| [k],y,vs,hs,h=>by
   obtain⟨v,ws,rfl,h1,h2⟩:=aI.dS (ts:=[]) (show aI R ρ top [up R .any k y] vs from h);rw[h2.iq];show jD L' σ v=(v,σ)
   match k,y,hs,h1 with
   |.d (.int kd),y,_,h1=>have h3:v= .int kd y:=h1;rw[h3];rfl|.d .bool,y,_,h1=>have h3:v= .bool y:=h1;rw[h3];rfl|.d .str,y,_,h1=>have h3:v= .str y:=h1;rw[h3];rfl|.sub p t,y,hs,h1=>
    obtain⟨_,_,_,h3⟩:=aB.BA (R:=R) (o:=p) (t:=t) (a:=y.1) (b:=y.2) h1;rcases h3 with ⟨s,cp,hs,_,rfl⟩| ⟨_,c,rfl⟩
    ·unfold jD
     cases L' with
     |none=>rfl|some l=>exact auq (hL l p s rfl hs)
    ·rfl
 |k::k2::l,y,vs,_,h=>by
  obtain⟨v,ws,rfl,_,h2⟩:=aI.dS (show aI R ρ top (up R .any k y.1::eF R .any (k2::l) y.2) vs from h);have:∃w us,ws=w::us:=by
   cases l with
   |nil=>obtain⟨w,us,rfl,_,_⟩:=aI.dS (ts:=[]) (show aI R ρ top [up R .any k2 y.2] ws from h2);exact⟨_,_,rfl⟩
   |cons k3 l=>obtain⟨w,us,rfl,_,_⟩:=aI.dS (show aI R ρ top (up R .any k2 y.2.1::eF R .any (k3::l) y.2.2) ws from h2);exact⟨_,_,rfl⟩
  obtain⟨w,us,rfl⟩:=this;rfl
def aV.call (ρ:aV)(aj:Bool)(lo:Nat)(ids:List Nat)(hnd:yB ids=true):aV:=⟨fun p=>if F0<=p then (ids[p-F0]?).bind ρ.ob else none,fun _=>none,fun p=>if F0<=p then (match ids[p-F0]? with|some o=>ρ.ln o|none=>0) else 0,ρ.aj.call aj lo ids hnd⟩
omit hR in
theorem aV.Wq {aj:Bool}{lo:Nat}{ids:List Nat}{hnd:yB ids=true}{p o:Nat}(h1:F0<=p)(h2:ids[p-F0]? =some o):(ρ.call aj lo ids hnd).aj.lc p=ρ.aj.lc o/\(ρ.call aj lo ids hnd).ob p=ρ.ob o/\(ρ.call aj lo ids hnd).ln p=ρ.ln o:=by
 refine⟨cZ.aup (hnd:=hnd) h1 h2,?_,?_⟩
 ·show (if F0<=p then (ids[p-F0]?).bind ρ.ob else none)=_
  rw[if_pos h1,h2];rfl
 ·show (if F0<=p then (match ids[p-F0]? with|some o=>ρ.ln o|none=>0) else 0)=_
  rw[if_pos h1,h2]
theorem ahH (hi:aO ρ aK st fr σ)(hsn:aK<=σ.next){ids:List Nat}(hnd:yB ids=true)(qc:Bool){A:List (au R.T)}{vA:List V}(hA:aI R ρ σ.top A vA){args:List aC}{obs:List (Nat×fA)}{p:av R.T args}{q:eD R.T obs}(hp:dQ R args (wV (iW ids F0) A)=some p)(hq:lF R (Bw st (iW ids F0)) obs=some q)(hks:yC (iW ids F0) obs=true)(hok:og obs=true):
 aI R (ρ.call qc σ.next ids hnd) σ.top (eF R .any args p) vA/\(∀o x,look (iF R obs q) o=some x->eZ (ρ.call qc σ.next ids hnd) σ o x)/\
 (∀q' σ',(∀o x,look (iF R obs q') o=some x->eZ (ρ.call qc σ.next ids hnd) σ' o x)->σ.next<=σ'.next->(∀l,l<σ.next->σ'.loops l=σ.loops l)->(∀s,s<σ.next->σ'.top s=σ.top s)->
   (∀L:Loc,L.1<=ρ.aj.dp+1->(ρ.aj.call qc σ.next ids hnd).out L->σ'.obj L=σ.obj L)->
   aO ρ (aK+1) (⟨st.fr,qD (iW ids F0) (iF R obs q')++st.ob⟩:aH R.T) fr σ'/\∀p,bF false p st ρ σ (⟨st.fr,qD (iW ids F0) (iF R obs q')++st.ob⟩:aH R.T) ρ σ')/\
 ∀(xs:List (au R.T))(ws:List V)(top:Nat->Nat),aI R (ρ.call qc σ.next ids hnd) top xs ws->aI R ρ top (wV (OA (iW ids F0)) xs) ws:=by
 have hρ:∀{p o},F0<=p->ids[p-F0]? =some o->(ρ.call qc σ.next ids hnd).aj.lc p=ρ.aj.lc o/\(ρ.call qc σ.next ids hnd).ob p=ρ.ob o/\(ρ.call qc σ.next ids hnd).ln p=ρ.ln o:=fun {p o} h1 h2=>aV.Wq h1 h2;have hm:∀o p,look (iW ids F0) o=some p->(ρ.call qc σ.next ids hnd).aj.lc p=ρ.aj.lc o/\(ρ.call qc σ.next ids hnd).ob p=ρ.ob o/\(ρ.call qc σ.next ids hnd).ln p=ρ.ln o:=fun o p hp=>by obtain⟨h1,h2⟩:=aaP hp;exact hρ h1 h2
 refine⟨Aa hR args p _ _ hp (aI.ren hm _ _ hA),fun i w hw=>?_,?_,fun xs ws top h=>aI.ren (ρ:=ρ.call qc σ.next ids hnd) (fun p' o' hpo=>by obtain⟨h1,h2⟩:=ahC hpo;obtain⟨e1,e2,e3⟩:=hρ h1 h2;exact⟨e1.symm,e2.symm,e3.symm⟩) _ _ h⟩
 ·obtain⟨kk,yy,z,h1,h2,rfl,h4⟩:=Jc obs q hq i w hw
  obtain⟨o',h5,h6,h7⟩:=Wo h1;obtain⟨e1,e2,e3⟩:=hρ h5 h6;exact O4 (h4 hok) e2 e3 e1 (OL hR h2 (hi.ob _ _ h7))
 ·intro q' σ' Fz hnx hlp htp hout
  have hst:∀s,s<aK->σ'.top s=σ.top s:=fun s hs=>htp s (gM hs hsn);have hno:∀o',o'∉ids->σ'.obj (ρ.aj.lc o')=σ.obj (ρ.aj.lc o'):=fun o' ho'=>
   hout _ (Nat.le_succ_of_le (ρ.aj.vo o')) (cZ.Wp (hnd:=hnd) (ρ.aj.vo o') fun o'' h2 e=>ho' (by rw[ρ.aj.OG e];exact h2))
  refine⟨{
   d:=hi.d
   aj:=hi.aj
   fr:=fun i w hw=>(hi.fr i w hw).top fun u s hu=>hst s (hi.lt u s hu)
   ob:=fun o' w hw=>by
    have hw':look (qD (iW ids F0) (iF R obs q')++st.ob) o'=some w:=hw;rw[yH] at hw';split at hw'
    ·rename_i z hz
     cases hw';obtain⟨p',h1,h2,h3⟩:=OZ hz;obtain⟨kk,zz,h4,rfl⟩:=aaQ hok h3;obtain⟨e1,e2,e3⟩:=hρ h1 h2;exact O4 h4 e2.symm e3.symm e1.symm (Fz _ _ h3)
    ·rename_i hz
     have hn:=ahE (fun p' h1 h2=>O1 hks p' h1 h2) hz;exact O5 (hno o' hn) (fun u s hu=>hst s (hi.lt u s hu)) (hi.ob _ _ hw')
   inj:=hi.inj
   lt:=fun t s ht=>Nat.lt_succ_of_lt (hi.lt t s ht)
   ge:=hi.ge
   nx:=Nat.le_succ_of_le hi.nx},?_⟩
  intro p';refine⟨rfl,rfl,rfl,hnx,⟨hlp,fun s hs=>hst s (gM hs hi.nx)⟩,fun L hL ho=>?_,fun hro=>?_⟩
  ·have hL':L.1<=ρ.aj.dp:=by rcases hL with e|e;cases e;exact e
   exact hout L (Nat.le_succ_of_le hL') (cZ.Wp (hnd:=hnd) hL' fun o' _=>ho o')
  ·have hn:p'∉ids:=by
    intro hmem;obtain⟨i,hi'⟩:=List.getElem?_of_mem hmem;have hlt:i<ids.length:=by
     rcases Nat.lt_or_ge i ids.length with h|h
     ·exact h
     ·rw[List.getElem?_eq_none h] at hi';cases hi'
    obtain⟨w,hw⟩:=O1 (q:=q) hks (F0+i) (gF _ _) ah;obtain⟨kk,yy,z,h1,h2,_,_⟩:=Jc obs q hq _ _ hw;obtain⟨o',h5,h6,h7⟩:=Wo h1;rw[GL,hi'] at h6;cases h6;exact VZ h2 (hro _ h7)
   refine⟨fun w hw=>?_,fun s=>?_⟩
   ·have hw':look (qD (iW ids F0) (iF R obs q')++st.ob) p'=some w:=hw
    rw[yH] at hw';split at hw'
    ·rename_i z hz
     obtain⟨p'',h1,h2,h3⟩:=OZ hz;exact absurd (pF h2) hn
    ·exact hro _ hw'
   ·unfold ak.bQ ak.gB
    rw[hno p' hn];exact⟨rfl,rfl⟩
omit hR in
theorem aaS {α:Type}{o:Nat}{w:α}:∀{is:List Nat}{l:List (Nat×α)},look (E9 is l) o=some w->o∉is/\look l o=some w
 | [],l,h=>⟨aD,h⟩|i::is,l,h=>by
  obtain⟨h1,h2⟩:=aaS (is:=is) (l:=jE i l) h;by_cases e:o=i
  ·subst e;rw[Wh] at h2;cases h2
  ·rw[qG e] at h2
   exact⟨by simp[e,h1],h2⟩
omit hR in
theorem ahI {k k':aC}{l:List aC}{c:au R.T}{cs:List (au R.T)}{p:av R.T (k::k'::l)}(h:dQ R (k::k'::l) (c::cs)=some p):∃y z,pk R k c=some y/\dQ R (k'::l) cs=some z/\p=(y,z):=by
 unfold dQ at h;cases h1:pk R k c with
 |none=>simp only[h1] at h;cases h|some y=>
  cases h2:dQ R (k'::l) cs with
  |none=>simp only[h1,h2] at h;cases h|some z=>simp only[h1,h2] at h;cases h;exact⟨y,z,rfl,rfl,rfl⟩
theorem ahJ {top:Nat->Nat}{k:aC}{x:qA R.T k}{tv:au R.T}{v:V}(hc:okV k tv=true)(h:pk R k tv=some x)(hr:aB R ρ top tv v):aB R ρ top (up R .sh k x) v:=by
 unfold okV at hc;rw[oF] at hc;rcases hc with hc|hc
 ·cases k<;>first| (cases hc;done)|skip
  exact OJ hR _ x tv v h hr
 ·simp only[aT] at hc
  have e:=aaK hR k x tv v hc.1.1 h hr 19 ak.init (by have:=lN hc.2;omega);rw[mY (n:=18) (OU hR tv v hc.1.2 hr)] at e;cases e;exact aaM hR k x hc.1.1
theorem aaT {top:Nat->Nat}:∀{l:List aC}{x:av R.T l}{fJ:List (au R.T)}{vs:List V},E8 l fJ=true->dQ R l fJ=some x->aI R ρ top fJ vs->aI R ρ top (eF R .sh l x) vs
 | [],x,fJ,vs,hc,h,hr=>by
   cases fJ with
   |nil=>rw[hr.iq];rfl|cons c cs=>cases hc
 | [k],x,fJ,vs,hc,h,hr=>by
   match fJ,hc,h,hr with
   | [t],hc,h,hr=>obtain⟨v,ws,rfl,h1,h2⟩:=hr.dS;rw[h2.iq];have hc':(okV k t&& true)=true:=hc;rw[Bool.and_true] at hc';exact .cons' (ahJ hR hc' h h1) rfl
   |t::u::l,hc,h,hr=>cases h
 |k::q::l,x,fJ,vs,hc,h,hr=>by
  match fJ,hc,h,hr with
  |t::ts,hc,h,hr=>obtain⟨v,ws,rfl,h1,h2⟩:=hr.dS;have hc':(okV k t&& E8 (q::l) ts)=true:=hc;rw[aT] at hc';obtain⟨y,z,e1,e2,rfl⟩:=ahI h;exact .cons' (ahJ hR hc'.1 e1 h1) (aaT hc'.2 e2 h2)
theorem ahK {top:Nat->Nat}{k:aC}{x:qA R.T k}{tv:au R.T}{v:V}(hc:VG k tv=true)(h:pk R k tv=some x)(hr:aB R ρ top tv v):aB R ρ top (up R (Z9 k) k x) v:=by
 cases k<;>first|exact OJ hR _ x tv v h hr|skip
 rename_i f a b;cases tv<;>first| (cases hc;done)|skip
 rename_i f' a' b';have hc':(E8 a a'&& E8 b b')=true:=hc;rw[aT] at hc';have h':(bif Nat.beq f' f then (match dQ R a a' with
  |some x=>match dQ R b b' with
   |some y=>some (x,y)|none=>none
  |none=>none) else none)=some x:=h
 obtain⟨hf,hm⟩:=gH h';clear h' h;have hf:=iK hf;subst hf;cases ha:dQ R a a' with
 |none=>rw[ha] at hm;cases hm|some xa=>
  cases hb:dQ R b b' with
  |none=>simp only[ha,hb] at hm;cases hm|some xb=>simp only[ha,hb] at hm;cases hm;obtain⟨va,vb,rfl,r1,r2⟩:=hr.lG;show aB R ρ top (.fn f' (eF R .sh a xa) (eF R .sh b xb)) _;unfold aB;exact⟨va,vb,rfl,aaT hR hc'.1 ha r1,aaT hR hc'.2 hb r2⟩
theorem ahL {top:Nat->Nat}:∀{l:List aC}{x:av R.T l}{fJ:List (au R.T)}{vs:List V},dQ R l fJ=some x->aI R ρ top fJ vs->IK l fJ=true->aI R ρ top (Dq R l x) vs
 | [],x,fJ,vs,h,hr,hc=>by
   cases fJ with
   |nil=>rw[hr.iq];rfl|cons c cs=>cases h
 | [k],x,fJ,vs,h,hr,hc=>by
   match fJ,hc,h,hr with
   | [t],hc,h,hr=>obtain⟨v,ws,rfl,h1,h2⟩:=hr.dS;rw[h2.iq];have hc':(VG k t&& true)=true:=hc;rw[Bool.and_true] at hc';exact .cons' (ahK hR hc' h h1) rfl
   |t::u::l,hc,h,hr=>cases h
 |k::q::l,x,fJ,vs,h,hr,hc=>by
  match fJ,hc,h,hr with
  |t::ts,hc,h,hr=>obtain⟨v,ws,rfl,h1,h2⟩:=hr.dS;have hc':(VG k t&& IK (q::l) ts)=true:=hc;rw[aT] at hc';obtain⟨y,z,e1,e2,rfl⟩:=ahI h;exact .cons' (ahK hR hc'.1 e1 h1) (ahL e2 h2 hc'.2)
theorem aus (hi:aO ρ aK st fr σ)(hsn:aK<=σ.next){ids:List Nat}(hnd:yB ids=true)(qc:Bool){obs gV:List (Nat×fA)}{q:eD R.T obs}(hq:lF R (Bw st (iW ids F0)) obs=some q)(hks:yC (iW ids F0) obs=true)(hok:og gV=true):
 ∀(q':eD R.T gV) σ',(∀o x,look (iF R gV q') o=some x->eZ (ρ.call qc σ.next ids hnd) σ' o x)->σ.next<=σ'.next->(∀l,l<σ.next->σ'.loops l=σ.loops l)->(∀s,s<σ.next->σ'.top s=σ.top s)->
  (∀L:Loc,L.1<=ρ.aj.dp+1->(ρ.aj.call qc σ.next ids hnd).out L->σ'.obj L=σ.obj L)->
  aO ρ (aK+1) (⟨st.fr,qD (iW ids F0) (iF R gV q')++E9 ids st.ob⟩:aH R.T) fr σ'/\∀p,bF false p st ρ σ (⟨st.fr,qD (iW ids F0) (iF R gV q')++E9 ids st.ob⟩:aH R.T) ρ σ':=by
 intro q' σ' Fz hnx hlp htp hout;have hρ:∀{p o},F0<=p->ids[p-F0]? =some o->(ρ.call qc σ.next ids hnd).aj.lc p=ρ.aj.lc o/\(ρ.call qc σ.next ids hnd).ob p=ρ.ob o/\(ρ.call qc σ.next ids hnd).ln p=ρ.ln o:=fun {p o} h1 h2=>aV.Wq h1 h2;have hst:∀s,s<aK->σ'.top s=σ.top s:=fun s hs=>htp s (gM hs hsn);have hno:∀o',o'∉ids->σ'.obj (ρ.aj.lc o')=σ.obj (ρ.aj.lc o'):=fun o' ho'=>
  hout _ (Nat.le_succ_of_le (ρ.aj.vo o')) (cZ.Wp (hnd:=hnd) (ρ.aj.vo o') fun o'' h2 e=>ho' (by rw[ρ.aj.OG e];exact h2))
 refine⟨{
  d:=hi.d
  aj:=hi.aj
  fr:=fun i w hw=>(hi.fr i w hw).top fun u s hu=>hst s (hi.lt u s hu)
  ob:=fun o' w hw=>by
   have hw':look (qD (iW ids F0) (iF R gV q')++E9 ids st.ob) o'=some w:=hw;rw[yH] at hw';split at hw'
   ·rename_i z hz
    cases hw';obtain⟨p',h1,h2,h3⟩:=OZ hz;obtain⟨kk,zz,h4,rfl⟩:=aaQ hok h3;obtain⟨e1,e2,e3⟩:=hρ h1 h2;exact O4 h4 e2.symm e3.symm e1.symm (Fz _ _ h3)
   ·obtain⟨h1,h2⟩:=aaS (is:=ids) hw'
    exact O5 (hno o' h1) (fun u s hu=>hst s (hi.lt u s hu)) (hi.ob _ _ h2)
  inj:=hi.inj
  lt:=fun t s ht=>Nat.lt_succ_of_lt (hi.lt t s ht)
  ge:=hi.ge
  nx:=Nat.le_succ_of_le hi.nx},?_⟩
 intro p';refine⟨rfl,rfl,rfl,hnx,⟨hlp,fun s hs=>hst s (gM hs hi.nx)⟩,fun L hL ho=>?_,fun hro=>?_⟩
 ·have hL':L.1<=ρ.aj.dp:=by rcases hL with e|e;cases e;exact e
  exact hout L (Nat.le_succ_of_le hL') (cZ.Wp (hnd:=hnd) hL' fun o' _=>ho o')
 ·have hn:p'∉ids:=by
   intro hmem;obtain⟨i,hi'⟩:=List.getElem?_of_mem hmem;have hlt:i<ids.length:=by
    rcases Nat.lt_or_ge i ids.length with h|h
    ·exact h
    ·rw[List.getElem?_eq_none h] at hi';cases hi'
   obtain⟨w,hw⟩:=O1 (q:=q) hks (F0+i) (gF _ _) ah;obtain⟨kk,yy,z,h1,h2,_,_⟩:=Jc obs q hq _ _ hw;obtain⟨o',h5,h6,h7⟩:=Wo h1;rw[GL,hi'] at h6;cases h6;exact VZ h2 (hro _ h7)
  refine⟨fun w hw=>?_,fun s=>?_⟩
  ·have hw':look (qD (iW ids F0) (iF R gV q')++E9 ids st.ob) p'=some w:=hw
   rw[yH] at hw';split at hw'
   ·rename_i z hz
    obtain⟨p'',h1,h2,h3⟩:=OZ hz;exact absurd (pF h2) hn
   ·exact hro _ (aaS (is:=ids) hw').2
  ·unfold ak.bQ ak.gB
   rw[hno p' hn];exact⟨rfl,rfl⟩
omit hR in
theorem aO.O6 (h:aO ρ b st fr σ){L:Loc}(hL:ρ.aj.dp<L.1):aO ρ b st fr (σ.eu L):=h.shift (fun p=>by
 have:=ρ.aj.vo p;show upd σ.obj L none (ρ.aj.lc p)=_;exact upd_ne _ _ (fun e=>by rw[e] at this;omega)) fun _ _=>rfl
omit hR in
theorem bF.O6 {o:Nat}{L:Loc}(hL:ρ.aj.dp<L.1):bF false o st ρ σ st ρ (σ.eu L):=by
 have hne:∀M:Loc,M.1<=ρ.aj.dp->(σ.eu L).obj M=σ.obj M:=fun M hM=>by show upd σ.obj L none M=_;exact upd_ne _ _ (fun e=>by rw[e] at hM;omega)
 refine⟨rfl,rfl,rfl,iP _,⟨fun _ _=>rfl,fun _ _=>rfl⟩,fun M hM _=>hne M (by rcases hM with e|e;cases e;exact e),fun hr=>⟨hr,fun s=>?_⟩⟩;unfold ak.bQ ak.gB;rw[hne _ (ρ.aj.vo o)];exact⟨rfl,rfl⟩
omit hR in
theorem bF.aut {nr:Bool}{o:Nat}{st st':aH R.T}{ρ ρ':aV}{σ σ':ak}(h:bF true o st ρ σ st' ρ' σ'):bF nr o st ρ σ st' ρ' σ':=⟨h.ob,h.ln,h.aj,h.nx,h.lp,fun L _=>h.dp L (.inl rfl),h.ro⟩
theorem auu {β:Type}{mid:aH R.T}{d:Nat}(hd':E.cn d<F0)(hd:o.dst=some d){jB:sw}{y:tX R.T jB}{k:aH R.T->Option β}{x:β}(h:agc R d (E.cn d) jB y mid k=some x){aaU:aV}(hc:aaU.aj.dp=ρ.aj.dp+1){v:V}{σ1:ak}(hi:aO ρ b mid fr σ1)(hv:Jb aaU σ1 jB y v):∃jl st1,aO jl b st1 (fr.put o.dst (jD (qz E fr.d o.dst) σ1 v).1) (jD (qz E fr.d o.dst) σ1 v).2/\(∀p,nA E o p->bF false p mid ρ σ1 st1 jl (jD (qz E fr.d o.dst) σ1 v).2)/\k st1=some x:=by
 have hL:qz E fr.d o.dst=some (ρ.aj.lc (E.cn d)):=by unfold qz;rw[hd,cZ.Fj _ hd',hi.d];rfl
 rw[hL];have hlt:(ρ.aj.lc (E.cn d)).1=ρ.aj.dp:=by rw[cZ.Fj _ hd']
 have ahM:∀{L:Loc}{s:Nat}{ob:iN}{v v':V},aaU.aj.dp<=L.1->σ1.obj L=some (s,ob)->wE (ρ.aj.lc (E.cn d)) L s σ1 v v'=(v',(σ1.eu L).setObj (ρ.aj.lc (E.cn d)) s ob):=fun {L s ob v v'} h1 h2=>by unfold wE;rw[if_pos (by rw[hlt];omega),h2];dsimp only;rw[if_pos rfl]
 cases jB with
 |no=>exact hv.elim|arr t=>
  have hk:k ((mid.new (E.cn d) (.arr t y)).put d (.aM (E.cn d) t))=some x:=h;rcases hv with ⟨L,s,cs,h1,rfl,h2,h3⟩| ⟨h1,h2⟩
  ·have e:jD (some (ρ.aj.lc (E.cn d))) σ1 (.aM L s 0 (List.length y) (List.length y) (dA R t) (jq t))=(.aM (ρ.aj.lc (E.cn d)) s 0 (List.length y) (List.length y) (dA R t) (jq t),(σ1.eu L).setObj (ρ.aj.lc (E.cn d)) s (.cells cs)):=ahM h1 h2
   rw[e];have O7:ρ.aj.dp<L.1:=ah
   have yI:=(hi.O6 O7).Fv (E.cn d) s (List.length y) (x:=.arr t y) (a:=.cells cs) ⟨(wZ (ρ:=ρ.mI (E.cn d) s)).symm,.inr ⟨s,cs,vY (ρ:=ρ),zP _ _ _ _,wY y cs h3⟩⟩;refine⟨ρ.yG (E.cn d) s (List.length y),_,?_,fun p hp=>?_,hk⟩
   ·rw[hd]
    refine yI.put d (.of ?_);unfold aB;exact .inl ⟨s,vY (ρ:=ρ),by rw[show (ρ.yG (E.cn d) s (List.length y)).ln (E.cn d)=List.length y from wZ (ρ:=ρ.mI (E.cn d) s)];rfl⟩
   ·have sM:p≠E.cn d:=fun e=>hp.2 _ hd e.symm
    exact(bF.O6 O7).trans (bF.congr (bF.Fv sM).aut rfl)
  ·have hy:y=([]:List (Den R.T t)):=h1
   have e:jD (some (ρ.aj.lc (E.cn d))) σ1 v=(v,σ1):=by rcases h2 with rfl|rfl<;>rfl
   rw[e];have yI:=hi.ghost (E.cn d) t;refine⟨ρ.gh (E.cn d),_,?_,fun p hp=>?_,by rw[hy] at hk;exact hk⟩
   ·rw[hd]
    refine yI.put d (.of ?_);unfold aB;exact .inr ⟨wZ (ρ:=ρ) (n:=0),h2⟩
   ·have sM:p≠E.cn d:=fun e=>hp.2 _ hd e.symm
    exact⟨(p9 p sM).1,(p9 p sM).2,rfl,iP _,⟨fun _ _=>rfl,fun _ _=>rfl⟩,fun _ _ _=>rfl,fun hr=>⟨((bF.new (nr:=true) (ρ:=ρ) (σ:=σ1) (s:=0) (a:=.cells []) sM).ro hr).1,fun _=>⟨rfl,rfl⟩⟩⟩
 |Ia g a b' cs=>
  obtain⟨y1,y2,y3⟩:=y;obtain⟨L,s,c,h1,rfl,h2,h5,h6⟩:=hv;have h':(bif nO (E.cn d) (eF R .any cs y3) then none else k ((mid.new (E.cn d) (.cells (eF R .any cs y3))).put d (.fn g (eF R .sh a y1) (.ref (E.cn d) 0::eF R .sh b' y2))))=some x:=h;cases hm:nO (E.cn d) (eF R .any cs y3)
  ·rw[hm,cond_false] at h'
   simp only[aT] at h6;have e:jD (some (ρ.aj.lc (E.cn d))) σ1 (.fn (.func g) (aF R a y1) (.ref L s 0::aF R b' y2))=(.fn (.func g) (aF R a y1) (.ref (ρ.aj.lc (E.cn d)) s 0::aF R b' y2),(σ1.eu L).setObj (ρ.aj.lc (E.cn d)) s (.cells c)):=ahM h1 h2;rw[e];have O7:ρ.aj.dp<L.1:=ah
   have hid:=hi.O6 O7;have yI:aO (ρ.mI (E.cn d) s) b (mid.new (E.cn d) (.cells (eF R .any cs y3))) fr ((σ1.eu L).setObj (ρ.aj.lc (E.cn d)) s (.cells c)):=
    hid.new (E.cn d) s ⟨s,c,vY,zP _ _ _ _,Fy h6.2.2 h5⟩
   refine⟨ρ.mI (E.cn d) s,_,?_,fun p hp=>?_,h'⟩
   ·rw[hd]
    refine yI.put d (.of ?_);unfold aB;exact⟨aF R a y1,_,rfl,xk hR a y1 h6.1,.cons' (by unfold aB;exact⟨s,vY,rfl⟩) (xk hR b' y2 h6.2.1)⟩
   ·have sM:p≠E.cn d:=fun e=>hp.2 _ hd e.symm
    exact(bF.O6 O7).trans (bF.congr (bF.new sM) rfl)
  ·rw[hm,cond_true] at h';cases h'
theorem aaV {β:Type}{M:Nat->List (mD R)}(hM:OY E M)(gW:∀d,o.dst=some d->d<F0)(hi:aO ρ aK st fr σ)(hsn:aK<=σ.next){k:aH R.T->Option β}{x:β}(h:Fa E R M o st k=some x):
 ∃c f g a vb,o.op= .call c/\c.callee= .value f/\fr.ev E f= .fn (.func g) a vb/\E.imp g=true/\mX E g (a++c.args.toList.map (fr.ev E)++vb) (fr.d+1) σ fun v σ1=>∃jl st1,aO jl (aK+1) st1 (fr.put o.dst (jD (qz E fr.d o.dst) σ1 v).1) (jD (qz E fr.d o.dst) σ1 v).2/\σ.next<=(jD (qz E fr.d o.dst) σ1 v).2.next/\(∀p,nA E o p->bF false p st ρ σ st1 jl (jD (qz E fr.d o.dst) σ1 v).2)/\k st1=some x:=by
 unfold Fa at h;split at h
 ·rename_i c hop
  split at h
  ·rename_i f fE
   split at h
   ·rename_i g a' b' vs hf hvs
    obtain⟨hnd,h⟩:=gH h;generalize aEC:pY (a'++vs++b') []=ids at*;obtain⟨va,vb,NW,hva,hvb⟩:=(dw (E:=E) hi .nil hf).lG;have hA:=(hva.append (BD (E:=E) hi .nil hvs)).append hvb;have hdp:∀aj lo,(ρ.call aj lo ids hnd).aj.dp=ρ.aj.dp+1:=fun _ _=>rfl;split at h
    ·rename_i d r x' hd hfn
     cases hcn:Nat.ble F0 (E.cn d)
     ·rw[hcn,cond_false] at h
      have hd':E.cn d<F0:=by
       rcases Nat.lt_or_ge (E.cn d) F0 with h|h
       ·exact h
       ·rw[Nat.ble_eq_true_of_le h] at hcn;cases hcn
      obtain⟨⟨y,q'⟩,hy,hk⟩:=iR.1 h;obtain⟨hr,p,q,hp,hq,hks,hok,hok2,hch,rfl⟩:=aaR hfn;obtain⟨himp,_,hF⟩:=hM g r hr;obtain⟨m1,m2,m3,m4⟩:=ahH hR hi hsn hnd (E.aj g) hA hp hq hks hok;have aaW:=ahL hR hp (aI.ren (ρ:=ρ) (ρ':=ρ.call (E.aj g) σ.next ids hnd) (fun o p hp=>by obtain⟨h1,h2⟩:=aaP hp;exact aV.Wq h1 h2) _ _ hA) hch;obtain⟨n,v,σ',hcall,hnew,Fz,hnx,hlp,htp,hout⟩:=hF p q y q' hy (ρ.call (E.aj g) σ.next ids hnd) (va++c.args.toList.map (fr.ev E)++vb) σ rfl (fun _=>rfl) (iP _) aaW m2;obtain⟨yI,hkp⟩:=aus hR hi hsn hnd (E.aj g) hq hks hok2 q' σ' Fz hnx hlp htp hout;obtain⟨jl,st1,i1,i2,i3⟩:=auu hR hd' hd hk (hdp _ _) yI hnew;refine⟨c,f,g,va,vb,hop,fE,NW,himp,n,v,σ',by rw[hi.d];exact hcall,jl,st1,i1,?_,fun p hp=>(hkp p).trans (i2 p hp),i3⟩;rw[EH];exact hnx
     ·rw[hcn,cond_true] at h;cases h
    ·split at h
     ·rename_i r x' hfm
      obtain⟨⟨y,q'⟩,hy,hk⟩:=iR.1 h;obtain⟨hr,p,q,hp,hq,hks,hsc,hok,rfl⟩:=ahG hfm;obtain⟨himp,hF,_⟩:=hM g r hr;obtain⟨m1,m2,m3,m4⟩:=ahH hR hi hsn hnd (E.aj g) hA hp hq hks hok;obtain⟨n,v,σ',hcall,⟨aED,hv,hwz⟩,Fz,hnx,hlp,htp,hout⟩:=hF p q y q' hy (ρ.call (E.aj g) σ.next ids hnd) (va++c.args.toList.map (fr.ev E)++vb) σ rfl (fun _=>rfl) (iP _) m1 m2;obtain⟨yI,hkp⟩:=m3 q' σ' Fz hnx hlp htp hout;have zL:jD (qz E fr.d o.dst) σ' v=(v,σ'):=by
       rw[hv];refine aur (fun l p s hl hs=>?_) hsc hwz;have hs':(if F0<=p then (ids[p-F0]?).bind ρ.ob else none)=some s:=hs;split at hs'
       ·rename_i h1
        obtain⟨i,h2,_⟩:=iR.1 hs';rw[(aV.Wq (ρ:=ρ) (aj:=E.aj g) (lo:=σ.next) (hnd:=hnd) h1 h2).1];unfold qz at hl;obtain⟨t,_,rfl⟩:=bf.1 hl;show _<=fr.d;rw[hi.d];exact ρ.aj.vo i
       ·cases hs'
      refine⟨c,f,g,va,vb,hop,fE,NW,himp,n,v,σ',by rw[hi.d];exact hcall,ρ,_,?_,?_,?_,hk⟩
      ·rw[zL,hv]
       exact yI.gN o.dst (auo (m4 _ _ _ hwz))
      ·rw[zL];exact hnx
      ·intro p _
       rw[zL];exact bF.congr (hkp p) AY
     ·cases h
   ·cases h
  ·cases h
 ·cases h
theorem auv {β:Type}{M:Nat->List (mD R)}(hM:OY E M)(hi:aO ρ aK st fr σ){k:aH R.T->Option β}{x:β}(h:OC E R M o st k=some x)(hown:ny E st o=true):
 ∃c f g a vb d dz m v0 v σ1 σ2,o.op= .call c/\c.callee= .value f/\fr.ev E f= .fn (.func g) a vb/\o.dst=some d/\E.own g d=true/\E.imp g=true/\rX (E.zC g) σ (a++c.args.toList.map (fr.ev E)++vb)=some dz/\
  (a++c.args.toList.map (fr.ev E)++vb).all (fun x=>aW (er x))=true/\(dX E m).call g dz 1 ak.init=some (v0,σ1)/\zH σ aK (some (fr.d,E.cn d)) σ1 v0=some (v,σ2)/\σ2.next=σ.next/\E.cn d<F0/\
  ∃jl st1,aO jl (aK+1) st1 (fr.put o.dst v) σ2/\(∀p,nA E o p->bF true p st ρ σ st1 jl σ2)/\k st1=some x:=by
 unfold OC at h;cases h
end
end aR
