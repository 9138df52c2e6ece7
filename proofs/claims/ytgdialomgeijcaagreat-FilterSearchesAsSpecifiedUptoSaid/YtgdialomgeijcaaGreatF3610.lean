import Derived.Test.YtgdialomgeijcaaGreatF3609
set_option linter.all false
section
namespace Aq
open Go
section
variable {R:Tx}{E:Env}{Z Z':ak}{b L6:Nat}{st:MS R.T}{fr:Fr}{Y:qd}{o:Oper}(hR:VF R)
include hR
def ado (E:Env)(g:Nat)(r:FM R):Prop:=∀p q y q',r.F p q=some (y,q')->∀(Z:ak)(vs:List V)(Y:qd),Z.om.om=E.om g->(∀t,Z.tk t=none)->Z.om.lo<=Y.next->
 ah R Z Y.top (Tn R .any r.args p) vs->(∀o x,look (Ue R r.obs q) o=some x->aM Z Y o x)->
 U9 E g vs Z.om.dp Y fun v Y'=>(∃ws,v=Sy ws/\ah R Z Y'.top (Tn R .any r.res y) ws)/\(∀o x,look (Ue R r.obs q') o=some x->aM Z Y' o x)/\Y.next<=Y'.next/\(∀l,l<Y.next->Y'.loops l=Y.loops l)/\(∀s,s<Z.om.lo->Y'.top s=Y.top s)/\
  ∀L:Loc,L.1<=Z.om.dp->Z.om.out L->Y'.obj L=Y.obj L
def sG (E:Env)(M:Nat->List (FM R)):Prop:=∀g,∀r∈M g,E.imp g=true/\ado E g r
omit hR in
theorem Dw {i:Nat}:∀{l:List Nat},Rk i l=true->i∈l
 | [],h=>by cases h|j::l,h=>by
  have h':(Nat.beq i j||Rk i l)=true:=h;rw[QA] at h';rcases h' with h'|h'
  .rw[bn h'];exact PN ..
  .exact PV _ (Dw h')
omit hR in
theorem xO {i:Nat}:∀{l:List Nat},i∈l->Rk i l=true
 | [],h=>by cases h|j::l,h=>by
  show (Nat.beq i j||Rk i l)=true;rw[QA];rcases PI.1 h with h|h
  .left;rw[h];exact Qs _
  .right;exact xO h
omit hR in
theorem Dx:∀{l:List Nat}{n o p:Nat},look (Ui l n) o=some p->n<=p/\l[p-n]? =some o
 | [],_,_,_,h=>by cases h|a::l,n,o,p,h=>by
  have h':look ((a,n)::Ui l (n+1)) o=some p:=h;by_cases e:o=a
  .subst e;rw[bL] at h';cases h';exact⟨mF _,by simp⟩
  .rw[aX _ _ e] at h';obtain⟨h1,h2⟩:=Dx h';refine⟨by omega,?_⟩;have:p-n=(p-(n+1))+1:=by omega
   rw[this];simpa using h2
omit hR in
theorem Dy:∀{l:List Nat}{n o p:Nat},look (afe (Ui l n)) p=some o->n<=p/\l[p-n]? =some o
 | [],_,_,_,h=>by cases h|a::l,n,o,p,h=>by
  have h':look ((n,a)::afe (Ui l (n+1))) p=some o:=h;by_cases e:p=n
  .subst e;rw[bL] at h';cases h';exact⟨mF _,by simp⟩
  .rw[aX _ _ e] at h';obtain⟨h1,h2⟩:=Dy h';refine⟨by omega,?_⟩;have:p-n=(p-(n+1))+1:=by omega
   rw[this];simpa using h2
omit hR in
theorem Dz:∀{l:List Nat},ndB l=true->∀{i j o:Nat},l[i]? =some o->l[j]? =some o->i=j
 | [],_,i,j,o,hi,_=>by simp at hi|a::l,h,i,j,o,hi,hj=>by
  have h':(!(Rk a l)&& ndB l)=true:=h;rw[Pz,Qw] at h';cases i with
  |zero=>
   cases j with
   |zero=>rfl|succ j=>have e:a=o:=(by simpa using hi);have e2:l[j]? =some o:=(by simpa using hj);rw[e,xO (Qj e2)] at h';exact absurd h'.1 (by simp)
  |succ i=>
   cases j with
   |zero=>have e:a=o:=(by simpa using hj);have e2:l[i]? =some o:=(by simpa using hi);rw[e,xO (Qj e2)] at h';exact absurd h'.1 (by simp)|succ j=>rw[Dz h'.2 (show l[i]? =some o by simpa using hi) (show l[j]? =some o by simpa using hj)]
omit hR in
theorem xP:∀{l:List Nat}{n p:Nat}{x:Ob R.T},look (acw st (Ui l n)) p=some x->∃o,n<=p/\l[p-n]? =some o/\look st.ob o=some x
 | [],_,_,_,h=>by cases h|a::l,n,p,x,h=>by
  have up:look (acw st (Ui l (n+1))) p=some x->∃o,n<=p/\(a::l)[p-n]? =some o/\look st.ob o=some x:=fun h=>by
   obtain⟨o,h1,h2,h3⟩:=xP h;refine⟨o,by omega,?_,h3⟩;have:p-n=(p-(n+1))+1:=by omega
   rw[this];simpa using h2
  have h':=h;unfold Ui acw at h';split at h'
  .rename_i y hy;by_cases e:p=n
   .subst e;rw[bL] at h';cases h';exact⟨a,mF _,by simp,hy⟩
   .rw[aX _ _ e] at h';exact up h'
  .exact up h'
omit hR in
theorem xQ {L:List (Nat×Ob R.T)}:∀{l:List Nat}{n o:Nat}{y:Ob R.T},look (XM (Ui l n) L) o=some y->∃p,n<=p/\l[p-n]? =some o/\look L p=some y
 | [],_,_,_,h=>by cases h|a::l,n,o,y,h=>by
  have up:look (XM (Ui l (n+1)) L) o=some y->∃p,n<=p/\(a::l)[p-n]? =some o/\look L p=some y:=fun h=>by
   obtain⟨p,h1,h2,h3⟩:=xQ h;refine⟨p,by omega,?_,h3⟩;have:p-n=(p-(n+1))+1:=by omega
   rw[this];simpa using h2
  have h':=h;unfold Ui XM at h';split at h'
  .rename_i z hz;by_cases e:o=a
   .subst e;rw[bL] at h';cases h';exact⟨n,mF _,by simp,hz⟩
   .rw[aX _ _ e] at h';exact up h'
  .exact up h'
omit hR in
theorem DC {L:List (Nat×Ob R.T)}:∀{l:List Nat}{n o:Nat},(∀p,n<=p->p<n+l.length->∃y,look L p=some y)->look (XM (Ui l n) L) o=none->o∉l
 | [],_,_,_,_=>by simp|a::l,n,o,hL,h=>by
  obtain⟨y,hy⟩:=hL n (mF _) (by simp);have h':=h;unfold Ui XM at h';rw[hy] at h';by_cases e:o=a
  .subst e;rw[bL] at h';cases h'
  .rw[aX _ _ e] at h';have:=DC (fun p h1 h2=>hL p (by omega) (by rw[List.length_cons];omega)) h';simp[e,this]
omit hR in
theorem sH:∀{l:List Nat}{n:Nat}{obs:List (Nat×SC)}{q:Ud R.T obs},acy (Ui l n) obs=true->∀p,n<=p->p<n+l.length->∃y,look (Ue R obs q) p=some y
 | [],n,_,_,_,p,h1,h2=>by simp at h2;omega|a::l,n,[],_,h,_,_,_=>by cases h|a::l,n,[(j,k)],q,h,p,h1,h2=>by
  have h':(Nat.beq n j&& acy (Ui l (n+1)) [])=true:=h;rw[Pz] at h';have hj:=bn h'.1;subst hj;by_cases e:p=n
  .subst e;exact⟨_,bL _ _ _⟩
  .obtain⟨y,hy⟩:=sH (q:=show Ud R.T [] from ()) h'.2 p (by omega) (by rw[List.length_cons] at h2;omega);cases hy
 |a::l,n,(j,k)::x::obs,q,h,p,h1,h2=>by
  have h':(Nat.beq n j&& acy (Ui l (n+1)) (x::obs))=true:=h;rw[Pz] at h';have hj:=bn h'.1;subst hj;show∃y,look ((n,Uy R k q.1)::Ue R (x::obs) q.2) p=some y;by_cases e:p=n
  .subst e;exact⟨_,bL _ _ _⟩
  .rw[aX _ _ e];exact sH h'.2 p (by omega) (by rw[List.length_cons] at h2;omega)
omit hR in
theorem sI {L:List (Nat×Ob R.T)}:∀(l:List (Nat×SC))(x:Ud R.T l),U2 R L l=some x->∀i v,look (Ue R l x) i=some v->∃k y z,look L i=some y/\pkO R k y=some z/\v=Uy R k z/\(XO l=true->okO k=true)
 | [],x,hx,i,v,hv=>by cases hv| [(j,k)],x,hx,i,v,hv=>by
   unfold U2 at hx;split at hx
   .rename_i y hy;by_cases e:i=j
    .subst e;have hv':look [(i,Uy R k x)] i=some v:=hv;rw[bL] at hv';cases hv';exact⟨k,y,x,hy,hx,rfl,fun h=>by unfold XO at h;rw[Pz] at h;exact h.1⟩
    .have hv':look [(j,Uy R k x)] i=some v:=hv;rw[aX _ _ e] at hv';cases hv'
   .cases hx
 | (j,k)::q::l,x,hx,i,v,hv=>by
   unfold U2 at hx;split at hx
   .rename_i y hy;cases hu:pkO R k y with
    |none=>simp only[hu] at hx;cases hx|some z=>
     cases hs:U2 R L (q::l) with
     |none=>simp only[hu,hs] at hx;cases hx|some p=>
      simp only[hu,hs] at hx;obtain rfl:=P8 hx;have hv':look ((j,Uy R k z)::Ue R (q::l) p) i=some v:=hv;by_cases e:i=j
      .subst e;rw[bL] at hv';cases hv';exact⟨k,y,z,hy,hu,rfl,fun h=>by unfold XO at h;rw[Pz] at h;exact h.1⟩
      .rw[aX _ _ e] at hv';obtain⟨k',y',z',h1,h2,h3,h4⟩:=sI (q::l) p hs i v hv';exact⟨k',y',z',h1,h2,h3,fun h=>h4 (by unfold XO at h;rw[Pz] at h;exact h.2)⟩
   .cases hx
omit hR in
theorem DF:∀{l:List (Nat×SC)}{x:Ud R.T l},XO l=true->∀{i:Nat}{v:Ob R.T},look (Ue R l x) i=some v->∃k z,okO k=true/\v=Uy R k z
 | [],x,_,i,v,hv=>by cases hv| [(j,k)],x,h,i,v,hv=>by
   unfold XO at h;rw[Pz] at h;have hv':look [(j,Uy R k x)] i=some v:=hv;by_cases e:i=j
   .subst e;rw[bL] at hv';cases hv';exact⟨k,x,h.1,rfl⟩
   .rw[aX _ _ e] at hv';cases hv'
 | (j,k)::q::l,x,h,i,v,hv=>by
   unfold XO at h;rw[Pz] at h;have hv':look ((j,Uy R k x.1)::Ue R (q::l) x.2) i=some v:=hv;by_cases e:i=j
   .subst e;rw[bL] at hv';cases hv';exact⟨k,x.1,h.1,rfl⟩
   .rw[aX _ _ e] at hv';exact DF h.2 hv'
omit hR in
theorem M4 {top top':Nat->Nat}{t:Ty}{x:Den R.T t}{v:V}(h:Rl R Z top (Tc R .any t x) v):Rl R Z' top' (Tc R .any t x) v:=by
 cases t with
 |st n=>obtain⟨l,hv,hl⟩:=Rl.cO (R:=R) h;exact⟨l,hv,kD _ _ _ hl⟩
 |int k=>exact h|bool=>exact h|str=>exact h|slice t=>exact h
omit hR in
mutual
theorem DI {top top':Nat->Nat}:∀(k:Sk)(z:VX R.T k)(v:V),dS1 k=true->Rl R Z top (up R .any k z) v->Rl R Z' top' (up R .any k z) v
 |.d t,z,v,_,h=>by unfold up at h⊢;exact M4 h|.Q5 l off,z,v,hd,h=>by unfold up at h⊢;obtain⟨cs,rfl,h1⟩:=h.gD;unfold Rl;exact⟨cs,rfl,pY (by unfold dS1 at hd;exact hd) h1⟩
 |.fn f a b,z,v,hd,h=>by unfold up at h⊢;obtain⟨x,y,rfl,h1,h2⟩:=h.dS;unfold dS1 at hd;rw[Pz] at hd;unfold Rl;exact⟨x,y,rfl,pY hd.1 h1,pY hd.2 h2⟩
 |.l _ _,_,_,hd,_=>by cases hd|.agg _,_,_,hd,_=>by cases hd|.ref _ _,_,_,hd,_=>by cases hd|.RB _,_,_,hd,_=>by cases hd|.R3 _ _,_,_,hd,_=>by cases hd|.TP,_,_,hd,_=>by cases hd|.vw _ _,_,_,hd,_=>by cases hd|.sub _ _,_,_,hd,_=>by cases hd|.sg _,_,_,hd,_=>by cases hd|.undef,_,_,hd,_=>by cases hd
theorem pY {top top':Nat->Nat}:∀{l:List Sk}{z:FN R.T l}{cs:List V},dSk l=true->ah R Z top (Tn R .any l z) cs->ah R Z' top' (Tn R .any l z) cs
 | [],_,_,_,h=>h| [k],z,cs,hd,h=>by unfold dSk at hd;rw[Pz] at hd;obtain⟨v,ws,rfl,h1,h2⟩:=ah.aP (ts:=[]) (show ah R Z top [up R .any k z] cs from h);rw[h2.bg];exact .cons' (DI k z v hd.1 h1) rfl
 |k::q::l,z,cs,hd,h=>by unfold dSk at hd;rw[Pz] at hd;obtain⟨v,ws,rfl,h1,h2⟩:=ah.aP (show ah R Z top (up R .any k z.1::Tn R .any (q::l) z.2) cs from h);exact .cons' (DI k z.1 v hd.1 h1) (pY (l:=q::l) hd.2 h2)
end
omit hR in
theorem xR {o p:Nat}{k:SC}{z:aaQ R.T k}(hk:okO k=true)(hb:Z'.ob p=Z.ob o)(hn:Z'.ln p=Z.ln o)(hl:Z'.om.lc p=Z.om.lc o)(h:aM Z Y o (Uy R k z)):aM Z' Y p (Uy R k z):=by
 cases k with
 |cells l=>obtain⟨s,cs,h1,h2,h3⟩:=h;exact⟨s,cs,by rw[hb];exact h1,by rw[hl];exact h2,pY hk h3⟩
 |st n=>obtain⟨s,cs,h1,h2,h3⟩:=h;exact⟨s,cs,by rw[hb];exact h1,by rw[hl];exact h2,kD _ _ _ h3⟩
 |map k e=>obtain⟨s,h1,h2⟩:=h;exact⟨s,by rw[hb];exact h1,by rw[hl];exact h2⟩
 |arr t=>
  refine⟨h.1.trans hn.symm,?_⟩;rcases h.2 with h| ⟨s,cs,h1,h2,h3⟩
  .exact .inl ⟨h.1,by rw[hb];exact h.2⟩
  .exact .inr ⟨s,cs,by rw[hb];exact h1,by rw[hl];exact h2,iN _ cs h3⟩
 |sg l=>obtain⟨s,h1,h2⟩:=h;exact⟨s,by rw[hb];exact h1,by rw[hl];exact h2⟩
omit hR in
mutual
theorem Rl.ren {top:Nat->Nat}{m:List (Nat×Nat)}(hm:∀o p,look m o=some p->Z'.om.lc p=Z.om.lc o/\Z'.ob p=Z.ob o/\Z'.ln p=Z.ln o):∀(x:TV R.T)(v:V),Rl R Z top x v->Rl R Z' top (YD m x) v
 |.ref o off,v,h=>by
  obtain⟨s,h1,h2⟩:=h;unfold YD;split
  .rename_i p hp;obtain⟨a,b,c⟩:=hm _ _ hp;exact⟨s,by rw[b];exact h1,by rw[a];exact h2⟩
  .unfold Rl;trivial
 |.RB o,v,h=>by
  obtain⟨s,h1,h2⟩:=h;unfold YD;split
  .rename_i p hp;obtain⟨a,b,c⟩:=hm _ _ hp;exact⟨s,by rw[b];exact h1,by rw[a];exact h2⟩
  .unfold Rl;trivial
 |.vw o t,v,h=>by
  unfold YD;split
  .rename_i p hp;obtain⟨a,b,c⟩:=hm _ _ hp;rcases h with ⟨s,h1,h2⟩| ⟨h1,h2⟩
   .exact .inl ⟨s,by rw[b];exact h1,by rw[a,c];exact h2⟩
   .exact .inr ⟨by rw[c];exact h1,h2⟩
  .unfold Rl;trivial
 |.sub o t x y,v,h=>by
  unfold YD;split
  .rename_i p hp;obtain⟨a,b,c⟩:=hm _ _ hp;obtain⟨g0,g1,g2,h⟩:=h;refine⟨g0,g1,by rw[c];exact g2,?_⟩;rcases h with ⟨s,cp,h1,h2,h3⟩|h
   .exact .inl ⟨s,cp,by rw[b];exact h1,h2,by rw[a];exact h3⟩
   .exact .inr h
  .unfold Rl;trivial
 |.Un o t i off,v,h=>by
  obtain⟨s,h1,h2⟩:=h;unfold YD;split
  .rename_i p hp;obtain⟨a,b,c⟩:=hm _ _ hp;exact⟨s,by rw[b];exact h1,by rw[a];exact h2⟩
  .unfold Rl;trivial
 |.sv o _ _ _ _ _,v,h=>by
  obtain⟨s,h1,h2⟩:=h;unfold YD;split
  .rename_i p hp;obtain⟨a,b,c⟩:=hm _ _ hp;exact⟨s,by rw[b];exact h1,by rw[a];exact h2⟩
  .unfold Rl;trivial
 |.sel o _ _ _ _ _,v,h=>by
  obtain⟨s,h1,h2⟩:=h;unfold YD;split
  .rename_i p hp;obtain⟨a,b,c⟩:=hm _ _ hp;exact⟨s,by rw[b];exact h1,by rw[a];exact h2⟩
  .unfold Rl;trivial
 |.tX c t l,v,h=>by
  obtain⟨c',hv,hc⟩:=h;unfold YD;cases c with
  |own u=>exact⟨c',hv,trivial⟩|any=>exact⟨c',hv,trivial⟩|sh=>exact⟨c',hv,hc⟩|nil=>exact⟨c',hv,hc⟩|full=>exact⟨c',hv,hc⟩
 |.agg cs,v,h=>by obtain⟨l,hv,hl⟩:=h;exact⟨l,hv,ah.ren hm cs l hl⟩
 |.Rn cs,v,h=>by obtain⟨l,hv,hl⟩:=h;exact⟨l,hv,ah.ren hm cs l hl⟩
 |.Q5 cs off,v,h=>by obtain⟨l,hv,hl⟩:=h;exact⟨l,hv,ah.ren hm cs l hl⟩
 |.fn f a b,v,h=>by obtain⟨a',b',hv,ha,hb⟩:=h;exact⟨a',b',hv,ah.ren hm a a' ha,ah.ren hm b b' hb⟩
 |.opt _ _ _,_,h=>h.elim|.int _ _,_,h=>h|.bool _,_,h=>h|.Tw _,_,h=>h|.str _,_,h=>h|.Tf,_,h=>h|.Ta,_,h=>h|.SI,_,h=>h|.SB,_,h=>h|.TP,_,h=>h|.R3 _ _ _,_,h=>h|.undef,_,h=>h|.sg _,_,h=>h|.X5 _ _ _ _,_,h=>h|.gone,_,h=>h
theorem ah.ren {top:Nat->Nat}{m:List (Nat×Nat)}(hm:∀o p,look m o=some p->Z'.om.lc p=Z.om.lc o/\Z'.ob p=Z.ob o/\Z'.ln p=Z.ln o):∀(x:List (TV R.T))(v:List V),ah R Z top x v->ah R Z' top (aar m x) v
 | [],_,h=>h|x::xs,_,⟨v,vs,e,h1,h2⟩=>⟨v,vs,e,Rl.ren hm x v h1,ah.ren hm xs vs h2⟩
end
omit hR in
mutual
theorem Rl.top {Z:ak}{t t':Nat->Nat}(ht:∀u s,Z.tk u=some s->t' s=t s):∀(x:TV R.T)(v:V),Rl R Z t x v->Rl R Z t' x v
 |.tX c ty l,v,h=>by
  obtain⟨c',hv,hc⟩:=h;refine⟨c',hv,?_⟩;cases c<;>first|exact hc|skip
  rcases hc with hc|hc| ⟨s,h1,h2,h3⟩
  .exact .inl hc
  .exact .inr (.inl hc)
  .exact .inr (.inr ⟨s,h1,h2,(ht _ _ h2).trans h3⟩)
 |.agg cs,v,h=>by obtain⟨l,hv,hl⟩:=h;exact⟨l,hv,ah.top ht cs l hl⟩
 |.Rn cs,v,h=>by obtain⟨l,hv,hl⟩:=h;exact⟨l,hv,ah.top ht cs l hl⟩
 |.Q5 cs off,v,h=>by obtain⟨l,hv,hl⟩:=h;exact⟨l,hv,ah.top ht cs l hl⟩
 |.fn f a b,v,h=>by obtain⟨a',b',hv,ha,hb⟩:=h;exact⟨a',b',hv,ah.top ht a a' ha,ah.top ht b b' hb⟩
 |.ref _ _,_,h=>h|.RB _,_,h=>h|.vw _ _,_,h=>h|.sub _ _ _ _,_,h=>h|.Un _ _ _ _,_,h=>h|.opt _ _ _,_,h=>h.elim|.int _ _,_,h=>h|.bool _,_,h=>h|.Tw _,_,h=>h|.str _,_,h=>h|.Tf,_,h=>h|.Ta,_,h=>h|.SI,_,h=>h|.SB,_,h=>h|.TP,_,h=>h|.R3 _ _ _,_,h=>h|.undef,_,h=>h|.sg _,_,h=>h|.sv _ _ _ _ _ _,_,h=>h|.sel _ _ _ _ _ _,_,h=>h|.X5 _ _ _ _,_,h=>h|.gone,_,h=>h
theorem ah.top {Z:ak}{t t':Nat->Nat}(ht:∀u s,Z.tk u=some s->t' s=t s):∀(x:List (TV R.T))(v:List V),ah R Z t x v->ah R Z t' x v
 | [],_,h=>h|x::xs,_,⟨v,vs,e,h1,h2⟩=>⟨v,vs,e,Rl.top ht x v h1,ah.top ht xs vs h2⟩
end
omit hR in
theorem bI.top {fr:Fr}{Z:ak}{t t':Nat->Nat}(ht:∀u s,Z.tk u=some s->t' s=t s){x:TV R.T}{v:V}(h:bI fr Z t x v):bI fr Z t' x v:=by
 cases x with
 |opt j w y=>exact⟨fun hc=>Rl.top ht y v (h.1 hc),h.2⟩
 |_=>exact .of (Rl.top ht _ v h)
omit hR in
theorem xS {Z:ak}{Y Y':qd}{p:Nat}(hp:Y'.obj (Z.om.lc p)=Y.obj (Z.om.lc p))(ht:∀u s,Z.tk u=some s->Y'.top s=Y.top s):∀{x:Ob R.T},aM Z Y p x->aM Z Y' p x
 |.cells cs,h=>by obtain⟨s,l,h1,h2,h3⟩:=h;exact⟨s,l,h1,by unfold qd.Rt at h2⊢;rw[hp];exact h2,ah.top ht _ _ h3⟩
 |.map k e m,h=>by obtain⟨s,h1,h2⟩:=h;exact⟨s,h1,by unfold qd.aV at h2⊢;rw[hp];exact h2⟩
 |.smap ks vs,h=>by obtain⟨s,k,l,h1,h2,h3,h4⟩:=h;exact⟨s,k,l,h1,by unfold qd.aV at h2⊢;rw[hp];exact h2,ah.top ht _ _ h3,ah.top ht _ _ h4⟩
 |.arr t l,h=>by
  refine⟨h.1,?_⟩;rcases h.2 with h| ⟨s,cs,h1,h2,h3⟩
  .exact .inl h
  .exact .inr ⟨s,cs,h1,by unfold qd.Rt at h2⊢;rw[hp];exact h2,iN l cs h3⟩
 |.sg ss,h=>by obtain⟨s,h1,h2⟩:=h;exact⟨s,h1,by unfold qd.Rt at h2⊢;rw[hp];exact h2⟩
 |.gone,_=>trivial|.ro b,h=>xS hp ht (x:=b) h
omit hR in
theorem aj.shift {Z:ak}{b:Nat}{st:MS R.T}{fr:Fr}{Y Y':qd}(h:aj Z b st fr Y)(hp:∀p,Y'.obj (Z.om.lc p)=Y.obj (Z.om.lc p))(ht:∀s,s<b->Y'.top s=Y.top s):aj Z b st fr Y':={h with
 fr:=fun i v hv=>(h.fr i v hv).top fun u s hu=>ht s (h.lt u s hu)
 ob:=fun o x hx=>xS (hp o) (fun u s hu=>ht s (h.lt u s hu)) (h.ob o x hx)}
omit hR in
theorem M5 {top:Nat->Nat}{xs:List (TV R.T)}{vs:List V}(h:ah R Z top xs vs):Rl R Z top (alL xs) (Sy vs):=by
 match xs,vs,h with
 | [],_,h=>rw[h.bg];exact⟨[],rfl,rfl⟩| [x],_,h=>obtain⟨v,l,rfl,h1,h2⟩:=h.aP;rw[h2.bg];exact h1
 |x::y::l,_,h=>obtain⟨v,ws,rfl,h1,h2⟩:=h.aP;obtain⟨w,us,rfl,h3,h4⟩:=h2.aP;exact⟨v::w::us,rfl,.cons' h1 (.cons' h3 h4)⟩
omit hR in
theorem DJ {m:List (Nat×Nat)}{A:List (TV R.T)}{B:List (Nat×Ob R.T)}:∀{l:List (FM R)}{r:FM R}{x:Option (FN R.T r.res×Ud R.T r.obs)},afd R m A B l=some ⟨r,x⟩->r∈l/\∃p q,TQ R r.args A=some p/\U2 R B r.obs=some q/\acy m r.obs=true/\Wn r.res=true/\XO r.obs=true/\x=r.F p q
 | [],_,_,h=>by cases h|s::l,r,x,h=>by
  unfold afd at h;split at h
  .rename_i p q hp hq;obtain⟨hb,h⟩:=aY h;rw[Pz,Pz] at hb;cases h;exact⟨PN ..,p,q,hp,hq,hb.1,hb.2.1,hb.2.2,rfl⟩
  .obtain⟨h1,h2⟩:=DJ h;exact⟨PV _ h1,h2⟩
def Cx.call (c:Cx)(om:Bool)(lo:Nat)(ids:List Nat)(hnd:ndB ids=true):Cx where
 om:=om
 dp:=c.dp+1
 lo:=lo
 fl:=fun p=>if F0<=p then (ids[p-F0]?).map c.lc else none
 lt:=fun p L h=>by
  split at h
  .rename_i hp;obtain⟨o,_,rfl⟩:=Py.1 h;exact⟨hp,Nat.lt_succ_of_le (c.ni o)⟩
  .cases h
 inj:=fun p q L h g=>by
  split at h
  .split at g
   .rename_i hp hq;obtain⟨o,h1,rfl⟩:=Py.1 h;obtain⟨o',h2,e⟩:=Py.1 g;have:=c.wD e;subst this;have:=Dz hnd h1 h2;omega
   .cases g
  .cases h
omit hR in
theorem Cx.M6 {c:Cx}{om:Bool}{lo:Nat}{ids:List Nat}{hnd:ndB ids=true}{p o:Nat}(hp:F0<=p)(h:ids[p-F0]? =some o):(c.call om lo ids hnd).lc p=c.lc o:=by unfold Cx.lc Cx.call;dsimp only;rw[if_pos hp,h];rfl
omit hR in
theorem Cx.DK {c:Cx}{om:Bool}{lo:Nat}{ids:List Nat}{hnd:ndB ids=true}{L:Loc}(hL:L.1<=c.dp)(h:∀o∈ids,L≠c.lc o):(c.call om lo ids hnd).out L:=by
 intro p e;unfold Cx.lc Cx.call at e;dsimp only at e;split at e
 .rename_i M hM;split at hM
  .obtain⟨o,h1,rfl⟩:=Py.1 hM;exact h o (Qj h1) e
  .cases hM
 .rw[e] at hL;dsimp only at hL;omega
theorem xU {β:Type}{M:Nat->List (FM R)}(hM:sG E M)(hi:aj Z L6 st fr Y)(hsn:L6<=Y.next){k:MS R.T->Option β}{x:β}(h:abE R M o st k=some x):
 ∃c f g a vb,o.op= .call c/\c.callee= .value f/\fr.ev E f= .fn (.func g) a vb/\E.imp g=true/\U9 E g (a++c.args.toList.map (fr.ev E)++vb) (fr.d+1) Y fun v Y1=>∃st1,aj Z (L6+1) st1 (fr.put o.dst v) Y1/\Y.next<=Y1.next/\(∀p,aA false p st Z Y st1 Z Y1)/\k st1=some x:=by
 unfold abE at h;split at h
 .rename_i c hop;split at h
  .rename_i f bD;split at h
   .rename_i g a' b' vs hf hvs;obtain⟨hnd,h⟩:=aY h;generalize Pp:WI (a'++vs++b') []=ids at*;split at h
    .rename_i r x' hfm;obtain⟨⟨y,q'⟩,hy,hk⟩:=iP.1 h;obtain⟨hr,p,q,hp,hq,hks,hsc,hok,rfl⟩:=DJ hfm;obtain⟨va,vb,jc,hva,hvb⟩:=(aI (E:=E) hi .nil hf).dS;have hA:=(hva.append (lT (E:=E) hi .nil hvs)).append hvb;let Zcz:ak:=⟨fun p=>if F0<=p then (ids[p-F0]?).bind Z.ob else none,fun _=>none,fun p=>if F0<=p then (match ids[p-F0]? with|some o=>Z.ln o|none=>0) else 0,Z.om.call (E.om g) Y.next ids hnd⟩
     have hZ:∀{p o},F0<=p->ids[p-F0]? =some o->Zcz.om.lc p=Z.om.lc o/\Zcz.ob p=Z.ob o/\Zcz.ln p=Z.ln o:=fun {p o} h1 h2=>by
      refine⟨Cx.M6 (hnd:=hnd) h1 h2,?_,?_⟩
      .show (if F0<=p then (ids[p-F0]?).bind Z.ob else none)=_;rw[if_pos h1,h2];rfl
      .show (if F0<=p then (match ids[p-F0]? with|some o=>Z.ln o|none=>0) else 0)=_;rw[if_pos h1,h2]
     have hm:∀o p,look (Ui ids F0) o=some p->Zcz.om.lc p=Z.om.lc o/\Zcz.ob p=Z.ob o/\Zcz.ln p=Z.ln o:=fun o p hp=>by obtain⟨h1,h2⟩:=Dx hp;exact hZ h1 h2
     obtain⟨himp,hF⟩:=hM g r hr;obtain⟨n,v,Y',hcall,⟨wz,hv,hwz⟩,M7,hnx,hlp,htp,hout⟩:=hF p q y q' hy Zcz (va++c.args.toList.map (fr.ev E)++vb) Y rfl (fun _=>rfl) (mF _) (kF hR r.args p _ _ hp (ah.ren hm _ _ hA)) (fun i w hw=>by obtain⟨kk,yy,z,h1,h2,rfl,h4⟩:=sI r.obs q hq i w hw;obtain⟨o',h5,h6,h7⟩:=xP h1;obtain⟨e1,e2,e3⟩:=hZ h5 h6;exact xR (h4 hok) e2 e3 e1 (rR hR h2 (hi.ob _ _ h7)));have hst:∀s,s<L6->Y'.top s=Y.top s:=fun s hs=>htp s (PS hs hsn);have hno:∀o',o'∉ids->Y'.obj (Z.om.lc o')=Y.obj (Z.om.lc o'):=fun o' ho'=>
      hout _ (Nat.le_succ_of_le (Z.om.ni o')) (Cx.DK (hnd:=hnd) (Z.om.ni o') fun o'' h2 e=>ho' (by rw[Z.om.wD e];exact h2))
     have wV:aj Z (L6+1) (⟨st.fr,XM (Ui ids F0) (Ue R r.obs q')++st.ob⟩:MS R.T) fr Y':={
      d:=hi.d
      om:=hi.om
      fr:=fun i w hw=>(hi.fr i w hw).top fun u s hu=>hst s (hi.lt u s hu)
      ob:=fun o' w hw=>by
       have hw':look (XM (Ui ids F0) (Ue R r.obs q')++st.ob) o'=some w:=hw;rw[jK] at hw';split at hw'
       .rename_i z hz;cases hw';obtain⟨p',h1,h2,h3⟩:=xQ hz;obtain⟨kk,zz,h4,rfl⟩:=DF hok h3;obtain⟨e1,e2,e3⟩:=hZ h1 h2;exact xR h4 e2.symm e3.symm e1.symm (M7 _ _ h3)
       .rename_i hz;have hn:=DC (fun p' h1 h2=>sH hks p' h1 h2) hz;exact xS (hno o' hn) (fun u s hu=>hst s (hi.lt u s hu)) (hi.ob _ _ hw')
      inj:=hi.inj
      lt:=fun t s ht=>Nat.lt_succ_of_lt (hi.lt t s ht)
      ge:=hi.ge
      nx:=Nat.le_succ_of_le hi.nx}
     refine⟨c,f,g,va,vb,hop,bD,jc,himp,n,v,Y',?_,_,?_,hnx,?_,hk⟩
     .rw[hi.d];exact hcall
     .rw[hv];exact wV.SV o.dst (M5 (ah.ren (Z:=Zcz) (fun p' o' hpo=>by obtain⟨h1,h2⟩:=Dy hpo;obtain⟨e1,e2,e3⟩:=hZ h1 h2;exact⟨e1.symm,e2.symm,e3.symm⟩) _ _ hwz))
     .intro p';refine aA.congr (st':=(⟨st.fr,XM (Ui ids F0) (Ue R r.obs q')++st.ob⟩:MS R.T)) ⟨rfl,rfl,rfl,hnx,⟨hlp,fun s hs=>hst s (PS hs hi.nx)⟩,fun L hL ho=>?_,fun hro=>?_⟩ dN
      .have hL':L.1<=Z.om.dp:=(by rcases hL with e|e;cases e;exact e);exact hout L (Nat.le_succ_of_le hL') (Cx.DK (hnd:=hnd) hL' fun o' _=>ho o')
      .have hn:p'∉ids:=by
        intro hmem;obtain⟨i,hi'⟩:=List.getElem?_of_mem hmem;have hlt:i<ids.length:=by
         rcases Nat.lt_or_ge i ids.length with h|h
         .exact h
         .rw[List.getElem?_eq_none h] at hi';cases hi'
        obtain⟨w,hw⟩:=sH (q:=q) hks (F0+i) (PG _ _) (by omega);obtain⟨kk,yy,z,h1,h2,_,_⟩:=sI r.obs q hq _ _ hw;obtain⟨o',h5,h6,h7⟩:=xP h1;rw[QS,hi'] at h6;cases h6;exact wS h2 (hro _ h7)
       refine⟨fun w hw=>?_,fun s=>?_⟩
       .have hw':look (XM (Ui ids F0) (Ue R r.obs q')++st.ob) p'=some w:=hw;rw[jK] at hw';split at hw'
        .rename_i z hz;obtain⟨p'',h1,h2,h3⟩:=xQ hz;exact absurd (Qj h2) hn
        .exact hro _ hw'
       .unfold qd.Rt qd.aV;rw[hno p' hn];exact⟨rfl,rfl⟩
    .cases h
   .cases h
  .cases h
 .cases h
end
end Aq
end
section
namespace Aq
open Go
section
variable {R:Tx}{E:Env}
variable {Z:ak}{b L6:Nat}{st:MS R.T}{fr:Fr}{Y:qd}{o:Oper}
theorem M8 {j:Nat}{t:Bool}(h:RI [] st (.tmp j)=some (.bool t)):look st.fr j=some (.bool t):=by
 unfold RI at h;dsimp only at h;split at h
 .rename_i v hv;cases v<;>first| (cases h;exact hv)| (simp[aeS,look] at h;done)
 .cases h
variable (hR:VF R)
include hR
omit hR in
theorem DL {β:Type}{top:Nat->Nat}{x z:TV R.T}{v zv:V}{k:TV R.T->Bool->Option β}{res:β}(hx:Rl R Z top x v)(hz:Rl R Z top z zv):∀{ks vs:List (TV R.T)}{kl vl:List V},afb x ks vs z k=some res->ah R Z top ks kl->ah R Z top vs vl->
 ∃y b w r,Rl R Z top y w/\eU v kl vl=some r/\((r=none->w=zv/\b=false)/\∀u,r=some u->w=u/\b=true)/\k y b=some res
 | [],[],kl,vl,h,h1,h2=>by rw[h1.bg,h2.bg];exact⟨z,false,zv,none,hz,rfl,⟨fun _=>⟨rfl,rfl⟩,fun u h=>by cases h⟩,h⟩
 | [],_::_,_,_,h,_,_=>by cases h|_::_,[],_,_,h,_,_=>by cases h|a::ks,b::vs,kl,vl,h,h1,h2=>by
  obtain⟨k0,k',rfl,g1,g2⟩:=h1.aP;obtain⟨l0,l',rfl,g3,g4⟩:=h2.aP;unfold afb at h;split at h
  .rename_i c hc;have he:=Dm hc hx g1;cases c with
   |true=>exact⟨b,true,l0,some l0,g3,by simp[eU,he],⟨fun h=>(by cases h),fun u h=>by cases h;exact⟨rfl,rfl⟩⟩,h⟩
   |false=>obtain⟨y,bb,w,r,e1,e2,e3,e4⟩:=DL hx hz h g2 g4;exact⟨y,bb,w,r,e1,by simp[eU,he,e2],e3,e4⟩
  .cases h
theorem xV {om:Bool}{β:Type}{F:Nat->List (FR R)}(hF:Rq E F)(aC:Z.om.om=om)(aZ:∀d,o.dst=some d->d<F0)(hi:aj Z L6 st fr Y){k:MS R.T->Option β}{x:β}(h:runM E R om F o st k=some x){G:Prop}{rest:Fr->qd->Prop}(hs:∀y Y',dB E fr Y L6 o y Y'->rest (fr.put o.dst y) Y'->G)(hk:∀Z' st' y Y',aj Z' (L6+1) st' (fr.put o.dst y) Y'->Y'.next=Y.next->(∀p,ND E o p->aA true p st Z Y st' Z' Y')->k st'=some x->rest (fr.put o.dst y) Y'):G:=by
 have hi1:=hi.le (P7 L6);unfold runM at h;split at h
 .rename_i c a' b' hop;split at h
  .rename_i t hc;have hc':=(aI (E:=E) hi .nil hc).gB;split at h
   .rename_i v hv;refine hs _ _ (.dh (nN hop hc')) (hk Z _ _ Y (hi1.SV o.dst ?_) rfl (fun p _=>aA.same (by first|exact dN|rfl)) h);cases t
    .exact aI (E:=E) hi .nil hv
    .exact aI (E:=E) hi .nil hv
   .cases h
  .rename_i t hc;have hc':=(aI (E:=E) hi .nil hc).eO;split at h
   .rename_i j;have hj:=hc';rw[pK] at hj;split at h
    .rename_i x' y' hx hy;split at h
     .rename_i v hv;refine hs _ _ (.dh (nN hop hc')) (hk Z _ _ Y (hi1.SV o.dst ?_) rfl (fun p _=>aA.same (by first|exact dN|rfl)) h);cases t
      .exact Dl hv (aI (E:=E) hi (.cons hj .nil) hy)
      .exact Dk hv (aI (E:=E) hi (.cons hj .nil) hx)
     .cases t
      .exact hs _ _ (.dh (nN hop hc')) (hk Z _ _ Y ((hi1.learn hj).SV o.dst (aI (E:=E) hi (.cons hj .nil) hy)) rfl (fun p _=>aA.same (by first|exact dN|rfl)) h)
      .exact hs _ _ (.dh (nN hop hc')) (hk Z _ _ Y ((hi1.learn hj).SV o.dst (aI (E:=E) hi (.cons hj .nil) hx)) rfl (fun p _=>aA.same (by first|exact dN|rfl)) h)
    .cases h
   .cases h
  .cases h
 .rename_i t a y hop;split at h
  .rename_i τ p i off l v hst;unfold agD at hst;split at hst
   .rename_i p' τ1 i' off' v' ha hv;split at hst
    .rename_i τ' l0 sz hl hsz;split at hst
     .rename_i l1 hl1;obtain⟨hc,hst⟩:=aY hst;cases hst;obtain⟨e,e2⟩:=gF hl1;subst e;cases e2;simp only[Pz] at hc;obtain⟨⟨⟨c1,c2⟩,c3⟩,c4⟩:=hc;obtain⟨z,hz,h⟩:=iP.1 h;split at h
      .rename_i y' hu;obtain⟨s,h1,_,h2⟩:=(aI (E:=E) hi .nil ha).lQ;obtain⟨h6,h7⟩:=gG c4 (aI (E:=E) hi .nil hv);have hO:=hi.ob _ _ hl;obtain⟨cs,k1,k2,k3,k4⟩:=Mk hR hO h1 hz h6 (Qn c2) hu;refine hs Lv (Y.setObj (Z.om.lc p) s (.cells (Tm cs (i.toNat*RF R τ'+off) (fr.ev E y).cells))) (.dh (o:=o) ?_) (hk Z _ Lv _ ((hi1.set p s (x:=.arr τ' (Rc l0 i y')) (a:=.cells (Tm cs (i.toNat*RF R τ'+off) (fr.ev E y).cells)) ⟨k4.trans hO.1,.inr ⟨s,_,h1,aag _ _ _ _,k3⟩⟩).SV o.dst (x:=.undef) (by unfold Rl;rfl)) rfl (fun q _=>(aA.set hl rfl).congr dN) h);simp only[aH,hop,h2,k1,Option.bind_some];rw[if_pos ⟨by rw[hsz,h6.length,bn c1],k2,nH c3 h6⟩]
      .cases h
     .cases hst
    .cases hst
   .cases hst
  .split at h
   .rename_i v st' hr;rw[<-hop] at hr;obtain⟨y,Y',Z',h1,h2,h3,h4,h5⟩:=jh hR hF aC aZ .nil hi hr;exact hs y Y' h1 (hk Z' _ y Y' (h2.SV o.dst h4) h3 (fun p hp=>(h5 p hp).congr dN) h)
   .cases h
 .rename_i t m y ok hop;split at h
  .rename_i ks vs q z hsm;unfold agC at hsm;split at hsm
   .rename_i p hm;split at hsm
    .rename_i ks' vs' hl;split at hsm
     .rename_i q' kt et hq ht;split at hsm
      .rename_i z' hz;obtain⟨hkey,hsm⟩:=aY hsm;cases hsm;obtain⟨s,a1,a2⟩:=(aI (E:=E) hi .nil hm).jG;obtain⟨s',k0,l0,b1,b2,b3,b4⟩:=hi.rd hl;rw[a1] at b1;cases b1;have hqr:=aI (E:=E) hi .nil hq;obtain⟨zv,z1,z2⟩:=pV (Z:=Z) (top:=Y.top) hz;obtain⟨v,bb,w,r,c1,c2,c3,c4⟩:=DL hqr z2 h b3 b4;have hlk:iV E.P Y t (fr.ev E m) (fr.ev E y) ok=some (if ok then .Rn [w,.bool bb] else w):=by
        rw[Cv,ht];simp only[Option.bind_some];rw[if_pos (Dn hkey hqr),a2];show (Y.aV (Z.om.lc p) s).bind _=_;rw[b2];simp only[Option.bind_some,c2];cases r with
        |none=>simp only[z1,Option.map_some];obtain⟨e1,e2⟩:=c3.1 rfl;rw[e1,e2]
        |some u=>simp only[Option.map_some];obtain⟨e1,e2⟩:=c3.2 u rfl;rw[e1,e2]
       refine hs _ Y (.dh (o:=o) ?_) (hk Z _ (if ok then .Rn [w,.bool bb] else w) Y (hi1.SV o.dst ?_) rfl (fun p _=>aA.same (by first|exact dN|rfl)) c4)
       .simp only[aH,hop,hlk,Option.map_some]
       .cases ok
        .exact c1
        .rw[cond_true,if_pos rfl];unfold Rl;exact⟨_,rfl,.cons' c1 (.cons' (by unfold Rl;rfl) rfl)⟩
      .cases hsm
     .cases hsm
    .cases hsm
   .cases hsm
  .split at h
   .rename_i v hr;rw[<-hop] at hr;obtain⟨y,h1,h2⟩:=jh hR hF aC aZ .nil hi hr;exact hs y Y h1 (hk Z _ y Y (hi1.SV o.dst h2) rfl (fun p _=>aA.same (by first|exact dN|rfl)) h)
   .cases h
 .split at h
  .rename_i v hr;obtain⟨y,h1,h2⟩:=jh hR hF aC aZ .nil hi hr;exact hs y Y h1 (hk Z _ y Y (hi1.SV o.dst h2) rfl (fun p _=>aA.same (by first|exact dN|rfl)) h)
  .rename_i c v hr;obtain⟨hc,h⟩:=aY h;obtain⟨y,h1,h2⟩:=jh hR hF aC aZ .nil hi hr hc;exact hs y Y h1 (hk Z _ y Y (hi1.SV o.dst h2) rfl (fun p _=>aA.same (by first|exact dN|rfl)) h)
  .rename_i v st' hr;obtain⟨y,Y',Z',h1,h2,h3,h4,h5⟩:=jh hR hF aC aZ .nil hi hr;exact hs y Y' h1 (hk Z' _ y Y' (h2.SV o.dst h4) h3 (fun p hp=>(h5 p hp).congr dN) h)
  .rename_i c v st' hr;obtain⟨hc,h⟩:=aY h;obtain⟨y,Y',Z',h1,h2,h3,h4,h5⟩:=jh hR hF aC aZ .nil hi hr hc;exact hs y Y' h1 (hk Z' _ y Y' (h2.SV o.dst h4) h3 (fun p hp=>(h5 p hp).congr dN) h)
  .rename_i U z q f hr;obtain⟨a,ha,h⟩:=iP.1 h;obtain⟨y,h1,h2⟩:=jh hR hF aC aZ .nil hi hr a ha;exact hs y Y h1 (hk Z _ y Y (hi1.SV o.dst h2) rfl (fun p _=>aA.same (by first|exact dN|rfl)) h)
  .cases h
omit hR in
theorem lY (hi:aj Z b st fr Y):∀(n j:Nat)(w c:Bool)(g:List (Nat×Bool)),Vw st n j w=some (c,g)->(c=true->fr.tm j= .bool w/\eX fr g)/\(c=false->fr.tm j= .bool (!w)\/fr.tm j=Lv)/\(g=[(j,w)]->c=false->fr.tm j= .bool (!w))
 |0,j,w,c,g,h=>by cases h|n+1,j,w,c,g,h=>by
  have key:∀(i:Nat)(u a:Bool)(y:TV R.T),look st.fr j=some (.opt i u y)->(∀v,Rl R Z Y.top y v->v= .bool a)->(match Vw st n i u with
   |some (c,g)=>some (agB c (eqw a w),(j,w)::g)|none=>none)=some (c,g)->(c=true->fr.tm j= .bool w/\eX fr g)/\(c=false->fr.tm j= .bool (!w)\/fr.tm j=Lv)/\(g=[(j,w)]->c=false->fr.tm j= .bool (!w)):=by
   intro i u a y hl hy h;split at h
   .rename_i c0 g0 he;cases h;obtain⟨h1,h2,h3⟩:=lY hi n i u c0 g0 he;have hr:=hi.fr _ _ hl;have hg0:g0≠[]:=by
     rintro rfl;cases n with
     |zero=>cases he|succ n=>
      unfold Vw at he;split at he
      .cases he
      .split at he<;>cases he
      .split at he<;>cases he
      .cases he
    refine⟨fun hc=>?_,fun hc=>?_,fun hg=>absurd (by simpa using hg) hg0⟩
    .cases c0 with
     |false=>cases hc|true=>obtain⟨a1,a2⟩:=h1 rfl;have hv:=hy _ (hr.1 a1);have hc':eqw a w=true:=hc;have:a=w:=(by cases a<;>cases w<;>first|rfl|cases hc');subst this;exact⟨hv,.cons hv a2⟩
    .cases c0 with
     |false=>exact .inr (hr.2 (h2 rfl))|true=>obtain⟨a1,a2⟩:=h1 rfl;have hv:=hy _ (hr.1 a1);have hc':eqw a w=false:=hc;have:a= !w:=(by cases a<;>cases w<;>first|rfl|cases hc');subst this;exact .inl hv
   .cases h
  unfold Vw at h;split at h
  .rename_i a hl;cases h;have hv:=(show Rl R Z Y.top (.bool a) (fr.tm j) from hi.fr _ _ hl).eO;refine⟨fun hc=>?_,fun hc=>.inl ?_,fun _ hc=>?_⟩
   .have:a=w:=(by cases a<;>cases w<;>first|rfl|cases hc);subst this;exact⟨hv,.cons hv .nil⟩
   .have:a= !w:=(by cases a<;>cases w<;>first|rfl|cases hc);subst this;exact hv
   .have:a= !w:=(by cases a<;>cases w<;>first|rfl|cases hc);subst this;exact hv
  .rename_i i u a hl;exact key i u a _ hl (fun v hv=>hv.eO) h
  .rename_i i u a hl;exact key i u a _ hl (fun v hv=>hv.gB) h
  .cases h
omit hR in
theorem DN {all:List Oper}(hi:aj Z b st fr Y):match afa all st o with
 |.run=>Sq all fr o=some true|.skip=>Sq all fr o=some false|.dyn j w c g=>(∃n,Vw st n j w=some (c,g))/\Sq all fr o=some c|.no=>True:=by
 unfold afa Sq;cases hg:o.guard with
 |none=>rfl|some p=>
  obtain⟨j,w⟩:=p;dsimp only;cases hj:all[j]? with
  |none=>rfl|some p=>
   simp only[Option.bind_some];cases hd:p.dst with
   |none=>rfl|some t=>
    dsimp only;have dyn:∀c g,Vw st 12 t w=some (c,g)->(match fr.tm t with
     |.bool b=>some (b==w)|.raw _=>none|_=>some false)=some c:=by
     intro c g he;obtain⟨h1,h2,_⟩:=lY hi 12 t w c g he;cases c with
     |true=>rw[(h1 rfl).1];simp|false=>
      rcases h2 rfl with h2|h2
      .rw[h2];cases w<;>rfl
      .rw[h2];rfl
    cases hl:look st.fr t with
    |none=>
     dsimp only;cases he:Vw st 12 t w with
     |none=>trivial|some q=>exact⟨⟨12,he⟩,dyn _ _ he⟩
    |some v=>
     have hr:=hi.fr _ _ hl;cases v with
     |Tw c=>have:=(show Rl R Z Y.top (.Tw c) (fr.tm t) from hr).gB;rw[this];cases c<;>cases w<;>rfl|undef=>have:=(show Rl R Z Y.top .undef (fr.tm t) from hr).Bn;rw[this];rfl|_=>
      dsimp only;cases he:Vw st 12 t w with
      |none=>trivial|some q=>exact⟨⟨12,he⟩,dyn _ _ he⟩
omit hR in
theorem sJ (hi:aj Z b st fr Y):∀{g:List (Nat×Bool)},eX fr g->(∀j u,(j,u)∈g->fr.tm j= .bool u)->aj Z b (st.UO g) fr Y/\(st.UO g).ob=st.ob
 | [],_,_=>⟨hi,rfl⟩| (j,w)::g,hg,hm=>by
   obtain⟨h1,h2⟩:=sJ hi (g:=g) (fun i u h=>by
    exact hm i u (by
     have:∀g:List (Nat×Bool),look g i=some u->(i,u)∈g:=by
      intro g;induction g with
      |nil=>intro h;cases h|cons p g ih=>
       intro h;obtain⟨k,v⟩:=p;by_cases e:i=k
       .subst e;rw[bL] at h;cases h;simp
       .rw[aX _ _ e] at h;simp[ih h]
     exact PV _ (this g h))) (fun i u h=>hm i u (by simp[h]))
   exact⟨h1.learn (hm j w (by simp)),h2⟩
omit hR in
theorem sK (hi:aj Z b st fr Y):∀(n j:Nat)(w:Bool)(g:List (Nat×Bool)),Vw st n j w=some (true,g)->∀i u,(i,u)∈g->fr.tm i= .bool u
 |0,j,w,g,h=>by cases h|n+1,j,w,g,h=>by
  have hj:=((lY hi (n+1) j w true g h).1 rfl).1;unfold Vw at h;split at h
  .simp only[iE,iR] at h;obtain⟨_,rfl⟩:=h;intro i u hm;simp at hm;obtain⟨rfl,rfl⟩:=hm;exact hj
  all_goals first
   | (split at h
      .rename_i c0 g0 he;simp only[iE,iR] at h;obtain⟨hc,rfl⟩:=h;cases c0 with
       |false=>cases hc|true=>
        intro i u hm;rcases PI.1 hm with hm|hm
        .cases hm;exact hj
        .exact sK hi n _ _ g0 he i u hm
      .cases h)
   |cases h
omit hR in
theorem xW (hi:aj Z b st fr Y){n j:Nat}{w:Bool}{g:List (Nat×Bool)}(hj:Vw st n j w=some (false,g)):aj Z b (st.aaq g) fr Y/\(st.aaq g).ob=st.ob:=by
 obtain⟨_,_,e3⟩:=lY hi n j w false g hj;rcases g with _| ⟨⟨j',w'⟩,_| ⟨p,g⟩⟩
 .exact⟨hi,rfl⟩
 .have hj':j'=j/\w'=w:=by
   cases n with
   |zero=>cases hj|succ n=>
    unfold Vw at hj;split at hj
    .simp only[iE,iR,Qb] at hj;exact⟨hj.2.1.1.symm,hj.2.1.2.symm⟩
    .split at hj
     .simp only[iE,iR,Qb] at hj;exact⟨hj.2.1.1.symm,hj.2.1.2.symm⟩
     .exact absurd hj (by simp)
    .split at hj
     .simp only[iE,iR,Qb] at hj;exact⟨hj.2.1.1.symm,hj.2.1.2.symm⟩
     .exact absurd hj (by simp)
    .exact absurd hj (by simp)
  obtain⟨rfl,rfl⟩:=hj';exact⟨hi.learn (e3 rfl rfl),rfl⟩
 .exact⟨hi,rfl⟩
theorem M9 {om:Bool}{β:Type}{F:Nat->List (FR R)}(hF:Rq E F)(aC:Z.om.om=om)(aZ:∀d,o.dst=some d->d<F0)(hi:aj Z L6 st fr Y){j n:Nat}{w c:Bool}{g:List (Nat×Bool)}(hj:Vw st n j w=some (c,g)){k:MS R.T->Option β}{x:β}(h:agE E R om F o j w c g st k=some x){G:Prop}{rest:Fr->qd->Prop}(hs:c=true->∀y Y',dB E fr Y L6 o y Y'->rest (fr.put o.dst y) Y'->G)(hs':c=false->rest (fr.put o.dst Lv) Y->G)(hk:∀Z' st' y Y',aj Z' (L6+1) st' (fr.put o.dst y) Y'->Y'.next=Y.next->(∀p,ND E o p->aA true p st Z Y st' Z' Y')->k st'=some x->rest (fr.put o.dst y) Y'):G:=by
 have hi1:=hi.le (P7 L6);obtain⟨e1,e2,e3⟩:=lY hi n j w c g hj;have xX:(bif c then runM E R om F o (st.UO g) k else k ((st.aaq g).SV o.dst .undef))=some x->G:=by
  intro h;cases c with
  |true=>obtain⟨l1,l2⟩:=sJ hi (e1 rfl).2 (sK hi n j w g hj);exact xV hR hF aC aZ l1 h (hs rfl) (fun Z' st' y Y' a b c d=>hk Z' st' y Y' a b (fun p hp=>(c p hp).from l2) d)
  |false=>obtain⟨n1,n2⟩:=xW hi hj;have hN:aj Z (L6+1) (st.aaq g) fr Y/\(st.aaq g).ob=st.ob:=⟨n1.le (P7 _),n2⟩;refine hs' rfl (hk Z _ Lv Y (hN.1.SV o.dst (by unfold Rl;rfl)) rfl (fun p _=>aA.same (dN.trans hN.2)) h)
 unfold agE at h;split at h
 .rename_i d hd;have hput:Rk d (g.map (·.1))=false->∀(v:TV R.T)(y:V),(c=true->Rl R Z Y.top v y)->(c=false->y=Lv)->aj Z (L6+1) (st.put d (.opt j w v)) (fr.put o.dst y) Y:=by
   intro hdj v y h1 h2;have hne:(fr.set d y).tm j=fr.tm j:=by
    refine Yv _ _ ?_;cases n with
    |zero=>cases hj|succ n=>
     have hmem:Rk d (g.map (·.1))=false:=hdj;have:∃g',g=(j,w)::g':=by
      unfold Vw at hj;split at hj
      .cases hj;exact⟨[],rfl⟩
      all_goals first
       | (split at hj
          .simp only[iE,iR] at hj;exact⟨_,hj.2.symm⟩
          .cases hj)
       |cases hj
     obtain⟨g',rfl⟩:=this;have h':(Nat.beq d j||Rk d (g'.map (·.1)))=false:=hmem;rw[Qr] at h';simpa using (rO h'.1).symm
   rw[hd,ac5];refine hi1.put d ⟨fun hc=>?_,fun hc=>?_⟩
   .rw[hne] at hc;refine h1 ?_;cases c with
    |true=>rfl|false=>
     rcases e2 rfl with e|e
     .rw[e] at hc;cases w<;>cases hc
     .rw[e] at hc;cases hc
   .rw[hne] at hc;refine h2 ?_;cases c with
    |false=>rfl|true=>
     rw[(e1 rfl).1] at hc;rcases hc with hc|hc
     .cases w<;>cases hc
     .cases hc
  cases hdj:Rk d (g.map (·.1))
  .rw[hdj] at h;simp only[cond_false] at h;split at h
   .rename_i v hr;cases c with
    |true=>obtain⟨y,h1,h2⟩:=jh hR hF aC aZ (e1 rfl).2 hi hr;exact hs rfl y Y h1 (hk Z _ y Y (hput hdj v y (fun _=>h2) (fun h=>by cases h)) rfl (fun p _=>aA.same rfl) h)
    |false=>exact hs' rfl (hk Z _ Lv Y (hput hdj v Lv (fun h=>by cases h) (fun _=>rfl)) rfl (fun p _=>aA.same rfl) h)
   .rename_i q v hr;obtain⟨hq,hh⟩:=aY h;clear h;cases c with
    |true=>obtain⟨y,h1,h2⟩:=jh hR hF aC aZ (e1 rfl).2 hi hr hq;exact hs rfl y Y h1 (hk Z _ y Y (hput hdj v y (fun _=>h2) (fun h=>by cases h)) rfl (fun p _=>aA.same rfl) hh)
    |false=>exact hs' rfl (hk Z _ Lv Y (hput hdj v Lv (fun h=>by cases h) (fun _=>rfl)) rfl (fun p _=>aA.same rfl) hh)
   .rename_i U z q f hr;obtain⟨a,ha,hh⟩:=iP.1 h;clear h;cases c with
    |true=>obtain⟨y,h1,h2⟩:=jh hR hF aC aZ (e1 rfl).2 hi hr a ha;exact hs rfl y Y h1 (hk Z _ y Y (hput hdj _ y (fun _=>h2) (fun h=>by cases h)) rfl (fun p _=>aA.same rfl) hh)
    |false=>exact hs' rfl (hk Z _ Lv Y (hput hdj _ Lv (fun h=>by cases h) (fun _=>rfl)) rfl (fun p _=>aA.same rfl) hh)
   .exact xX h
  .rw[hdj] at h;exact xX h
 .exact xX h
omit hR in
theorem lZ {Z':ak}{st':MS R.T}{Y':qd}(h:∀p,ND E o p->aA true p st Z Y st' Z' Y'):Z'.om=Z.om:=by
 cases hd:o.dst with
 |none=>exact(h 0 ⟨by rw[hd];simp,fun d e=>by rw[hd] at e;cases e⟩).om
 |some d=>exact(h (d+E.cn d+1) ⟨fun e=>by rw[hd] at e;exact absurd (P8 e) (Qh (Nat.lt_succ_of_le (PG d (E.cn d)))),fun d' e=>by rw[hd] at e;cases e;exact Qh (Nat.lt_succ_of_le (Nat.le_add_left (E.cn d) d))⟩).om
omit hR in
theorem DR {os:List Oper}{p:Nat}(h:Rk p (Us E (o::os))=false):ND E o p/\Rk p (Us E os)=false:=by
 unfold Us at h;split at h
 .rename_i d hd;have h':(Nat.beq p d||(Nat.beq p (E.cn d)||Rk p (Us E os)))=false:=h;rw[Qr,Qr] at h';refine⟨⟨fun e=>?_,fun d' e e2=>?_⟩,h'.2.2⟩
  .rw[hd] at e;cases e;rw[Qs] at h';exact absurd h'.1 (by simp)
  .rw[hd] at e;cases e;rw[e2,Qs] at h';exact absurd h'.2.1 (by simp)
 .rename_i hd;refine⟨⟨fun e=>?_,fun d' e=>?_⟩,h⟩
  .rw[hd] at e;cases e
  .rw[hd] at e;cases e
omit hR in
theorem p8 (hi:aj Z b st fr Y)(h:U4 E st o=false):iQ E fr o=false:=by
 unfold U4 at h;unfold iQ;split at h
 .rename_i c hc;rw[hc];dsimp only;split at h
  .rename_i f hf;rw[hf];dsimp only;split at h
   .rename_i g a' b' hv;obtain⟨va,vb,h1,_,_⟩:=(aI (E:=E) hi .nil hv).dS;unfold Vi;rw[h1];split at h
    .rename_i d hd;rw[hd];exact h
    .rename_i hd;rw[hd]
   .cases h
  .rename_i hne;split
   .rename_i f hf;exact absurd hf (hne f)
   .rfl
 .rename_i hne;split
  .rename_i c hc;exact absurd hc (hne c)
  .rfl
theorem Na {β:Type}{F:Nat->List (FR R)}(hF:Rq E F)(hi:aj Z L6 st fr Y){k:MS R.T->Option β}{x:β}(h:YC R F o st k=some x)(hown:U4 E st o=true){all os:List Oper}{Q:Fr->qd->Prop}(hw:Sq all fr o=some true)(hk:∀(Z':ak) (st':MS R.T) (y:V) (Y':qd),aj Z' (L6+1) st' (fr.put o.dst y) Y'->Y'.next=Y.next->(∀p,ND E o p->aA true p st Z Y st' Z' Y')->k st'=some x->OW E all (L6+1) os (fr.put o.dst y) Y' Q):OW E all L6 (o::os) fr Y Q:=by
 unfold YC at h;cases h
theorem Nb {β:Type}{F:Nat->List (FR R)}(hF:Rq E F)(hi:aj Z L6 st fr Y){k:MS R.T->Option β}{x:β}(h:YC R F o st k=some x)(hown:U4 E st o=true){ms:List Nat}{fs:List RV}{all os:List Oper}{Q:Fr->qd->Prop}(hw:Sq all fr o=some true)(hk:∀(Z':ak) (st':MS R.T) (y:V) (Y':qd),aj Z' (L6+1) st' (fr.put o.dst y) Y'->Y'.next=Y.next->(∀p,ND E o p->aA true p st Z Y st' Z' Y')->k st'=some x->bO E ms all (L6+1) os (fr.put o.dst y) Y' (fs++[aT E all fr o true]) Q):bO E ms all L6 (o::os) fr Y fs Q:=by
 unfold YC at h;cases h
omit hR in
theorem DT {o:Oper}{os:List Oper}{d:Nat}(h:o.dst=some d):Rk d (Us E (o::os))=true:=by unfold Us;rw[h];show (Nat.beq d d||_)=true;rw[Qs];rfl
omit hR in
theorem DU {o:Oper}{os:List Oper}{d:Nat}(h:Rk d (Us E os)=true):Rk d (Us E (o::os))=true:=by
 unfold Us;cases o.dst with
 |none=>exact h|some e=>show (Nat.beq d e||(Nat.beq d (E.cn e)||Rk d (Us E os)))=true;rw[h,Bool.or_true,Bool.or_true]
omit hR in
theorem aA.of {nr:Bool}{o:Nat}{st st':MS R.T}{Z Z':ak}{Y Y':qd}(h:aA true o st Z Y st' Z' Y'):aA nr o st Z Y st' Z' Y':=⟨h.ob,h.ln,h.om,h.nx,h.lp,fun L _=>h.dp L (.inl rfl),h.ro⟩
omit hR in
theorem Kp.nr {nr p9:Bool}{W:List Nat}{st st':MS R.T}{fr fr':Fr}{Z Z':ak}{Y Y':qd}(hn:p9=true->nr=true)(h:Kp nr W st fr Y Z st' fr' Y' Z'):Kp p9 W st fr Y Z st' fr' Y' Z':=⟨h.fr,fun o ho=>⟨(h.ob o ho).ob,(h.ob o ho).ln,(h.ob o ho).om,(h.ob o ho).nx,(h.ob o ho).lp,fun L hL=>(h.ob o ho).dp L (hL.imp hn id),(h.ob o ho).ro⟩⟩
omit hR in
theorem xY (h:XP E st o=true):X6 E o=false:=by
 unfold XP at h;unfold X6;split at h
 .rename_i c hc
  (try rw[hc]);(try dsimp only)
  split at h
  .rename_i f hf
   (try rw[hf])
   cases f with
   |func g=>
    have h':E.imp g=true:=h
    (try dsimp only);rw[h'];rfl
   |tmp _=>rfl|const _=>rfl| «global» _=>rfl
  .cases h
 .cases h
omit hR in
theorem xZ {c:Call}{f:Operand}{g:FuncId}{a vb:List V}(h:iQ E fr o=false)(h1:o.op= .call c)(h2:c.callee= .value f)(h3:fr.ev E f= .fn (.func g) a vb):∀d,o.dst=some d->E.own g d=false:=by intro d hd;unfold iQ at h;rw[h1] at h;dsimp only at h;rw[h2] at h;dsimp only at h;unfold Vi at h;rw[h3,hd] at h;exact h
theorem kL {om:Bool}{β:Type}{F:Nat->List (FR R)}(hF:Rq E F){M:Nat->List (FM R)}(hM:sG E M){all:List Oper}{k:MS R.T->Option β}{x:β}{Q:Fr->qd->Prop}:∀(os:List Oper)(L6:Nat)(Z:ak)(st:MS R.T)(fr:Fr)(Y:qd),(∀d,Rk d (Us E os)=true->d<F0)->Z.om.om=om->aj Z L6 st fr Y->L6+os.length<=Y.next->X7 E R om F M all os st k=some x->(∀Z' st' fr' Y',aj Z' (L6+os.length) st' fr' Y'->Y.next<=Y'.next->Kp (os.all (X6 E)) (Us E os) st fr Y Z st' fr' Y' Z'->k st'=some x->Q fr' Y')->OW E all L6 os fr Y Q
 | [],L6,Z,st,fr,Y,hW0,aC,hi,hsn,h,hq=>OW.nil (hq Z st fr Y hi (mF _) .refl h)|o::os,L6,Z,st,fr,Y,hW0,aC,hi,hsn,h,hq=>by
  have aZ:∀d,o.dst=some d->d<F0:=fun d hd=>hW0 d (DT hd);have hW1:∀d,Rk d (Us E os)=true->d<F0:=fun d hd=>hW0 d (DU hd);have gH:∀{Y':qd},Y.next<=Y'.next->L6+1+os.length<=Y'.next:=fun h=>by rw[List.length_cons] at hsn;omega
  have hg:=DN (o:=o) (all:=all) hi;unfold X7 at h;have hW:∀p,Rk p (Us E (o::os))=false->ND E o p/\Rk p (Us E os)=false:=fun p hp=>DR hp;have hq':∀(Z1:ak)(st1:MS R.T)(y:V)(Y1:qd),(∀p,ND E o p->aA (X6 E o) p st Z Y st1 Z1 Y1)->Y.next<=Y1.next->∀Z' st' fr' Y',aj Z' (L6+1+os.length) st' fr' Y'->Y1.next<=Y'.next->Kp (os.all (X6 E)) (Us E os) st1 (fr.put o.dst y) Y1 Z1 st' fr' Y' Z'->k st'=some x->Q fr' Y':=fun Z1 st1 y Y1 hkp h1 Z' st' fr' Y' hi' hn ji hk=>
   hq Z' st' fr' Y' (by rw[List.length_cons,Nat.add_comm os.length,<-Qv];exact hi') (PD h1 hn) (((Kp.op (Q:=fun p=>ND E o p) (fun p hp=>⟨(hW p hp).1.1,(hW p hp).1⟩) hkp).nr (p9:=(o::os).all (X6 E)) (fun e=>by rw[List.all_cons,Pz] at e;exact e.1)).trans ((ji.mono fun p hp=>(hW p hp).2).nr (fun e=>by rw[List.all_cons,Pz] at e;exact e.2))) hk
  split at h
  .rename_i hgm;rw[hgm] at hg;cases hown:U4 E st o with
   |true=>rw[hown,cond_true] at h;exact Na hR hF hi h hown hg (fun Z' st' y Y' hi' hn hkp hk=>kL hF hM os (L6+1) Z' st' _ Y' hW1 ((congrArg Cx.om (lZ hkp)).trans aC) hi' (gH (QG hn.symm)) hk (hq' Z' st' y Y' (fun p hp=>(hkp p hp).of) (QG hn.symm)))
   |false=>
   rw[hown,cond_false] at h;have aS:=p8 hi hown;cases himp:XP E st o with
   |true=>rw[himp,cond_true] at h;obtain⟨c,f,g,a,vb,e1,e2,e3,e4,n,v,Y',e5,st1,i1,i2,i3,i4⟩:=xU hR hM hi (by omega) h;exact OW.abp hg e1 e2 e3 e4 ⟨n,v,Y',e5,kL hF hM os (L6+1) Z st1 _ Y' hW1 aC i1 (gH i2) i4 (hq' Z st1 v Y' (fun p _=>by rw[xY himp];exact i3 p) i2)⟩ (xZ aS e1 e2 e3)
   |false=>
   rw[himp,cond_false] at h;exact xV hR hF aC aZ hi h (rest:=fun fr' Y'=>OW E all (L6+1) os fr' Y' Q) (fun y Y' hst hr=>hst.1 aS all os Q hg hr) (fun Z' st' y Y' hi' hn hkp hk=>kL hF hM os (L6+1) Z' st' _ Y' hW1 ((congrArg Cx.om (lZ hkp)).trans aC) hi' (gH (QG hn.symm)) hk (hq' Z' st' y Y' (fun p hp=>(hkp p hp).of) (QG hn.symm)))
  .rename_i hgm;rw[hgm] at hg;refine OW.skip hg (kL hF hM os (L6+1) Z _ _ Y hW1 aC ?_ (gH (mF _)) h (hq' Z _ Lv Y (fun p _=>aA.same (by first|exact dN|rfl)) (mF _)));exact(hi.le (P7 _)).SV o.dst (by unfold Rl;rfl)
  .rename_i j w c g hgm;rw[hgm] at hg;obtain⟨⟨n,hn⟩,hg2⟩:=hg;cases hown:(U4 E st o||U4 E (st.UO g) o) with
   |true=>rw[hown] at h;cases h|false=>
   rw[hown,cond_false] at h;rw[Qr] at hown;have aS:=p8 hi hown.1;cases himp:XP E (st.UO g) o with
   |true=>
    rw[himp,cond_true] at h;obtain⟨e1,e2,e3⟩:=lY hi n j w c g hn;cases c with
    |true=>rw[cond_true] at h;obtain⟨l1,l2⟩:=sJ hi (e1 rfl).2 (sK hi n j w g hn);obtain⟨c,f,g',a,vb,f1,f2,f3,f4,n',v,Y',f5,st1,i1,i2,i3,i4⟩:=xU hR hM l1 (by omega) h;exact OW.abp hg2 f1 f2 f3 f4 ⟨n',v,Y',f5,kL hF hM os (L6+1) Z st1 _ Y' hW1 aC i1 (gH i2) i4 (hq' Z st1 v Y' (fun p _=>by rw[xY himp];exact(i3 p).from l2) i2)⟩ (xZ aS f1 f2 f3)
    |false=>rw[cond_false] at h;obtain⟨l1,l2⟩:=xW hi hn;exact OW.skip hg2 (kL hF hM os (L6+1) Z _ _ Y hW1 aC ((l1.le (P7 _)).SV o.dst (by unfold Rl;rfl)) (gH (mF _)) h (hq' Z _ Lv Y (fun p _=>aA.same (dN.trans l2)) (mF _)))
   |false=>
   rw[himp,cond_false] at h;exact M9 hR hF aC aZ hi hn h (rest:=fun fr' Y'=>OW E all (L6+1) os fr' Y' Q) (fun e y Y' hst hr=>hst.1 aS all os Q (by rw[hg2,e]) hr) (fun e hr=>OW.skip (by rw[hg2,e]) hr)
    (fun Z' st' y Y' hi' hn hkp hk=>kL hF hM os (L6+1) Z' st' _ Y' hW1 ((congrArg Cx.om (lZ hkp)).trans aC) hi' (gH (QG hn.symm)) hk (hq' Z' st' y Y' (fun p hp=>(hkp p hp).of) (QG hn.symm)))
  .cases h
def Key.mv (c:Cx):Key->Key
 |.obj l=>.obj (c.lc l.2)|k=>k
def RV.mv (c:Cx)(f:RV):RV:=⟨f.Wy,f.U8,f.t.map (Key.mv c),f.w.map (Key.mv c)⟩
omit hR in
theorem Nc (c:Cx)(a b:Key):(a.mv c).eq (b.mv c)=a.nm.eq b.nm:=by
 cases a<;>cases b<;>try rfl
 rename_i l m;show fQ (c.lc l.2) (c.lc m.2)=fQ (1,l.2) (1,m.2);by_cases e:l.2=m.2
 .rw[e,vY];unfold fQ;simp
 .rw[wM c e,vY];simp[e]
omit hR in
theorem Nf (c:Cx)(f g:RV):clash (f.mv c) (g.mv c)=clash f.nm g.nm:=by
 have hr:∀k:Key,(k.mv c).eq .rest=k.nm.eq .rest:=fun k=>by cases k<;>rfl
 have hs:∀k:Key,(k.mv c).state=k.nm.state:=fun k=>by cases k<;>rfl
 unfold clash RV.mv RV.nm;dsimp only;simp only[List.any_map,Function.comp_def,Nc,hr,hs]
omit hR in
theorem getD_map (h:RV->RV)(ha:h SK=SK):∀(fs:List RV)(i:Nat),(fs.map h).getD i SK=h (fs.getD i SK)
 | [],i=>by simp[ha]|f::fs,0=>rfl|f::fs,i+1=>by simpa using getD_map h ha fs i
omit hR in
theorem Ng (c:Cx)(ms:List Nat)(fs:List RV):aae ms (fs.map (RV.mv c))=aae ms (fs.map RV.nm):=by unfold aae tL;simp only[PY,getD_map (RV.mv c) rfl,getD_map RV.nm rfl,Nf]
omit hR in
theorem l5 (c:Cx)(l:List Key):(UZ l).mv c=UZ (l.map (Key.mv c)):=rfl
omit hR in
theorem kM (c:Cx)(l:List Key):(UG l).mv c=UG (l.map (Key.mv c)):=rfl
omit hR in
theorem mv_nil (c:Cx):(UZ []).mv c=UZ []:=rfl
omit hR in
theorem DV (c:Cx):SK.mv c=SK:=rfl
omit hR in
theorem Nh {top:Nat->Nat}{x:TV R.T}{v:V}(hg:x≠ .gone)(hv:(∀o t,x≠ .vw o t)/\∀o t a b,x≠ .sub o t a b)(h:Rl R Z top x v):bB v=(alM x).map (Key.mv Z.om):=by
 cases x with
 |gone=>exact absurd rfl hg|opt j w y=>exact h.Bo.elim|agg cs=>obtain⟨l,rfl,_⟩:=h.cO;rfl
 |Rn cs=>obtain⟨l,rfl,_⟩:=h.nu;rfl
 |tX c t l=>obtain⟨l,rfl,_⟩:=h.dz;rfl
 |ref p off=>obtain⟨s,_,rfl⟩:=h.iM;rfl
 |RB p=>obtain⟨s,_,rfl⟩:=h.jG;rfl
 |Q5 l p=>obtain⟨s,rfl,_⟩:=h.gD;rfl
 |fn f a b=>obtain⟨a',b',rfl,_⟩:=h.dS;rfl
 |vw o t=>exact absurd rfl (hv.1 o t)|sub o t a b=>exact absurd rfl (hv.2 o t a b)|Un p t i off=>obtain⟨s,_,_,rfl⟩:=h.lQ;rfl
 |sv p off k n lo hi=>obtain⟨s,_,_,rfl⟩:=h.rJ;rfl
 |sel p off k n i m=>obtain⟨s,_,_,_,rfl⟩:=h.wE;rfl
 |X5 k n y i=>obtain⟨_,_,rfl⟩:=h.wF;rfl
 |_=>unfold Rl at h;subst h;rfl
omit hR in
theorem DX {x:TV R.T}(h:adj x=true):x≠ .gone/\(∀o t,x≠ .vw o t)/\∀o t a b,x≠ .sub o t a b:=⟨(by rintro rfl;cases h),(by rintro o t rfl;cases h),(by rintro o t a b rfl;cases h)⟩
omit hR in
theorem gW (hi:aj Z b st fr Y){x:Operand}{v:TV R.T}(h:RI [] st x=some v)(hg:adj v=true):(rkM st x).map (Key.mv Z.om)=bB (fr.ev E x):=by unfold rkM;rw[h];exact(Nh (DX hg).1 (DX hg).2 (aI hi .nil h)).symm
omit hR in
theorem DY (hi:aj Z b st fr Y):∀{l:List Operand}{vs:List (TV R.T)},V5 [] st l=some vs->vs.all adj=true->(l.flatMap (fun x=>rkM st x)).map (Key.mv Z.om)=l.flatMap fun x=>bB (fr.ev E x)
 | [],vs,h,_=>rfl|x::l,vs,h,hg=>by
  unfold V5 at h;cases h1:RI [] st x with
  |none=>simp only[h1] at h;cases h|some a=>
   cases h2:V5 [] st l with
   |none=>simp only[h1,h2] at h;cases h|some az=>simp only[h1,h2] at h;cases h;rw[List.all_cons,Pz] at hg;rw[P9,P9,QC,gW (E:=E) hi h1 hg.1,DY hi h2 hg.2]
omit hR in
theorem Ni {om:Bool}{β:Type}{F:Nat->List (FR R)}{k:MS R.T->Option β}{x:β}(h:runM E R om F o st k=some x)(hp:∀c a b,o.op≠ .pick c a b)(hl:∀t m y ok,o.op≠ .lookup t m y ok)(hst:∀t a y,o.op≠ .store t a y):∃r,YB E R om F [] o.dst o.op st=some r:=by
 unfold runM at h;split at h
 .rename_i c a b hop;exact absurd hop (hp _ _ _)
 .rename_i t a y hop;exact absurd hop (hst _ _ _)
 .rename_i t m y ok hop;exact absurd hop (hl _ _ _ _)
 .cases hr:YB E R om F [] o.dst o.op st with
  |some r=>exact⟨r,rfl⟩|none=>rw[hr] at h;cases h
omit hR in
theorem jO {om:Bool}{F:Nat->List (FR R)}{g:List (Nat×Bool)}{d:Option Nat}{op:Op}{r:R4 R}(h:YB E R om F g d op st=some r):WG E R g d op st=some r\/WH E R om F g d op st=some r:=by
 unfold YB at h;split at h
 .rename_i r' hx;cases h;exact .inl hx
 .exact .inr h
omit hR in
theorem DZ {top:Nat->Nat}:∀{x:List (TV R.T)}{v:List V},afg x=true->ah R Z top x v->v.all (fun a=>Q9 (er a))=false
 | [],_,h,_=>by cases h|x::l,v,h,hr=>by
  obtain⟨y,ys,rfl,h1,h2⟩:=hr.aP;rw[List.all_cons];by_cases e:∃o off k n lo hi,x= .sv o off k n lo hi
  .obtain⟨o,off,k,n,lo,hi,rfl⟩:=e;obtain⟨s,_,_,rfl⟩:=h1.rJ;simp[er,Q9]
  .by_cases e2:∃o off,x= .ref o off
   .obtain⟨o,off,rfl⟩:=e2;obtain⟨s,_,rfl⟩:=h1.iM;simp[er,Q9]
   have h':afg l=true:=by
    cases x<;>first|exact h|exact absurd ⟨_,_,_,_,_,_,rfl⟩ e|exact absurd ⟨_,_,rfl⟩ e2
   rw[DZ h' h2,Bool.and_false]
omit hR in
theorem sM (hi:aj Z b st fr Y)(aZ:∀d,o.dst=some d->d<F0):(aff o).map (Key.mv Z.om)=iy fr o:=by
 unfold aff iy;cases hd:o.dst with
 |none=>rfl|some d=>dsimp only;rw[hi.at (aZ d hd)];rfl
theorem Nj {om:Bool}{β:Type}{F:Nat->List (FR R)}(aC:Z.om.om=om)(aZ:∀d,o.dst=some d->d<F0)(hi:aj Z b st fr Y){k:MS R.T->Option β}{x:β}(h:runM E R om F o st k=some x)(hd:YE E st o=true):(adi E om st o).mv Z.om=bK E fr o:=by
 unfold adi bK;have hop:=Ni h;cases ho:o.op<;>rw[ho] at hop<;>dsimp only<;>(try exact mv_nil _)<;>(try exact DV _);case move y=>
  unfold YE at hd;rw[Pz] at hd;have hd:=hd.2;rw[ho] at hd;dsimp only at hd;have hz:Yt E o.dst=false:=by simpa using hd
  rw[hz];exact mv_nil _
 case buildSlice t len ps=>
  cases hz:bsM E o.dst
  .exact mv_nil _
  .exact DV _
 case load t a=>
  obtain⟨r,hr⟩:=hop (by simp) (by simp) (by simp);rcases jO hr with hr|hr
  .unfold WG at hr;cases hr
  unfold WH at hr;dsimp only at hr;split at hr
  .rename_i hv;rw[l5,gW (E:=E) hi hv rfl]
  .rename_i hv;rw[l5,gW (E:=E) hi hv rfl]
  .rename_i hv;rw[l5,gW (E:=E) hi hv rfl]
  .cases hr
 case store t a y=>
  have h':=h;unfold runM at h';rw[ho] at h';dsimp only at h';split at h'
  .rename_i hst;unfold agD at hst;split at hst
   .rename_i hv _;rw[kM,gW (E:=E) hi hv rfl]
   .cases hst
  .split at h'
   .rename_i hr;rcases jO hr with hr|hr
    .unfold WG at hr;cases hr
    unfold WH at hr;dsimp only at hr;split at hr
    .rename_i hv _;rw[kM,gW (E:=E) hi hv rfl]
    .cases hr
   .cases h'
 case convert a b' y=>
  obtain⟨r,hr⟩:=hop (by simp) (by simp) (by simp);rcases jO hr with hr|hr
  .unfold WG at hr;cases hr
  unfold WH at hr;dsimp only at hr;split at hr
  .rename_i v hv;rw[l5,gW (E:=E) hi hv (by unfold ae1 at hr;split at hr<;>first|rfl|cases hr)]
  .cases hr
 case slice t y lo hi' mx=>
  obtain⟨r,hr⟩:=hop (by simp) (by simp) (by simp);cases mx with
  |some m=>
   rcases jO hr with hr|hr
   .unfold WG at hr;cases hr
   .unfold WH at hr;cases hr
  |none=>
   rcases jO hr with hr|hr
   .unfold WG at hr;cases hr
   unfold WH at hr;dsimp only at hr;split at hr
   .rename_i v hv;have hw:asW st v=none:=(by unfold YE at hd;rw[Pz] at hd;have hd:=hd.2;rw[ho] at hd;dsimp only at hd;rw[hv] at hd;simpa using hd);have key:∀lo hi,aaV E R t v lo hi st=some r->adj v=true:=by
     intro lo hi hs;unfold aaV ae3 at hs;rw[hw] at hs;dsimp only at hs;unfold ae2 at hs;split at hs
     .split at hs<;>first|rfl|cases hs
     .cases hs
    rw[l5,gW (E:=E) hi hv (by
     split at hr
     .exact key _ _ hr
     .split at hr
      .exact key _ _ hr
      .cases hr
     .split at hr
      .exact key _ _ hr
      .cases hr
     .split at hr
      .exact key _ _ hr
      .cases hr)]
   .cases hr
 case lookup t m y ok=>
  have h':=h;unfold runM at h';rw[ho] at h';dsimp only at h';split at h'
  .rename_i hsm;unfold agC at hsm;split at hsm
   .rename_i hv;rw[l5,gW (E:=E) hi hv rfl]
   .cases hsm
  .split at h'
   .rename_i hr;rcases jO hr with hr|hr
    .unfold WG at hr;cases hr
    unfold WH at hr;dsimp only at hr;split at hr
    .rename_i hv _;rw[l5,gW (E:=E) hi hv (by unfold ae4 at hr;split at hr<;>first|rfl|cases hr)]
    .cases hr
   .cases h'
 case mapUpdate t m k' v=>
  obtain⟨r,hr⟩:=hop (by simp) (by simp) (by simp);rcases jO hr with hr|hr
  .unfold WG at hr;cases hr
  unfold WH at hr;dsimp only at hr;split at hr
  .rename_i hv _ _;rw[kM,gW (E:=E) hi hv (by unfold acp at hr;split at hr<;>first|rfl|cases hr)]
  .cases hr
 case insert t m k' v=>
  obtain⟨r,hr⟩:=hop (by simp) (by simp) (by simp);rcases jO hr with hr|hr
  .unfold WG at hr;cases hr
  unfold WH at hr;dsimp only at hr;split at hr
  .rename_i hv _ _;rw[kM,gW (E:=E) hi hv (by unfold acp at hr;split at hr<;>first|rfl|cases hr)]
  .cases hr
 case alloc t=>rw[kM];exact congrArg UG (sM hi aZ)
 case box t y=>rw[kM];exact congrArg UG (sM hi aZ)
 case makeMap t y=>rw[kM];exact congrArg UG (sM hi aZ)
 case makeSlice t y z=>rw[kM];exact congrArg UG (congrArg (Key.top:: ·) (sM hi aZ))
 case call c=>
  obtain⟨r,hr⟩:=hop (by simp) (by simp) (by simp);unfold YE at hd;rw[Pz,Qw] at hd;obtain⟨hown,hd⟩:=hd;rw[ho] at hd;dsimp only at hd;cases hc:c.callee with
  |invoke y m=>rfl|builtin bi=>
   rw[hc] at hd;dsimp only at hd;split at hd
   .rename_i vs hvs;have:=DY (E:=E) hi hvs hd;cases bi<;>dsimp only<;>(try rw[<-this])<;>(try rfl);rw[hi.om,aC];cases om<;>rfl
   .cases hd
  |value f=>
   rcases jO hr with hr|hr
   .unfold WG at hr;cases hr
   unfold WH at hr;dsimp only at hr;rw[hc] at hd hr;dsimp only at hd hr;split at hd
   .rename_i f' a' b' vs hf hvs;simp only[hf,hvs] at hr;cases himp:E.imp f' with
    |true=>rw[himp] at hr;cases hr|false=>
     obtain⟨va,vb,h1,h2,h3⟩:=(aI (E:=E) hi .nil hf).dS;dsimp only;rw[hf,h1];dsimp only;have aS:Vi E fr o f=false:=(by have:=p8 hi hown;unfold iQ at this;rw[ho] at this;dsimp only at this;rw[hc] at this;exact this);simp only[himp,aS,PE,if_false];rw[hvs];dsimp only;have hrel:=(h2.append (lT (E:=E) hi .nil hvs)).append h3;cases hcl:aby (a'++vs++b') with
     |true=>rw[xL hR hcl hrel];rfl|false=>rw[hcl,Bool.false_or] at hd;rw[DZ hd hrel];rfl
   .cases hd
omit hR in
theorem yg (c:Cx)(all:List Oper)(o:Oper):(XE all o).map (Key.mv c)=XE all o:=by
 have key:∀l:List Key,(∀k∈l,∃t,k= .slot t)->l.map (Key.mv c)=l:=by
  intro l;induction l with
  |nil=>intro _;rfl|cons k l ih=>intro h;obtain⟨t,e⟩:=h k (PN ..);rw[PU,ih fun k hk=>h k (PV _ hk),e];rfl
 refine key _ fun k hk=>?_;unfold XE at hk;rw[List.mem_append] at hk;rcases hk with hk|hk
 .rw[List.mem_filterMap] at hk;obtain⟨a,_,ha⟩:=hk;split at ha
  .cases ha;exact⟨_,rfl⟩
  .cases ha
 .split at hk
  .split at hk
   .exact⟨_,Qf.1 hk⟩
   .cases hk
  .cases hk
omit hR in
theorem yh (c:Cx)(o:Oper):(U0 o).map (Key.mv c)=U0 o:=by unfold U0;cases o.dst<;>rfl
omit hR in
theorem D5 {c:Cx}(f:RV)(a b:List Key)(ha:a.map (Key.mv c)=a)(hb:b.map (Key.mv c)=b):RV.mv c ⟨f.Wy,f.U8,a++f.t,b++f.w⟩=⟨(f.mv c).Wy,(f.mv c).U8,a++(f.mv c).t,b++(f.mv c).w⟩:=by unfold RV.mv;dsimp only;rw[QC,QC,ha,hb]
theorem Nk {om:Bool}{β:Type}{F:Nat->List (FR R)}(aC:Z.om.om=om)(aZ:∀d,o.dst=some d->d<F0)(hi:aj Z b st fr Y){k:MS R.T->Option β}{x:β}{all:List Oper}(h:runM E R om F o st k=some x)(hd:YE E st o=true):(V8 E om all st o true).mv Z.om=aT E all fr o true:=by have key:=Nj hR aC aZ hi h hd;unfold V8 aT;rw[if_pos rfl,if_pos rfl,<-key];exact D5 _ _ _ (yg _ _ _) (yh _ _)
omit hR in
theorem D6 {om:Bool}{all:List Oper}{c:Cx}:(V8 E om all st o false).mv c=aT E all fr o false:=by unfold V8 aT RV.mv;rw[if_neg (by simp),if_neg (by simp)];dsimp only;rw[yg,yh]
omit hR in
theorem Nl {om:Bool}{all:List Oper}{c:Call}{f:Operand}{g:FuncId}{a vb:List V}(hi:aj Z b st fr Y)(himp:XP E st o=true)(aS:iQ E fr o=false)(h1:o.op= .call c)(h2:c.callee= .value f)(h3:fr.ev E f= .fn (.func g) a vb)(h4:E.imp g=true):(V8 E om all st o true).mv Z.om=aT E all fr o true:=by
 have key:(adi E om st o).mv Z.om=bK E fr o:=by
  unfold XP at himp;rw[h1] at himp;dsimp only at himp;rw[h2] at himp;dsimp only at himp;unfold iQ at aS;rw[h1] at aS;dsimp only at aS;rw[h2] at aS;dsimp only at aS;unfold adi bK;rw[h1];dsimp only;rw[h2];dsimp only;rw[aS,h3];split at himp
  .rename_i g' a' b' hf
   (try rw[hf])
   (try dsimp only)
   rw[if_pos himp,if_neg (by simp)]
   (try dsimp only)
   rw[if_pos h4];rfl
  .cases himp
 unfold V8 aT;rw[if_pos rfl,if_pos rfl,<-key];exact D5 _ _ _ (yg _ _ _) (yh _ _)
omit hR in
theorem Nn {β:Type}{F:Nat->List (FR R)}{k:MS R.T->Option β}{x:β}{all:List Oper}(hi:aj Z b st fr Y)(h:YC R F o st k=some x)(hown:U4 E st o=true):(afh all o).mv Z.om=aT E all fr o true:=by unfold YC at h;cases h
theorem nO {om:Bool}{β:Type}{F:Nat->List (FR R)}(hF:Rq E F){M:Nat->List (FM R)}(hM:sG E M){ms:List Nat}{all:List Oper}{k:MS R.T->Option β}{x:β}{Q:Fr->qd->Prop}:∀(os:List Oper)(L6:Nat)(Z:ak)(st:MS R.T)(fr:Fr)(Y:qd)(fs:List RV),(∀d,Rk d (Us E os)=true->d<F0)->Z.om.om=om->aj Z L6 st fr Y->L6+os.length<=Y.next->Vx E R om F M ms all os st fs k=some x->(∀Z' st' fr' Y',aj Z' (L6+os.length) st' fr' Y'->Y.next<=Y'.next->Kp (os.all (X6 E)) (Us E os) st fr Y Z st' fr' Y' Z'->k st'=some x->Q fr' Y')->bO E ms all L6 os fr Y (fs.map (RV.mv Z.om)) Q
 | [],L6,Z,st,fr,Y,fs,hW0,aC,hi,hsn,h,hq=>by unfold Vx at h;obtain⟨h1,h⟩:=aY h;exact bO.nil (by rw[Ng];exact h1) (hq Z st fr Y hi (mF _) .refl h)
 |o::os,L6,Z,st,fr,Y,fs,hW0,aC,hi,hsn,h,hq=>by
  have aZ:∀d,o.dst=some d->d<F0:=fun d hd=>hW0 d (DT hd);have hW1:∀d,Rk d (Us E os)=true->d<F0:=fun d hd=>hW0 d (DU hd);have gH:∀{Y':qd},Y.next<=Y'.next->L6+1+os.length<=Y'.next:=fun h=>by rw[List.length_cons] at hsn;omega
  have hg:=DN (o:=o) (all:=all) hi;unfold Vx at h;have hW:∀p,Rk p (Us E (o::os))=false->ND E o p/\Rk p (Us E os)=false:=fun p hp=>DR hp;have hq':∀(Z1:ak)(st1:MS R.T)(y:V)(Y1:qd),(∀p,ND E o p->aA (X6 E o) p st Z Y st1 Z1 Y1)->Y.next<=Y1.next->∀Z' st' fr' Y',aj Z' (L6+1+os.length) st' fr' Y'->Y1.next<=Y'.next->Kp (os.all (X6 E)) (Us E os) st1 (fr.put o.dst y) Y1 Z1 st' fr' Y' Z'->k st'=some x->Q fr' Y':=fun Z1 st1 y Y1 hkp h1 Z' st' fr' Y' hi' hn ji hk=>
   hq Z' st' fr' Y' (by rw[List.length_cons,Nat.add_comm os.length,<-Qv];exact hi') (PD h1 hn) (((Kp.op (Q:=fun p=>ND E o p) (fun p hp=>⟨(hW p hp).1.1,(hW p hp).1⟩) hkp).nr (p9:=(o::os).all (X6 E)) (fun e=>by rw[List.all_cons,Pz] at e;exact e.1)).trans ((ji.mono fun p hp=>(hW p hp).2).nr (fun e=>by rw[List.all_cons,Pz] at e;exact e.2))) hk
  have run:∀(st1:MS R.T),st1.ob=st.ob->aj Z L6 st1 fr Y->Sq all fr o=some true->(bif XP E st1 o then (bif U4 E st1 o then none else abE R M o st1 (fun st'=>Vx E R om F M ms all os st' (fs++[V8 E om all st1 o true]) k)) else bif U4 E st1 o then YC R F o st1 (fun st'=>Vx E R om F M ms all os st' (fs++[afh all o]) k) else bif !(YE E st1 o) then none else runM E R om F o st1 (fun st'=>Vx E R om F M ms all os st' (fs++[V8 E om all st1 o true]) k))=some x->bO E ms all L6 (o::os) fr Y (fs.map (RV.mv Z.om)) Q:=by
   intro st1 iZ hi hg h;have hkq:∀(st':MS R.T)(Z':ak)(Y':qd),(∀p,ND E o p->aA true p st1 Z Y st' Z' Y')->∀p,ND E o p->aA true p st Z Y st' Z' Y':=fun st' Z' Y' h p hp=>(h p hp).from iZ;cases himp:XP E st1 o with
   |true=>
    rw[himp,cond_true] at h;cases hown:U4 E st1 o with
    |true=>rw[hown] at h;cases h|false=>
    rw[hown,cond_false] at h;have aS:=p8 hi hown;obtain⟨c,f,g',a,vb,f1,f2,f3,f4,n',v,Y',f5,st2,i1,i2,i3,i4⟩:=xU hR hM hi (by omega) h;have hf:=Nl (om:=om) (all:=all) hi himp aS f1 f2 f3 f4;refine bO.abp hg f1 f2 f3 f4 ⟨n',v,Y',f5,?_⟩ (xZ aS f1 f2 f3);have:=nO hF hM os (L6+1) Z st2 _ Y' _ hW1 aC i1 (gH i2) i4 (hq' Z st2 v Y' (fun p _=>by rw[xY himp];exact(i3 p).from iZ) i2);rw[QC,PU,List.map_nil,hf] at this;exact this
   |false=>
   rw[himp,cond_false] at h;cases hown:U4 E st1 o with
   |true=>rw[hown,cond_true] at h;refine Nb hR hF hi h hown hg (fun Z' st' y Y' hi' hn hkp hk=>?_);have:=nO hF hM os (L6+1) Z' st' _ Y' _ hW1 ((congrArg Cx.om (lZ hkp)).trans aC) hi' (gH (QG hn.symm)) hk (hq' Z' st' y Y' (fun p hp=>(hkq st' Z' Y' hkp p hp).of) (QG hn.symm));rw[lZ hkp,QC,PU,List.map_nil,Nn hi h hown] at this;exact this
   |false=>
   rw[hown,cond_false] at h;cases hd:YE E st1 o
   .rw[hd] at h;cases h
   .rw[hd] at h;have h':runM E R om F o st1 (fun st'=>Vx E R om F M ms all os st' (fs++[V8 E om all st1 o true]) k)=some x:=h;have hf:=Nk hR (all:=all) aC aZ hi h' hd;exact xV hR hF aC aZ hi h' (rest:=fun fr' Y'=>bO E ms all (L6+1) os fr' Y' (fs.map (RV.mv Z.om)++[aT E all fr o true]) Q) (fun y Y' hst hr=>hst.2 (p8 hi (by unfold YE at hd;rw[Pz,Qw] at hd;exact hd.1)) ms all os (fs.map (RV.mv Z.om)) Q hg hr) (fun Z' st' y Y' hi' hn hkp hk=>by have:=nO hF hM os (L6+1) Z' st' _ Y' _ hW1 ((congrArg Cx.om (lZ hkp)).trans aC) hi' (gH (QG hn.symm)) hk (hq' Z' st' y Y' (fun p hp=>(hkq st' Z' Y' hkp p hp).of) (QG hn.symm));rw[lZ hkp,QC,PU,List.map_nil,hf] at this;exact this)
  split at h
  .rename_i hgm;rw[hgm] at hg;exact run st rfl hi hg h
  .rename_i hgm;rw[hgm] at hg;have:=nO hF hM os (L6+1) Z _ _ Y _ hW1 aC ((hi.le (P7 _)).SV o.dst (by unfold Rl;rfl)) (gH (mF _)) h (hq' Z _ Lv Y (fun p _=>aA.same (by first|exact dN|rfl)) (mF _));rw[QC,PU,List.map_nil,D6 (fr:=fr)] at this;exact bO.skip hg this
  .rename_i j w c g hgm;rw[hgm] at hg;obtain⟨⟨n,hn⟩,hg2⟩:=hg;obtain⟨e1,e2,e3⟩:=lY hi n j w c g hn;cases c with
   |true=>obtain⟨l1,l2⟩:=sJ hi (e1 rfl).2 (sK hi n j w g hn);exact run (st.UO g) l2 l1 hg2 h
   |false=>obtain⟨l1,l2⟩:=xW hi hn;have:=nO hF hM os (L6+1) Z _ _ Y _ hW1 aC ((l1.le (P7 _)).SV o.dst (by unfold Rl;rfl)) (gH (mF _)) h (hq' Z _ Lv Y (fun p _=>aA.same (dN.trans l2)) (mF _));rw[QC,PU,List.map_nil,D6 (fr:=fr)] at this;exact bO.skip hg2 this
  .cases h
end
section
variable {E:Env}{fr:Fr}{Y:qd}
def qd.enter (Y:qd)(fr:Fr)(ps:Array Tmp)(aF body:Code):qd:=({Y with next:=Y.next+1}:qd).aO Y.next {st:=0,pend:=none,fr:=fr,ps:=ps.toList,aF:=aF,body:=body}
def Rnd (E:Env)(l:Nat)(args:List V)(Y:qd)(b:Bool)(Y':qd):Prop:=∃n,fF (Rh E n) l args Y=some (.bool b,Y')
theorem CW.range {f:Operand}{ps:Array Tmp}{aF body:Code}{g:FuncId}{a b:List V}{Q:Ex->Fr->qd->Prop}(hf:fr.ev E f= .fn (.func g) a b)(hi:E.imp g=true)(h:U9 E g (a++[.fn (.yield Y.next) [] []]++b) (fr.d+1) (Y.enter fr ps aF body) (fun _ Y2=>∃r,Y2.loops Y.next=some r/\r.st≠1/\Q (match r.pend with|none=>.normal|some e=>e) fr (Y2.dG Y.next))):CW E (.rangeFunc f ps aF body) fr Y Q:=by
 obtain⟨n,v,Y2,h1,r,h2,h3,h4⟩:=h;refine⟨n,_,fr,_,?_,h4⟩;have h1':bG E (Rh E n) fr.d (Y.enter fr ps aF body) (.fn (.func g) a b) [.fn (.yield Y.next) [] []]=some (v,Y2):=by unfold bG;simp only[hi,if_true];exact h1
 unfold RD;rw[hf];simp only[kU,if_true];unfold qd.enter at h1';rw[h1'];simp only[Option.bind_some,h2,if_neg h3];cases r.pend<;>rfl
theorem Rnd.of {l:Nat}{args:List V}{r:Vg}{b:Bool}{Y':qd}(hl:Y.loops l=some r)(hst:r.st=0)(hlen:r.ps.length=args.length)(h:CW E r.aF {r.fr with tm:=(r.ps.zip args).foldl (fun tm (p,a)=>upd tm p a) r.fr.tm} Y (fun e Rb Y1=>e= .normal/\∃r1,Y1.loops l=some r1/\r1.st=0/\
   CW E r.body Rb (Y1.aO l {r1 with st:=1}) (fun e _ Y2=>∃r2,Y2.loops l=some r2/\r2.st=1/\match e with
    |.normal=>b=true/\Y'=Y2.aO l {r2 with st:=0,pend:=none}
    |e=>b=false/\Y'=Y2.aO l {r2 with st:=2,pend:=some e}))):Rnd E l args Y b Y':=by
 obtain⟨n,e,Rb,Y1,h1,rfl,r1,hl1,hs1,m,e2,RX,Y2,h2,r2,hl2,hs2,h3⟩:=h;have h1':(Rh E (max n m+1)).code r.aF {r.fr with tm:=(r.ps.zip args).foldl (fun tm (p,a)=>upd tm p a) r.fr.tm} Y=some (.normal,Rb,Y1):=iL (bN (QB n m)) _ _ _ _ h1;have h2':(Rh E (max n m+1)).code r.body Rb (Y1.aO l {r1 with st:=1})=some (e2,RX,Y2):=iL (bN (Qg n m)) _ _ _ _ h2;refine⟨max n m+1,?_⟩;unfold fF;simp only[hl,Option.bind_some,hst,hlen,and_self,if_true,h1',hl1,hs1,h2',hl2,hs2];cases e2 with
 |normal=>obtain⟨rfl,rfl⟩:=h3;rfl
 |exit i=>obtain⟨rfl,rfl⟩:=h3;rfl
 |ret=>obtain⟨rfl,rfl⟩:=h3;rfl
theorem OW.yield {all:List Oper}{st:Nat}{o:Oper}{os:List Oper}{Q:Fr->qd->Prop}{c:Call}{f:Operand}{l:Nat}{b:Bool}{Y1:qd}(hw:Sq all fr o=some true)(ho:o.op= .call c)(bD:c.callee= .value f)(hf:fr.ev E f= .fn (.yield l) [] [])(hr:Rnd E l (c.args.toList.map (fr.ev E)) Y b Y1)(h:OW E all (st+1) os (fr.put o.dst (.bool b)) Y1 Q):OW E all st (o::os) fr Y Q:=by
 obtain⟨n,fr',Y',h1,h2⟩:=h;obtain⟨m,hm⟩:=hr;have hm':=AX (bN (Qg n m)) hm;have h1':=rD (bN (QB n m)) _ _ _ _ _ _ h1;refine⟨max n m,fr',Y',?_,h2⟩;have:bG E (Rh E (max n m)) fr.d Y (.fn (.yield l) [] []) (c.args.toList.map (fr.ev E))=some (.bool b,Y1):=by unfold bG;exact hm'
 have aS:Vi E fr o f=false:=by unfold Vi;rw[hf]
 simp only[opsE,hw,Option.bind_some,if_true,opC,ho,bD,aS,PE,if_false,hf,this,Option.map_some,h1']
structure Shift (d:Nat)(Y Y':qd):Prop where
 next:Y.next<=Y'.next
 top:∀s,s<Y.next->Y'.top s=Y.top s
 loops:∀l,l<Y.next->Y'.loops l=Y.loops l
 obj:∀a o,a<=d->Y'.obj (a,o)=Y.obj (a,o)
theorem Shift.refl {d:Nat}{Y:qd}:Shift d Y Y:=⟨mF _,fun _ _=>rfl,fun _ _=>rfl,fun _ _ _=>rfl⟩
theorem Shift.trans {d:Nat}{Y Y' dA:qd}(h:Shift d Y Y')(g:Shift d Y' dA):Shift d Y dA:=
 ⟨PD h.next g.next,fun s hs=>(g.top s (PS hs h.next)).trans (h.top s hs),fun s hs=>(g.loops s (PS hs h.next)).trans (h.loops s hs),fun a o ha=>(g.obj a o ha).trans (h.obj a o ha)⟩
def adp (E:Env)(f:FuncId)(a b:List V)(L:List (List V)):Prop:=∀(d l:Nat)(Y:qd)(J:List (List V)->qd->Prop)(D:qd->Prop),
 (∀xs Y Y',l<Y.next->J xs Y->Shift d Y Y'->J xs Y')->(∀Y Y',l<Y.next->D Y->Shift d Y Y'->D Y')->
 (∀x xs Y,l<Y.next->J (x::xs) Y->∃c Y',Rnd E l x Y c Y'/\Y.next<=Y'.next/\(∀a o,d<a->Y'.obj (a,o)=Y.obj (a,o))/\(∀s,s<Y.next->Y'.loops s=Y.loops s\/s=l)/\(c=true->J xs Y')/\(c=false->D Y'))->
 l<Y.next->J L Y->U9 E f (a++[.fn (.yield l) [] []]++b) (d+1) Y fun _ Y'=>Y.next<=Y'.next/\(J [] Y'\/D Y')
end
end Aq
end
