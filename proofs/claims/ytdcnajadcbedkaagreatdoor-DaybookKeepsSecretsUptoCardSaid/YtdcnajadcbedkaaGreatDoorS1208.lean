/- Part of the proof of a law. -/
import Derived.Test.YtdcnajadcbedkaaGreatDoorS1207
set_option linter.all false
section
namespace Aq
open Go
theorem d9 {a b:Nat} (h:Nat.beq a b=true):a=b:=aml h
theorem LJ {a b:Nat} (h:Nat.beq a b=false):a≠b:=fun e=>by rw[e,ajl] at h;cases h
theorem LK {a b:Nat} (h:a≠b):Nat.beq a b=false:=Bool.eq_false_iff.2 fun e=>h (d9 e)
section look
variable {α:Type}
theorem rW (f:α->α):∀(l:List (Nat×α)) (i:Nat),look (lH f l) i=(look l i).map f
 | [],_=>rfl
 | (j,x)::l,i=>by
   show (bif Nat.beq j i then some (f x) else look (lH f l) i)=Option.map f (bif Nat.beq j i then some x else look l i)
   cases Nat.beq j i
   ·exact rW f l i
   ·rfl
theorem p9 {i j:Nat} (h:j≠i):∀(l:List (Nat×α)),look (iy i l) j=look l j
 | []=>rfl
 | (k,x)::l=>by
   show look (bif Nat.beq k i then iy i l else (k,x)::iy i l) j=bif Nat.beq k j then some x else look l j
   cases hk:Nat.beq k i
   ·show (bif Nat.beq k j then some x else look (iy i l) j)=_
    rw[p9 h l]
   ·have:=d9 hk
    subst this
    rw[LK (Ne.symm h)]
    exact p9 h l
theorem jq (l:List (Nat×α)) (i:Nat) (x:α):look ((i,x)::l) i=some x:=by
 show (bif Nat.beq i i then some x else look l i)=_;rw[ajl];rfl
theorem gD (l:List (Nat×α)) {i j:Nat} (x:α) (h:j≠i):look ((i,x)::l) j=look l j:=by
 show (bif Nat.beq i j then some x else look l j)=_;rw[LK (Ne.symm h)];rfl
end look
section
variable {R:iH} {E:Env}
theorem Yk {ρ ρ':aN} {top top':Nat->Nat}:∀(t:Ty) (x:Den R.T t) (v:V),Rl R ρ top (vK R .any t x) v->Rl R ρ' top' (vK R .any t x) v
 |.int _,_,_,h=>h
 |.bool,_,_,h=>h
 |.str,_,_,h=>h
 |.slice _,_,_,h=>h
 |.st _,_,_,h=>h
theorem xW {ρ ρ':aN} {top top':Nat->Nat}:∀(l:List Ty) (p:mI R.T l) (vs:List V),au R ρ top (jf R .any l p) vs->au R ρ' top' (jf R .any l p) vs
 | [],_,_,h=>h
 | [t],x,vs,h=>by
   obtain⟨v,l,rfl,h1,h2⟩:=h.dN
   rw[h2.fB]
   exact .cons' (Yk t x v h1) rfl
 |t::u::l,p,vs,h=>by
  obtain⟨v,ws,rfl,h1,h2⟩:=h.dN
  exact .cons' (Yk t p.1 v h1) (xW (u::l) p.2 ws h2)
theorem ah8 {ρ ρ':aN} {top top':Nat->Nat} {t:Ty} {x:Den R.T t} {vs:List V} (h:au R ρ top (fG R .any t x).cells vs):au R ρ' top' (fG R .any t x).cells vs:=by
 cases t with
 |st n=>exact xW _ _ _ h
 |int k=>exact xW [.int k] x vs h
 |bool=>exact xW [.bool] x vs h
 |str=>exact xW [.str] x vs h
 |slice t=>exact xW [.slice t] x vs h
theorem au.split {ρ:aN} {top:Nat->Nat}:∀{ts ts':List (TV R.T)} {vs:List V},au R ρ top (ts++ts') vs->∃a b,vs=a++b/\au R ρ top ts a/\au R ρ top ts' b
 | [],_,vs,h=>⟨[],vs,rfl,rfl,h⟩
 |t::ts,ts',vs,h=>by
  obtain⟨v,ws,rfl,h1,h2⟩:=au.dN (ts:=ts++ts') h
  obtain⟨a,b,rfl,h3,h4⟩:=au.split h2
  exact⟨v::a,b,rfl,.cons' h1 h3,h4⟩
theorem vU {ρ ρ':aN} {top top':Nat->Nat} {t:Ty}:∀(l:List (Den R.T t)) (vs:List V),au R ρ top (l.flatMap fun x=>(fG R .any t x).cells) vs->au R ρ' top' (l.flatMap fun x=>(fG R .any t x).cells) vs
 | [],vs,h=>h
 |x::l,vs,h=>by
  rw[afn] at h⊢
  obtain⟨a,b,rfl,h1,h2⟩:=h.split
  exact(ah8 h1).append (vU l b h2)
def iB (fr:Fr) (ρ:aN) (top:Nat->Nat):TV R.T->V->Prop
 |.opt j w y,v=>(fr.tm j= .bool w->Rl R ρ top y v)/\(fr.tm j= .bool (!w)\/fr.tm j=aC->v=aC)
 |x,v=>Rl R ρ top x v
theorem iB.of {fr:Fr} {ρ:aN} {top:Nat->Nat} {x:TV R.T} {v:V} (h:Rl R ρ top x v):iB fr ρ top x v:=by
 cases x<;>first|exact h|exact h.Ye.elim
def dY (ρ:aN) (σ:ah) (o:Nat):Ob R.T->Prop
 |.cells cs=> ∃s l,ρ.ob o=some s/\σ.cB (ρ.om.lc o) s=some l/\au R ρ σ.top cs l
 |.map k e m=> ∃s,ρ.ob o=some s/\σ.fP (ρ.om.lc o) s=some (m.map fun p=>aG R k p.1,m.map fun p=>aG R e p.2)
 |.smap ks vs=> ∃s k l,ρ.ob o=some s/\σ.fP (ρ.om.lc o) s=some (k,l)/\au R ρ σ.top ks k/\au R ρ σ.top vs l
 |.arr t l=>l.length=ρ.ln o/\((l=[]/\ρ.ob o=none)\/∃s cs,ρ.ob o=some s/\σ.cB (ρ.om.lc o) s=some cs/\au R ρ σ.top (l.flatMap fun x=>(fG R .any t x).cells) cs)
 |.sg ss=> ∃s,ρ.ob o=some s/\σ.cB (ρ.om.lc o) s=some (bN ss)
 |.gone=>True
 |.ro b=>dY ρ σ o b
theorem dY.strip {ρ:aN} {σ:ah} {o:Nat}:∀{x:Ob R.T},dY ρ σ o x->dY ρ σ o (Rw x)
 |.cells _,h=>h
 |.map _ _ _,h=>h
 |.smap _ _,h=>h
 |.arr _ _,h=>h
 |.sg _,h=>h
 |.gone,h=>h
 |.ro b,h=>dY.strip (x:=b) h
structure aH (ρ:aN) (b:Nat) (st:MS R.T) (fr:Fr) (σ:ah):Prop where
 d:fr.d=ρ.om.dp
 om:fr.om=ρ.om.om
 fr:∀i v,look st.fr i=some v->iB fr ρ σ.top v (fr.tm i)
 ob:∀o x,look st.ob o=some x->dY ρ σ o x
 inj:∀t u s,ρ.tk t=some s->ρ.tk u=some s->t=u
 lt:∀t s,ρ.tk t=some s->s<b
 ge:∀t s,ρ.tk t=some s->ρ.om.lo<=s
 nx:ρ.om.lo<=b
variable {ρ:aN} {b:Nat} {st:MS R.T} {fr:Fr} {σ:ah}
theorem aH.le {b':Nat} (h:aH ρ b st fr σ) (hb:b<=b'):aH ρ b' st fr σ:={h with lt:=fun t s ht=>adV (h.lt t s ht) hb,nx:=aav h.nx hb}
theorem dY.bump {o k:Nat}:∀{x:Ob R.T},dY ρ σ o x->dY ρ (σ.bump k) o x
 |.cells _,h=>h
 |.map _ _ _,h=>h
 |.smap _ _,h=>h
 |.arr _ _,h=>h
 |.sg _,h=>h
 |.gone,h=>h
 |.ro b,h=>dY.bump (x:=b) h
theorem aH.next (h:aH ρ b st fr σ) (k:Nat):aH ρ b st fr (σ.bump k):={h with fr:=h.fr,ob:=fun o x hx=>(h.ob o x hx).bump}
theorem aH.rd (h:aH ρ b st fr σ) {o:Nat} {x:Ob R.T} (hx:mK st o=some x):dY ρ σ o x:=by
 unfold mK at hx
 split at hx
 ·rename_i y hy;cases hx;exact(h.ob _ _ hy).strip
 ·cases hx
theorem ah9 {ρ:aN} {top:Nat->Nat} {x:TV R.T} {u v:V} {i:Nat} (h:iB fr ρ top x v):iB (fr.set i u) ρ top (Ru i x) v:=by
 cases x with
 |opt j w y=>
  show iB _ _ _ (bif Nat.beq j i then .gone else .opt j w y) v
  cases hj:Nat.beq j i
  ·have hs:(fr.set i u).tm j=fr.tm j:=FX _ _ (by simpa using LJ hj)
   exact⟨fun hc=>h.1 (by rw[<-hs];exact hc),fun hc=>h.2 (by rw[<-hs];exact hc)⟩
  ·exact iB.of (x:=.gone) (by unfold Rl;trivial)
 |_=>exact h
theorem aH.put (h:aH ρ b st fr σ) (i:Nat) {x:TV R.T} {v:V} (hx:iB (fr.set i v) ρ σ.top x v):aH ρ b (st.put i x) (fr.set i v) σ where
 d:=h.d
 om:=h.om
 ob:=h.ob
 inj:=h.inj
 lt:=h.lt
 ge:=h.ge
 nx:=h.nx
 fr:=fun j y hy=>by
  by_cases e:j=i
  ·subst e
   have hy':some x=some y:=by rw[<-hy];exact(jq _ _ _).symm
   cases hy'
   rw[KX]
   exact hx
  ·have hy':look (lH (Ru i) (iy i st.fr)) j=some y:=by rw[<-hy];exact(gD _ _ e).symm
   rw[rW,p9 e,aao] at hy'
   obtain⟨z,hz,rfl⟩:=hy'
   rw[FX _ _ (by simpa using e)]
   exact ah9 (h.fr j z hz)
theorem aH.fA (h:aH ρ b st fr σ) (d:Option Nat) {x:TV R.T} {v:V} (hx:Rl R ρ σ.top x v):aH ρ b (st.fA d x) (fr.put d v) σ:=by
 cases d with
 |none=>exact h
 |some i=>exact h.put i (.of hx)
theorem aia {ρ:aN} {top:Nat->Nat} {x:TV R.T} {v:V} {i:Nat} {c:Bool} (hi:fr.tm i= .bool c) (h:iB fr ρ top x v):iB fr ρ top (Rv i c x) v:=by
 cases x with
 |opt j w y=>
  show iB _ _ _ (bif Nat.beq j i then (bif (c==w) then y else .undef) else .opt j w y) v
  cases hj:Nat.beq j i
  ·exact h
  ·have:=d9 hj
   subst this
   by_cases e:c=w
   ·subst e
    rw[beq_self_eq_true]
    exact iB.of (h.1 hi)
   ·rw[show (c==w)=false by simpa using e]
    have e':c= !w:=by cases c<;>cases w<;>first|rfl|exact absurd rfl e
    have h':=h.2 (.inl (by rw[hi,e']))
    subst h';exact iB.of (x:=.undef) (by unfold Rl;rfl)
 |_=>exact h
theorem aH.learn (h:aH ρ b st fr σ) {i:Nat} {c:Bool} (hc:fr.tm i= .bool c):aH ρ b (st.learn i c) fr σ where
 d:=h.d
 om:=h.om
 ob:=h.ob
 inj:=h.inj
 lt:=h.lt
 ge:=h.ge
 nx:=h.nx
 fr:=fun j y hy=>by
  by_cases e:j=i
  ·subst e
   have hy':some (TV.gQ c)=some y:=by rw[<-hy];exact(jq _ _ _).symm
   cases hy'
   exact iB.of (x:=.gQ c) (by unfold Rl;exact hc)
  ·have hy':look (lH (Rv i c) (iy i st.fr)) j=some y:=by rw[<-hy];exact(gD _ _ e).symm
   rw[rW,p9 e,aao] at hy'
   obtain⟨z,hz,rfl⟩:=hy'
   exact aia hc (h.fr j z hz)
def aN.lN (ρ:aN) (o s:Nat):aN:={ρ with ob:=upd ρ.ob o (some s)}
def aN.gF (ρ:aN) (t s:Nat):aN:={ρ with tk:=upd ρ.tk t (some s)}
theorem Yl {ρ':aN} {top:Nat->Nat} {o:Nat} {x:TV R.T} {v:V} (ho:∀p,p≠o->ρ'.ob p=ρ.ob p/\ρ'.ln p=ρ.ln p) (ht:ρ'.tk=ρ.tk) (hx:ρ'.om=ρ.om) (h:iB fr ρ top x v):iB fr ρ' top (F6 o x) v:=by
 unfold F6
 cases hm:lG o x
 ·cases x with
  |opt j w y=>exact⟨fun hc=>Rl.kill o ho ht hx y v hm (h.1 hc),h.2⟩
  |_=>exact iB.of (Rl.kill o ho ht hx _ v hm h)
 ·exact iB.of (x:=.gone) (by unfold Rl;trivial)
theorem Si (c:Cx) {o p:Nat} (h:p≠o):qC (c.lc p) (c.lc o)=false:=by
 cases e:qC (c.lc p) (c.lc o)
 ·rfl
 ·unfold qC at e
  rw[aan,beq_iff_eq,beq_iff_eq] at e
  exact absurd (Prod.ext e.2 e.1) (c.Yc h)
theorem xX {c:Cx} {o p:Nat} (σ:ah) (s s':Nat) (x:ig) (h:p≠o):(σ.setObj (c.lc o) s' x).cB (c.lc p) s=σ.cB (c.lc p) s:=XI σ s s' x (Si c h)
theorem C9 {c:Cx} {o p:Nat} (σ:ah) (s s':Nat) (x:ig) (h:p≠o):(σ.setObj (c.lc o) s' x).fP (c.lc p) s=σ.fP (c.lc p) s:=XJ σ s s' x (Si c h)
theorem Ym {ρ':aN} {o p s':Nat} {a:ig} (hp:p≠o) (ho:∀p,p≠o->ρ'.ob p=ρ.ob p/\ρ'.ln p=ρ.ln p) (ht:ρ'.tk=ρ.tk) (hx:ρ'.om=ρ.om):∀{x:Ob R.T},Ob.lG o x=false->dY ρ σ p x->dY ρ' (σ.setObj (ρ.om.lc o) s' a) p x
 |.cells cs,hm,h=>by
  obtain⟨s,l,h1,h2,h3⟩:=h
  exact⟨s,l,((ho p hp).1.trans h1),by rw[hx,xX _ _ _ _ hp];exact h2,au.kill o ho ht hx _ _ hm h3⟩
 |.map k e m,_,h=>by
  obtain⟨s,h1,h2⟩:=h
  exact⟨s,((ho p hp).1.trans h1),by rw[hx,C9 _ _ _ _ hp];exact h2⟩
 |.smap ks vs,hm,h=>by
  obtain⟨s,k,l,h1,h2,h3,h4⟩:=h
  have hm':(mJ o ks||mJ o vs)=false:=hm
  rw[ajk] at hm'
  exact⟨s,k,l,((ho p hp).1.trans h1),by rw[hx,C9 _ _ _ _ hp];exact h2,au.kill o ho ht hx _ _ hm'.1 h3,au.kill o ho ht hx _ _ hm'.2 h4⟩
 |.arr t l,hm,h=>by
  refine⟨h.1.trans (ho p hp).2.symm, ?_⟩
  rcases h.2 with h| ⟨s,cs,h1,h2,h3⟩
  ·exact .inl ⟨h.1,(ho p hp).1.trans h.2⟩
  ·exact .inr ⟨s,cs,((ho p hp).1.trans h1),by rw[hx,xX _ _ _ _ hp];exact h2,vU l cs h3⟩
 |.sg ss,_,h=>by
  obtain⟨s,h1,h2⟩:=h
  exact⟨s,((ho p hp).1.trans h1),by rw[hx,xX _ _ _ _ hp];exact h2⟩
 |.gone,_,_=>trivial
 |.ro b,hm,h=>Ym hp ho ht hx (x:=b) hm h
theorem aib {ρ':aN} {o p s':Nat} {a:ig} {x:Ob R.T} (hp:p≠o) (ho:∀p,p≠o->ρ'.ob p=ρ.ob p/\ρ'.ln p=ρ.ln p) (ht:ρ'.tk=ρ.tk) (hx:ρ'.om=ρ.om) (h:dY ρ σ p x):dY ρ' (σ.setObj (ρ.om.lc o) s' a) p (Ob.kill o x):=by
 unfold Ob.kill
 cases hm:Ob.lG o x
 ·exact Ym hp ho ht hx hm h
 ·trivial
theorem Yn {o p s:Nat} {a:ig} (hp:p≠o):∀{x:Ob R.T},dY ρ σ p x->dY ρ (σ.setObj (ρ.om.lc o) s a) p x
 |.cells cs,h=>by obtain⟨s,l,h1,h2,h3⟩:=h;exact⟨s,l,h1,by rw[xX _ _ _ _ hp];exact h2,h3⟩
 |.map k e m,h=>by obtain⟨s,h1,h2⟩:=h;exact⟨s,h1,by rw[C9 _ _ _ _ hp];exact h2⟩
 |.smap ks vs,h=>by obtain⟨s,k,l,h1,h2,h3⟩:=h;exact⟨s,k,l,h1,by rw[C9 _ _ _ _ hp];exact h2,h3⟩
 |.arr t l,h=>by
  refine⟨h.1, ?_⟩
  rcases h.2 with h| ⟨s,cs,h1,h2,h3⟩
  ·exact .inl h
  ·exact .inr ⟨s,cs,h1,by rw[xX _ _ _ _ hp];exact h2,h3⟩
 |.sg ss,h=>by obtain⟨s,h1,h2⟩:=h;exact⟨s,h1,by rw[xX _ _ _ _ hp];exact h2⟩
 |.gone,_=>trivial
 |.ro b,h=>Yn hp (x:=b) h
theorem Yo {o t s n:Nat} (key:∀u s',u≠t->ρ.tk u=some s'->(ρ.gF t s).tk u=some s'/\(σ.bU s n).top s'=σ.top s'):∀{x:Ob R.T},dY ρ σ o x->dY (ρ.gF t s) (σ.bU s n) o (Ob.wk t x)
 |.cells cs,h=>by obtain⟨s',l,h1,h2,h3⟩:=h;exact⟨s',l,h1,h2,au.wk (ρ:=ρ) (ρ':=ρ.gF t s) (top:=σ.top) (top':=(σ.bU s n).top) t ⟨rfl,rfl,rfl⟩ key _ _ h3⟩
 |.map k e m,h=>h
 |.smap ks vs,h=>by obtain⟨s',k,l,h1,h2,h3,h4⟩:=h;exact⟨s',k,l,h1,h2,au.wk (ρ:=ρ) (ρ':=ρ.gF t s) (top:=σ.top) (top':=(σ.bU s n).top) t ⟨rfl,rfl,rfl⟩ key _ _ h3,au.wk (ρ:=ρ) (ρ':=ρ.gF t s) (top:=σ.top) (top':=(σ.bU s n).top) t ⟨rfl,rfl,rfl⟩ key _ _ h4⟩
 |.arr ty l,h=>by
  refine⟨h.1, ?_⟩
  rcases h.2 with h| ⟨s,cs,h1,h2,h3⟩
  ·exact .inl h
  ·exact .inr ⟨s,cs,h1,h2,vU l cs h3⟩
 |.sg ss,h=>h
 |.gone,_=>trivial
 |.ro b,h=>Yo key (x:=b) h
theorem Da {o s:Nat}:∀p,p≠o->(ρ.lN o s).ob p=ρ.ob p/\(ρ.lN o s).ln p=ρ.ln p:=fun p h=>⟨by simp[aN.lN,upd,h],rfl⟩
def aN.zN (ρ:aN) (o n:Nat):aN:={ρ with ln:=upd ρ.ln o n}
theorem Yp {o n:Nat}:∀p,p≠o->(ρ.zN o n).ob p=ρ.ob p/\(ρ.zN o n).ln p=ρ.ln p:=fun p h=>⟨rfl,by simp[aN.zN,upd,h]⟩
def aN.gh (ρ:aN) (o:Nat):aN:={ρ.zN o 0 with ob:=upd ρ.ob o none}
theorem Db {o:Nat}:∀p,p≠o->(ρ.gh o).ob p=ρ.ob p/\(ρ.gh o).ln p=ρ.ln p:=fun p h=>⟨by simp[aN.gh,upd,h],(Yp (ρ:=ρ) (n:=0) p h).2⟩
theorem Gt {o n:Nat}:(ρ.zN o n).ln o=n:=by simp[aN.zN,upd]
def aN.zO (ρ:aN) (o s n:Nat):aN:=(ρ.lN o s).zN o n
theorem Sj {o s n:Nat}:∀p,p≠o->(ρ.zO o s n).ob p=ρ.ob p/\(ρ.zO o s n).ln p=ρ.ln p:=fun p h=>⟨(Da p h).1,(Yp p h).2⟩
theorem rX {o s:Nat}:(ρ.lN o s).ob o=some s:=by simp[aN.lN,upd]
theorem aH.new' {ρ':aN} (h:aH ρ b st fr σ) (o s:Nat) {x:Ob R.T} {a:ig} (Da:∀p,p≠o->ρ'.ob p=ρ.ob p/\ρ'.ln p=ρ.ln p) (ht:ρ'.tk=ρ.tk) (bq:ρ'.om=ρ.om) (hx:dY ρ' (σ.setObj (ρ.om.lc o) s a) o x):aH ρ' b (st.new o x) fr (σ.setObj (ρ.om.lc o) s a) where
 d:=by rw[bq];exact h.d
 om:=by rw[bq];exact h.om
 fr:=fun j y hy=>by
  have hy':look (lH (F6 o) st.fr) j=some y:=hy
  rw[rW,aao] at hy'
  obtain⟨z,hz,rfl⟩:=hy'
  exact Yl Da ht bq (h.fr j z hz)
 ob:=fun p y hy=>by
  by_cases e:p=o
  ·subst e
   have hy':some x=some y:=by rw[<-hy];exact(jq _ _ _).symm
   cases hy'
   exact hx
  ·have hy':look (lH (Ob.kill o) (iy o st.ob)) p=some y:=by rw[<-hy];exact(gD _ _ e).symm
   rw[rW,p9 e,aao] at hy'
   obtain⟨z,hz,rfl⟩:=hy'
   exact aib e Da ht bq (h.ob p z hz)
 inj:=by rw[ht];exact h.inj
 lt:=by rw[ht];exact h.lt
 ge:=by rw[ht,bq];exact h.ge
 nx:=by rw[bq];exact h.nx
theorem aH.new (h:aH ρ b st fr σ) (o s:Nat) {x:Ob R.T} {a:ig} (hx:dY (ρ.lN o s) (σ.setObj (ρ.om.lc o) s a) o x):aH (ρ.lN o s) b (st.new o x) fr (σ.setObj (ρ.om.lc o) s a):=h.new' o s Da rfl rfl hx
theorem aH.Sl (h:aH ρ b st fr σ) (o s n:Nat) {x:Ob R.T} {a:ig} (hx:dY (ρ.zO o s n) (σ.setObj (ρ.om.lc o) s a) o x):aH (ρ.zO o s n) b (st.new o x) fr (σ.setObj (ρ.om.lc o) s a):=h.new' o s Sj rfl rfl hx
theorem Yq {ρ':aN} {o p:Nat} (hp:p≠o) (ho:∀p,p≠o->ρ'.ob p=ρ.ob p/\ρ'.ln p=ρ.ln p) (ht:ρ'.tk=ρ.tk) (hx:ρ'.om=ρ.om):∀{x:Ob R.T},Ob.lG o x=false->dY ρ σ p x->dY ρ' σ p x
 |.cells cs,hm,h=>by
  obtain⟨s,l,h1,h2,h3⟩:=h
  exact⟨s,l,((ho p hp).1.trans h1),by rw[hx];exact h2,au.kill o ho ht hx _ _ hm h3⟩
 |.map k e m,_,h=>by
  obtain⟨s,h1,h2⟩:=h
  exact⟨s,((ho p hp).1.trans h1),by rw[hx];exact h2⟩
 |.smap ks vs,hm,h=>by
  obtain⟨s,k,l,h1,h2,h3,h4⟩:=h
  have hm':(mJ o ks||mJ o vs)=false:=hm
  rw[ajk] at hm'
  exact⟨s,k,l,((ho p hp).1.trans h1),by rw[hx];exact h2,au.kill o ho ht hx _ _ hm'.1 h3,au.kill o ho ht hx _ _ hm'.2 h4⟩
 |.arr t l,hm,h=>by
  refine⟨h.1.trans (ho p hp).2.symm, ?_⟩
  rcases h.2 with h| ⟨s,cs,h1,h2,h3⟩
  ·exact .inl ⟨h.1,(ho p hp).1.trans h.2⟩
  ·exact .inr ⟨s,cs,((ho p hp).1.trans h1),by rw[hx];exact h2,vU l cs h3⟩
 |.sg ss,_,h=>by
  obtain⟨s,h1,h2⟩:=h
  exact⟨s,((ho p hp).1.trans h1),by rw[hx];exact h2⟩
 |.gone,_,_=>trivial
 |.ro b,hm,h=>Yq hp ho ht hx (x:=b) hm h
theorem aH.ghost (h:aH ρ b st fr σ) (o:Nat) (t:Ty):aH (ρ.gh o) b (st.new o (.arr t [])) fr σ where
 d:=h.d
 om:=h.om
 fr:=fun j y hy=>by
  have hy':look (lH (F6 o) st.fr) j=some y:=hy
  rw[rW,aao] at hy'
  obtain⟨z,hz,rfl⟩:=hy'
  exact Yl Db rfl rfl (h.fr j z hz)
 ob:=fun p y hy=>by
  by_cases e:p=o
  ·subst e
   have hy':some (Ob.arr t ([]:List (Den R.T t)))=some y:=by rw[<-hy];exact(jq _ _ _).symm
   cases hy'
   exact⟨(Gt (ρ:=ρ) (n:=0)).symm,.inl ⟨rfl,by simp[aN.gh,upd]⟩⟩
  ·have hy':look (lH (Ob.kill o) (iy o st.ob)) p=some y:=by rw[<-hy];exact(gD _ _ e).symm
   rw[rW,p9 e,aao] at hy'
   obtain⟨z,hz,rfl⟩:=hy'
   unfold Ob.kill
   cases hm:Ob.lG o z
   ·exact Yq e Db rfl rfl hm (h.ob p z hz)
   ·trivial
 inj:=h.inj
 lt:=h.lt
 ge:=h.ge
 nx:=h.nx
theorem Yr {c:Cx} {o p:Nat} (σ:ah) (h:p≠o):(σ.iq (c.lc o)).obj (c.lc p)=σ.obj (c.lc p):=by
 unfold ah.iq upd
 dsimp only
 rw[if_neg (c.Yc h)]
theorem Yt {σ':ah} {p:Nat} (hp:σ'.obj (ρ.om.lc p)=σ.obj (ρ.om.lc p)) (ht:σ'.top=σ.top):∀{x:Ob R.T},dY ρ σ p x->dY ρ σ' p x
 |.cells cs,h=>by
  obtain⟨s,l,h1,h2,h3⟩:=h
  exact⟨s,l,h1,by unfold ah.cB at h2⊢;rw[hp];exact h2,by rw[ht];exact h3⟩
 |.map k e m,h=>by
  obtain⟨s,h1,h2⟩:=h
  exact⟨s,h1,by unfold ah.fP at h2⊢;rw[hp];exact h2⟩
 |.smap ks vs,h=>by
  obtain⟨s,k,l,h1,h2,h3,h4⟩:=h
  exact⟨s,k,l,h1,by unfold ah.fP at h2⊢;rw[hp];exact h2,by rw[ht];exact h3,by rw[ht];exact h4⟩
 |.arr t l,h=>by
  refine⟨h.1, ?_⟩
  rcases h.2 with h| ⟨s,cs,h1,h2,h3⟩
  ·exact .inl h
  ·exact .inr ⟨s,cs,h1,by unfold ah.cB at h2⊢;rw[hp];exact h2,vU l cs h3⟩
 |.sg ss,h=>by
  obtain⟨s,h1,h2⟩:=h
  exact⟨s,h1,by unfold ah.cB at h2⊢;rw[hp];exact h2⟩
 |.gone,_=>trivial
 |.ro b,h=>Yt hp ht (x:=b) h
theorem aH.del (h:aH ρ b st fr σ) (o:Nat):aH ρ b (st.del o) fr (σ.iq (ρ.om.lc o)) where
 d:=h.d
 om:=h.om
 fr:=h.fr
 ob:=fun p y hy=>by
  by_cases e:p=o
  ·subst e
   have:look (iy p st.ob) p=some y:=hy
   have key:∀l:List (Nat×Ob R.T),look (iy p l) p=none:=by
    intro l
    induction l with
    |nil=>rfl
    |cons q l ih=>
     obtain⟨j,x⟩:=q
     unfold iy
     cases hj:Nat.beq j p
     ·show (bif Nat.beq j p then some x else look (iy p l) p)=none
      rw[hj];exact ih
     ·exact ih
   rw[key] at this;cases this
  ·have hy':look (iy o st.ob) p=some y:=hy
   rw[p9 e] at hy'
   exact Yt (Yr σ e) rfl (h.ob p y hy')
 inj:=h.inj
 lt:=h.lt
 ge:=h.ge
 nx:=h.nx
theorem aH.set (h:aH ρ b st fr σ) (o s:Nat) {x:Ob R.T} {a:ig} (hx:dY ρ (σ.setObj (ρ.om.lc o) s a) o x):aH ρ b (st.set o x) fr (σ.setObj (ρ.om.lc o) s a) where
 d:=h.d
 om:=h.om
 fr:=h.fr
 ob:=fun p y hy=>by
  by_cases e:p=o
  ·subst e
   have hy':some x=some y:=by rw[<-hy];exact(jq _ _ _).symm
   cases hy'
   exact hx
  ·have hy':look (iy o st.ob) p=some y:=by rw[<-hy];exact(gD _ _ e).symm
   rw[p9 e] at hy'
   exact Yn e (h.ob p y hy')
 inj:=h.inj
 lt:=h.lt
 ge:=h.ge
 nx:=h.nx
theorem aH.wk (h:aH ρ b st fr σ) (t s n:Nat) {b':Nat} (hb:b<=b') (hs:s<b') (hl:ρ.om.lo<=s) (hf:∀u,u≠t->ρ.tk u≠some s):aH (ρ.gF t s) b' (st.wk t) fr (σ.bU s n) where
 d:=h.d
 om:=h.om
 fr:=fun j y hy=>by
  have hy':look (lH (Aq.wk t) st.fr) j=some y:=hy
  rw[rW,aao] at hy'
  obtain⟨z,hz,rfl⟩:=hy'
  have hz':=h.fr j z hz
  have key:∀u s',u≠t->ρ.tk u=some s'->(ρ.gF t s).tk u=some s'/\(σ.bU s n).top s'=σ.top s':=fun u s' hu hs'=>
   ⟨by simp[aN.gF,upd,hu,hs'],FY _ _ fun e=>hf u hu (by rw[hs',e])⟩
  cases z with
  |opt j' w y=>exact⟨fun hc=>Rl.wk (ρ:=ρ) (ρ':=ρ.gF t s) (top:=σ.top) (top':=(σ.bU s n).top) t ⟨rfl,rfl,rfl⟩ key y _ (hz'.1 hc),hz'.2⟩
  |_=>exact iB.of (Rl.wk (ρ:=ρ) (ρ':=ρ.gF t s) (top:=σ.top) (top':=(σ.bU s n).top) t ⟨rfl,rfl,rfl⟩ key _ _ hz')
 ob:=fun p y hy=>by
  have hy':look (lH (Ob.wk t) st.ob) p=some y:=hy
  rw[rW,aao] at hy'
  obtain⟨z,hz,rfl⟩:=hy'
  have hz':=h.ob p z hz
  have key:∀u s',u≠t->ρ.tk u=some s'->(ρ.gF t s).tk u=some s'/\(σ.bU s n).top s'=σ.top s':=fun u s' hu hs'=>
   ⟨by simp[aN.gF,upd,hu,hs'],FY _ _ fun e=>hf u hu (by rw[hs',e])⟩
  exact Yo key hz'
 inj:=fun u v s' hu hv=>by
  by_cases e1:u=t<;>by_cases e2:v=t
  ·rw[e1,e2]
  ·simp[aN.gF,upd,e1] at hu;simp[aN.gF,upd,e2] at hv;exact absurd (hu▸hv) (hf v e2)
  ·simp[aN.gF,upd,e1] at hu;simp[aN.gF,upd,e2] at hv;exact absurd (hv▸hu) (hf u e1)
  ·simp[aN.gF,upd,e1] at hu;simp[aN.gF,upd,e2] at hv;exact h.inj u v s' hu hv
 lt:=fun u s' hu=>by
  by_cases e1:u=t
  ·simp[aN.gF,upd,e1] at hu;omega
  ·simp[aN.gF,upd,e1] at hu;exact adV (h.lt u s' hu) hb
 ge:=fun u s' hu=>by
  by_cases e1:u=t
  ·simp[aN.gF,upd,e1] at hu;rw[<-hu];exact hl
  ·simp[aN.gF,upd,e1] at hu;exact h.ge u s' hu
 nx:=aav h.nx hb
theorem Yu {top:Nat->Nat} {x:TV R.T} {v:Value} (h:zB v=some x):∃y,ji v=some y/\Rl R ρ top x y:=by
 unfold zB at h
 split at h<;>cases h<;>exact⟨_,rfl,by unfold Rl;rfl⟩
theorem Yv {top:Nat->Nat}:∀{vs:List Value} {l:List (TV R.T)},Ce vs=some l->∃y,vs.mapM ji=some y/\au R ρ top l y
 | [],l,h=>by cases h;exact⟨[],rfl,rfl⟩
 |v::vs,l,h=>by
  unfold Ce at h
  cases h1:(zB v:Option (TV R.T)) with
  |none=>simp only[h1] at h;cases h
  |some a=>
   cases h2:(Ce vs:Option (List (TV R.T))) with
   |none=>simp only[h1,h2] at h;cases h
   |some as=>
    simp only[h1,h2] at h;cases h
    obtain⟨y,hy,hr⟩:=Yu (ρ:=ρ) (top:=top) h1
    obtain⟨ys,hys,hrs⟩:=Yv h2
    exact⟨y::ys,by simp[hy,hys],.cons' hr hrs⟩
theorem Yw {top:Nat->Nat} {x:TV R.T} {v:Value} (h:Cg v=some x):∃y,ofValue v=some y/\Rl R ρ top x y:=by
 unfold Cg at h
 split at h
 ·rename_i cs
  cases h2:(Ce cs.toList:Option (List (TV R.T))) with
  |none=>simp only[h2] at h;cases h
  |some l=>
   simp only[h2] at h;cases h
   obtain⟨ys,hys,hrs⟩:=Yv (ρ:=ρ) (top:=top) h2
   exact⟨.agg ys,by simp[ofValue,hys],by unfold Rl;exact⟨_,rfl,hrs⟩⟩
 ·obtain⟨y,hy,hr⟩:=Yu (ρ:=ρ) (top:=top) h
  refine⟨y, ?_,hr⟩
  unfold zB at h
  split at h<;>first|exact hy|cases h
def oL (fr:Fr) (g:List (Nat×Bool)):Prop:=∀j u,look g j=some u->fr.tm j= .bool u
theorem oL.nil:oL fr []:=fun _ _ h=>by cases h
theorem oL.cons {g:List (Nat×Bool)} {j:Nat} {u:Bool} (h:fr.tm j= .bool u) (hg:oL fr g):oL fr ((j,u)::g):=fun i v hi=>by
 by_cases e:i=j
 ·subst e;rw[jq] at hi;cases hi;exact h
 ·rw[gD _ _ e] at hi;exact hg i v hi
theorem aic {fr:Fr} {top:Nat->Nat} {g:List (Nat×Bool)} (hg:oL fr g) {y x:TV R.T} {v:V} (hy:iB fr ρ top y v) (he:K7 g y=some x):Rl R ρ top x v:=by
 cases y with
 |opt j w z=>
  unfold K7 at he
  dsimp only at he
  split at he
  ·rename_i u hu
   cases he
   have:=hg j u hu
   by_cases e:u=w
   ·subst e;rw[beq_self_eq_true];exact hy.1 this
   ·rw[show (u==w)=false by simpa using e]
    have e':u= !w:=by cases u<;>cases w<;>first|rfl|exact absurd rfl e
    unfold Rl;exact hy.2 (.inl (by rw[this,e']))
  ·cases he
 |_=>cases he;exact hy
theorem bf (h:aH ρ b st fr σ) {g:List (Nat×Bool)} (hg:oL fr g) {o:Operand} {x:TV R.T} (he:bB g st o=some x):Rl R ρ σ.top x (fr.ev E o):=by
 cases o with
 |tmp t=>
  rw[BR]
  unfold bB at he
  dsimp only at he
  split at he
  ·rename_i v hv;exact aic hg (h.fr _ _ hv) he
  ·cases he
 |const v=>
  rw[XF]
  obtain⟨y,hy,hr⟩:=Yw (ρ:=ρ) (top:=σ.top) (show Cg v=some x from he)
  rw[hy];exact hr
 |func f=>cases he;rw[XG];unfold Rl;exact⟨[],[],rfl,rfl,rfl⟩
 |global i=>cases he
theorem uI (h:aH ρ b st fr σ) {g:List (Nat×Bool)} (hg:oL fr g):∀{l:List Operand} {xs:List (TV R.T)},ng g st l=some xs->au R ρ σ.top xs (l.map (fr.ev E))
 | [],xs,he=>by cases he;rfl
 |o::l,xs,he=>by
  unfold ng at he
  cases h1:bB g st o with
  |none=>simp only[h1] at he;cases he
  |some a=>
   cases h2:ng g st l with
   |none=>simp only[h1,h2] at he;cases he
   |some as=>simp only[h1,h2] at he;cases he;exact .cons' (bf h hg h1) (uI h hg h2)
theorem Sm (h:aH ρ b st fr σ) {g:List (Nat×Bool)} (hg:oL fr g):∀{l:List (Nat×Operand)} {xs:List (Nat×TV R.T)},Ch g st l=some xs->xs.map (·.1)=l.map (·.1)/\au R ρ σ.top (xs.map (·.2)) (l.map fun p=>fr.ev E p.2)
 | [],xs,he=>by cases he;exact⟨rfl,rfl⟩
 | (i,o)::l,xs,he=>by
   unfold Ch at he
   cases h1:bB g st o with
   |none=>simp only[h1] at he;cases he
   |some a=>
    cases h2:Ch g st l with
    |none=>simp only[h1,h2] at he;cases he
    |some as=>
     simp only[h1,h2] at he;cases he
     obtain⟨e1,e2⟩:=Sm h hg h2
     exact⟨by simp[e1],.cons' (bf h hg h1) e2⟩
end
end Aq
end
section
namespace Aq
open Go
theorem aie {n m:Nat} {v:Vec n} {w:Vec m} (h:KZ v=some w):n=m/\HEq v w:=by
 unfold KZ at h
 split at h
 ·rename_i e;subst e;cases h;exact⟨rfl,HEq.rfl⟩
 ·cases h
theorem Yx:∀{k:jo} {s:Sg} {x:BZ k},Ca k s=some x->F5 k x=s
 |.i k,.i k' y,x,h=>by
  have h':(if k'=k then some y else none)=some (x:Int):=h
  by_cases e:k'=k
  ·subst e;rw[if_pos rfl] at h';cases h';rfl
  ·rw[if_neg e] at h';cases h'
 |.a k n,.a k' n' v,x,h=>by
  have h':(if k'=k then KZ (m:=n) v else none)=some (x:Vec n):=h
  by_cases e:k'=k
  ·subst e;rw[if_pos rfl] at h'
   obtain⟨e1,e2⟩:=aie h'
   subst e1;cases e2;rfl
  ·rw[if_neg e] at h';cases h'
 |.i k,.a _ _ _,x,h=>by cases h
 |.a k n,.i _ _,x,h=>by cases h
theorem LM:∀{l:List jo} {ss:List Sg} {x:zw l},vJ l ss=some x->tq l x=ss
 | [],ss,x,h=>by
   cases ss with
   |nil=>rfl
   |cons s ss=>cases h
 | [k],ss,x,h=>by
   cases ss with
   |nil=>cases h
   |cons s ss=>
    cases ss with
    |nil=>
     show [F5 k x]=[s]
     rw[Yx (show Ca k s=some x from h)]
    |cons s' ss=>cases h
 |k::k'::l,ss,x,h=>by
  cases ss with
  |nil=>cases h
  |cons s ss=>
   have h':(match Ca k s with
    |some x=>match vJ (k'::l) ss with
     |some p=>some (x,p)
     |none=>none
    |none=>none)=some x:=h
   cases hu:Ca k s with
   |none=>simp only[hu] at h';cases h'
   |some y=>
    cases hs:vJ (k'::l) ss with
    |none=>simp only[hu,hs] at h';cases h'
    |some q=>
     simp only[hu,hs] at h'
     obtain rfl:=adG h'
     show F5 k y::tq (k'::l) q=s::ss
     rw[Yx hu,LM hs]
section
variable {R:iH} (hR:nR R)
variable {ρ:aN} {top:Nat->Nat} {b:Nat} {st:MS R.T} {fr:Fr} {σ:ah}
include hR
theorem zP {t:Ty} {x:Den R.T t} {tv:TV R.T} {v:V} (h:pK R t tv=some x) (hr:Rl R ρ top tv v):Rl R ρ top (vK R .any t x) v:=by
 cases t with
 |int k=>rw[R7 h hr];unfold Rl;rfl
 |bool=>rw[R8 h hr];unfold Rl;rfl
 |str=>rw[R9 h hr];unfold Rl;rfl
 |slice t=>obtain⟨c,hv⟩:=Yi h hr;rw[hv];unfold Rl;exact⟨c,rfl,trivial⟩
 |st n=>cases h
theorem Yy:∀(l:List Ty) (p:mI R.T l) (cs:List (TV R.T)) (vs:List V),xG R l cs=some p->au R ρ top cs vs->au R ρ top (jf R .any l p) vs
 | [],p,cs,vs,h,hr=>by
   cases cs with
   |nil=>rw[hr.fB];rfl
   |cons c cs=>cases h
 | [t],p,cs,vs,h,hr=>by
   have h':pK R t (hd1 R cs)=some p:=h
   cases cs with
   |nil=>cases t<;>cases h'
   |cons c cs=>
    cases cs with
    |nil=>
     obtain⟨v,l,rfl,h1,h2⟩:=hr.dN
     rw[h2.fB]
     exact .cons' (zP hR h' h1) rfl
    |cons c' cs=>cases t<;>cases h'
 |t::u::l,p,cs,vs,h,hr=>by
  cases cs with
  |nil=>cases h
  |cons c cs=>
   obtain⟨v,vs,rfl,h1,h2⟩:=hr.dN
   unfold xG at h
   cases hu:pK R t c with
   |none=>simp only[hu] at h;cases h
   |some y=>
    cases hs:xG R (u::l) cs with
    |none=>simp only[hu,hs] at h;cases h
    |some q=>
     simp only[hu,hs] at h
     obtain rfl:=adG h
     exact .cons' (zP hR hu h1) (Yy (u::l) q cs vs hs h2)
theorem Gu {t:Ty} {x:Den R.T t} {tv:TV R.T} {v:V} (h:oD R t tv=some x) (hr:Rl R ρ top tv v):Rl R ρ top (fG R .any t x) v:=by
 cases t with
 |st n=>
  change zA R n tv=some x at h
  unfold zA at h
  split at h
  ·rename_i cs
   split at h
   ·rename_i p hp
    obtain rfl:=adG h
    obtain⟨l,hv,hl⟩:=hr.kI
    subst hv
    show Rl R ρ top (.agg (jf R .any (R.lf n) (R.of n (R.to n p)))) _
    rw[hR.Gq]
    unfold Rl;exact⟨l,rfl,Yy hR _ _ _ _ hp hl⟩
   ·cases h
  ·cases h
 |int k=>exact zP hR (t:=.int k) h hr
 |bool=>exact zP hR (t:=.bool) h hr
 |str=>exact zP hR (t:=.str) h hr
 |slice t=>exact zP hR (t:=.slice t) h hr
omit hR in
theorem Yz {sz n:Nat} {c c':Cp} {x:Cap} (h:Ck c c'=true) (hx:CX ρ top sz n c x):CX ρ top sz n c' x:=by
 cases c<;>cases c'<;>simp only[Ck,aap] at h<;>first|trivial|exact hx|exact .inl hx|exact .inr (.inl hx)| (rw[<-d9 h];exact hx)
omit hR in
theorem Sn {k e k' e':Ty} {m:List (Den R.T k'×Den R.T e')} {x:List (Den R.T k×Den R.T e)} (h:Cm R m=some x):k'=k/\e'=e/\HEq m x:=by
 unfold Cm at h
 split at h
 ·rename_i e;obtain⟨rfl,rfl⟩:=e;cases h;exact⟨rfl,rfl,HEq.rfl⟩
 ·cases h
omit hR in
theorem YA {c:Cp} {t:Ty} {x:List (Den R.T t)} {tv:TV R.T} {v:V} (h:La R c t tv=some x) (hr:Rl R ρ top tv v):Rl R ρ top (.aj c t x) v:=by
 unfold La at h
 split at h
 ·rename_i c' t' l
  cases hc:Ck c' c
  ·rw[hc] at h;cases h
  ·rw[hc,cond_true] at h
   obtain⟨e,e2⟩:=qP h;subst e;cases e2
   obtain⟨c'',hv,hcc⟩:=hr.kJ
   unfold Rl;exact⟨c'',hv,Yz hc hcc⟩
 ·cases hc:Ck .nil c
  ·rw[hc] at h;cases h
  ·rw[hc,cond_true] at h;cases h
   unfold Rl;exact⟨.nil,hr.p8,Yz hc rfl⟩
 ·cases h
mutual
theorem Sq:∀(k:Sk) (x:qL R.T k) (tv:TV R.T) (v:V),pk R k tv=some x->Rl R ρ top tv v->Rl R ρ top (up R .any k x) v
 |.d t,x,tv,v,h,hr=>Gu hR (by unfold pk at h;exact h) hr
 |.l c t,x,tv,v,h,hr=>YA (by unfold pk at h;exact h) hr
 |.agg l,x,tv,v,h,hr=>by
  cases tv<;>first| (exact absurd (show none=some x from h) (by simp))|skip
  rename_i cs
  obtain⟨vs,rfl,hl⟩:=hr.kI
  show Rl R ρ top (.agg (gJ R .any l x)) _
  unfold Rl;exact⟨vs,rfl,xY l x cs vs h hl⟩
 |.ref o off,x,tv,v,h,hr=>by
  cases tv<;>first| (exact absurd (show none=some x from h) (by simp))|skip
  rename_i p off'
  have h':(bif Nat.beq p o&& Nat.beq off' off then some () else none)=some x:=h
  cases hb:(Nat.beq p o&& Nat.beq off' off)
  ·rw[hb] at h';cases h'
  ·rw[aan] at hb
   rw[d9 hb.1,d9 hb.2] at hr
   exact hr
 |.aK l off,x,tv,v,h,hr=>by
  cases tv<;>first| (exact absurd (show none=some x from h) (by simp))|skip
  rename_i cs off'
  have h':(bif Nat.beq off' off then fU R l cs else none)=some x:=h
  cases hb:Nat.beq off' off
  ·rw[hb] at h';cases h'
  ·rw[hb,cond_true] at h'
   rw[d9 hb] at hr
   obtain⟨vs,rfl,hl⟩:=hr.tK
   show Rl R ρ top (.aK (gJ R .any l x) off) _
   unfold Rl;exact⟨vs,rfl,xY l x _ vs h' hl⟩
 |.bP o,x,tv,v,h,hr=>by
  cases tv<;>first| (exact absurd (show none=some x from h) (by simp))|skip
  rename_i p
  have h':(bif Nat.beq p o then some () else none)=some x:=h
  cases hb:Nat.beq p o
  ·rw[hb] at h';cases h'
  ·rw[d9 hb] at hr
   exact hr
 |.dG k e,x,tv,v,h,hr=>by
  cases tv<;>first| (exact absurd (show none=some x from h) (by simp))|skip
  rename_i k' e' m
  obtain⟨e1,e2,e3⟩:=Sn (show Cm R m=some x from h)
  subst e1;subst e2;cases e3
  exact hr
 |.fn f a b,x,tv,v,h,hr=>by
  cases tv<;>first| (exact absurd (show none=some x from h) (by simp))|skip
  rename_i f' a' b'
  have h':(bif Nat.beq f' f then (match fU R a a' with
   |some x=>match fU R b b' with
    |some y=>some (x,y)
    |none=>none
   |none=>none) else none)=some x:=h
  cases hb:Nat.beq f' f
  ·rw[hb] at h';cases h'
  ·rw[hb,cond_true] at h'
   rw[d9 hb] at hr
   obtain⟨va,vb,rfl,ha,hbb⟩:=hr.mP
   cases h1:fU R a a' with
   |none=>simp only[h1] at h';cases h'
   |some y=>
    cases h2:fU R b b' with
    |none=>simp only[h1,h2] at h';cases h'
    |some z=>
     simp only[h1,h2] at h';cases h'
     show Rl R ρ top (.fn f (gJ R .any a y) (gJ R .any b z)) _
     unfold Rl;exact⟨va,vb,rfl,xY a y _ va h1 ha,xY b z _ vb h2 hbb⟩
 |.dX,x,tv,v,h,hr=>by
  cases tv<;>first| (exact absurd (show none=some x from h) (by simp))|skip
  exact hr
 |.vw o t,x,tv,v,h,hr=>by
  cases tv<;>first| (exact absurd (show none=some x from h) (by simp))|skip
  rename_i p t'
  have h':(bif Nat.beq p o then (if t'=t then some () else none) else none)=some x:=h
  cases hb:Nat.beq p o
  ·rw[hb] at h';cases h'
  ·rw[hb,cond_true] at h'
   split at h'
   ·rename_i e
    rw[d9 hb,e] at hr
    exact hr
   ·cases h'
 |.sg l,x,tv,v,h,hr=>by
  cases tv<;>first| (exact absurd (show none=some x from h) (by simp))|skip
  rename_i ss
  show Rl R ρ top (.sg (tq l x)) v
  rw[LM (show vJ l ss=some x from h)]
  exact hr
 |.undef,x,tv,v,h,hr=>by
  cases tv<;>first| (exact absurd (show none=some x from h) (by simp))|skip
  exact hr
theorem xY:∀(l:List Sk) (x:aA R.T l) (cs:List (TV R.T)) (vs:List V),fU R l cs=some x->au R ρ top cs vs->au R ρ top (gJ R .any l x) vs
 | [],x,cs,vs,h,hr=>by
   cases cs with
   |nil=>rw[hr.fB];rfl
   |cons c cs=>exact absurd (show none=some x from h) (by simp)
 | [k],x,cs,vs,h,hr=>by
   cases cs with
   |nil=>exact absurd (show none=some x from h) (by simp)
   |cons c cs=>
    cases cs with
    |nil=>
     obtain⟨v,l,rfl,h1,h2⟩:=hr.dN
     rw[h2.fB]
     show au R ρ top [up R .any k x] _
     exact .cons' (Sq k x _ v h h1) rfl
    |cons c' cs=>exact absurd (show none=some x from h) (by simp)
 |k::k'::l,x,cs,vs,h,hr=>by
  cases cs with
  |nil=>exact absurd (show none=some x from h) (by simp)
  |cons c cs=>
   have h':(match pk R k c with
    |some x=>match fU R (k'::l) cs with
     |some p=>some (x,p)
     |none=>none
    |none=>none)=some x:=h
   obtain⟨v,vs,rfl,h1,h2⟩:=hr.dN
   cases hu:pk R k c with
   |none=>simp only[hu] at h';cases h'
   |some y=>
    cases hs:fU R (k'::l) cs with
    |none=>simp only[hu,hs] at h';cases h'
    |some q=>
     simp only[hu,hs] at h'
     obtain rfl:=adG h'
     show au R ρ top (up R .any k y::gJ R .any (k'::l) q) _
     exact .cons' (Sq k y _ v hu h1) (xY (k'::l) q _ vs hs h2)
end
omit hR in
theorem aif {k:Sk} {j:Nat} {w:Bool} {y:TV R.T} {x:qL R.T k} (h:pk R k (.opt j w y)=some x):False:=by
 cases k with
 |d t=>cases t<;>(unfold pk at h;cases h)
 |_=>unfold pk at h;cases h
theorem iB.pk {k:Sk} {x:qL R.T k} {tv:TV R.T} {v:V} (h:pk R k tv=some x) (hr:iB fr ρ top tv v):Rl R ρ top (up R .any k x) v:=by
 cases tv<;>first|exact Sq hR _ _ _ _ h hr|exact(aif h).elim
theorem Sr (h:aH ρ b st fr σ):∀(l:List (Nat×Sk)) (x:zx R.T l),qN R st.fr l=some x->∀i v,look (F9 R l x) i=some v->Rl R ρ σ.top v (fr.tm i)
 | [],x,hx,i,v,hv=>by cases hv
 | [(j,k)],x,hx,i,v,hv=>by
   unfold qN at hx
   split at hx
   ·rename_i y hy
    by_cases e:i=j
    ·subst e
     have hv':look [(i,up R .any k x)] i=some v:=hv
     rw[jq] at hv';cases hv'
     exact iB.pk hR hx (h.fr _ _ hy)
    ·have hv':look [(j,up R .any k x)] i=some v:=hv
     rw[gD _ _ e] at hv';cases hv'
   ·cases hx
 | (j,k)::q::l,x,hx,i,v,hv=>by
   unfold qN at hx
   split at hx
   ·rename_i y hy
    cases hu:pk R k y with
    |none=>simp only[hu] at hx;cases hx
    |some z=>
     cases hs:qN R st.fr (q::l) with
     |none=>simp only[hu,hs] at hx;cases hx
     |some p=>
      simp only[hu,hs] at hx
      obtain rfl:=adG hx
      have hv':look ((j,up R .any k z)::F9 R (q::l) p) i=some v:=hv
      by_cases e:i=j
      ·subst e
       rw[jq] at hv';cases hv'
       exact iB.pk hR hu (h.fr _ _ hy)
      ·rw[gD _ _ e] at hv'
       exact Sr h (q::l) p hs i v hv'
   ·cases hx
theorem LP {o:Nat} {k:gU} {x:xE R.T k} {y:Ob R.T} (hx:xL R k y=some x) (hy:dY ρ σ o y):dY ρ σ o (kE R k x):=by
 cases k with
 |cells l=>
  cases y with
  |cells cs=>
   obtain⟨s,vs,h1,h2,h3⟩:=hy
   exact⟨s,vs,h1,h2,xY hR l x _ vs hx h3⟩
  |map k e m=>cases hx
  |smap _ _=>cases hx
  |arr _ _=>cases hx
  |sg _=>cases hx
  |gone=>cases hx
  |ro b=>cases hx
 |st n=>
  cases y with
  |cells cs=>
   obtain⟨s,vs,h1,h2,h3⟩:=hy
   obtain⟨l,e,hl⟩:=(Gu hR (t:=.st n) (show oD R (.st n) (.agg cs)=some x from hx) (v:=.agg vs) ⟨vs,rfl,h3⟩).kI
   cases e
   exact⟨s,vs,h1,h2,hl⟩
  |map k e m=>cases hx
  |smap _ _=>cases hx
  |arr _ _=>cases hx
  |sg _=>cases hx
  |gone=>cases hx
  |ro b=>cases hx
 |arr t=>
  cases y with
  |arr t' l=>
   obtain⟨e,e2⟩:=qP hx
   subst e;cases e2
   exact hy
  |cells cs=>cases hx
  |map _ _ _=>cases hx
  |smap _ _=>cases hx
  |sg _=>cases hx
  |gone=>cases hx
  |ro b=>cases hx
 |sg l=>
  cases y with
  |sg ss=>
   show dY ρ σ o (.sg (tq l x))
   rw[LM (show vJ l ss=some x from hx)]
   exact hy
  |cells cs=>cases hx
  |map _ _ _=>cases hx
  |smap _ _=>cases hx
  |arr _ _=>cases hx
  |gone=>cases hx
  |ro b=>cases hx
 |map k e=>
  cases y with
  |map k' e' m=>
   obtain⟨e1,e2,e3⟩:=Sn hx
   subst e1;subst e2;cases e3
   exact hy
  |cells cs=>cases hx
  |smap _ _=>cases hx
  |arr _ _=>cases hx
  |sg _=>cases hx
  |gone=>cases hx
  |ro b=>cases hx
theorem YB (h:aH ρ b st fr σ):∀(l:List (Nat×gU)) (x:gy R.T l),lK R st.ob l=some x->∀i v,look (jg R l x) i=some v->dY ρ σ i v
 | [],x,hx,i,v,hv=>by cases hv
 | [(j,k)],x,hx,i,v,hv=>by
   unfold lK at hx
   split at hx
   ·rename_i y hy
    by_cases e:i=j
    ·subst e
     have hv':look [(i,kE R k x)] i=some v:=hv
     rw[jq] at hv';cases hv'
     exact LP hR hx (h.ob _ _ hy)
    ·have hv':look [(j,kE R k x)] i=some v:=hv
     rw[gD _ _ e] at hv';cases hv'
   ·cases hx
 | (j,k)::q::l,x,hx,i,v,hv=>by
   unfold lK at hx
   split at hx
   ·rename_i y hy
    cases hu:xL R k y with
    |none=>simp only[hu] at hx;cases hx
    |some z=>
     cases hs:lK R st.ob (q::l) with
     |none=>simp only[hu,hs] at hx;cases hx
     |some p=>
      simp only[hu,hs] at hx
      obtain rfl:=adG hx
      have hv':look ((j,kE R k z)::jg R (q::l) p) i=some v:=hv
      by_cases e:i=j
      ·subst e
       rw[jq] at hv';cases hv'
       exact LP hR hu (h.ob _ _ hy)
      ·rw[gD _ _ e] at hv'
       exact YB h (q::l) p hs i v hv'
   ·cases hx
theorem aH.pack (h:aH ρ b st fr σ) {s:Shape} {p:pI R.T s} (hp:pack R st s=some p):aH ρ b (unpack R s p) fr σ:=by
 obtain⟨sl,ob⟩:=s
 cases ob with
 |nil=>
  have hp':qN R st.fr sl=some p:=hp
  exact {h with fr:=fun i v hv=>.of (Sr hR h sl p hp' i v hv),ob:=fun i v hv=>by cases hv}
 |cons o os=>
  unfold Aq.pack at hp
  cases hu:qN R st.fr sl with
  |none=>simp only[hu] at hp;cases hp
  |some x=>
   cases hs:lK R st.ob (o::os) with
   |none=>simp only[hu,hs] at hp;cases hp
   |some y=>
    simp only[hu,hs] at hp
    obtain rfl:=adG hp
    exact {h with fr:=fun i v hv=>.of (Sr hR h sl x hu i v hv),ob:=fun i v hv=>YB hR h (o::os) y hs i v hv}
omit hR in
theorem YC {e x:Ex} (h:zD e x=true):e=x:=by
 cases e<;>cases x<;>simp only[zD,aap] at h<;>first|rfl|rw[d9 h]
omit hR in
def RO (st:MS R.T) (o:Nat):Prop:=∀x,look st.ob o=some x->oF x=true
omit hR in
theorem Sv {k:gU} {x:xE R.T k} {y:Ob R.T} (hx:xL R k y=some x) (hy:oF y=true):False:=by
 cases y with
 |cells _=>cases hy
 |map _ _ _=>cases hy
 |smap _ _=>cases hy
 |arr _ _=>cases hy
 |sg _=>cases hy
 |gone=>cases k<;>cases hx
 |ro b=>cases k<;>cases hx
omit hR in
theorem YD {i:Nat} (hr:RO st i):∀(l:List (Nat×gU)) (x:gy R.T l),lK R st.ob l=some x->look (jg R l x) i=none
 | [],x,hx=>rfl
 | [(j,k)],x,hx=>by
   unfold lK at hx
   split at hx
   ·rename_i y hy
    by_cases e:i=j
    ·subst e;exact(Sv hx (hr _ hy)).elim
    ·show look [(j,kE R k x)] i=none
     rw[gD _ _ e];rfl
   ·cases hx
 | (j,k)::q::l,x,hx=>by
   unfold lK at hx
   split at hx
   ·rename_i y hy
    cases hu:xL R k y with
    |none=>simp only[hu] at hx;cases hx
    |some z=>
     cases hs:lK R st.ob (q::l) with
     |none=>simp only[hu,hs] at hx;cases hx
     |some p=>
      simp only[hu,hs] at hx
      obtain rfl:=adG hx
      show look ((j,kE R k z)::jg R (q::l) p) i=none
      by_cases e:i=j
      ·subst e;exact(Sv hu (hr _ hy)).elim
      ·rw[gD _ _ e];exact YD hr (q::l) p hs
   ·cases hx
omit hR in
theorem aii {s:Shape} {p:pI R.T s} {i:Nat} (hp:Aq.pack R st s=some p) (hr:RO st i):look (unpack R s p).ob i=none:=by
 obtain⟨sl,ob⟩:=s
 cases ob with
 |nil=>rfl
 |cons o os=>
  unfold Aq.pack at hp
  cases hu:qN R st.fr sl with
  |none=>simp only[hu] at hp;cases hp
  |some x=>
   cases hs:lK R st.ob (o::os) with
   |none=>simp only[hu,hs] at hp;cases hp
   |some y=>
    simp only[hu,hs] at hp
    obtain rfl:=adG hp
    exact YD hr (o::os) y hs
omit hR
theorem vV {α:Type}:∀(l m:List (Nat×α)) (i:Nat),look (l++m) i=match look l i with|some x=>some x|none=>look m i
 | [],m,i=>rfl
 | (j,x)::l,m,i=>by
   show (bif Nat.beq j i then some x else look (l++m) i)=match (bif Nat.beq j i then some x else look l i) with|some x=>some x|none=>look m i
   cases Nat.beq j i
   ·exact vV l m i
   ·rfl
theorem aH.over {st':MS R.T} (h:aH ρ b st fr σ) (h':aH ρ b st' fr σ):aH ρ b (st.over st') fr σ:={h with
 fr:=fun i v hv=>by
  have hv':look (st.fr++st'.fr) i=some v:=hv
  rw[vV] at hv'
  split at hv'
  ·rename_i x hx;cases hv';exact h.fr _ _ hx
  ·exact h'.fr _ _ hv'
 ob:=fun i v hv=>by
  have hv':look (st.ob++st'.ob) i=some v:=hv
  rw[vV] at hv'
  split at hv'
  ·rename_i x hx;cases hv';exact h.ob _ _ hx
  ·exact h'.ob _ _ hv'}
theorem vW {α:Type} {p:Nat->α->Bool} {f:α->α} {l:List (Nat×α)}:∀{is:List Nat} {i:Nat} {y:α},look (mZ p f l is) i=some y->∃x,look l i=some x/\p i x=true/\y=f x
 | [],i,y,h=>by cases h
 |j::is,i,y,h=>by
  unfold mZ at h
  split at h
  ·rename_i x hx
   cases hp:p j x
   ·rw[hp] at h;exact vW h
   ·rw[hp,cond_true] at h
    by_cases e:i=j
    ·subst e;rw[jq] at h;cases h;exact⟨x,hx,hp,rfl⟩
    ·rw[gD _ _ e] at h;exact vW h
  ·exact vW h
mutual
theorem Rl.solid {ρ':aN} {top':Nat->Nat} {W:List Nat} (ho:∀o,aR o W=false->ρ'.ob o=ρ.ob o/\ρ'.ln o=ρ.ln o) (hx:ρ'.om=ρ.om):∀(x:TV R.T) (v:V),Aq.solid W x=true->Rl R ρ top x v->Rl R ρ' top' x v
 |.aj c t l,v,hs,h=>by
  obtain⟨c',hv,hc⟩:=h
  refine⟨c',hv, ?_⟩
  cases c<;>first|exact hc| (simp[Aq.solid] at hs;done)
 |.ref o off,v,hs,h=>by
  obtain⟨s,h1,h2⟩:=h
  unfold Aq.solid at hs
  exact⟨s,by rw[(ho o (by simpa using hs)).1];exact h1,by rw[hx];exact h2⟩
 |.bP o,v,hs,h=>by
  obtain⟨s,h1,h2⟩:=h
  unfold Aq.solid at hs
  exact⟨s,by rw[(ho o (by simpa using hs)).1];exact h1,by rw[hx];exact h2⟩
 |.vw o t,v,hs,h=>by
  unfold Aq.solid at hs
  obtain⟨k1,k2⟩:=ho o (by simpa using hs)
  rcases h with ⟨s,h1,h2⟩| ⟨h1,h2⟩
  ·exact .inl ⟨s,by rw[k1];exact h1,by rw[k2,hx];exact h2⟩
  ·exact .inr ⟨by rw[k2];exact h1,h2⟩
 |.jW o t i off,v,hs,h=>by
  obtain⟨s,h1,h2⟩:=h
  unfold Aq.solid at hs
  exact⟨s,by rw[(ho o (by simpa using hs)).1];exact h1,by rw[hx];exact h2⟩
 |.sv o _ _ _ _ _,v,hs,h=>by
  obtain⟨s,h1,h2⟩:=h
  unfold Aq.solid at hs
  exact⟨s,by rw[(ho o (by simpa using hs)).1];exact h1,by rw[hx];exact h2⟩
 |.sel o _ _ _ _ _,v,hs,h=>by
  obtain⟨s,h1,h2⟩:=h
  unfold Aq.solid at hs
  exact⟨s,by rw[(ho o (by simpa using hs)).1];exact h1,by rw[hx];exact h2⟩
 |.sg _,_,_,h=>h
 |.qK _ _ _ _,_,_,h=>h
 |.agg cs,v,hs,h=>by obtain⟨l,hv,hl⟩:=h;exact⟨l,hv,au.solid ho hx cs l (by unfold Aq.solid at hs;exact hs) hl⟩
 |.bE cs,v,hs,h=>by obtain⟨l,hv,hl⟩:=h;exact⟨l,hv,au.solid ho hx cs l (by unfold Aq.solid at hs;exact hs) hl⟩
 |.aK cs off,v,hs,h=>by obtain⟨l,hv,hl⟩:=h;exact⟨l,hv,au.solid ho hx cs l (by unfold Aq.solid at hs;exact hs) hl⟩
 |.fn f a b,v,hs,h=>by
  obtain⟨a',b',hv,ha,hb⟩:=h
  unfold Aq.solid at hs
  rw[aan] at hs
  exact⟨a',b',hv,au.solid ho hx a a' hs.1 ha,au.solid ho hx b b' hs.2 hb⟩
 |.opt _ _ _,_,_,h=>h.elim
 |.int _ _,_,_,h=>h
 |.bool _,_,_,h=>h
 |.gQ _,_,_,h=>h
 |.str _,_,_,h=>h
 |.fJ,_,_,h=>h
 |.fF,_,_,h=>h
 |.eZ,_,_,h=>h
 |.gH,_,_,h=>h
 |.dX,_,_,h=>h
 |.dG _ _ _,_,_,h=>h
 |.undef,_,_,h=>h
 |.gone,_,_,h=>trivial
theorem au.solid {ρ':aN} {top':Nat->Nat} {W:List Nat} (ho:∀o,aR o W=false->ρ'.ob o=ρ.ob o/\ρ'.ln o=ρ.ln o) (hx:ρ'.om=ρ.om):∀(x:List (TV R.T)) (v:List V),qM W x=true->au R ρ top x v->au R ρ' top' x v
 | [],_,_,h=>h
 |x::xs,_,hs,⟨v,vs,e,h1,h2⟩=>by
  unfold qM at hs
  rw[aan] at hs
  exact⟨v,vs,e,Rl.solid ho hx x v hs.1 h1,au.solid ho hx xs vs hs.2 h2⟩
end
theorem aij {x:TV R.T} {v:V} (h:iB fr ρ top x v):iB fr ρ top (Rx x) v:=by
 cases x with
 |aj c t l=>
  cases c with
  |own u=>obtain⟨c',hv,_⟩:=Rl.kJ (show Rl R ρ top (.aj (.own u) t l) v from h);exact .of (x:=.aj .any t l) (by unfold Rl;exact⟨c',hv,trivial⟩)
  |_=>exact h
 |_=>exact h
theorem aik {W:List Nat} {x:TV R.T} {v:V} (hs:Aq.solid W x=true) (h:iB fr ρ top x v):Rl R ρ top x v:=by
 cases x<;>first|exact h| (simp[Aq.solid] at hs;done)
structure aY (nr:Bool) (o:Nat) (st:MS R.T) (ρ:aN) (σ:ah) (st':MS R.T) (ρ':aN) (σ':ah):Prop where
 ob:ρ'.ob o=ρ.ob o
 ln:ρ'.ln o=ρ.ln o
 om:ρ'.om=ρ.om
 nx:σ.next<=σ'.next
 lp:(∀l,l<σ.next->σ'.loops l=σ.loops l)/\∀s,s<ρ.om.lo->σ'.top s=σ.top s
 dp:∀L,nr=true\/L.1<=ρ.om.dp->ρ.om.out L->σ'.obj L=σ.obj L
 ro:RO st o->RO st' o/\∀s,σ'.cB (ρ.om.lc o) s=σ.cB (ρ.om.lc o) s/\σ'.fP (ρ.om.lc o) s=σ.fP (ρ.om.lc o) s
structure Kp (nr:Bool) (W:List Nat) (st:MS R.T) (fr:Fr) (σ:ah) (ρ:aN) (st':MS R.T) (fr':Fr) (σ':ah) (ρ':aN):Prop where
 fr:∀i,aR i W=false->fr'.tm i=fr.tm i
 ob:∀o,aR o W=false->aY nr o st ρ σ st' ρ' σ'
section
variable {nr:Bool}
theorem Sw {c:Cx} {o s:Nat} {x:ig} {L:Loc} (h:c.out L):(σ.setObj (c.lc o) s x).obj L=σ.obj L:=by
 unfold ah.setObj upd
 dsimp only
 rw[if_neg (h o)]
theorem ail {c:Cx} {o:Nat} {L:Loc} (h:c.out L):(σ.iq (c.lc o)).obj L=σ.obj L:=by
 unfold ah.iq upd
 dsimp only
 rw[if_neg (h o)]
theorem Cx.YE (c:Cx) {L:Loc} (h:c.dp<L.1):c.out L:=fun o e=>by
 have:=c.CV o
 rw[<-e] at this
 omega
theorem aY.refl {o:Nat}:aY nr o st ρ σ st ρ σ:=⟨rfl,rfl,rfl,RS _,⟨fun _ _=>rfl,fun _ _=>rfl⟩,fun _ _ _=>rfl,fun h=>⟨h,fun _=>⟨rfl,rfl⟩⟩⟩
theorem aY.trans {o:Nat} {st' gG:MS R.T} {ρ' oM:aN} {σ' lC:ah} (h:aY nr o st ρ σ st' ρ' σ') (g:aY nr o st' ρ' σ' gG oM lC):aY nr o st ρ σ gG oM lC:=
 ⟨g.ob.trans h.ob,g.ln.trans h.ln,g.om.trans h.om,aav h.nx g.nx,⟨fun l hl=>(g.lp.1 l (adV hl h.nx)).trans (h.lp.1 l hl),fun s hs=>(g.lp.2 s (by rw[h.om];exact hs)).trans (h.lp.2 s hs)⟩,fun L hn hL=>(g.dp L (by rw[h.om];exact hn) (by rw[h.om];exact hL)).trans (h.dp L hn hL),fun hr=>by
   have g':=fun hr=>g.ro hr
   rw[h.om] at g'
   exact⟨(g' (h.ro hr).1).1,fun s=>⟨((g' (h.ro hr).1).2 s).1.trans ((h.ro hr).2 s).1,((g' (h.ro hr).1).2 s).2.trans ((h.ro hr).2 s).2⟩⟩⟩
theorem Kp.refl {W:List Nat}:Kp nr W st fr σ ρ st fr σ ρ:=⟨fun _ _=>rfl,fun _ _=>.refl⟩
theorem Kp.trans {W:List Nat} {st' gG:MS R.T} {fr' xZ:Fr} {ρ' oM:aN} {σ' lC:ah} (h:Kp nr W st fr σ ρ st' fr' σ' ρ') (g:Kp nr W st' fr' σ' ρ' gG xZ lC oM):Kp nr W st fr σ ρ gG xZ lC oM:=
 ⟨fun i hi=>(g.fr i hi).trans (h.fr i hi),fun o ho=>(h.ob o ho).trans (g.ob o ho)⟩
theorem Kp.mono {W W':List Nat} {st':MS R.T} {fr':Fr} {ρ':aN} {σ':ah} (h:Kp nr W st fr σ ρ st' fr' σ' ρ') (hw:∀i,aR i W'=false->aR i W=false):Kp nr W' st fr σ ρ st' fr' σ' ρ':=
 ⟨fun i hi=>h.fr i (hw i hi),fun o ho=>h.ob o (hw o ho)⟩
theorem Gv:∀(i:Nat) (l m:List Nat),aR i (l++m)=(aR i l||aR i m)
 |i,[],m=>rfl
 |i,j::l,m=>by show (Nat.beq i j||aR i (l++m))=_;rw[Gv i l m,<-Bool.or_assoc];rfl
theorem YF {o:Nat} {ρ':aN} {σ':ah} {W:List Nat} (ho:∀o,aR o W=false->ρ'.ob o=ρ.ob o/\ρ'.ln o=ρ.ln o) (hx:ρ'.om=ρ.om) (hm:aR o W=false) (hc:∀s,σ'.cB (ρ.om.lc o) s=σ.cB (ρ.om.lc o) s/\σ'.fP (ρ.om.lc o) s=σ.fP (ρ.om.lc o) s):∀{x:Ob R.T},mM W x=true->dY ρ σ o x->dY ρ' σ' o x
 |.cells cs,hs,h=>by
  obtain⟨s,l,h1,h2,h3⟩:=h
  exact⟨s,l,by rw[(ho o hm).1];exact h1,by rw[hx,(hc s).1];exact h2,au.solid ho hx cs l hs h3⟩
 |.map k e m,_,h=>by obtain⟨s,h1,h2⟩:=h;exact⟨s,by rw[(ho o hm).1];exact h1,by rw[hx,(hc s).2];exact h2⟩
 |.smap ks vs,hs,h=>by
  obtain⟨s,k,l,h1,h2,h3,h4⟩:=h
  have hs':(qM W ks&& qM W vs)=true:=hs
  rw[aan] at hs'
  exact⟨s,k,l,by rw[(ho o hm).1];exact h1,by rw[hx,(hc s).2];exact h2,au.solid ho hx ks k hs'.1 h3,au.solid ho hx vs l hs'.2 h4⟩
 |.arr t l,_,h=>by
  refine⟨h.1.trans (ho o hm).2.symm, ?_⟩
  rcases h.2 with h| ⟨s,cs,h1,h2,h3⟩
  ·exact .inl ⟨h.1,(ho o hm).1.trans h.2⟩
  ·exact .inr ⟨s,cs,by rw[(ho o hm).1];exact h1,by rw[hx,(hc s).1];exact h2,vU l cs h3⟩
 |.sg ss,_,h=>by obtain⟨s,h1,h2⟩:=h;exact⟨s,by rw[(ho o hm).1];exact h1,by rw[hx,(hc s).1];exact h2⟩
 |.gone,_,_=>trivial
 |.ro b,hs,h=>YF ho hx hm hc (x:=b) hs h
theorem zQ:∀W:List Nat,∃n,∀m,n<=m->aR m W=false
 | []=>⟨0,fun _ _=>rfl⟩
 |i::W=>by
  obtain⟨n,hn⟩:=zQ W
  refine⟨n+i+1,fun m hm=> ?_⟩
  show (Nat.beq m i||aR m W)=false
  rw[LK (by omega),hn m (by omega)];rfl
theorem Kp.om {W:List Nat} {st':MS R.T} {fr':Fr} {ρ':aN} {σ':ah} (h:Kp nr W st fr σ ρ st' fr' σ' ρ'):ρ'.om=ρ.om:=by
 obtain⟨n,hn⟩:=zQ W
 exact(h.ob n (hn n (RS _))).om
theorem aH.base {W K O:List Nat} {mark:Ob R.T->Ob R.T} (hmark:∀ρ σ o x,dY ρ σ o x->dY (R:=R) ρ σ o (mark x)) {st0 st' gG:MS R.T} {fr':Fr} {ρ':aN} {σ':ah} {b':Nat} (h:aH ρ b st fr σ) (hk:Kp nr W st0 fr σ ρ st' fr' σ' ρ') (h':aH ρ' b' gG fr' σ')
 (hro:∀o x,look st.ob o=some x->aR o W=false->aR o O=true->mM W x=true->RO st0 o):aH ρ' b' (Aq.base W K O mark st) fr' σ':={h' with
 fr:=fun i v hv=>by
  obtain⟨x,h1,h2,rfl⟩:=vW hv
  rw[aan,ajp] at h2
  have:=aik h2.2 (aij (h.fr _ _ h1))
  rw[hk.fr i h2.1]
  exact .of (Rl.solid (fun o ho=>⟨(hk.ob o ho).ob,(hk.ob o ho).ln⟩) hk.om _ _ h2.2 this)
 ob:=fun o y hy=>by
  have hO:aR o O=true:=by
   have:∀{is:List Nat} {y:Ob R.T},look (mZ (fun o b=> !(aR o W)&& mM W b) mark st.ob is) o=some y->aR o is=true:=by
    intro is
    induction is with
    |nil=>intro y h;cases h
    |cons j is ih=>
     intro y h
     show (Nat.beq o j||aR o is)=true
     unfold mZ at h
     by_cases e:o=j
     ·subst e;rw[ajl];rfl
     ·split at h
      ·rename_i x hx
       cases hp:(!(aR j W)&& mM W x)
       ·rw[hp] at h;rw[ih h,Bool.or_true]
       ·rw[hp,cond_true,gD _ _ e] at h;rw[ih h,Bool.or_true]
      ·rw[ih h,Bool.or_true]
   exact this hy
  obtain⟨x,h1,h2,rfl⟩:=vW hy
  rw[aan,ajp] at h2
  have hc:=((hk.ob o h2.1).ro (hro o x h1 h2.1 hO h2.2)).2
  exact hmark _ _ _ _ (YF (fun o ho=>⟨(hk.ob o ho).ob,(hk.ob o ho).ln⟩) hk.om h2.1 hc h2.2 (h.ob _ _ h1))}
theorem Sy {W K O:List Nat} {st':MS R.T} {o:Nat} {x:Ob R.T} (h1:look st.ob o=some x) (h2:aR o W=false) (h3:aR o O=true) (h4:mM W x=true):RO ((Aq.base W K O .ro st).over st') o:=by
 intro y hy
 have hl:∃z,look (mZ (fun o b=> !(aR o W)&& mM W b) Ob.ro st.ob O) o=some (.ro z):=by
  have:∀is:List Nat,aR o is=true->∃z,look (mZ (fun o b=> !(aR o W)&& mM W b) Ob.ro st.ob is) o=some (.ro z):=by
   intro is
   induction is with
   |nil=>intro h;cases h
   |cons j is ih=>
    intro h
    by_cases e:o=j
    ·subst e
     unfold mZ
     rw[h1]
     dsimp only
     rw[h2,h4]
     exact⟨x,jq _ _ _⟩
    ·have h':(Nat.beq o j||aR o is)=true:=h
     rw[LK e,Bool.false_or] at h'
     obtain⟨z,hz⟩:=ih h'
     refine⟨z, ?_⟩
     unfold mZ
     split
     ·rename_i w hw
      cases (!(aR j W)&& mM W w)
      ·exact hz
      ·rw[cond_true,gD _ _ e];exact hz
     ·exact hz
  exact this O h3
 obtain⟨z,hz⟩:=hl
 have hy':look (mZ (fun o b=> !(aR o W)&& mM W b) Ob.ro st.ob O++st'.ob) o=some y:=hy
 rw[vV,hz] at hy'
 cases hy';rfl
theorem ain {t:Nat}:∀{x:Ob R.T},oF x=true->oF (Ob.wk t x)=true
 |.ro _,_=>rfl
 |.gone,_=>rfl
 |.cells _,h=>by cases h
 |.map _ _ _,h=>by cases h
 |.smap _ _,h=>by cases h
 |.arr _ _,h=>by cases h
theorem YG {t:Nat} {x:Ob R.T} (h:oF x=true):oF (Ob.kill t x)=true:=by
 unfold Ob.kill
 cases Ob.lG t x
 ·exact h
 ·rfl
theorem aY.wk {p t s n:Nat} (hl:ρ.om.lo<=s):aY nr p st ρ σ (st.wk t) (ρ.gF t s) (σ.bU s n):=⟨rfl,rfl,rfl,RS _,⟨fun _ _=>rfl,fun s' hs'=>FY _ _ (by omega)⟩,fun _ _ _=>rfl,fun hr=>⟨fun x hx=>by
 have hx':look (lH (Ob.wk t) st.ob) p=some x:=hx
 rw[rW,aao] at hx'
 obtain⟨z,hz,rfl⟩:=hx'
 exact ain (hr z hz),fun _=>⟨rfl,rfl⟩⟩⟩
theorem aY.set {o q s:Nat} {x y:Ob R.T} {a:ig} (hl:look st.ob o=some y) (hy:oF y=false):aY nr q st ρ σ (st.set o x) ρ (σ.setObj (ρ.om.lc o) s a):=⟨rfl,rfl,rfl,RS _,⟨fun _ _=>rfl,fun _ _=>rfl⟩,fun _ _ hL=>Sw hL,fun hr=>by
 have hne:q≠o:=by rintro rfl;rw[hr y hl] at hy;cases hy
 refine⟨fun z hz=> ?_,fun s'=>⟨xX _ _ _ _ hne,C9 _ _ _ _ hne⟩⟩
 have hz':look ((o,x)::iy o st.ob) q=some z:=hz
 rw[gD _ _ hne,p9 hne] at hz'
 exact hr z hz'⟩
theorem aY.new {o q s:Nat} {x:Ob R.T} {a:ig} (hne:q≠o):aY nr q st ρ σ (st.new o x) (ρ.lN o s) (σ.setObj (ρ.om.lc o) s a):=⟨by simp[aN.lN,upd,hne],rfl,rfl,RS _,⟨fun _ _=>rfl,fun _ _=>rfl⟩,fun _ _ hL=>Sw hL,fun hr=>by
 refine⟨fun z hz=> ?_,fun s'=>⟨xX _ _ _ _ hne,C9 _ _ _ _ hne⟩⟩
 have hz':look ((o,x)::lH (Ob.kill o) (iy o st.ob)) q=some z:=hz
 rw[gD _ _ hne,rW,p9 hne,aao] at hz'
 obtain⟨w,hw,rfl⟩:=hz'
 exact YG (hr w hw)⟩
theorem l6 {d:Option Nat} {v:TV R.T}:(st.fA d v).ob=st.ob:=by cases d<;>rfl
theorem aY.same {st':MS R.T} {o:Nat} (h:st'.ob=st.ob):aY nr o st ρ σ st' ρ σ:=⟨rfl,rfl,rfl,RS _,⟨fun _ _=>rfl,fun _ _=>rfl⟩,fun _ _ _=>rfl,fun hr=>⟨fun x hx=>hr x (by rw[<-h];exact hx),fun _=>⟨rfl,rfl⟩⟩⟩
theorem aY.congr {st' gG:MS R.T} {ρ':aN} {σ':ah} {o:Nat} (h:aY nr o st ρ σ st' ρ' σ') (e:gG.ob=st'.ob):aY nr o st ρ σ gG ρ' σ':=⟨h.ob,h.ln,h.om,h.nx,h.lp,h.dp,fun hr=>⟨fun x hx=>(h.ro hr).1 x (by rw[<-e];exact hx),(h.ro hr).2⟩⟩
theorem aY.from {st' gG:MS R.T} {ρ':aN} {σ':ah} {o:Nat} (h:aY nr o st ρ σ st' ρ' σ') (e:st.ob=gG.ob):aY nr o gG ρ σ st' ρ' σ':=⟨h.ob,h.ln,h.om,h.nx,h.lp,h.dp,fun hr=>h.ro fun x hx=>hr x (by rw[<-e];exact hx)⟩
theorem Kp.op {d:Option Nat} {W:List Nat} {y:V} {st':MS R.T} {ρ':aN} {σ':ah} (hd:∀p,aR p W=false->d≠some p) (h:∀p,d≠some p->aY nr p st ρ σ st' ρ' σ'):Kp nr W st fr σ ρ st' (fr.put d y) σ' ρ':=
 ⟨fun i hi=>by
   cases d with
   |none=>rfl
   |some j=>exact FX _ _ (by have:=hd i hi;simp at this;simpa using fun e=>this e.symm),fun p hp=>h p (hd p hp)⟩
theorem YH {W K O:List Nat} {st':MS R.T} {o:Nat} (h:look st'.ob o=none):RO ((Aq.base W K O .ro st).over st') o:=by
 intro y hy
 have hy':look (mZ (fun o b=> !(aR o W)&& mM W b) Ob.ro st.ob O++st'.ob) o=some y:=hy
 rw[vV] at hy'
 split at hy'
 ·rename_i x hx
  cases hy'
  obtain⟨z,_,_,rfl⟩:=vW hx
  rfl
 ·rw[h] at hy';cases hy'
theorem LQ {st':MS R.T} {o:Nat} (h1:RO st o) (h2:RO st' o):RO (st.over st') o:=by
 intro y hy
 have hy':look (st.ob++st'.ob) o=some y:=hy
 rw[vV] at hy'
 split at hy'
 ·rename_i x hx;cases hy';exact h1 _ hx
 ·exact h2 _ hy'
theorem YI {W K O:List Nat} {mark:Ob R.T->Ob R.T} {o:Nat} (hm:∀x,oF x=true->oF (mark x)=true) (h:RO st o):RO (Aq.base W K O mark st) o:=by
 intro y hy
 obtain⟨x,h1,_,rfl⟩:=vW hy
 exact hm _ (h _ h1)
theorem finish {W K O:List Nat} {H S' gG:MS R.T} {fr':Fr} {ρ':aN} {σ':ah} {b':Nat} (hi:aH ρ b st fr σ) (hH:∀o,aR o W=false->RO st o->RO H o) (hro:∀o x,look st.ob o=some x->aR o W=false->aR o O=true->mM W x=true->RO H o)
 (hk:Kp nr W H fr σ ρ S' fr' σ' ρ') (hi':aH ρ' b' gG fr' σ') (hn:∀o,aR o W=false->RO H o->look gG.ob o=none):
 aH ρ' b' ((Aq.base W K O (fun b=>b) st).over gG) fr' σ'/\Kp nr W st fr σ ρ ((Aq.base W K O (fun b=>b) st).over gG) fr' σ' ρ':=by
 have hk2:Kp nr W H fr σ ρ gG fr' σ' ρ':=⟨hk.fr,fun o ho=>⟨(hk.ob o ho).ob,(hk.ob o ho).ln,(hk.ob o ho).om,(hk.ob o ho).nx,(hk.ob o ho).lp,(hk.ob o ho).dp,fun hr=>⟨fun x hx=>(by rw[hn o ho hr] at hx;cases hx),((hk.ob o ho).ro hr).2⟩⟩⟩
 refine⟨(hi.base (fun _ _ _ _ h=>h) hk2 hi' hro).over hi',hk.fr,fun o ho=>⟨(hk.ob o ho).ob,(hk.ob o ho).ln,(hk.ob o ho).om,(hk.ob o ho).nx,(hk.ob o ho).lp,(hk.ob o ho).dp,fun hr=>⟨?_,((hk.ob o ho).ro (hH o ho hr)).2⟩⟩⟩
 exact LQ (YI (fun _ h=>h) hr) fun x hx=>(by rw[hn o ho (hH o ho hr)] at hx;cases hx)
theorem YJ {x:TV R.T} {v:V} (hx:Cn x=true) (h:iB fr ρ top x v):v= .aj .nil []\/v= .aj .full []:=by
 cases x<;>first| (cases hx;done)|skip
 ·exact .inl (Rl.p8 (R:=R) (show Rl R ρ top .dX v from h))
 ·rename_i c t l
  obtain⟨c',hv,hc⟩:=Rl.kJ (R:=R) (show Rl R ρ top (.aj c t l) v from h)
  cases c<;>first| (cases hx;done)|skip
  ·have:l=[]:=by simpa [Cn] using hx
   subst this
   have hc':c'= .nil:=hc
   rw[hc'] at hv;exact .inl hv
  ·have:l=[]:=by simpa [Cn] using hx
   subst this
   have hc':c'= .full:=hc
   rw[hc'] at hv;exact .inr hv
theorem Gw {W:List Nat}:∀(l:List (Nat×Sk)) (st:MS R.T) (ρ:aN),aH ρ b st fr σ->∃ρ',aH ρ' b (pQ W l st) fr σ/\Kp nr W st fr σ ρ (pQ W l st) fr σ ρ'
 | [],st,ρ,h=>⟨ρ,h,.refl⟩
 | (i,k)::l,st,ρ,h=>by
   have other:pQ W ((i,k)::l) st=pQ W l st->∃ρ',aH ρ' b (pQ W ((i,k)::l) st) fr σ/\Kp nr W st fr σ ρ (pQ W ((i,k)::l) st) fr σ ρ':=fun e=>by
    rw[e];exact Gw l st ρ h
   cases k<;>first|exact other rfl|skip
   rename_i o t
   unfold pQ
   split
   ·rename_i v hv
    cases hb:(Cn v&& aR o W)
    ·exact Gw l st ρ h
    ·rw[cond_true]
     rw[aan] at hb
     have hg:=h.ghost o t
     have hE:=YJ hb.1 (h.fr _ _ hv)
     have Sz:aH (ρ.gh o) b (⟨(i,.vw o t)::(st.new o (.arr t [])).fr,(st.new o (.arr t [])).ob⟩:MS R.T) fr σ:={hg with
      fr:=fun j y hy=>by
       by_cases e:j=i
       ·subst e
        have hy':look ((j,TV.vw o t)::(st.new o (.arr t [])).fr) j=some y:=hy
        rw[jq] at hy';cases hy'
        exact .of (by unfold Rl;exact .inr ⟨Gt (ρ:=ρ) (n:=0),hE⟩)
       ·have hy':look ((i,TV.vw o t)::(st.new o (.arr t [])).fr) j=some y:=hy
        rw[gD _ _ e] at hy'
        exact hg.fr j y hy'
      ob:=hg.ob}
     obtain⟨ρ',h1,h2⟩:=Gw (W:=W) l _ _ Sz
     refine⟨ρ',h1,Kp.trans ⟨fun _ _=>rfl,fun p hp=> ?_⟩ h2⟩
     have hne:p≠o:=by rintro rfl;rw[hb.2] at hp;cases hp
     refine⟨(Db p hne).1,(Db p hne).2,rfl,RS _,⟨fun _ _=>rfl,fun _ _=>rfl⟩,fun _ _ _=>rfl,fun hr=>⟨fun x hx=> ?_,fun _=>⟨rfl,rfl⟩⟩⟩
     have hx':look ((o,Ob.arr t [])::lH (Ob.kill o) (iy o st.ob)) p=some x:=hx
     rw[gD _ _ hne,rW,p9 hne,aao] at hx'
     obtain⟨w,hw,rfl⟩:=hx'
     exact YG (hr w hw)
   ·exact Gw l st ρ h
section
variable (hR:nR R)
include hR
omit hR in
theorem YK {W:List Nat}:∀{l:List (Nat×Sk)},st.fr=[]->pQ W l st=st
 | [],_=>rfl
 | (i,k)::l,h=>by
   have:=YK (W:=W) (l:=l) h
   cases k<;>first|exact this|skip
   unfold pQ
   rw[h];exact this
omit hR in
theorem YL:∀{l:List (Nat×Sk)} {p:zx R.T l},qN R [] l=some p->l=[]
 | [],_,_=>rfl
 | [(i,k)],p,h=>by cases h
 | (i,k)::q::l,p,h=>by cases h
omit hR in
theorem aio {W:List Nat} (he:st.fr=[]) {s:Shape} {p:pI R.T s} (hp:Aq.lg R W st s=some p):(unpack R s p).fr=[]:=by
 unfold Aq.lg at hp
 rw[YK he] at hp
 obtain⟨sl,ob⟩:=s
 cases ob with
 |nil=>
  have hp':qN R st.fr sl=some p:=hp
  rw[he] at hp'
  have:=YL hp'
  subst this;rfl
 |cons o os=>
  unfold Aq.pack at hp
  rw[he] at hp
  cases hu:qN R [] sl with
  |none=>simp only[hu] at hp;cases hp
  |some x=>
   have:=YL hu
   subst this;rfl
theorem aH.lg {W:List Nat} (h:aH ρ b st fr σ) {s:Shape} {p:pI R.T s} (hp:Aq.lg R W st s=some p):∃ρ' S',aH ρ' b (unpack R s p) fr σ/\Kp nr W st fr σ ρ S' fr σ ρ'/\(st.fr=[]->(unpack R s p).fr=[])/\∀i,aR i W=false->RO st i->look (unpack R s p).ob i=none:=by
 obtain⟨ρ',h1,h2⟩:=Gw (W:=W) s.sl st ρ h
 exact⟨ρ',_,h1.pack hR hp,h2,fun he=>aio he hp,fun i hi hr=>aii hp ((h2.ob i hi).ro hr).1⟩
theorem Dc {β:Type} {W:List Nat} (h:aH ρ b st fr σ) {e:Ex}:∀{l:List (Ex×Shape)} {o:Out R.T l},rP R W e st l=some o->∃ρ' S' st',aH ρ' b st' fr σ/\Kp nr W st fr σ ρ S' fr σ ρ'/\(st.fr=[]->st'.fr=[])/\(∀i,aR i W=false->RO st i->look st'.ob i=none)/\∀(k:Ex->MS R.T->Option β) (bs:MS R.T),uE R bs k l o=k e (bs.over st')
 | [],o,hp=>by cases hp
 | [(x,s)],o,hp=>by
   have hp':(bif zD e x then Aq.lg R W st s else none)=some o:=hp
   cases hb:zD e x
   ·rw[hb] at hp';cases hp'
   ·rw[hb,cond_true] at hp'
    have:=YC hb;subst this
    obtain⟨ρ',S',h1,h2,h0,h3⟩:=h.lg hR hp'
    exact⟨ρ',S',_,h1,h2,h0,h3,fun k bs=>rfl⟩
 | (x,s)::q::l,o,hp=>by
   unfold rP at hp
   cases hb:zD e x
   ·rw[hb,cond_false] at hp
    cases hu:rP R W e st (q::l) with
    |none=>simp only[hu] at hp;cases hp
    |some y=>
     simp only[hu] at hp
     obtain rfl:=adG hp
     obtain⟨ρ',S',st',h1,h3,h0,h4,h2⟩:=Dc (β:=β) h hu
     exact⟨ρ',S',st',h1,h3,h0,h4,fun k bs=>h2 k bs⟩
   ·rw[hb,cond_true] at hp
    have:=YC hb;subst this
    cases hu:Aq.lg R W st s with
    |none=>simp only[hu] at hp;cases hp
    |some y=>
     simp only[hu] at hp
     obtain rfl:=adG hp
     obtain⟨ρ',S',h1,h2,h0,h3⟩:=h.lg hR hu
     exact⟨ρ',S',_,h1,h2,h0,h3,fun k bs=>rfl⟩
end
end
end
end Aq
end
section
namespace Aq
open Go
section
variable {R:iH} {E:Env}
variable {ρ:aN} {b:Nat} {st:MS R.T} {fr:Fr} {σ:ah}
def tL (E:Env) (fr:Fr) (o:Oper):Bool:=match o.op with
 |.call c=>match c.callee with
  |.value f=>jP E fr o f
  |_=>false
 |_=>false
def lQ (E:Env) (fr:Fr) (σ:ah) (ay:Nat) (o:Oper) (x:V) (σ':ah):Prop:=
 (tL E fr o=false->∀all os Q,eT all fr o=some true->OW E all (ay+1) os (fr.put o.dst x) σ' Q->OW E all ay (o::os) fr σ Q)/\
 (tL E fr o=false->∀ms all os fs Q,eT all fr o=some true->dU E ms all (ay+1) os (fr.put o.dst x) σ' (fs++[fq E all fr o true]) Q->dU E ms all ay (o::os) fr σ fs Q)
theorem lQ.of {ay:Nat} {o:Oper} {x:V} {σ':ah} (h:∀S,opC E S fr σ ay o=some (x,fr,σ')):lQ E fr σ ay o x σ':=
 ⟨fun _ _ _ _ hw h'=>OW.op hw h h',fun _ _ _ _ _ _ hw h'=>dU.op hw h h'⟩
theorem aip {S:jI} {ay:Nat} {o:Oper} {x:V} {σ':ah} (h:bg E fr σ ay o=some (x,σ')):opC E S fr σ ay o=some (x,fr,σ'):=by
 unfold opC
 split
 ·rename_i c hc;unfold bg at h;rw[hc] at h;cases h
 ·rename_i c hc;unfold bg at h;rw[hc] at h;cases h
 ·rw[h];rfl
theorem YM {o:Oper} {c:Call} {f:Operand} {g:FuncId} {a b:List V} (ho:o.op= .call c) (fu:c.callee= .value f) (hf:fr.ev E f= .fn (.func g) a b) (h:tL E fr o=false):∀d,o.dst=some d->E.own g d=false:=by
 intro d hd
 unfold tL at h
 rw[ho] at h
 dsimp only at h
 rw[fu] at h
 dsimp only at h
 unfold jP at h
 rw[hf,hd] at h
 exact h
theorem lQ.gV {ay:Nat} {o:Oper} {x:V} {σ':ah} (h:bg E fr σ ay o=some (x,σ')):lQ E fr σ ay o x σ':=.of fun S=>aip h
def rY (E:Env) (st:MS R.T) (ρ:aN) (ay:Nat) (fr:Fr) (σ:ah) (o:Oper):dV R->Prop
 |.t v=> ∃x,lQ E fr σ ay o x σ/\Rl R ρ σ.top v x
 |.c c v=>c=true->∃x,lQ E fr σ ay o x σ/\Rl R ρ σ.top v x
 |.w v st'=> ∃x σ' ρ',lQ E fr σ ay o x σ'/\aH ρ' (ay+1) st' fr σ'/\σ'.next=σ.next/\Rl R ρ' σ'.top v x/\∀p,o.dst≠some p->aY true p st ρ σ st' ρ' σ'
 |.wc c v st'=>c=true->∃x σ' ρ',lQ E fr σ ay o x σ'/\aH ρ' (ay+1) st' fr σ'/\σ'.next=σ.next/\Rl R ρ' σ'.top v x/\∀p,o.dst≠some p->aY true p st ρ σ st' ρ' σ'
 |.p _ _ o' f=> ∀a,o'=some a->∃x,lQ E fr σ ay o x σ/\Rl R ρ σ.top (f a) x
theorem uJ {top:Nat->Nat} {x:TV R.T} {v:V} (hg:xJ x=true) (h:Rl R ρ top x v):au R ρ top x.cells v.cells/\dJ v=true:=by
 cases x with
 |agg cs=>obtain⟨l,rfl,hl⟩:=h.kI;exact⟨hl,rfl⟩
 |int k n=>rw[h.fZ];exact⟨.cons' (by unfold Rl;rfl) rfl,rfl⟩
 |bool b=>rw[h.pY];exact⟨.cons' (by unfold Rl;rfl) rfl,rfl⟩
 |gQ b=>rw[h.tJ];exact⟨.cons' (by unfold Rl;rfl) rfl,rfl⟩
 |str b=>rw[h.l5];exact⟨.cons' (by unfold Rl;rfl) rfl,rfl⟩
 |dX=>rw[h.p8];exact⟨.cons' (by unfold Rl;rfl) rfl,rfl⟩
 |bE cs=>obtain⟨l,rfl,hl⟩:=h.LD;exact⟨.cons' h rfl,rfl⟩
 |aj c t l=>obtain⟨c',rfl,hl⟩:=h.kJ;exact⟨.cons' h rfl,rfl⟩
 |ref o off=>obtain⟨s,hs,rfl⟩:=h.oJ;exact⟨.cons' h rfl,rfl⟩
 |aK o off=>obtain⟨s,rfl,hs⟩:=h.tK;exact⟨.cons' h rfl,rfl⟩
 |bP o=>obtain⟨s,hs,rfl⟩:=h.vT;exact⟨.cons' h rfl,rfl⟩
 |dG k e m=>have:=h.CY;subst this;exact⟨.cons' h rfl,rfl⟩
 |fn f a b=>obtain⟨a',b',rfl,_⟩:=h.mP;exact⟨.cons' h rfl,rfl⟩
 |undef=>have:=h.Yd;subst this;exact⟨.cons' h rfl,rfl⟩
 |vw o t=>rcases h.zL with ⟨s,_,rfl⟩| ⟨_,rfl|rfl⟩<;>exact⟨.cons' h rfl,rfl⟩
 |jW o t i off=>obtain⟨s,_,_,rfl⟩:=h.zM;exact⟨.cons' h rfl,rfl⟩
 |sv o off k n lo hi=>obtain⟨s,_,_,rfl⟩:=h.xV;exact⟨.cons' h rfl,rfl⟩
 |sel o off k n i m=>obtain⟨s,_,_,_,rfl⟩:=h.Gs;exact⟨.cons' h rfl,rfl⟩
 |qK k n y i=>obtain⟨_,_,rfl⟩:=h.LG;exact⟨.cons' h rfl,rfl⟩
 |sg _=>cases hg
 |fJ=>have h':=h;unfold Rl at h';subst h';exact⟨.cons' h rfl,rfl⟩
 |fF=>have h':=h;unfold Rl at h';subst h';exact⟨.cons' h rfl,rfl⟩
 |eZ=>have h':=h;unfold Rl at h';subst h';exact⟨.cons' h rfl,rfl⟩
 |gH=>have h':=h;unfold Rl at h';subst h';exact⟨.cons' h rfl,rfl⟩
 |opt j w y=>cases hg
 |gone=>cases hg
theorem aiq {top:Nat->Nat} {x:TV R.T} {v:V} (hg:Ry x=true) (h:Rl R ρ top x v):oneCell v=true:=by
 cases x with
 |agg cs=>cases hg
 |int k n=>rw[h.fZ];rfl
 |bool b=>rw[h.pY];rfl
 |gQ b=>rw[h.tJ];rfl
 |str b=>rw[h.l5];rfl
 |dX=>rw[h.p8];rfl
 |bE cs=>cases hg
 |aj c t l=>obtain⟨c',rfl,hl⟩:=h.kJ;rfl
 |ref o off=>obtain⟨s,hs,rfl⟩:=h.oJ;rfl
 |aK o off=>obtain⟨s,rfl,hs⟩:=h.tK;rfl
 |bP o=>obtain⟨s,hs,rfl⟩:=h.vT;rfl
 |dG k e m=>have:=h.CY;subst this;rfl
 |fn f a b=>obtain⟨a',b',rfl,_⟩:=h.mP;rfl
 |undef=>cases hg
 |vw o t=>rcases h.zL with ⟨s,_,rfl⟩| ⟨_,rfl|rfl⟩<;>rfl
 |jW o t i off=>obtain⟨s,_,_,rfl⟩:=h.zM;rfl
 |sv o off k n lo hi=>obtain⟨s,_,_,rfl⟩:=h.xV;rfl
 |sel o off k n i m=>obtain⟨s,_,_,_,rfl⟩:=h.Gs;rfl
 |qK k n y i=>obtain⟨_,_,rfl⟩:=h.LG;rfl
 |sg _=>cases hg
 |fJ=>unfold Rl at h;subst h;rfl
 |fF=>unfold Rl at h;subst h;rfl
 |eZ=>unfold Rl at h;subst h;rfl
 |gH=>unfold Rl at h;subst h;rfl
 |opt j w y=>cases hg
 |gone=>cases hg
theorem Gx {top:Nat->Nat}:∀{x:List (TV R.T)} {v:List V},xI x=true->au R ρ top x v->bC v=true
 | [],v,_,h=>by rw[h.fB];rfl
 |x::xs,v,hg,h=>by
  obtain⟨y,ys,rfl,h1,h2⟩:=h.dN
  unfold xI at hg
  rw[aan] at hg
  rw[XM,aiq hg.1 h1,Gx hg.2 h2];rfl
theorem air {top:Nat->Nat} {ag:Bool} {n off:Nat} {cs:List (TV R.T)} {l:List V} {x:TV R.T} (h:au R ρ top cs l) (hp:Lb ag n cs off=some x):∃v,nJ ag n l off=some v/\Rl R ρ top x v:=by
 cases ag with
 |true=>
  have hp':(bif Nat.ble (off+n) cs.length then some (TV.agg ((cs.drop off).take n)) else none)=some x:=hp
  cases hb:Nat.ble (off+n) cs.length
  ·rw[hb] at hp';cases hp'
  ·rw[hb] at hp';cases hp'
   have hle:=ae3 hb
   refine⟨.agg ((l.drop off).take n), ?_,by unfold Rl;exact⟨_,rfl,(h.drop off).take n⟩⟩
   unfold nJ;rw[if_pos rfl,if_pos (by rw[h.length];exact hle)]
 |false=>
  obtain⟨v,h1,h2⟩:=h.get (show cs[off]? =some x from hp)
  exact⟨v,by unfold nJ;simpa using h1,h2⟩
theorem vX {top:Nat->Nat} {t:TypeId} {off:Nat} {cs:List (TV R.T)} {l:List V} {x:TV R.T} (h:au R ρ top cs l) (hp:kQ E t cs off=some x):∃v,gK E.P t l off=some v/\Rl R ρ top x v:=by
 unfold kQ at hp
 cases h1:jl E.P t with
 |none=>simp only[h1] at hp;cases hp
 |some a=>
  cases h2:cO E.P t with
  |none=>simp only[h1,h2] at hp;cases hp
  |some n=>
   simp only[h1,h2] at hp
   unfold gK;rw[h1,h2];exact air h hp
theorem SA {top:Nat->Nat} {cs vs:List (TV R.T)} {l k:List V} (off:Nat) (h:au R ρ top cs l) (h':au R ρ top vs k):au R ρ top (Co cs off vs) (fT l off k):=by
 unfold Co fT
 rw[h'.length]
 exact((h.take off).append h').append (h.drop _)
theorem Df {top:Nat->Nat} {t:TypeId} {z:TV R.T} (h:vL E t=some z):∃v,jA E.P t=some v/\Rl R ρ top z v:=by
 unfold vL at h
 unfold jA
 cases h1:E.P.info? t with
 |none=>simp only[h1] at h;cases h
 |some i=>
  cases h2:i.zero with
  |none=>simp only[h1,h2] at h;cases h
  |some z'=>
   simp only[h1,h2] at h
   obtain⟨v,hv,hr⟩:=Yw (ρ:=ρ) (top:=top) h
   exact⟨v,by simp[h2,hv],hr⟩
theorem YN {top:Nat->Nat} (place:Nat->Option (Nat×Nat)):∀{ps:List (Nat×TV R.T)} {qs:List (Nat×V)} {cs:List (TV R.T)} {l:List V} {cs':List (TV R.T)},ps.map (·.1)=qs.map (·.1)->au R ρ top (ps.map (·.2)) (qs.map (·.2))->
 au R ρ top cs l->Lc place cs ps=some cs'->∃l',o7 place l qs=some l'/\au R ρ top cs' l'
 | [],[],cs,l,cs',_,_,h,hf=>by cases hf;exact⟨l,rfl,h⟩
 | [],_::_,_,_,_,h,_,_,_=>by simp at h
 |_::_,[],_,_,_,h,_,_,_=>by simp at h
 | (i,v)::ps,(j,w)::qs,cs,l,cs',hi,hr,h,hf=>by
   simp only[ac7,ajj] at hi
   obtain⟨rfl,hi⟩:=hi
   obtain⟨y,ys,e,h1,h2⟩:=hr.dN
   simp only[ac7,ajj] at e
   obtain⟨rfl,rfl⟩:=e
   unfold Lc at hf
   unfold o7
   cases hp:place i with
   |none=>simp only[hp] at hf;cases hf
   |some q=>
    obtain⟨off,size⟩:=q
    simp only[hp] at hf⊢
    cases hb:(Nat.beq v.cells.length size&& Nat.ble (off+size) cs.length&& xJ v)
    ·rw[hb] at hf;cases hf
    ·rw[hb,cond_true] at hf
     simp only[aan] at hb
     obtain⟨⟨b1,b2⟩,b3⟩:=hb
     obtain⟨hc,hn⟩:=uJ b3 h1
     rw[if_pos ⟨by rw[hc.length];exact d9 b1,by rw[h.length];exact ae3 b2,hn⟩]
     exact YN place hi h2 (SA off h hc) hf
theorem YO {top:Nat->Nat} {x:TV R.T} {v:V} {a:Bool} (h:bM x=some a) (hr:Rl R ρ top x v):v= .bool a:=by
 cases x<;>cases h
 ·exact hr.pY
 ·exact hr.tJ
theorem YP {top:Nat->Nat} {x y:TV R.T} {v w:V} {r:Bool} (h:Ld x y=some r) (hx:Rl R ρ top x v) (hy:Rl R ρ top y w):∃a b,v= .bool a/\w= .bool b/\r=(a==b):=by
 unfold Ld at h
 cases h1:bM x with
 |none=>simp only[h1] at h;cases h
 |some a=>
  cases h2:bM y with
  |none=>simp only[h1,h2] at h;cases h
  |some b=>simp only[h1,h2] at h;cases h;exact⟨a,b,YO h1 hx,YO h2 hy,rfl⟩
theorem SB {top:Nat->Nat} {vY:TypeId->TV R.T->TV R.T->Option Bool} {eqv:TypeId->V->V->Option Bool} (he:∀t x y v w r,vY t x y=some r->Rl R ρ top x v->Rl R ρ top y w->eqv t v w=some r)
 {xs ys:List (TV R.T)} {vs ws:List V} (hx:au R ρ top xs vs) (hy:au R ρ top ys ws):∀{fs:List Field} {r:Bool},Cq E vY xs ys fs=some r->za E.P eqv vs ws fs=some r
 | [],r,h=>by cases h;rfl
 |f::fs,r,h=>by
  unfold Cq at h
  unfold za
  split at h
  ·rename_i hn;rw[if_pos hn];exact SB he hx hy h
  ·rename_i hn
   rw[if_neg hn]
   cases h1:kQ E f.type xs f.offset with
   |none=>simp only[h1] at h;cases h
   |some a=>
    cases h2:kQ E f.type ys f.offset with
    |none=>simp only[h1,h2] at h;cases h
    |some c=>
     cases h3:vY f.type a c with
     |none=>simp only[h1,h2,h3] at h;cases h
     |some r1=>
      cases h4:Cq E vY xs ys fs with
      |none=>simp only[h1,h2,h3,h4] at h;cases h
      |some q=>
       simp only[h1,h2,h3,h4] at h;cases h
       obtain⟨v1,e1,g1⟩:=vX hx h1
       obtain⟨v2,e2,g2⟩:=vX hy h2
       simp[e1,e2,he _ _ _ _ _ _ h3 g1 g2,SB he hx hy h4]
theorem YQ {top:Nat->Nat} {vY:TypeId->TV R.T->TV R.T->Option Bool} {eqv:TypeId->V->V->Option Bool} (he:∀t x y v w r,vY t x y=some r->Rl R ρ top x v->Rl R ρ top y w->eqv t v w=some r)
 {e:TypeId} {sz:Nat} {xs ys:List (TV R.T)} {vs ws:List V} (hx:au R ρ top xs vs) (hy:au R ρ top ys ws):∀{is:List Nat} {r:Bool},Ga E vY e sz xs ys is=some r->Bg E.P eqv e sz vs ws is=some r
 | [],r,h=>by cases h;rfl
 |i::is,r,h=>by
  unfold Ga at h
  unfold Bg
  cases h1:kQ E e xs (i*sz) with
  |none=>simp only[h1] at h;cases h
  |some a=>
   cases h2:kQ E e ys (i*sz) with
   |none=>simp only[h1,h2] at h;cases h
   |some c=>
    cases h3:vY e a c with
    |none=>simp only[h1,h2,h3] at h;cases h
    |some r1=>
     cases h4:Ga E vY e sz xs ys is with
     |none=>simp only[h1,h2,h3,h4] at h;cases h
     |some q=>
      simp only[h1,h2,h3,h4] at h;cases h
      obtain⟨v1,e1,g1⟩:=vX hx h1
      obtain⟨v2,e2,g2⟩:=vX hy h2
      simp[e1,e2,he _ _ _ _ _ _ h3 g1 g2,YQ he hx hy h4]
theorem LU {top:Nat->Nat}:∀(d:Nat) (t:TypeId) (x y:TV R.T) (v w:V) (r:Bool),Cr E d t x y=some r->Rl R ρ top x v->Rl R ρ top y w->wS E.P d t v w=some r
 |0,_,_,_,_,_,_,h,_,_=>by cases h
 |d+1,t,x,y,v,w,r,h,hx,hy=>by
  unfold Cr at h
  unfold wS
  split at h
  ·rename_i fs xs ys hu
   obtain⟨l,rfl,h1⟩:=hx.kI
   obtain⟨k,rfl,h2⟩:=hy.kI
   rw[hu];dsimp only
   split at h
   ·cases h
   ·rename_i hs;rw[if_neg hs];exact SB (LU d) h1 h2 h
  ·rename_i n e xs ys hu
   obtain⟨l,rfl,h1⟩:=hx.kI
   obtain⟨k,rfl,h2⟩:=hy.kI
   rw[hu];dsimp only
   cases hs:cO E.P e with
   |none=>simp only[hs] at h;cases h
   |some sz=>simp only[hs] at h;simp only[Option.bind_some];exact YQ (LU d) h1 h2 h
  ·cases h
  ·cases h
  ·rename_i hu
   obtain⟨a,c,rfl,rfl,rfl⟩:=YP h hx hy
   rw[hu]
  ·rename_i k a k' c hu
   rw[hx.fZ,hy.fZ,hu];exact h
  ·rename_i a c hu
   rw[hx.l5,hy.l5,hu];exact h
  ·cases h
theorem YR {top:Nat->Nat} {t:TypeId} {x y:TV R.T} {v w:V} {r:Bool} (h:Le E t x y=some r) (hx:Rl R ρ top x v) (hy:Rl R ρ top y w):o8 E.P t v w=some r:=by
 unfold Le at h
 unfold o8
 split at h
 ·rename_i fs xs ys hu
  split at h
  ·cases h
  ·rename_i hs
   have:=LU 8 t _ _ v w r h hx hy
   obtain⟨l,rfl,h1⟩:=hx.kI
   obtain⟨k,rfl,h2⟩:=hy.kI
   rw[hu];dsimp only;rw[if_neg hs];exact this
 ·rename_i fs xs ys hu
  split at h
  ·cases h
  ·rename_i hs
   have:=LU 8 t _ _ v w r h hx hy
   obtain⟨l,rfl,h1⟩:=hx.kI
   obtain⟨k,rfl,h2⟩:=hy.kI
   rw[hu];dsimp only;rw[if_neg hs];exact this
 ·rename_i hu;cases h;unfold Rl at hx hy;subst hx;subst hy;rw[hu]
 ·rename_i hu;cases h;obtain⟨a,b,rfl,_⟩:=hy.mP;unfold Rl at hx;subst hx;rw[hu]
 ·rename_i hu;cases h;obtain⟨a,b,rfl,_⟩:=hx.mP;unfold Rl at hy;subst hy;rw[hu]
 ·rename_i hu;obtain⟨a,c,rfl,rfl,rfl⟩:=YP h hx hy;rw[hu]
 ·cases h
end
end Aq
end
