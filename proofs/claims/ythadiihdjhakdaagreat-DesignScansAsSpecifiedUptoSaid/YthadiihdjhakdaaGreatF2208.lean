import Derived.Test.YthadiihdjhakdaaGreatF2207
set_option linter.all false
section
namespace aR
open Go
theorem iK {a b:Nat}(h:Nat.beq a b=true):a=b:=wo h
theorem Fq {a b:Nat}(h:Nat.beq a b=false):a≠b:=fun e=>by rw[e,vS] at h;cases h
theorem VX {a b:Nat}(h:a≠b):Nat.beq a b=false:=Bool.eq_false_iff.2 fun e=>h (iK e)
section look
variable {α:Type}
theorem um (f:α->α):∀(l:List (Nat×α))(i:Nat),look (l7 f l) i=(look l i).map f
 | [],_=>rfl| (j,x)::l,i=>by
   show (bif Nat.beq j i then some (f x) else look (l7 f l) i)=Option.map f (bif Nat.beq j i then some x else look l i);cases Nat.beq j i
   ·exact um f l i
   ·rfl
theorem qG {i j:Nat}(h:j≠i):∀(l:List (Nat×α)),look (jE i l) j=look l j
 | []=>rfl| (k,x)::l=>by
   show look (bif Nat.beq k i then jE i l else (k,x)::jE i l) j=bif Nat.beq k j then some x else look l j;cases hk:Nat.beq k i
   ·show (bif Nat.beq k j then some x else look (jE i l) j)=_
    rw[qG h l]
   ·have:=iK hk
    subst this;rw[VX (Ne.symm h)];exact qG h l
theorem kZ (l:List (Nat×α))(i:Nat)(x:α):look ((i,x)::l) i=some x:=by show (bif Nat.beq i i then some x else look l i)=_;rw[vS];rfl
theorem jh (l:List (Nat×α)){i j:Nat}(x:α)(h:j≠i):look ((i,x)::l) j=look l j:=by show (bif Nat.beq i j then some x else look l j)=_;rw[VX (Ne.symm h)];rfl
end look
section
variable {R:iI}{E:Env}
theorem agp {ρ ρ':aV}{top top':Nat->Nat}:∀(t:Ty)(x:Den R.T t)(v:V),aB R ρ top (Bo R .any t x) v->aB R ρ' top' (Bo R .any t x) v
 |.int _,_,_,h=>h|.bool,_,_,h=>h|.str,_,_,h=>h|.slice _,_,_,h=>h|.st _,_,_,h=>h
theorem Dv {ρ ρ':aV}{top top':Nat->Nat}:∀(l:List Ty)(p:pV R.T l)(vs:List V),aI R ρ top (fJ R .any l p) vs->aI R ρ' top' (fJ R .any l p) vs
 | [],_,_,h=>h| [t],x,vs,h=>by obtain⟨v,l,rfl,h1,h2⟩:=h.dS;rw[h2.iq];exact .cons' (agp t x v h1) rfl
 |t::u::l,p,vs,h=>by obtain⟨v,ws,rfl,h1,h2⟩:=h.dS;exact .cons' (agp t p.1 v h1) (Dv (u::l) p.2 ws h2)
theorem as3 {ρ ρ':aV}{top top':Nat->Nat}{t:Ty}{x:Den R.T t}{vs:List V}(h:aI R ρ top (iJ R .any t x).cells vs):aI R ρ' top' (iJ R .any t x).cells vs:=by
 cases t with
 |st n=>exact Dv _ _ _ h|int k=>exact Dv [.int k] x vs h|bool=>exact Dv [.bool] x vs h|str=>exact Dv [.str] x vs h|slice t=>exact Dv [.slice t] x vs h
theorem aI.split {ρ:aV}{top:Nat->Nat}:∀{ts ts':List (au R.T)}{vs:List V},aI R ρ top (ts++ts') vs->∃a b,vs=a++b/\aI R ρ top ts a/\aI R ρ top ts' b
 | [],_,vs,h=>⟨[],vs,rfl,rfl,h⟩|t::ts,ts',vs,h=>by obtain⟨v,ws,rfl,h1,h2⟩:=aI.dS (ts:=ts++ts') h;obtain⟨a,b,rfl,h3,h4⟩:=aI.split h2;exact⟨v::a,b,rfl,.cons' h1 h3,h4⟩
theorem wY {ρ ρ':aV}{top top':Nat->Nat}{t:Ty}:∀(l:List (Den R.T t))(vs:List V),aI R ρ top (l.flatMap fun x=>(iJ R .any t x).cells) vs->aI R ρ' top' (l.flatMap fun x=>(iJ R .any t x).cells) vs
 | [],vs,h=>h|x::l,vs,h=>by rw[mo] at h⊢;obtain⟨a,b,rfl,h1,h2⟩:=h.split;exact(as3 h1).append (wY l b h2)
def jX (fr:Fr)(ρ:aV)(top:Nat->Nat):au R.T->V->Prop
 |.opt j w y,v=>(fr.tm j= .bool w->aB R ρ top y v)/\(fr.tm j= .bool (!w)\/fr.tm j=aL->v=aL)|x,v=>aB R ρ top x v
theorem jX.of {fr:Fr}{ρ:aV}{top:Nat->Nat}{x:au R.T}{v:V}(h:aB R ρ top x v):jX fr ρ top x v:=by
 cases x<;>first|exact h|exact h.agi.elim
def eZ (ρ:aV)(σ:ak)(o:Nat):bA R.T->Prop
 |.cells cs=>∃s l,ρ.ob o=some s/\σ.bQ (ρ.aj.lc o) s=some l/\aI R ρ σ.top cs l|.map k e m=>∃s,ρ.ob o=some s/\σ.gB (ρ.aj.lc o) s=some (m.map fun p=>aP R k p.1,m.map fun p=>aP R e p.2)
 |.smap ks vs=>∃s k l,ρ.ob o=some s/\σ.gB (ρ.aj.lc o) s=some (k,l)/\aI R ρ σ.top ks k/\aI R ρ σ.top vs l|.arr t l=>l.length=ρ.ln o/\((l=[]/\ρ.ob o=none)\/∃s cs,ρ.ob o=some s/\σ.bQ (ρ.aj.lc o) s=some cs/\aI R ρ σ.top (l.flatMap fun x=>(iJ R .any t x).cells) cs)
 |.sg ss=>∃s,ρ.ob o=some s/\σ.bQ (ρ.aj.lc o) s=some (l6 ss)|.gone=>True|.ro b=>eZ ρ σ o b
theorem eZ.strip {ρ:aV}{σ:ak}{o:Nat}:∀{x:bA R.T},eZ ρ σ o x->eZ ρ σ o (ZG x)
 |.cells _,h=>h|.map _ _ _,h=>h|.smap _ _,h=>h|.arr _ _,h=>h|.sg _,h=>h|.gone,h=>h|.ro b,h=>eZ.strip (x:=b) h
structure aO (ρ:aV)(b:Nat)(st:aH R.T)(fr:Fr)(σ:ak):Prop where
 d:fr.d=ρ.aj.dp
 aj:fr.aj=ρ.aj.aj
 fr:∀i v,look st.fr i=some v->jX fr ρ σ.top v (fr.tm i)
 ob:∀o x,look st.ob o=some x->eZ ρ σ o x
 inj:∀t u s,ρ.tk t=some s->ρ.tk u=some s->t=u
 lt:∀t s,ρ.tk t=some s->s<b
 ge:∀t s,ρ.tk t=some s->ρ.aj.lo<=s
 nx:ρ.aj.lo<=b
variable {ρ:aV}{b:Nat}{st:aH R.T}{fr:Fr}{σ:ak}
theorem aO.le {b':Nat}(h:aO ρ b st fr σ)(hb:b<=b'):aO ρ b' st fr σ:={h with lt:=fun t s ht=>gM (h.lt t s ht) hb,nx:=dJ h.nx hb}
theorem eZ.bump {o k:Nat}:∀{x:bA R.T},eZ ρ σ o x->eZ ρ (σ.bump k) o x
 |.cells _,h=>h|.map _ _ _,h=>h|.smap _ _,h=>h|.arr _ _,h=>h|.sg _,h=>h|.gone,h=>h|.ro b,h=>eZ.bump (x:=b) h
theorem aO.next (h:aO ρ b st fr σ)(k:Nat):aO ρ b st fr (σ.bump k):={h with fr:=h.fr,ob:=fun o x hx=>(h.ob o x hx).bump}
theorem aO.rd (h:aO ρ b st fr σ){o:Nat}{x:bA R.T}(hx:mE st o=some x):eZ ρ σ o x:=by
 unfold mE at hx;split at hx
 ·rename_i y hy;cases hx;exact(h.ob _ _ hy).strip
 ·cases hx
theorem as4 {ρ:aV}{top:Nat->Nat}{x:au R.T}{u v:V}{i:Nat}(h:jX fr ρ top x v):jX (fr.set i u) ρ top (ZE i x) v:=by
 cases x with
 |opt j w y=>
  show jX _ _ _ (bif Nat.beq j i then .gone else .opt j w y) v;cases hj:Nat.beq j i
  ·have hs:(fr.set i u).tm j=fr.tm j:=fZ _ _ (by simpa using Fq hj)
   exact⟨fun hc=>h.1 (by rw[<-hs];exact hc),fun hc=>h.2 (by rw[<-hs];exact hc)⟩
  ·exact jX.of (x:=.gone) (by unfold aB;trivial)
 |_=>exact h
theorem aO.put (h:aO ρ b st fr σ)(i:Nat){x:au R.T}{v:V}(hx:jX (fr.set i v) ρ σ.top x v):aO ρ b (st.put i x) (fr.set i v) σ where
 d:=h.d
 aj:=h.aj
 ob:=h.ob
 inj:=h.inj
 lt:=h.lt
 ge:=h.ge
 nx:=h.nx
 fr:=fun j y hy=>by
  by_cases e:j=i
  ·subst e
   have hy':some x=some y:=MR
   cases hy';rw[afJ];exact hx
  ·have hy':look (l7 (ZE i) (jE i st.fr)) j=some y:=MS
   rw[um,qG e,bf] at hy';obtain⟨z,hz,rfl⟩:=hy';rw[fZ _ _ (by simpa using e)];exact as4 (h.fr j z hz)
theorem aO.gN (h:aO ρ b st fr σ)(d:Option Nat){x:au R.T}{v:V}(hx:aB R ρ σ.top x v):aO ρ b (st.gN d x) (fr.put d v) σ:=by
 cases d with
 |none=>exact h|some i=>exact h.put i (.of hx)
theorem as5 {ρ:aV}{top:Nat->Nat}{x:au R.T}{v:V}{i:Nat}{c:Bool}(hi:fr.tm i= .bool c)(h:jX fr ρ top x v):jX fr ρ top (ZF i c x) v:=by
 cases x with
 |opt j w y=>
  show jX _ _ _ (bif Nat.beq j i then (bif (c==w) then y else .undef) else .opt j w y) v;cases hj:Nat.beq j i
  ·exact h
  ·have:=iK hj
   subst this;by_cases e:c=w
   ·subst e
    rw[beq_self_eq_true];exact jX.of (h.1 hi)
   ·rw[show (c==w)=false by simpa using e]
    have e':c= !w:=(by cases c<;>cases w<;>first|rfl|exact absurd rfl e);have h':=h.2 (.inl (by rw[hi,e']));subst h';exact jX.of (x:=.undef) iY
 |_=>exact h
theorem aO.learn (h:aO ρ b st fr σ){i:Nat}{c:Bool}(hc:fr.tm i= .bool c):aO ρ b (st.learn i c) fr σ where
 d:=h.d
 aj:=h.aj
 ob:=h.ob
 inj:=h.inj
 lt:=h.lt
 ge:=h.ge
 nx:=h.nx
 fr:=fun j y hy=>by
  by_cases e:j=i
  ·subst e
   have hy':some (au.jA c)=some y:=MR
   cases hy';exact jX.of (x:=.jA c) (by unfold aB;exact hc)
  ·have hy':look (l7 (ZF i c) (jE i st.fr)) j=some y:=MS
   rw[um,qG e,bf] at hy';obtain⟨z,hz,rfl⟩:=hy';exact as5 hc (h.fr j z hz)
def aV.mI (ρ:aV)(o s:Nat):aV:={ρ with ob:=upd ρ.ob o (some s)}
def aV.jM (ρ:aV)(t s:Nat):aV:={ρ with tk:=upd ρ.tk t (some s)}
theorem agq {ρ':aV}{top:Nat->Nat}{o:Nat}{x:au R.T}{v:V}(ho:∀p,p≠o->ρ'.ob p=ρ.ob p/\ρ'.ln p=ρ.ln p)(ht:ρ'.tk=ρ.tk)(hx:ρ'.aj=ρ.aj)(h:jX fr ρ top x v):jX fr ρ' top (Bp o x) v:=by
 unfold Bp;cases hm:nE o x
 ·cases x with
  |opt j w y=>exact⟨fun hc=>aB.kill o ho ht hx y v hm (h.1 hc),h.2⟩
  |_=>exact jX.of (aB.kill o ho ht hx _ v hm h)
 ·exact jX.of (x:=.gone) (by unfold aB;trivial)
theorem aan (c:cZ){o p:Nat}(h:p≠o):uQ (c.lc p) (c.lc o)=false:=by
 cases e:uQ (c.lc p) (c.lc o)
 ·rfl
 ·unfold uQ at e
  rw[aT,beq_iff_eq,beq_iff_eq] at e;exact absurd (Prod.ext e.2 e.1) (c.agf h)
theorem GA {c:cZ}{o p:Nat}(σ:ak)(s s':Nat)(x:iN)(h:p≠o):(σ.setObj (c.lc o) s' x).bQ (c.lc p) s=σ.bQ (c.lc p) s:=afN σ s s' x (aan c h)
theorem IW {c:cZ}{o p:Nat}(σ:ak)(s s':Nat)(x:iN)(h:p≠o):(σ.setObj (c.lc o) s' x).gB (c.lc p) s=σ.gB (c.lc p) s:=afO σ s s' x (aan c h)
theorem aI.ES {ρ':aV}{top:Nat->Nat}{o:Nat}(ho:∀p,p≠o->ρ'.ob p=ρ.ob p/\ρ'.ln p=ρ.ln p)(ht:ρ'.tk=ρ.tk)(hx:ρ'.aj=ρ.aj):∀{cs:List (au R.T)}{l:List V},aI R ρ top cs l->aI R ρ' top (ES o cs) l
 | [],_,h=>h|x::cs,_,h=>by
  obtain⟨v,ws,rfl,h1,h2⟩:=h.dS;refine .cons' ?_ (aI.ES ho ht hx h2);unfold Bp;cases hm:nE o x
  ·exact aB.kill o ho ht hx x v hm h1
  ·unfold aB;trivial
theorem agr {ρ':aV}{o p s':Nat}{a:iN}(hp:p≠o)(ho:∀p,p≠o->ρ'.ob p=ρ.ob p/\ρ'.ln p=ρ.ln p)(ht:ρ'.tk=ρ.tk)(hx:ρ'.aj=ρ.aj):∀{x:bA R.T},bA.nE o x=false->eZ ρ σ p x->eZ ρ' (σ.setObj (ρ.aj.lc o) s' a) p x
 |.cells cs,hm,h=>by obtain⟨s,l,h1,h2,h3⟩:=h;exact⟨s,l,((ho p hp).1.trans h1),Uh,aI.kill o ho ht hx _ _ hm h3⟩
 |.map k e m,_,h=>by obtain⟨s,h1,h2⟩:=h;exact⟨s,((ho p hp).1.trans h1),by rw[hx,IW _ _ _ _ hp];exact h2⟩
 |.smap ks vs,hm,h=>by obtain⟨s,k,l,h1,h2,h3,h4⟩:=h;have hm':(nO o ks||nO o vs)=false:=hm;rw[rR] at hm';exact⟨s,k,l,((ho p hp).1.trans h1),by rw[hx,IW _ _ _ _ hp];exact h2,aI.kill o ho ht hx _ _ hm'.1 h3,aI.kill o ho ht hx _ _ hm'.2 h4⟩
 |.arr t l,hm,h=>by
  refine⟨h.1.trans (ho p hp).2.symm,?_⟩;rcases h.2 with h| ⟨s,cs,h1,h2,h3⟩
  ·exact .inl ⟨h.1,(ho p hp).1.trans h.2⟩
  ·exact .inr ⟨s,cs,((ho p hp).1.trans h1),Uh,wY l cs h3⟩
 |.sg ss,_,h=>by obtain⟨s,h1,h2⟩:=h;exact⟨s,((ho p hp).1.trans h1),Uh⟩
 |.gone,_,_=>trivial|.ro b,hm,h=>agr hp ho ht hx (x:=b) hm h
theorem as6 {ρ':aV}{o p s':Nat}{a:iN}{x:bA R.T}(hp:p≠o)(ho:∀p,p≠o->ρ'.ob p=ρ.ob p/\ρ'.ln p=ρ.ln p)(ht:ρ'.tk=ρ.tk)(hx:ρ'.aj=ρ.aj)(h:eZ ρ σ p x):eZ ρ' (σ.setObj (ρ.aj.lc o) s' a) p (bA.kill o x):=by
 by_cases hc:∃cs,x= .cells cs
 ·obtain⟨cs,rfl⟩:=hc
  obtain⟨s,l,h1,h2,h3⟩:=h;exact⟨s,l,((ho p hp).1.trans h1),Uh,aI.ES ho ht hx h3⟩
 ·have e:bA.kill o x=bif bA.nE o x then .gone else x:=by cases x<;>first|rfl|exact absurd ⟨_,rfl⟩ hc
  rw[e];cases hm:bA.nE o x
  ·exact agr hp ho ht hx hm h
  ·trivial
theorem ags {o p s:Nat}{a:iN}(hp:p≠o):∀{x:bA R.T},eZ ρ σ p x->eZ ρ (σ.setObj (ρ.aj.lc o) s a) p x
 |.cells cs,h=>by obtain⟨s,l,h1,h2,h3⟩:=h;exact⟨s,l,h1,by rw[GA _ _ _ _ hp];exact h2,h3⟩
 |.map k e m,h=>by obtain⟨s,h1,h2⟩:=h;exact⟨s,h1,by rw[IW _ _ _ _ hp];exact h2⟩
 |.smap ks vs,h=>by obtain⟨s,k,l,h1,h2,h3⟩:=h;exact⟨s,k,l,h1,by rw[IW _ _ _ _ hp];exact h2,h3⟩
 |.arr t l,h=>by
  refine⟨h.1,?_⟩;rcases h.2 with h| ⟨s,cs,h1,h2,h3⟩
  ·exact .inl h
  ·exact .inr ⟨s,cs,h1,by rw[GA _ _ _ _ hp];exact h2,h3⟩
 |.sg ss,h=>by obtain⟨s,h1,h2⟩:=h;exact⟨s,h1,by rw[GA _ _ _ _ hp];exact h2⟩
 |.gone,_=>trivial|.ro b,h=>ags hp (x:=b) h
theorem agt {o t s n:Nat}(key:∀u s',u≠t->ρ.tk u=some s'->(ρ.jM t s).tk u=some s'/\(σ.dR s n).top s'=σ.top s'):∀{x:bA R.T},eZ ρ σ o x->eZ (ρ.jM t s) (σ.dR s n) o (bA.wk t x)
 |.cells cs,h=>by obtain⟨s',l,h1,h2,h3⟩:=h;exact⟨s',l,h1,h2,aI.wk (ρ:=ρ) (ρ':=ρ.jM t s) (top:=σ.top) (top':=(σ.dR s n).top) t ⟨rfl,rfl,rfl⟩ key _ _ h3⟩
 |.map k e m,h=>h|.smap ks vs,h=>by obtain⟨s',k,l,h1,h2,h3,h4⟩:=h;exact⟨s',k,l,h1,h2,aI.wk (ρ:=ρ) (ρ':=ρ.jM t s) (top:=σ.top) (top':=(σ.dR s n).top) t ⟨rfl,rfl,rfl⟩ key _ _ h3,aI.wk (ρ:=ρ) (ρ':=ρ.jM t s) (top:=σ.top) (top':=(σ.dR s n).top) t ⟨rfl,rfl,rfl⟩ key _ _ h4⟩
 |.arr ty l,h=>by
  refine⟨h.1,?_⟩;rcases h.2 with h| ⟨s,cs,h1,h2,h3⟩
  ·exact .inl h
  ·exact .inr ⟨s,cs,h1,h2,wY l cs h3⟩
 |.sg ss,h=>h|.gone,_=>trivial|.ro b,h=>agt key (x:=b) h
theorem IX {o s:Nat}:∀p,p≠o->(ρ.mI o s).ob p=ρ.ob p/\(ρ.mI o s).ln p=ρ.ln p:=fun p h=>⟨by simp[aV.mI,upd,h],rfl⟩
def aV.Fu (ρ:aV)(o n:Nat):aV:={ρ with ln:=upd ρ.ln o n}
theorem agu {o n:Nat}:∀p,p≠o->(ρ.Fu o n).ob p=ρ.ob p/\(ρ.Fu o n).ln p=ρ.ln p:=fun p h=>⟨rfl,by simp[aV.Fu,upd,h]⟩
def aV.gh (ρ:aV)(o:Nat):aV:={ρ.Fu o 0 with ob:=upd ρ.ob o none}
theorem p9 {o:Nat}:∀p,p≠o->(ρ.gh o).ob p=ρ.ob p/\(ρ.gh o).ln p=ρ.ln p:=fun p h=>⟨by simp[aV.gh,upd,h],(agu (ρ:=ρ) (n:=0) p h).2⟩
theorem wZ {o n:Nat}:(ρ.Fu o n).ln o=n:=by simp[aV.Fu,upd]
def aV.yG (ρ:aV)(o s n:Nat):aV:=(ρ.mI o s).Fu o n
theorem aao {o s n:Nat}:∀p,p≠o->(ρ.yG o s n).ob p=ρ.ob p/\(ρ.yG o s n).ln p=ρ.ln p:=fun p h=>⟨(IX p h).1,(agu p h).2⟩
theorem vY {o s:Nat}:(ρ.mI o s).ob o=some s:=by simp[aV.mI,upd]
theorem aO.new' {ρ':aV}(h:aO ρ b st fr σ)(o s:Nat){x:bA R.T}{a:iN}(IX:∀p,p≠o->ρ'.ob p=ρ.ob p/\ρ'.ln p=ρ.ln p)(ht:ρ'.tk=ρ.tk)(bO:ρ'.aj=ρ.aj)(hx:eZ ρ' (σ.setObj (ρ.aj.lc o) s a) o x):aO ρ' b (st.new o x) fr (σ.setObj (ρ.aj.lc o) s a) where
 d:=by rw[bO];exact h.d
 aj:=by rw[bO];exact h.aj
 fr:=fun j y hy=>by have hy':look (l7 (Bp o) st.fr) j=some y:=hy;rw[um,bf] at hy';obtain⟨z,hz,rfl⟩:=hy';exact agq IX ht bO (h.fr j z hz)
 ob:=fun p y hy=>by
  by_cases e:p=o
  ·subst e
   have hy':some x=some y:=MR
   cases hy';exact hx
  ·have hy':look (l7 (bA.kill o) (jE o st.ob)) p=some y:=MS
   rw[um,qG e,bf] at hy';obtain⟨z,hz,rfl⟩:=hy';exact as6 e IX ht bO (h.ob p z hz)
 inj:=by rw[ht];exact h.inj
 lt:=by rw[ht];exact h.lt
 ge:=by rw[ht,bO];exact h.ge
 nx:=by rw[bO];exact h.nx
theorem aO.new (h:aO ρ b st fr σ)(o s:Nat){x:bA R.T}{a:iN}(hx:eZ (ρ.mI o s) (σ.setObj (ρ.aj.lc o) s a) o x):aO (ρ.mI o s) b (st.new o x) fr (σ.setObj (ρ.aj.lc o) s a):=h.new' o s IX rfl rfl hx
theorem aO.Fv (h:aO ρ b st fr σ)(o s n:Nat){x:bA R.T}{a:iN}(hx:eZ (ρ.yG o s n) (σ.setObj (ρ.aj.lc o) s a) o x):aO (ρ.yG o s n) b (st.new o x) fr (σ.setObj (ρ.aj.lc o) s a):=h.new' o s aao rfl rfl hx
theorem agv {ρ':aV}{o p:Nat}(hp:p≠o)(ho:∀p,p≠o->ρ'.ob p=ρ.ob p/\ρ'.ln p=ρ.ln p)(ht:ρ'.tk=ρ.tk)(hx:ρ'.aj=ρ.aj):∀{x:bA R.T},bA.nE o x=false->eZ ρ σ p x->eZ ρ' σ p x
 |.cells cs,hm,h=>by obtain⟨s,l,h1,h2,h3⟩:=h;exact⟨s,l,((ho p hp).1.trans h1),MP,aI.kill o ho ht hx _ _ hm h3⟩
 |.map k e m,_,h=>by obtain⟨s,h1,h2⟩:=h;exact⟨s,((ho p hp).1.trans h1),MP⟩
 |.smap ks vs,hm,h=>by obtain⟨s,k,l,h1,h2,h3,h4⟩:=h;have hm':(nO o ks||nO o vs)=false:=hm;rw[rR] at hm';exact⟨s,k,l,((ho p hp).1.trans h1),MP,aI.kill o ho ht hx _ _ hm'.1 h3,aI.kill o ho ht hx _ _ hm'.2 h4⟩
 |.arr t l,hm,h=>by
  refine⟨h.1.trans (ho p hp).2.symm,?_⟩;rcases h.2 with h| ⟨s,cs,h1,h2,h3⟩
  ·exact .inl ⟨h.1,(ho p hp).1.trans h.2⟩
  ·exact .inr ⟨s,cs,((ho p hp).1.trans h1),MP,wY l cs h3⟩
 |.sg ss,_,h=>by obtain⟨s,h1,h2⟩:=h;exact⟨s,((ho p hp).1.trans h1),MP⟩
 |.gone,_,_=>trivial|.ro b,hm,h=>agv hp ho ht hx (x:=b) hm h
theorem aO.ghost (h:aO ρ b st fr σ)(o:Nat)(t:Ty):aO (ρ.gh o) b (st.new o (.arr t [])) fr σ where
 d:=h.d
 aj:=h.aj
 fr:=fun j y hy=>by have hy':look (l7 (Bp o) st.fr) j=some y:=hy;rw[um,bf] at hy';obtain⟨z,hz,rfl⟩:=hy';exact agq p9 rfl rfl (h.fr j z hz)
 ob:=fun p y hy=>by
  by_cases e:p=o
  ·subst e
   have hy':some (bA.arr t ([]:List (Den R.T t)))=some y:=MR
   cases hy';exact⟨(wZ (ρ:=ρ) (n:=0)).symm,.inl ⟨rfl,by simp[aV.gh,upd]⟩⟩
  ·have hy':look (l7 (bA.kill o) (jE o st.ob)) p=some y:=MS
   rw[um,qG e,bf] at hy';obtain⟨z,hz,rfl⟩:=hy';by_cases hc:∃cs,z= .cells cs
   ·obtain⟨cs,rfl⟩:=hc
    obtain⟨s,l,h1,h2,h3⟩:=h.ob p _ hz;exact⟨s,l,((p9 (ρ:=ρ) p e).1.trans h1),h2,aI.ES p9 rfl rfl h3⟩
   ·have e2:bA.kill o z=bif bA.nE o z then .gone else z:=by cases z<;>first|rfl|exact absurd ⟨_,rfl⟩ hc
    rw[e2];cases hm:bA.nE o z
    ·exact agv e p9 rfl rfl hm (h.ob p z hz)
    ·trivial
 inj:=h.inj
 lt:=h.lt
 ge:=h.ge
 nx:=h.nx
theorem agw {c:cZ}{o p:Nat}(σ:ak)(h:p≠o):(σ.eu (c.lc o)).obj (c.lc p)=σ.obj (c.lc p):=by unfold ak.eu upd;dsimp only;rw[if_neg (c.agf h)]
theorem agx {σ':ak}{p:Nat}(hp:σ'.obj (ρ.aj.lc p)=σ.obj (ρ.aj.lc p))(ht:σ'.top=σ.top):∀{x:bA R.T},eZ ρ σ p x->eZ ρ σ' p x
 |.cells cs,h=>by obtain⟨s,l,h1,h2,h3⟩:=h;exact⟨s,l,h1,Gx,by rw[ht];exact h3⟩
 |.map k e m,h=>by obtain⟨s,h1,h2⟩:=h;exact⟨s,h1,Ua⟩
 |.smap ks vs,h=>by obtain⟨s,k,l,h1,h2,h3,h4⟩:=h;exact⟨s,k,l,h1,Ua,by rw[ht];exact h3,by rw[ht];exact h4⟩
 |.arr t l,h=>by
  refine⟨h.1,?_⟩;rcases h.2 with h| ⟨s,cs,h1,h2,h3⟩
  ·exact .inl h
  ·exact .inr ⟨s,cs,h1,Gx,wY l cs h3⟩
 |.sg ss,h=>by obtain⟨s,h1,h2⟩:=h;exact⟨s,h1,Gx⟩
 |.gone,_=>trivial|.ro b,h=>agx hp ht (x:=b) h
theorem aO.del (h:aO ρ b st fr σ)(o:Nat):aO ρ b (st.del o) fr (σ.eu (ρ.aj.lc o)) where
 d:=h.d
 aj:=h.aj
 fr:=h.fr
 ob:=fun p y hy=>by
  by_cases e:p=o
  ·subst e
   have:look (jE p st.ob) p=some y:=hy;have key:∀l:List (Nat×bA R.T),look (jE p l) p=none:=by
    intro l;induction l with
    |nil=>rfl|cons q l ih=>
     obtain⟨j,x⟩:=q;unfold jE;cases hj:Nat.beq j p
     ·show (bif Nat.beq j p then some x else look (jE p l) p)=none
      rw[hj];exact ih
     ·exact ih
   rw[key] at this;cases this
  ·have hy':look (jE o st.ob) p=some y:=hy
   rw[qG e] at hy';exact agx (agw σ e) rfl (h.ob p y hy')
 inj:=h.inj
 lt:=h.lt
 ge:=h.ge
 nx:=h.nx
theorem aO.set (h:aO ρ b st fr σ)(o s:Nat){x:bA R.T}{a:iN}(hx:eZ ρ (σ.setObj (ρ.aj.lc o) s a) o x):aO ρ b (st.set o x) fr (σ.setObj (ρ.aj.lc o) s a) where
 d:=h.d
 aj:=h.aj
 fr:=h.fr
 ob:=fun p y hy=>by
  by_cases e:p=o
  ·subst e
   have hy':some x=some y:=MR
   cases hy';exact hx
  ·have hy':look (jE o st.ob) p=some y:=MS
   rw[qG e] at hy';exact ags e (h.ob p y hy')
 inj:=h.inj
 lt:=h.lt
 ge:=h.ge
 nx:=h.nx
theorem aO.wk (h:aO ρ b st fr σ)(t s n:Nat){b':Nat}(hb:b<=b')(hs:s<b')(hl:ρ.aj.lo<=s)(hf:∀u,u≠t->ρ.tk u≠some s):aO (ρ.jM t s) b' (st.wk t) fr (σ.dR s n) where
 d:=h.d
 aj:=h.aj
 fr:=fun j y hy=>by
  have hy':look (l7 (aR.wk t) st.fr) j=some y:=hy;rw[um,bf] at hy';obtain⟨z,hz,rfl⟩:=hy';have hz':=h.fr j z hz;have key:∀u s',u≠t->ρ.tk u=some s'->(ρ.jM t s).tk u=some s'/\(σ.dR s n).top s'=σ.top s':=fun u s' hu hs'=>
   ⟨by simp[aV.jM,upd,hu,hs'],Vb _ _ fun e=>hf u hu (by rw[hs',e])⟩
  cases z with
  |opt j' w y=>exact⟨fun hc=>aB.wk (ρ:=ρ) (ρ':=ρ.jM t s) (top:=σ.top) (top':=(σ.dR s n).top) t ⟨rfl,rfl,rfl⟩ key y _ (hz'.1 hc),hz'.2⟩
  |_=>exact jX.of (aB.wk (ρ:=ρ) (ρ':=ρ.jM t s) (top:=σ.top) (top':=(σ.dR s n).top) t ⟨rfl,rfl,rfl⟩ key _ _ hz')
 ob:=fun p y hy=>by
  have hy':look (l7 (bA.wk t) st.ob) p=some y:=hy;rw[um,bf] at hy';obtain⟨z,hz,rfl⟩:=hy';have hz':=h.ob p z hz;have key:∀u s',u≠t->ρ.tk u=some s'->(ρ.jM t s).tk u=some s'/\(σ.dR s n).top s'=σ.top s':=fun u s' hu hs'=>
   ⟨by simp[aV.jM,upd,hu,hs'],Vb _ _ fun e=>hf u hu (by rw[hs',e])⟩
  exact agt key hz'
 inj:=fun u v s' hu hv=>by
  by_cases e1:u=t<;>by_cases e2:v=t
  ·rw[e1,e2]
  ·simp[aV.jM,upd,e1] at hu;simp[aV.jM,upd,e2] at hv;exact absurd (hu▸hv) (hf v e2)
  ·simp[aV.jM,upd,e1] at hu;simp[aV.jM,upd,e2] at hv;exact absurd (hv▸hu) (hf u e1)
  ·simp[aV.jM,upd,e1] at hu;simp[aV.jM,upd,e2] at hv;exact h.inj u v s' hu hv
 lt:=fun u s' hu=>by
  by_cases e1:u=t
  ·simp[aV.jM,upd,e1] at hu;omega
  ·simp[aV.jM,upd,e1] at hu;exact gM (h.lt u s' hu) hb
 ge:=fun u s' hu=>by
  by_cases e1:u=t
  ·simp[aV.jM,upd,e1] at hu;rw[<-hu];exact hl
  ·simp[aV.jM,upd,e1] at hu;exact h.ge u s' hu
 nx:=dJ h.nx hb
theorem agy {top:Nat->Nat}{x:au R.T}{v:Value}(h:ET v=some x):∃y,kL v=some y/\aB R ρ top x y:=by unfold ET at h;split at h<;>cases h<;>exact⟨_,rfl,iY⟩
theorem agz {top:Nat->Nat}:∀{vs:List Value}{l:List (au R.T)},Ie vs=some l->∃y,vs.mapM kL=some y/\aI R ρ top l y
 | [],l,h=>by cases h;exact⟨[],rfl,rfl⟩|v::vs,l,h=>by
  unfold Ie at h;cases h1:(ET v:Option (au R.T)) with
  |none=>simp only[h1] at h;cases h|some a=>
   cases h2:(Ie vs:Option (List (au R.T))) with
   |none=>simp only[h1,h2] at h;cases h|some dz=>simp only[h1,h2] at h;cases h;obtain⟨y,hy,hr⟩:=agy (ρ:=ρ) (top:=top) h1;obtain⟨ys,hys,hrs⟩:=agz h2;exact⟨y::ys,by simp[hy,hys],.cons' hr hrs⟩
theorem agA {top:Nat->Nat}{x:au R.T}{v:Value}(h:Ig v=some x):∃y,ofValue v=some y/\aB R ρ top x y:=by
 unfold Ig at h;split at h
 ·rename_i cs
  cases h2:(Ie cs.toList:Option (List (au R.T))) with
  |none=>simp only[h2] at h;cases h|some l=>simp only[h2] at h;cases h;obtain⟨ys,hys,hrs⟩:=agz (ρ:=ρ) (top:=top) h2;exact⟨.agg ys,by simp[ofValue,hys],by unfold aB;exact⟨_,rfl,hrs⟩⟩
 ·obtain⟨y,hy,hr⟩:=agy (ρ:=ρ) (top:=top) h
  refine⟨y,?_,hr⟩;unfold ET at h;split at h<;>first|exact hy|cases h
def sH (fr:Fr)(g:List (Nat×Bool)):Prop:=∀j u,look g j=some u->fr.tm j= .bool u
theorem sH.nil:sH fr []:=fun _ _ h=>bL
theorem sH.cons {g:List (Nat×Bool)}{j:Nat}{u:Bool}(h:fr.tm j= .bool u)(hg:sH fr g):sH fr ((j,u)::g):=fun i v hi=>by
 by_cases e:i=j
 ·subst e;rw[kZ] at hi;cases hi;exact h
 ·rw[jh _ _ e] at hi;exact hg i v hi
theorem as7 {fr:Fr}{top:Nat->Nat}{g:List (Nat×Bool)}(hg:sH fr g){y x:au R.T}{v:V}(hy:jX fr ρ top y v)(he:Vj g y=some x):aB R ρ top x v:=by
 cases y with
 |opt j w z=>
  unfold Vj at he;dsimp only at he;split at he
  ·rename_i u hu
   cases he;have:=hg j u hu;by_cases e:u=w
   ·subst e;rw[beq_self_eq_true];exact hy.1 this
   ·rw[show (u==w)=false by simpa using e]
    have e':u= !w:=(by cases u<;>cases w<;>first|rfl|exact absurd rfl e);unfold aB;exact hy.2 (.inl (by rw[this,e']))
  ·cases he
 |_=>cases he;exact hy
theorem dw (h:aO ρ b st fr σ){g:List (Nat×Bool)}(hg:sH fr g){o:Operand}{x:au R.T}(he:dF g st o=some x):aB R ρ σ.top x (fr.ev E o):=by
 cases o with
 |tmp t=>
  rw[Od];unfold dF at he;dsimp only at he;split at he
  ·rename_i v hv;exact as7 hg (h.fr _ _ hv) he
  ·cases he
 |const v=>rw[afK];obtain⟨y,hy,hr⟩:=agA (ρ:=ρ) (top:=σ.top) (show Ig v=some x from he);rw[hy];exact hr
 |func f=>cases he;rw[afL];unfold aB;exact⟨[],[],rfl,rfl,rfl⟩|global i=>cases he
theorem BD (h:aO ρ b st fr σ){g:List (Nat×Bool)}(hg:sH fr g):∀{l:List Operand}{xs:List (au R.T)},mZ g st l=some xs->aI R ρ σ.top xs (l.map (fr.ev E))
 | [],xs,he=>by cases he;rfl|o::l,xs,he=>by
  unfold mZ at he;cases h1:dF g st o with
  |none=>simp only[h1] at he;cases he|some a=>
   cases h2:mZ g st l with
   |none=>simp only[h1,h2] at he;cases he|some dz=>simp only[h1,h2] at he;cases he;exact .cons' (dw h hg h1) (BD h hg h2)
theorem aap (h:aO ρ b st fr σ){g:List (Nat×Bool)}(hg:sH fr g):∀{l:List (Nat×Operand)}{xs:List (Nat×au R.T)},Ih g st l=some xs->xs.map (·.1)=l.map (·.1)/\aI R ρ σ.top (xs.map (·.2)) (l.map fun p=>fr.ev E p.2)
 | [],xs,he=>by cases he;exact⟨rfl,rfl⟩| (i,o)::l,xs,he=>by
   unfold Ih at he;cases h1:dF g st o with
   |none=>simp only[h1] at he;cases he|some a=>
    cases h2:Ih g st l with
    |none=>simp only[h1,h2] at he;cases he|some dz=>simp only[h1,h2] at he;cases he;obtain⟨e1,e2⟩:=aap h hg h2;exact⟨by simp[e1],.cons' (dw h hg h1) e2⟩
end
theorem as8 {n m:Nat}{v:Vec n}{w:Vec m}(h:Vf v=some w):n=m/\HEq v w:=by
 unfold Vf at h;split at h
 ·rename_i e;subst e;cases h;exact⟨rfl,HEq.rfl⟩
 ·cases h
theorem agB:∀{k:wP}{s:nM}{x:H8 k},H9 k s=some x->Oj k x=s
 |.i k,.i k' y,x,h=>by
  have h':(if k'=k then some y else none)=some (x:Int):=h;by_cases e:k'=k
  ·subst e;rw[if_pos rfl] at h';cases h';rfl
  ·rw[if_neg e] at h';cases h'
 |.a k n,.a k' n' v,x,h=>by
  have h':(if k'=k then Vf (m:=n) v else none)=some (x:Vec n):=h;by_cases e:k'=k
  ·subst e;rw[if_pos rfl] at h'
   obtain⟨e1,e2⟩:=as8 h';subst e1;cases e2;rfl
  ·rw[if_neg e] at h';cases h'
 |.i k,.a _ _ _,x,h=>bL|.a k n,.i _ _,x,h=>bL
theorem VY:∀{l:List wP}{ss:List nM}{x:EN l},Bn l ss=some x->yw l x=ss
 | [],ss,x,h=>by
   cases ss with
   |nil=>rfl|cons s ss=>cases h
 | [k],ss,x,h=>by
   cases ss with
   |nil=>cases h|cons s ss=>
    cases ss with
    |nil=>show [Oj k x]=[s];rw[agB (show H9 k s=some x from h)]|cons s' ss=>cases h
 |k::k'::l,ss,x,h=>by
  cases ss with
  |nil=>cases h|cons s ss=>
   have h':(match H9 k s with
    |some x=>match Bn (k'::l) ss with
     |some p=>some (x,p)|none=>none
    |none=>none)=some x:=h
   cases hu:H9 k s with
   |none=>simp only[hu] at h';cases h'|some y=>
    cases hs:Bn (k'::l) ss with
    |none=>simp only[hu,hs] at h';cases h'|some q=>simp only[hu,hs] at h';obtain rfl:=jP h';show Oj k y::yw (k'::l) q=s::ss;rw[agB hu,VY hs]
section
variable {R:iI}(hR:qE R)
variable {ρ:aV}{top:Nat->Nat}{b:Nat}{st:aH R.T}{fr:Fr}{σ:ak}
include hR
theorem Fw {t:Ty}{x:Den R.T t}{tv:au R.T}{v:V}(h:tY R t tv=some x)(hr:aB R ρ top tv v):aB R ρ top (Bo R .any t x) v:=by
 cases t with
 |int k=>rw[aah h hr];unfold aB;rfl|bool=>rw[aai h hr];unfold aB;rfl|str=>rw[aaj h hr];unfold aB;rfl|slice t=>obtain⟨c,hv⟩:=agm h hr;rw[hv];unfold aB;exact⟨c,rfl,trivial⟩
 |st n=>cases h
theorem agC:∀(l:List Ty)(p:pV R.T l)(cs:List (au R.T))(vs:List V),Dk R l cs=some p->aI R ρ top cs vs->aI R ρ top (fJ R .any l p) vs
 | [],p,cs,vs,h,hr=>by
   cases cs with
   |nil=>rw[hr.iq];rfl|cons c cs=>cases h
 | [t],p,cs,vs,h,hr=>by
   have h':tY R t (hd1 R cs)=some p:=h;cases cs with
   |nil=>cases t<;>cases h'|cons c cs=>
    cases cs with
    |nil=>obtain⟨v,l,rfl,h1,h2⟩:=hr.dS;rw[h2.iq];exact .cons' (Fw hR h' h1) rfl
    |cons c' cs=>cases t<;>cases h'
 |t::u::l,p,cs,vs,h,hr=>by
  cases cs with
  |nil=>cases h|cons c cs=>
   obtain⟨v,vs,rfl,h1,h2⟩:=hr.dS;unfold Dk at h;cases hu:tY R t c with
   |none=>simp only[hu] at h;cases h|some y=>
    cases hs:Dk R (u::l) cs with
    |none=>simp only[hu,hs] at h;cases h|some q=>simp only[hu,hs] at h;obtain rfl:=jP h;exact .cons' (Fw hR hu h1) (agC (u::l) q cs vs hs h2)
theorem OI {t:Ty}{x:Den R.T t}{tv:au R.T}{v:V}(h:tZ R t tv=some x)(hr:aB R ρ top tv v):aB R ρ top (iJ R .any t x) v:=by
 cases t with
 |st n=>
  change ER R n tv=some x at h;unfold ER at h;split at h
  ·rename_i cs
   split at h
   ·rename_i p hp
    obtain rfl:=jP h;obtain⟨l,hv,hl⟩:=hr.mH;subst hv;show aB R ρ top (.agg (fJ R .any (R.lf n) (R.of n (R.to n p)))) _;rw[hR.OH];unfold aB;exact⟨l,rfl,agC hR _ _ _ _ hp hl⟩
   ·cases h
  ·cases h
 |int k=>exact Fw hR (t:=.int k) h hr|bool=>exact Fw hR (t:=.bool) h hr|str=>exact Fw hR (t:=.str) h hr|slice t=>exact Fw hR (t:=.slice t) h hr
omit hR in
theorem agD {sz n:Nat}{c c':Cp}{x:Cap}(h:Ii c c'=true)(hx:IL ρ top sz n c x):IL ρ top sz n c' x:=by
 cases c<;>cases c'<;>simp only[Ii,dL] at h<;>first|trivial|exact hx|exact .inl hx|exact .inr (.inl hx)| (rw[<-iK h];exact hx)
omit hR in
theorem aaq {k e k' e':Ty}{m:List (Den R.T k'×Den R.T e')}{x:List (Den R.T k×Den R.T e)}(h:Ij R m=some x):k'=k/\e'=e/\HEq m x:=by
 unfold Ij at h;split at h
 ·rename_i e;obtain⟨rfl,rfl⟩:=e;cases h;exact⟨rfl,rfl,HEq.rfl⟩
 ·cases h
omit hR in
theorem agE {c:Cp}{t:Ty}{x:List (Den R.T t)}{tv:au R.T}{v:V}(h:Vl R c t tv=some x)(hr:aB R ρ top tv v):aB R ρ top (.ay c t x) v:=by
 unfold Vl at h;split at h
 ·rename_i c' t' l
  cases hc:Ii c' c
  ·rw[hc] at h;cases h
  ·rw[hc,cond_true] at h
   obtain⟨e,e2⟩:=vB h;subst e;cases e2;obtain⟨c'',hv,hcc⟩:=hr.lU;unfold aB;exact⟨c'',hv,agD hc hcc⟩
 ·cases hc:Ii .nil c
  ·rw[hc] at h;cases h
  ·rw[hc,cond_true] at h;cases h
   unfold aB;exact⟨.nil,hr.p8,agD hc rfl⟩
 ·cases h
mutual
theorem OJ:∀(k:aC)(x:qA R.T k)(tv:au R.T)(v:V),pk R k tv=some x->aB R ρ top tv v->aB R ρ top (up R .any k x) v
 |.d t,x,tv,v,h,hr=>OI hR (by unfold pk at h;exact h) hr|.l c t,x,tv,v,h,hr=>agE (by unfold pk at h;exact h) hr|.agg l,x,tv,v,h,hr=>by
  cases tv<;>first| (exact absurd (show none=some x from h) aD)|skip
  rename_i cs;obtain⟨vs,rfl,hl⟩:=hr.mH;show aB R ρ top (.agg (eF R .any l x)) _;unfold aB;exact⟨vs,rfl,Aa l x cs vs h hl⟩
 |.ref o off,x,tv,v,h,hr=>by
  cases tv<;>first| (exact absurd (show none=some x from h) aD)|skip
  rename_i p off';have h':(bif Nat.beq p o&& Nat.beq off' off then some () else none)=some x:=h;cases hb:(Nat.beq p o&& Nat.beq off' off)
  ·rw[hb] at h';cases h'
  ·rw[aT] at hb
   rw[iK hb.1,iK hb.2] at hr;exact hr
 |.aY l off,x,tv,v,h,hr=>by
  cases tv<;>first| (exact absurd (show none=some x from h) aD)|skip
  rename_i cs off';have h':(bif Nat.beq off' off then dQ R l cs else none)=some x:=h;cases hb:Nat.beq off' off
  ·rw[hb] at h';cases h'
  ·rw[hb,cond_true] at h'
   rw[iK hb] at hr;obtain⟨vs,rfl,hl⟩:=hr.vw;show aB R ρ top (.aY (eF R .any l x) off) _;unfold aB;exact⟨vs,rfl,Aa l x _ vs h' hl⟩
 |.cu o,x,tv,v,h,hr=>by
  cases tv<;>first| (exact absurd (show none=some x from h) aD)|skip
  rename_i p;have h':(bif Nat.beq p o then some () else none)=some x:=h;cases hb:Nat.beq p o
  ·rw[hb] at h';cases h'
  ·rw[iK hb] at hr
   exact hr
 |.dV k e,x,tv,v,h,hr=>by
  cases tv<;>first| (exact absurd (show none=some x from h) aD)|skip
  rename_i k' e' m;obtain⟨e1,e2,e3⟩:=aaq (show Ij R m=some x from h);subst e1;subst e2;cases e3;exact hr
 |.fn f a b,x,tv,v,h,hr=>by
  cases tv<;>first| (exact absurd (show none=some x from h) aD)|skip
  rename_i f' a' b';have h':(bif Nat.beq f' f then (match dQ R a a' with
   |some x=>match dQ R b b' with
    |some y=>some (x,y)|none=>none
   |none=>none) else none)=some x:=h
  cases hb:Nat.beq f' f
  ·rw[hb] at h';cases h'
  ·rw[hb,cond_true] at h'
   rw[iK hb] at hr;obtain⟨va,vb,rfl,ha,hbb⟩:=hr.lG;cases h1:dQ R a a' with
   |none=>simp only[h1] at h';cases h'|some y=>
    cases h2:dQ R b b' with
    |none=>simp only[h1,h2] at h';cases h'|some z=>simp only[h1,h2] at h';cases h';show aB R ρ top (.fn f (eF R .any a y) (eF R .any b z)) _;unfold aB;exact⟨va,vb,rfl,Aa a y _ va h1 ha,Aa b z _ vb h2 hbb⟩
 |.fF,x,tv,v,h,hr=>by
  cases tv<;>first| (exact absurd (show none=some x from h) aD)|skip
  exact hr
 |.aM o t,x,tv,v,h,hr=>by
  cases tv<;>first| (exact absurd (show none=some x from h) aD)|skip
  rename_i p t';have h':(bif Nat.beq p o then (if t'=t then some () else none) else none)=some x:=h;cases hb:Nat.beq p o
  ·rw[hb] at h';cases h'
  ·rw[hb,cond_true] at h'
   split at h'
   ·rename_i e
    rw[iK hb,e] at hr;exact hr
   ·cases h'
 |.sub o t,x,tv,v,h,hr=>by
  cases tv<;>first| (exact absurd (show none=some x from h) aD)|skip
  rename_i p t' a b;have h':(bif Nat.beq p o then (if t'=t then some (a,b) else none) else none)=some x:=h;cases hb:Nat.beq p o
  ·rw[hb] at h';cases h'
  ·rw[hb,cond_true] at h'
   split at h'
   ·rename_i e
    cases h';rw[iK hb,e] at hr;exact hr
   ·cases h'
 |.sg l,x,tv,v,h,hr=>by
  cases tv<;>first| (exact absurd (show none=some x from h) aD)|skip
  rename_i ss;show aB R ρ top (.sg (yw l x)) v;rw[VY (show Bn l ss=some x from h)];exact hr
 |.undef,x,tv,v,h,hr=>by
  cases tv<;>first| (exact absurd (show none=some x from h) aD)|skip
  exact hr
theorem Aa:∀(l:List aC)(x:av R.T l)(cs:List (au R.T))(vs:List V),dQ R l cs=some x->aI R ρ top cs vs->aI R ρ top (eF R .any l x) vs
 | [],x,cs,vs,h,hr=>by
   cases cs with
   |nil=>rw[hr.iq];rfl|cons c cs=>exact absurd (show none=some x from h) aD
 | [k],x,cs,vs,h,hr=>by
   cases cs with
   |nil=>exact absurd (show none=some x from h) aD|cons c cs=>
    cases cs with
    |nil=>obtain⟨v,l,rfl,h1,h2⟩:=hr.dS;rw[h2.iq];show aI R ρ top [up R .any k x] _;exact .cons' (OJ k x _ v h h1) rfl
    |cons c' cs=>exact absurd (show none=some x from h) aD
 |k::k'::l,x,cs,vs,h,hr=>by
  cases cs with
  |nil=>exact absurd (show none=some x from h) aD|cons c cs=>
   have h':(match pk R k c with
    |some x=>match dQ R (k'::l) cs with
     |some p=>some (x,p)|none=>none
    |none=>none)=some x:=h
   obtain⟨v,vs,rfl,h1,h2⟩:=hr.dS;cases hu:pk R k c with
   |none=>simp only[hu] at h';cases h'|some y=>
    cases hs:dQ R (k'::l) cs with
    |none=>simp only[hu,hs] at h';cases h'|some q=>simp only[hu,hs] at h';obtain rfl:=jP h';show aI R ρ top (up R .any k y::eF R .any (k'::l) q) _;exact .cons' (OJ k y _ v hu h1) (Aa (k'::l) q _ vs hs h2)
end
omit hR in
theorem as9 {k:aC}{j:Nat}{w:Bool}{y:au R.T}{x:qA R.T k}(h:pk R k (.opt j w y)=some x):False:=by
 cases k with
 |d t=>cases t<;>(unfold pk at h;cases h)|_=>unfold pk at h;cases h
theorem jX.pk {k:aC}{x:qA R.T k}{tv:au R.T}{v:V}(h:pk R k tv=some x)(hr:jX fr ρ top tv v):aB R ρ top (up R .any k x) v:=by
 cases tv<;>first|exact OJ hR _ _ _ _ h hr|exact(as9 h).elim
theorem aar (h:aO ρ b st fr σ):∀(l:List (Nat×aC))(x:EO R.T l),uZ R st.fr l=some x->∀i v,look (Ot R l x) i=some v->aB R ρ σ.top v (fr.tm i)
 | [],x,hx,i,v,hv=>Et| [(j,k)],x,hx,i,v,hv=>by
   unfold uZ at hx;split at hx
   ·rename_i y hy
    by_cases e:i=j
    ·subst e
     have hv':look [(i,up R .any k x)] i=some v:=hv;rw[kZ] at hv';cases hv';exact jX.pk hR hx (h.fr _ _ hy)
    ·have hv':look [(j,up R .any k x)] i=some v:=hv
     rw[jh _ _ e] at hv';cases hv'
   ·cases hx
 | (j,k)::q::l,x,hx,i,v,hv=>by
   unfold uZ at hx;split at hx
   ·rename_i y hy
    cases hu:pk R k y with
    |none=>simp only[hu] at hx;cases hx|some z=>
     cases hs:uZ R st.fr (q::l) with
     |none=>simp only[hu,hs] at hx;cases hx|some p=>
      simp only[hu,hs] at hx;obtain rfl:=jP hx;have hv':look ((j,up R .any k z)::Ot R (q::l) p) i=some v:=hv;by_cases e:i=j
      ·subst e
       rw[kZ] at hv';cases hv';exact jX.pk hR hu (h.fr _ _ hy)
      ·rw[jh _ _ e] at hv'
       exact aar h (q::l) p hs i v hv'
   ·cases hx
theorem OL {o:Nat}{k:fA}{x:Dj R.T k}{y:bA R.T}(hx:Dn R k y=some x)(hy:eZ ρ σ o y):eZ ρ σ o (mG R k x):=by
 cases k with
 |cells l=>
  cases y with
  |cells cs=>obtain⟨s,vs,h1,h2,h3⟩:=hy;exact⟨s,vs,h1,h2,Aa hR l x _ vs hx h3⟩
  |map k e m=>cases hx|smap _ _=>cases hx|arr _ _=>cases hx|sg _=>cases hx|gone=>cases hx|ro b=>cases hx
 |st n=>
  cases y with
  |cells cs=>obtain⟨s,vs,h1,h2,h3⟩:=hy;obtain⟨l,e,hl⟩:=(OI hR (t:=.st n) (show tZ R (.st n) (.agg cs)=some x from hx) (v:=.agg vs) ⟨vs,rfl,h3⟩).mH;cases e;exact⟨s,vs,h1,h2,hl⟩
  |map k e m=>cases hx|smap _ _=>cases hx|arr _ _=>cases hx|sg _=>cases hx|gone=>cases hx|ro b=>cases hx
 |arr t=>
  cases y with
  |arr t' l=>obtain⟨e,e2⟩:=vB hx;subst e;cases e2;exact hy
  |cells cs=>cases hx|map _ _ _=>cases hx|smap _ _=>cases hx|sg _=>cases hx|gone=>cases hx|ro b=>cases hx
 |sg l=>
  cases y with
  |sg ss=>show eZ ρ σ o (.sg (yw l x));rw[VY (show Bn l ss=some x from hx)];exact hy|cells cs=>cases hx|map _ _ _=>cases hx|smap _ _=>cases hx|arr _ _=>cases hx|gone=>cases hx|ro b=>cases hx
 |map k e=>
  cases y with
  |map k' e' m=>obtain⟨e1,e2,e3⟩:=aaq hx;subst e1;subst e2;cases e3;exact hy
  |cells cs=>cases hx|smap _ _=>cases hx|arr _ _=>cases hx|sg _=>cases hx|gone=>cases hx|ro b=>cases hx
theorem agF (h:aO ρ b st fr σ):∀(l:List (Nat×fA))(x:eD R.T l),lF R st.ob l=some x->∀i v,look (iF R l x) i=some v->eZ ρ σ i v
 | [],x,hx,i,v,hv=>Et| [(j,k)],x,hx,i,v,hv=>by
   unfold lF at hx;split at hx
   ·rename_i y hy
    by_cases e:i=j
    ·subst e
     have hv':look [(i,mG R k x)] i=some v:=hv;rw[kZ] at hv';cases hv';exact OL hR hx (h.ob _ _ hy)
    ·have hv':look [(j,mG R k x)] i=some v:=hv
     rw[jh _ _ e] at hv';cases hv'
   ·cases hx
 | (j,k)::q::l,x,hx,i,v,hv=>by
   unfold lF at hx;split at hx
   ·rename_i y hy
    cases hu:Dn R k y with
    |none=>simp only[hu] at hx;cases hx|some z=>
     cases hs:lF R st.ob (q::l) with
     |none=>simp only[hu,hs] at hx;cases hx|some p=>
      simp only[hu,hs] at hx;obtain rfl:=jP hx;have hv':look ((j,mG R k z)::iF R (q::l) p) i=some v:=hv;by_cases e:i=j
      ·subst e
       rw[kZ] at hv';cases hv';exact OL hR hu (h.ob _ _ hy)
      ·rw[jh _ _ e] at hv'
       exact agF h (q::l) p hs i v hv'
   ·cases hx
theorem aO.pack (h:aO ρ b st fr σ){s:Shape}{p:qY R.T s}(hp:pack R st s=some p):aO ρ b (unpack R s p) fr σ:=by
 obtain⟨sl,ob⟩:=s;cases ob with
 |nil=>have hp':uZ R st.fr sl=some p:=hp;exact {h with fr:=fun i v hv=>.of (aar hR h sl p hp' i v hv),ob:=fun i v hv=>Et}
 |cons o os=>
  unfold aR.pack at hp;cases hu:uZ R st.fr sl with
  |none=>simp only[hu] at hp;cases hp|some x=>
   cases hs:lF R st.ob (o::os) with
   |none=>simp only[hu,hs] at hp;cases hp|some y=>simp only[hu,hs] at hp;obtain rfl:=jP hp;exact {h with fr:=fun i v hv=>.of (aar hR h sl x hu i v hv),ob:=fun i v hv=>agF hR h (o::os) y hs i v hv}
omit hR in
theorem agG {e x:Ex}(h:EW e x=true):e=x:=by
 cases e<;>cases x<;>simp only[EW,dL] at h<;>first|rfl|rw[iK h]
omit hR in
def jr (st:aH R.T)(o:Nat):Prop:=∀x,look st.ob o=some x->qZ x=true
omit hR in
theorem VZ {k:fA}{x:Dj R.T k}{y:bA R.T}(hx:Dn R k y=some x)(hy:qZ y=true):False:=by
 cases y with
 |cells _=>cases hy|map _ _ _=>cases hy|smap _ _=>cases hy|arr _ _=>cases hy|sg _=>cases hy|gone=>cases k<;>cases hx|ro b=>cases k<;>cases hx
omit hR in
theorem agH {i:Nat}(hr:jr st i):∀(l:List (Nat×fA))(x:eD R.T l),lF R st.ob l=some x->look (iF R l x) i=none
 | [],x,hx=>rfl| [(j,k)],x,hx=>by
   unfold lF at hx;split at hx
   ·rename_i y hy
    by_cases e:i=j
    ·subst e;exact(VZ hx (hr _ hy)).elim
    ·show look [(j,mG R k x)] i=none
     rw[jh _ _ e];rfl
   ·cases hx
 | (j,k)::q::l,x,hx=>by
   unfold lF at hx;split at hx
   ·rename_i y hy
    cases hu:Dn R k y with
    |none=>simp only[hu] at hx;cases hx|some z=>
     cases hs:lF R st.ob (q::l) with
     |none=>simp only[hu,hs] at hx;cases hx|some p=>
      simp only[hu,hs] at hx;obtain rfl:=jP hx;show look ((j,mG R k z)::iF R (q::l) p) i=none;by_cases e:i=j
      ·subst e;exact(VZ hu (hr _ hy)).elim
      ·rw[jh _ _ e];exact agH hr (q::l) p hs
   ·cases hx
omit hR in
theorem ata {s:Shape}{p:qY R.T s}{i:Nat}(hp:aR.pack R st s=some p)(hr:jr st i):look (unpack R s p).ob i=none:=by
 obtain⟨sl,ob⟩:=s;cases ob with
 |nil=>rfl|cons o os=>
  unfold aR.pack at hp;cases hu:uZ R st.fr sl with
  |none=>simp only[hu] at hp;cases hp|some x=>
   cases hs:lF R st.ob (o::os) with
   |none=>simp only[hu,hs] at hp;cases hp|some y=>simp only[hu,hs] at hp;obtain rfl:=jP hp;exact agH hr (o::os) y hs
omit hR
theorem yH {α:Type}:∀(l m:List (Nat×α))(i:Nat),look (l++m) i=match look l i with|some x=>some x|none=>look m i
 | [],m,i=>rfl| (j,x)::l,m,i=>by
   show (bif Nat.beq j i then some x else look (l++m) i)=match (bif Nat.beq j i then some x else look l i) with|some x=>some x|none=>look m i
   cases Nat.beq j i
   ·exact yH l m i
   ·rfl
theorem aO.over {st':aH R.T}(h:aO ρ b st fr σ)(h':aO ρ b st' fr σ):aO ρ b (st.over st') fr σ:={h with
 fr:=fun i v hv=>by
  have hv':look (st.fr++st'.fr) i=some v:=hv;rw[yH] at hv';split at hv'
  ·rename_i x hx;cases hv';exact h.fr _ _ hx
  ·exact h'.fr _ _ hv'
 ob:=fun i v hv=>by
  have hv':look (st.ob++st'.ob) i=some v:=hv;rw[yH] at hv';split at hv'
  ·rename_i x hx;cases hv';exact h.ob _ _ hx
  ·exact h'.ob _ _ hv'}
theorem BF {α:Type}{p:Nat->α->Bool}{f:α->α}{l:List (Nat×α)}:∀{is:List Nat}{i:Nat}{y:α},look (qB p f l is) i=some y->∃x,look l i=some x/\p i x=true/\y=f x
 | [],i,y,h=>bL|j::is,i,y,h=>by
  unfold qB at h;split at h
  ·rename_i x hx
   cases hp:p j x
   ·rw[hp] at h;exact BF h
   ·rw[hp,cond_true] at h
    by_cases e:i=j
    ·subst e;rw[kZ] at h;cases h;exact⟨x,hx,hp,rfl⟩
    ·rw[jh _ _ e] at h;exact BF h
  ·exact BF h
mutual
theorem aB.solid {ρ':aV}{top':Nat->Nat}{W:List Nat}(ho:∀o,bg o W=false->ρ'.ob o=ρ.ob o/\ρ'.ln o=ρ.ln o)(hx:ρ'.aj=ρ.aj):∀(x:au R.T)(v:V),aR.solid W x=true->aB R ρ top x v->aB R ρ' top' x v
 |.ay c t l,v,hs,h=>by obtain⟨c',hv,hc⟩:=h;refine⟨c',hv,?_⟩;cases c<;>first|exact hc| (simp[aR.solid] at hs;done)
 |.ref o off,v,hs,h=>ML
 |.cu o,v,hs,h=>ML
 |.aM o t,v,hs,h=>by
  unfold aR.solid at hs;obtain⟨k1,k2⟩:=ho o ad6;rcases h with ⟨s,h1,h2⟩| ⟨h1,h2⟩
  ·exact .inl ⟨s,by rw[k1];exact h1,by rw[k2,hx];exact h2⟩
  ·exact .inr ⟨by rw[k2];exact h1,h2⟩
 |.sub o t a b,v,hs,h=>by
  unfold aR.solid at hs;obtain⟨k1,k2⟩:=ho o ad6;obtain⟨g0,g1,g2,h⟩:=h;refine⟨g0,g1,by rw[k2];exact g2,?_⟩;rcases h with ⟨s,cp,h1,h2,h3⟩|h
  ·exact .inl ⟨s,cp,by rw[k1];exact h1,h2,by rw[hx];exact h3⟩
  ·exact .inr h
 |.lT o t i off,v,hs,h=>ML
 |.sv o _ _ _ _ _,v,hs,h=>ML
 |.sel o _ _ _ _ _,v,hs,h=>ML
 |.sg _,_,_,h=>h|.yx _ _ _ _,_,_,h=>h|.agg cs,v,hs,h=>by obtain⟨l,hv,hl⟩:=h;exact⟨l,hv,aI.solid ho hx cs l (by unfold aR.solid at hs;exact hs) hl⟩
 |.bB cs,v,hs,h=>by obtain⟨l,hv,hl⟩:=h;exact⟨l,hv,aI.solid ho hx cs l (by unfold aR.solid at hs;exact hs) hl⟩
 |.aY cs off,v,hs,h=>by obtain⟨l,hv,hl⟩:=h;exact⟨l,hv,aI.solid ho hx cs l (by unfold aR.solid at hs;exact hs) hl⟩
 |.fn f a b,v,hs,h=>by obtain⟨a',b',hv,ha,hb⟩:=h;unfold aR.solid at hs;rw[aT] at hs;exact⟨a',b',hv,aI.solid ho hx a a' hs.1 ha,aI.solid ho hx b b' hs.2 hb⟩
 |.opt _ _ _,_,_,h=>h.elim|.int _ _,_,_,h=>h|.bool _,_,_,h=>h|.jA _,_,_,h=>h|.str _,_,_,h=>h|.iC,_,_,h=>h|.gQ,_,_,h=>h|.gD,_,_,h=>h|.iH,_,_,h=>h|.fF,_,_,h=>h|.dV _ _ _,_,_,h=>h|.undef,_,_,h=>h|.gone,_,_,h=>trivial
theorem aI.solid {ρ':aV}{top':Nat->Nat}{W:List Nat}(ho:∀o,bg o W=false->ρ'.ob o=ρ.ob o/\ρ'.ln o=ρ.ln o)(hx:ρ'.aj=ρ.aj):∀(x:List (au R.T))(v:List V),uY W x=true->aI R ρ top x v->aI R ρ' top' x v
 | [],_,_,h=>h|x::xs,_,hs,⟨v,vs,e,h1,h2⟩=>by unfold uY at hs;rw[aT] at hs;exact⟨v,vs,e,aB.solid ho hx x v hs.1 h1,aI.solid ho hx xs vs hs.2 h2⟩
end
theorem atb {x:au R.T}{v:V}(h:jX fr ρ top x v):jX fr ρ top (ZH x) v:=by
 cases x with
 |ay c t l=>
  cases c with
  |own u=>obtain⟨c',hv,_⟩:=aB.lU (show aB R ρ top (.ay (.own u) t l) v from h);exact .of (x:=.ay .any t l) (by unfold aB;exact⟨c',hv,trivial⟩)
  |_=>exact h
 |_=>exact h
theorem atc {W:List Nat}{x:au R.T}{v:V}(hs:aR.solid W x=true)(h:jX fr ρ top x v):aB R ρ top x v:=by
 cases x<;>first|exact h| (simp[aR.solid] at hs;done)
structure bF (nr:Bool)(o:Nat)(st:aH R.T)(ρ:aV)(σ:ak)(st':aH R.T)(ρ':aV)(σ':ak):Prop where
 ob:ρ'.ob o=ρ.ob o
 ln:ρ'.ln o=ρ.ln o
 aj:ρ'.aj=ρ.aj
 nx:σ.next<=σ'.next
 lp:(∀l,l<σ.next->σ'.loops l=σ.loops l)/\∀s,s<ρ.aj.lo->σ'.top s=σ.top s
 dp:∀L,nr=true\/L.1<=ρ.aj.dp->ρ.aj.out L->σ'.obj L=σ.obj L
 ro:jr st o->jr st' o/\∀s,σ'.bQ (ρ.aj.lc o) s=σ.bQ (ρ.aj.lc o) s/\σ'.gB (ρ.aj.lc o) s=σ.gB (ρ.aj.lc o) s
structure Kp (nr:Bool)(W:List Nat)(st:aH R.T)(fr:Fr)(σ:ak)(ρ:aV)(st':aH R.T)(fr':Fr)(σ':ak)(ρ':aV):Prop where
 fr:∀i,bg i W=false->fr'.tm i=fr.tm i
 ob:∀o,bg o W=false->bF nr o st ρ σ st' ρ' σ'
section
variable {nr:Bool}
theorem aas {c:cZ}{o s:Nat}{x:iN}{L:Loc}(h:c.out L):(σ.setObj (c.lc o) s x).obj L=σ.obj L:=by unfold ak.setObj upd;dsimp only;rw[if_neg (h o)]
theorem atd {c:cZ}{o:Nat}{L:Loc}(h:c.out L):(σ.eu (c.lc o)).obj L=σ.obj L:=by unfold ak.eu upd;dsimp only;rw[if_neg (h o)]
theorem cZ.agI (c:cZ){L:Loc}(h:c.dp<L.1):c.out L:=fun o e=>by
 have:=c.vo o;rw[<-e] at this;omega
theorem bF.refl {o:Nat}:bF nr o st ρ σ st ρ σ:=⟨rfl,rfl,rfl,iP _,⟨fun _ _=>rfl,fun _ _=>rfl⟩,fun _ _ _=>rfl,fun h=>⟨h,fun _=>⟨rfl,rfl⟩⟩⟩
theorem bF.trans {o:Nat}{st' jF:aH R.T}{ρ' sI:aV}{σ' kg:ak}(h:bF nr o st ρ σ st' ρ' σ')(g:bF nr o st' ρ' σ' jF sI kg):bF nr o st ρ σ jF sI kg:=
 ⟨g.ob.trans h.ob,g.ln.trans h.ln,g.aj.trans h.aj,dJ h.nx g.nx,⟨fun l hl=>(g.lp.1 l (gM hl h.nx)).trans (h.lp.1 l hl),fun s hs=>(g.lp.2 s (by rw[h.aj];exact hs)).trans (h.lp.2 s hs)⟩,fun L hn hL=>(g.dp L (by rw[h.aj];exact hn) (by rw[h.aj];exact hL)).trans (h.dp L hn hL),fun hr=>by have g':=fun hr=>g.ro hr;rw[h.aj] at g';exact⟨(g' (h.ro hr).1).1,fun s=>⟨((g' (h.ro hr).1).2 s).1.trans ((h.ro hr).2 s).1,((g' (h.ro hr).1).2 s).2.trans ((h.ro hr).2 s).2⟩⟩⟩
theorem Kp.refl {W:List Nat}:Kp nr W st fr σ ρ st fr σ ρ:=⟨fun _ _=>rfl,fun _ _=>.refl⟩
theorem Kp.trans {W:List Nat}{st' jF:aH R.T}{fr' Dw:Fr}{ρ' sI:aV}{σ' kg:ak}(h:Kp nr W st fr σ ρ st' fr' σ' ρ')(g:Kp nr W st' fr' σ' ρ' jF Dw kg sI):Kp nr W st fr σ ρ jF Dw kg sI:=
 ⟨fun i hi=>(g.fr i hi).trans (h.fr i hi),fun o ho=>(h.ob o ho).trans (g.ob o ho)⟩
theorem Kp.mono {W W':List Nat}{st':aH R.T}{fr':Fr}{ρ':aV}{σ':ak}(h:Kp nr W st fr σ ρ st' fr' σ' ρ')(hw:∀i,bg i W'=false->bg i W=false):Kp nr W' st fr σ ρ st' fr' σ' ρ':=
 ⟨fun i hi=>h.fr i (hw i hi),fun o ho=>h.ob o (hw o ho)⟩
theorem OM:∀(i:Nat)(l m:List Nat),bg i (l++m)=(bg i l||bg i m)
 |i,[],m=>rfl|i,j::l,m=>by show (Nat.beq i j||bg i (l++m))=_;rw[OM i l m,<-Bool.or_assoc];rfl
theorem agJ {o:Nat}{ρ':aV}{σ':ak}{W:List Nat}(ho:∀o,bg o W=false->ρ'.ob o=ρ.ob o/\ρ'.ln o=ρ.ln o)(hx:ρ'.aj=ρ.aj)(hm:bg o W=false)(hc:∀s,σ'.bQ (ρ.aj.lc o) s=σ.bQ (ρ.aj.lc o) s/\σ'.gB (ρ.aj.lc o) s=σ.gB (ρ.aj.lc o) s):∀{x:bA R.T},pX W x=true->eZ ρ σ o x->eZ ρ' σ' o x
 |.cells cs,hs,h=>by obtain⟨s,l,h1,h2,h3⟩:=h;exact⟨s,l,MV,by rw[hx,(hc s).1];exact h2,aI.solid ho hx cs l hs h3⟩
 |.map k e m,_,h=>by obtain⟨s,h1,h2⟩:=h;exact⟨s,MV,by rw[hx,(hc s).2];exact h2⟩
 |.smap ks vs,hs,h=>by obtain⟨s,k,l,h1,h2,h3,h4⟩:=h;have hs':(uY W ks&& uY W vs)=true:=hs;rw[aT] at hs';exact⟨s,k,l,MV,by rw[hx,(hc s).2];exact h2,aI.solid ho hx ks k hs'.1 h3,aI.solid ho hx vs l hs'.2 h4⟩
 |.arr t l,_,h=>by
  refine⟨h.1.trans (ho o hm).2.symm,?_⟩;rcases h.2 with h| ⟨s,cs,h1,h2,h3⟩
  ·exact .inl ⟨h.1,(ho o hm).1.trans h.2⟩
  ·exact .inr ⟨s,cs,MV,by rw[hx,(hc s).1];exact h2,wY l cs h3⟩
 |.sg ss,_,h=>by obtain⟨s,h1,h2⟩:=h;exact⟨s,MV,by rw[hx,(hc s).1];exact h2⟩
 |.gone,_,_=>trivial|.ro b,hs,h=>agJ ho hx hm hc (x:=b) hs h
theorem BG:∀W:List Nat,∃n,∀m,n<=m->bg m W=false
 | []=>⟨0,fun _ _=>rfl⟩
 |i::W=>by obtain⟨n,hn⟩:=BG W;refine⟨n+i+1,fun m hm=>?_⟩;show (Nat.beq m i||bg m W)=false;rw[VX ah,hn m ah];rfl
theorem Kp.aj {W:List Nat}{st':aH R.T}{fr':Fr}{ρ':aV}{σ':ak}(h:Kp nr W st fr σ ρ st' fr' σ' ρ'):ρ'.aj=ρ.aj:=by obtain⟨n,hn⟩:=BG W;exact(h.ob n (hn n (iP _))).aj
theorem aO.base {W K O:List Nat}{mark:bA R.T->bA R.T}(hmark:∀ρ σ o x,eZ ρ σ o x->eZ (R:=R) ρ σ o (mark x)){st0 st' jF:aH R.T}{fr':Fr}{ρ':aV}{σ':ak}{b':Nat}(h:aO ρ b st fr σ)(hk:Kp nr W st0 fr σ ρ st' fr' σ' ρ')(h':aO ρ' b' jF fr' σ')(hro:∀o x,look st.ob o=some x->bg o W=false->bg o O=true->pX W x=true->jr st0 o):aO ρ' b' (aR.base W K O mark st) fr' σ':={h' with
 fr:=fun i v hv=>by obtain⟨x,h1,h2,rfl⟩:=BF hv;rw[aT,pE] at h2;have:=atc h2.2 (atb (h.fr _ _ h1));rw[hk.fr i h2.1];exact .of (aB.solid (fun o ho=>⟨(hk.ob o ho).ob,(hk.ob o ho).ln⟩) hk.aj _ _ h2.2 this)
 ob:=fun o y hy=>by
  have hO:bg o O=true:=by
   have:∀{is:List Nat}{y:bA R.T},look (qB (fun o b=>!(bg o W)&& pX W b) mark st.ob is) o=some y->bg o is=true:=by
    intro is;induction is with
    |nil=>intro y h;cases h|cons j is ih=>
     intro y h;show (Nat.beq o j||bg o is)=true;unfold qB at h;by_cases e:o=j
     ·subst e;rw[vS];rfl
     ·split at h
      ·rename_i x hx
       cases hp:(!(bg j W)&& pX W x)
       ·rw[hp] at h;rw[ih h,Bool.or_true]
       ·rw[hp,cond_true,jh _ _ e] at h;rw[ih h,Bool.or_true]
      ·rw[ih h,Bool.or_true]
   exact this hy
  obtain⟨x,h1,h2,rfl⟩:=BF hy;rw[aT,pE] at h2;have hc:=((hk.ob o h2.1).ro (hro o x h1 h2.1 hO h2.2)).2;exact hmark _ _ _ _ (agJ (fun o ho=>⟨(hk.ob o ho).ob,(hk.ob o ho).ln⟩) hk.aj h2.1 hc h2.2 (h.ob _ _ h1))}
theorem aat {W K O:List Nat}{st':aH R.T}{o:Nat}{x:bA R.T}(h1:look st.ob o=some x)(h2:bg o W=false)(h3:bg o O=true)(h4:pX W x=true):jr ((aR.base W K O .ro st).over st') o:=by
 intro y hy;have hl:∃z,look (qB (fun o b=>!(bg o W)&& pX W b) bA.ro st.ob O) o=some (.ro z):=by
  have:∀is:List Nat,bg o is=true->∃z,look (qB (fun o b=>!(bg o W)&& pX W b) bA.ro st.ob is) o=some (.ro z):=by
   intro is;induction is with
   |nil=>intro h;cases h|cons j is ih=>
    intro h;by_cases e:o=j
    ·subst e
     unfold qB;rw[h1];dsimp only;rw[h2,h4];exact⟨x,kZ _ _ _⟩
    ·have h':(Nat.beq o j||bg o is)=true:=h
     rw[VX e,Bool.false_or] at h';obtain⟨z,hz⟩:=ih h';refine⟨z,?_⟩;unfold qB;split
     ·rename_i w hw
      cases (!(bg j W)&& pX W w)
      ·exact hz
      ·rw[cond_true,jh _ _ e];exact hz
     ·exact hz
  exact this O h3
 obtain⟨z,hz⟩:=hl;have hy':look (qB (fun o b=>!(bg o W)&& pX W b) bA.ro st.ob O++st'.ob) o=some y:=hy;rw[yH,hz] at hy';cases hy';rfl
theorem ate {t:Nat}:∀{x:bA R.T},qZ x=true->qZ (bA.wk t x)=true
 |.ro _,_=>rfl|.gone,_=>rfl|.cells _,h=>bL|.map _ _ _,h=>bL|.smap _ _,h=>bL|.arr _ _,h=>bL
theorem V3 {t:Nat}{x:bA R.T}(h:qZ x=true):qZ (bA.kill t x)=true:=by
 have e:bA.kill t x=bif bA.nE t x then .gone else x:=by cases x<;>first|rfl|cases h
 rw[e];cases bA.nE t x
 ·exact h
 ·rfl
theorem bF.wk {p t s n:Nat}(hl:ρ.aj.lo<=s):bF nr p st ρ σ (st.wk t) (ρ.jM t s) (σ.dR s n):=⟨rfl,rfl,rfl,iP _,⟨fun _ _=>rfl,fun s' hs'=>Vb _ _ ah⟩,fun _ _ _=>rfl,fun hr=>⟨fun x hx=>by
 have hx':look (l7 (bA.wk t) st.ob) p=some x:=hx;rw[um,bf] at hx';obtain⟨z,hz,rfl⟩:=hx';exact ate (hr z hz),fun _=>⟨rfl,rfl⟩⟩⟩
theorem bF.set {o q s:Nat}{x y:bA R.T}{a:iN}(hl:look st.ob o=some y)(hy:qZ y=false):bF nr q st ρ σ (st.set o x) ρ (σ.setObj (ρ.aj.lc o) s a):=⟨rfl,rfl,rfl,iP _,⟨fun _ _=>rfl,fun _ _=>rfl⟩,fun _ _ hL=>aas hL,fun hr=>by
 have hne:q≠o:=by rintro rfl;rw[hr y hl] at hy;cases hy
 refine⟨fun z hz=>?_,fun s'=>⟨GA _ _ _ _ hne,IW _ _ _ _ hne⟩⟩;have hz':look ((o,x)::jE o st.ob) q=some z:=hz;rw[jh _ _ hne,qG hne] at hz';exact hr z hz'⟩
theorem bF.new {o q s:Nat}{x:bA R.T}{a:iN}(hne:q≠o):bF nr q st ρ σ (st.new o x) (ρ.mI o s) (σ.setObj (ρ.aj.lc o) s a):=⟨by simp[aV.mI,upd,hne],rfl,rfl,iP _,⟨fun _ _=>rfl,fun _ _=>rfl⟩,fun _ _ hL=>aas hL,fun hr=>by
 refine⟨fun z hz=>?_,fun s'=>⟨GA _ _ _ _ hne,IW _ _ _ _ hne⟩⟩;have hz':look ((o,x)::l7 (bA.kill o) (jE o st.ob)) q=some z:=hz;rw[jh _ _ hne,um,qG hne,bf] at hz';obtain⟨w,hw,rfl⟩:=hz';exact V3 (hr w hw)⟩
theorem AY {d:Option Nat}{v:au R.T}:(st.gN d v).ob=st.ob:=GH
theorem bF.same {st':aH R.T}{o:Nat}(h:st'.ob=st.ob):bF nr o st ρ σ st' ρ σ:=⟨rfl,rfl,rfl,iP _,⟨fun _ _=>rfl,fun _ _=>rfl⟩,fun _ _ _=>rfl,fun hr=>⟨fun x hx=>hr x (by rw[<-h];exact hx),fun _=>⟨rfl,rfl⟩⟩⟩
theorem bF.congr {st' jF:aH R.T}{ρ':aV}{σ':ak}{o:Nat}(h:bF nr o st ρ σ st' ρ' σ')(e:jF.ob=st'.ob):bF nr o st ρ σ jF ρ' σ':=⟨h.ob,h.ln,h.aj,h.nx,h.lp,h.dp,fun hr=>⟨fun x hx=>(h.ro hr).1 x (by rw[<-e];exact hx),(h.ro hr).2⟩⟩
theorem bF.from {st' jF:aH R.T}{ρ':aV}{σ':ak}{o:Nat}(h:bF nr o st ρ σ st' ρ' σ')(e:st.ob=jF.ob):bF nr o jF ρ σ st' ρ' σ':=⟨h.ob,h.ln,h.aj,h.nx,h.lp,h.dp,fun hr=>h.ro fun x hx=>hr x (by rw[<-e];exact hx)⟩
theorem Kp.op {d:Option Nat}{W:List Nat}{y:V}{st':aH R.T}{ρ':aV}{σ':ak}{Q:Nat->Prop}(hd:∀p,bg p W=false->d≠some p/\Q p)(h:∀p,Q p->bF nr p st ρ σ st' ρ' σ'):Kp nr W st fr σ ρ st' (fr.put d y) σ' ρ':=
 ⟨fun i hi=>by
   cases d with
   |none=>rfl|some j=>exact fZ _ _ (by have:=(hd i hi).1;simp at this;simpa using fun e=>this e.symm),fun p hp=>h p (hd p hp).2⟩
theorem agK {W K O:List Nat}{st':aH R.T}{o:Nat}(h:look st'.ob o=none):jr ((aR.base W K O .ro st).over st') o:=by
 intro y hy;have hy':look (qB (fun o b=>!(bg o W)&& pX W b) bA.ro st.ob O++st'.ob) o=some y:=hy;rw[yH] at hy';split at hy'
 ·rename_i x hx
  cases hy';obtain⟨z,_,_,rfl⟩:=BF hx;rfl
 ·rw[h] at hy';cases hy'
theorem OO {st':aH R.T}{o:Nat}(h1:jr st o)(h2:jr st' o):jr (st.over st') o:=by
 intro y hy;have hy':look (st.ob++st'.ob) o=some y:=hy;rw[yH] at hy';split at hy'
 ·rename_i x hx;cases hy';exact h1 _ hx
 ·exact h2 _ hy'
theorem agL {W K O:List Nat}{mark:bA R.T->bA R.T}{o:Nat}(hm:∀x,qZ x=true->qZ (mark x)=true)(h:jr st o):jr (aR.base W K O mark st) o:=by intro y hy;obtain⟨x,h1,_,rfl⟩:=BF hy;exact hm _ (h _ h1)
theorem finish {W K O:List Nat}{H S' jF:aH R.T}{fr':Fr}{ρ':aV}{σ':ak}{b':Nat}(hi:aO ρ b st fr σ)(hH:∀o,bg o W=false->jr st o->jr H o)(hro:∀o x,look st.ob o=some x->bg o W=false->bg o O=true->pX W x=true->jr H o)(hk:Kp nr W H fr σ ρ S' fr' σ' ρ')(hi':aO ρ' b' jF fr' σ')(hn:∀o,bg o W=false->jr H o->look jF.ob o=none):
 aO ρ' b' ((aR.base W K O (fun b=>b) st).over jF) fr' σ'/\Kp nr W st fr σ ρ ((aR.base W K O (fun b=>b) st).over jF) fr' σ' ρ':=by
 have hk2:Kp nr W H fr σ ρ jF fr' σ' ρ':=⟨hk.fr,fun o ho=>⟨(hk.ob o ho).ob,(hk.ob o ho).ln,(hk.ob o ho).aj,(hk.ob o ho).nx,(hk.ob o ho).lp,(hk.ob o ho).dp,fun hr=>⟨fun x hx=>(by rw[hn o ho hr] at hx;cases hx),((hk.ob o ho).ro hr).2⟩⟩⟩;refine⟨(hi.base (fun _ _ _ _ h=>h) hk2 hi' hro).over hi',hk.fr,fun o ho=>⟨(hk.ob o ho).ob,(hk.ob o ho).ln,(hk.ob o ho).aj,(hk.ob o ho).nx,(hk.ob o ho).lp,(hk.ob o ho).dp,fun hr=>⟨?_,((hk.ob o ho).ro (hH o ho hr)).2⟩⟩⟩;exact OO (agL (fun _ h=>h) hr) fun x hx=>(by rw[hn o ho (hH o ho hr)] at hx;cases hx)
theorem OP {x:au R.T}{v:V}(hx:uf x=true)(h:jX fr ρ top x v):v= .ay .nil []\/v= .ay .full []:=by
 cases x<;>first| (cases hx;done)|skip
 ·exact .inl (aB.p8 (R:=R) (show aB R ρ top .fF v from h))
 ·rename_i c t l
  obtain⟨c',hv,hc⟩:=aB.lU (R:=R) (show aB R ρ top (.ay c t l) v from h);cases c<;>first| (cases hx;done)|skip
  ·have:l=[]:=by simpa [uf] using hx
   subst this;have hc':c'= .nil:=hc;rw[hc'] at hv;exact .inl hv
  ·have:l=[]:=by simpa [uf] using hx
   subst this;have hc':c'= .full:=hc;rw[hc'] at hv;exact .inr hv
theorem OQ {W:List Nat}:∀(l:List (Nat×aC))(st:aH R.T)(ρ:aV),aO ρ b st fr σ->∃ρ',aO ρ' b (ug W l st) fr σ/\Kp nr W st fr σ ρ (ug W l st) fr σ ρ'
 | [],st,ρ,h=>⟨ρ,h,.refl⟩| (i,k)::l,st,ρ,h=>by
   have other:ug W ((i,k)::l) st=ug W l st->∃ρ',aO ρ' b (ug W ((i,k)::l) st) fr σ/\Kp nr W st fr σ ρ (ug W ((i,k)::l) st) fr σ ρ':=fun e=>by rw[e];exact OQ l st ρ h
   cases k<;>first|exact other rfl|skip
   rename_i o t;unfold ug;split
   ·rename_i v hv
    cases hb:(uf v&& bg o W)
    ·exact OQ l st ρ h
    ·rw[cond_true]
     rw[aT] at hb;have hg:=h.ghost o t;have hE:=OP hb.1 (h.fr _ _ hv);have yI:aO (ρ.gh o) b (⟨(i,.aM o t)::(st.new o (.arr t [])).fr,(st.new o (.arr t [])).ob⟩:aH R.T) fr σ:={hg with
      fr:=fun j y hy=>by
       by_cases e:j=i
       ·subst e
        have hy':look ((j,au.aM o t)::(st.new o (.arr t [])).fr) j=some y:=hy;rw[kZ] at hy';cases hy';exact .of (by unfold aB;exact .inr ⟨wZ (ρ:=ρ) (n:=0),hE⟩)
       ·have hy':look ((i,au.aM o t)::(st.new o (.arr t [])).fr) j=some y:=hy
        rw[jh _ _ e] at hy';exact hg.fr j y hy'
      ob:=hg.ob}
     obtain⟨ρ',h1,h2⟩:=OQ (W:=W) l _ _ yI;refine⟨ρ',h1,Kp.trans ⟨fun _ _=>rfl,fun p hp=>?_⟩ h2⟩;have hne:p≠o:=(by rintro rfl;rw[hb.2] at hp;cases hp);refine⟨(p9 p hne).1,(p9 p hne).2,rfl,iP _,⟨fun _ _=>rfl,fun _ _=>rfl⟩,fun _ _ _=>rfl,fun hr=>⟨fun x hx=>?_,fun _=>⟨rfl,rfl⟩⟩⟩;have hx':look ((o,bA.arr t [])::l7 (bA.kill o) (jE o st.ob)) p=some x:=hx;rw[jh _ _ hne,um,qG hne,bf] at hx';obtain⟨w,hw,rfl⟩:=hx';exact V3 (hr w hw)
   ·exact OQ l st ρ h
theorem atf {W:List Nat}(o:Nat)(k:fA)(st:aH R.T)(ρ:aV)(h:aO ρ b st fr σ):∃ρ',aO ρ' b (Ik W o k st) fr σ/\Kp nr W st fr σ ρ (Ik W o k st) fr σ ρ':=by
 have same:∃ρ',aO ρ' b st fr σ/\Kp nr W st fr σ ρ st fr σ ρ':=⟨ρ,h,.refl⟩;unfold Ik;split
 ·split
  ·rename_i p t
   split
   ·rename_i cs hv
    split
    ·rename_i v
     cases hb:(uf v&& bg p W&& !(Nat.beq o p))
     ·exact same
     ·rw[cond_true]
      rw[aT,aT,pE] at hb;have hop:o≠p:=Fq hb.2;have hg:=h.ghost p t;obtain⟨s,cs,h1,h2,h3⟩:=h.ob _ _ hv;obtain⟨w,ws,rfl,h4,h5⟩:=h3.dS;have h6:=h5.iq;subst h6;have hE:=OP (fr:=fr) hb.1.1 (.of h4);refine⟨ρ.gh p,{hg with
       ob:=fun j y hy=>by
        by_cases e:j=o
        ·subst e
         have hy':look ((j,bA.cells [.aM p t])::(st.new p (.arr t [])).ob) j=some y:=hy;rw[kZ] at hy';cases hy';exact⟨s,[w],(p9 j hop).1.trans h1,h2,.cons' (by unfold aB;exact .inr ⟨wZ (ρ:=ρ) (n:=0),hE⟩) rfl⟩
        ·have hy':look ((o,bA.cells [.aM p t])::(st.new p (.arr t [])).ob) j=some y:=hy
         rw[jh _ _ e] at hy';exact hg.ob j y hy'},fun _ _=>rfl,fun q hq=>?_⟩
      have hne:q≠p:=(by rintro rfl;rw[hb.1.2] at hq;cases hq);refine⟨(p9 q hne).1,(p9 q hne).2,rfl,iP _,⟨fun _ _=>rfl,fun _ _=>rfl⟩,fun _ _ _=>rfl,fun hr=>⟨fun x hx=>?_,fun _=>⟨rfl,rfl⟩⟩⟩;have hqo:q≠o:=(by rintro rfl;have:=hr _ hv;cases this);have hx':look ((o,bA.cells [.aM p t])::((p,bA.arr t [])::l7 (bA.kill p) (jE p st.ob))) q=some x:=hx;rw[jh _ _ hqo,jh _ _ hne,um,qG hne,bf] at hx';obtain⟨w,hw,rfl⟩:=hx';exact V3 (hr w hw)
    ·exact same
   ·exact same
  ·rename_i p t
   split
   ·rename_i cs hv
    split
    ·rename_i v
     cases hb:(uf v&& bg p W&& !(Nat.beq o p))
     ·exact same
     ·rw[cond_true]
      rw[aT,aT,pE] at hb;have hop:o≠p:=Fq hb.2;have hg:=h.ghost p t;obtain⟨s,cs,h1,h2,h3⟩:=h.ob _ _ hv;obtain⟨w,ws,rfl,h4,h5⟩:=h3.dS;have h6:=h5.iq;subst h6;have hE:=OP (fr:=fr) hb.1.1 (.of h4);refine⟨ρ.gh p,{hg with
       ob:=fun j y hy=>by
        by_cases e:j=o
        ·subst e
         have hy':look ((j,bA.cells [.sub p t 0 0])::(st.new p (.arr t [])).ob) j=some y:=hy;rw[kZ] at hy';cases hy';exact⟨s,[w],(p9 j hop).1.trans h1,h2,.cons' (by unfold aB;exact⟨Int.le_refl _,Int.le_refl _,Int.natCast_nonneg _,.inr ⟨rfl,by rcases hE with h|h<;>exact⟨_,h⟩⟩⟩) rfl⟩
        ·have hy':look ((o,bA.cells [.sub p t 0 0])::(st.new p (.arr t [])).ob) j=some y:=hy
         rw[jh _ _ e] at hy';exact hg.ob j y hy'},fun _ _=>rfl,fun q hq=>?_⟩
      have hne:q≠p:=(by rintro rfl;rw[hb.1.2] at hq;cases hq);refine⟨(p9 q hne).1,(p9 q hne).2,rfl,iP _,⟨fun _ _=>rfl,fun _ _=>rfl⟩,fun _ _ _=>rfl,fun hr=>⟨fun x hx=>?_,fun _=>⟨rfl,rfl⟩⟩⟩;have hqo:q≠o:=(by rintro rfl;have:=hr _ hv;cases this);have hx':look ((o,bA.cells [.sub p t 0 0])::((p,bA.arr t [])::l7 (bA.kill p) (jE p st.ob))) q=some x:=hx;rw[jh _ _ hqo,jh _ _ hne,um,qG hne,bf] at hx';obtain⟨w,hw,rfl⟩:=hx';exact V3 (hr w hw)
    ·exact same
   ·exact same
  ·exact same
 ·exact same
theorem agM {W:List Nat}:∀(l:List (Nat×fA))(st:aH R.T)(ρ:aV),aO ρ b st fr σ->∃ρ',aO ρ' b (Il W l st) fr σ/\Kp nr W st fr σ ρ (Il W l st) fr σ ρ'
 | [],st,ρ,h=>⟨ρ,h,.refl⟩| (o,k)::l,st,ρ,h=>by obtain⟨jl,h1,h2⟩:=atf (nr:=nr) (W:=W) o k st ρ h;obtain⟨uo,h3,h4⟩:=agM (W:=W) l _ _ h1;exact⟨uo,h3,h2.trans h4⟩
theorem atg {W:List Nat}{o:Nat}{k:fA}{st:aH R.T}(h:st.fr=[]):(Ik W o k st).fr=[]:=by
 unfold Ik;split
 ·split
  ·split
   ·split
    ·rename_i p t _ _ v _
     cases (uf v&& bg p W&& !(Nat.beq o p))
     ·exact h
     ·show l7 (Bp p) st.fr=[]
      rw[h];rfl
    ·exact h
   ·exact h
  ·split
   ·split
    ·rename_i p t _ _ v _
     cases (uf v&& bg p W&& !(Nat.beq o p))
     ·exact h
     ·show l7 (Bp p) st.fr=[]
      rw[h];rfl
    ·exact h
   ·exact h
  ·exact h
 ·exact h
theorem agN {W:List Nat}:∀{l:List (Nat×fA)}{st:aH R.T},st.fr=[]->(Il W l st).fr=[]
 | [],_,h=>h| (o,k)::l,st,h=>agN (l:=l) (atg h)
section
variable (hR:qE R)
include hR
omit hR in
theorem agO {W:List Nat}:∀{l:List (Nat×aC)},st.fr=[]->ug W l st=st
 | [],_=>rfl| (i,k)::l,h=>by
   have:=agO (W:=W) (l:=l) h;cases k<;>first|exact this|skip
   unfold ug;rw[h];exact this
omit hR in
theorem agP:∀{l:List (Nat×aC)}{p:EO R.T l},uZ R [] l=some p->l=[]
 | [],_,_=>rfl| [(i,k)],p,h=>bL| (i,k)::q::l,p,h=>bL
omit hR in
theorem ath {W:List Nat}(he:st.fr=[]){s:Shape}{p:qY R.T s}(hp:aR.nP R W st s=some p):(unpack R s p).fr=[]:=by
 unfold aR.nP at hp;have he':=agN (W:=W) (l:=s.ob) he;rw[agO he'] at hp;generalize Il W s.ob st=st at hp he';replace he:=he';clear he';obtain⟨sl,ob⟩:=s;cases ob with
 |nil=>have hp':uZ R st.fr sl=some p:=hp;rw[he] at hp';have:=agP hp';subst this;rfl|cons o os=>
  unfold aR.pack at hp;rw[he] at hp;cases hu:uZ R [] sl with
  |none=>simp only[hu] at hp;cases hp|some x=>have:=agP hu;subst this;rfl
theorem aO.nP {W:List Nat}(h:aO ρ b st fr σ){s:Shape}{p:qY R.T s}(hp:aR.nP R W st s=some p):∃ρ' S',aO ρ' b (unpack R s p) fr σ/\Kp nr W st fr σ ρ S' fr σ ρ'/\(st.fr=[]->(unpack R s p).fr=[])/\∀i,bg i W=false->jr st i->look (unpack R s p).ob i=none:=by obtain⟨IY,h01,h02⟩:=agM (nr:=nr) (W:=W) s.ob st ρ h;obtain⟨ρ',h1,h2'⟩:=OQ (nr:=nr) (W:=W) s.sl _ IY h01;have h2:=h02.trans h2';exact⟨ρ',_,h1.pack hR hp,h2,fun he=>ath he hp,fun i hi hr=>ata hp ((h2.ob i hi).ro hr).1⟩
theorem IZ {β:Type}{W:List Nat}(h:aO ρ b st fr σ){e:Ex}:∀{l:List (Ex×Shape)}{o:Out R.T l},wS R W e st l=some o->∃ρ' S' st',aO ρ' b st' fr σ/\Kp nr W st fr σ ρ S' fr σ ρ'/\(st.fr=[]->st'.fr=[])/\(∀i,bg i W=false->jr st i->look st'.ob i=none)/\∀(k:Ex->aH R.T->Option β)(bs:aH R.T),zT R bs k l o=k e (bs.over st')
 | [],o,hp=>by cases hp| [(x,s)],o,hp=>by
   have hp':(bif EW e x then aR.nP R W st s else none)=some o:=hp;cases hb:EW e x
   ·rw[hb] at hp';cases hp'
   ·rw[hb,cond_true] at hp'
    have:=agG hb;subst this;obtain⟨ρ',S',h1,h2,h0,h3⟩:=h.nP hR hp';exact⟨ρ',S',_,h1,h2,h0,h3,fun k bs=>rfl⟩
 | (x,s)::q::l,o,hp=>by
   unfold wS at hp;cases hb:EW e x
   ·rw[hb,cond_false] at hp
    cases hu:wS R W e st (q::l) with
    |none=>simp only[hu] at hp;cases hp|some y=>simp only[hu] at hp;obtain rfl:=jP hp;obtain⟨ρ',S',st',h1,h3,h0,h4,h2⟩:=IZ (β:=β) h hu;exact⟨ρ',S',st',h1,h3,h0,h4,fun k bs=>h2 k bs⟩
   ·rw[hb,cond_true] at hp
    have:=agG hb;subst this;cases hu:aR.nP R W st s with
    |none=>simp only[hu] at hp;cases hp|some y=>simp only[hu] at hp;obtain rfl:=jP hp;obtain⟨ρ',S',h1,h2,h0,h3⟩:=h.nP hR hu;exact⟨ρ',S',_,h1,h2,h0,h3,fun k bs=>rfl⟩
end
end
end
end aR
end
section
namespace aR
open Go
def nA (E:Env)(o:Oper)(p:Nat):Prop:=o.dst≠some p/\∀d,o.dst=some d->E.cn d≠p
section
variable {R:iI}{E:Env}
variable {ρ:aV}{b:Nat}{st:aH R.T}{fr:Fr}{σ:ak}
def w9 (E:Env)(fr:Fr)(o:Oper):Bool:=match o.op with
 |.call c=>match c.callee with
  |.value f=>lq E fr o f|_=>false
 |_=>false
def l9 (E:Env)(fr:Fr)(σ:ak)(aK:Nat)(o:Oper)(x:V)(σ':ak):Prop:=
 (w9 E fr o=false->∀all os Q,iU all fr o=some true->bW E all (aK+1) os (fr.put o.dst x) σ' Q->bW E all aK (o::os) fr σ Q)/\
 (w9 E fr o=false->∀ms all os fs Q,iU all fr o=some true->je E ms all (aK+1) os (fr.put o.dst x) σ' (fs++[iD E all fr o true]) Q->je E ms all aK (o::os) fr σ fs Q)
theorem l9.of {aK:Nat}{o:Oper}{x:V}{σ':ak}(h:∀S,opC E S fr σ aK o=some (x,fr,σ')):l9 E fr σ aK o x σ':=
 ⟨fun _ _ _ _ hw h'=>bW.op hw h h',fun _ _ _ _ _ _ hw h'=>je.op hw h h'⟩
theorem ati {S:kH}{aK:Nat}{o:Oper}{x:V}{σ':ak}(h:d9 E fr σ aK o=some (x,σ')):opC E S fr σ aK o=some (x,fr,σ'):=by
 unfold opC;split
 ·rename_i c hc;unfold d9 at h;rw[hc] at h;cases h
 ·rename_i c hc;unfold d9 at h;rw[hc] at h;cases h
 ·rw[h];rfl
theorem agQ {o:Oper}{c:Call}{f:Operand}{g:FuncId}{a b:List V}(ho:o.op= .call c)(fE:c.callee= .value f)(hf:fr.ev E f= .fn (.func g) a b)(h:w9 E fr o=false):∀d,o.dst=some d->E.own g d=false:=by intro d hd;unfold w9 at h;rw[ho] at h;dsimp only at h;rw[fE] at h;dsimp only at h;unfold lq at h;rw[hf,hd] at h;exact h
theorem l9.mJ {aK:Nat}{o:Oper}{x:V}{σ':ak}(h:d9 E fr σ aK o=some (x,σ')):l9 E fr σ aK o x σ':=.of fun S=>ati h
def sJ (E:Env)(st:aH R.T)(ρ:aV)(aK:Nat)(fr:Fr)(σ:ak)(o:Oper):eT R->Prop
 |.t v=>∃x,l9 E fr σ aK o x σ/\aB R ρ σ.top v x|.c c v=>c=true->∃x,l9 E fr σ aK o x σ/\aB R ρ σ.top v x|.w v st'=>∃x σ' ρ',l9 E fr σ aK o x σ'/\aO ρ' (aK+1) st' fr σ'/\σ'.next=σ.next/\aB R ρ' σ'.top v x/\∀p,nA E o p->bF true p st ρ σ st' ρ' σ'|.wc c v st'=>c=true->∃x σ' ρ',l9 E fr σ aK o x σ'/\aO ρ' (aK+1) st' fr σ'/\σ'.next=σ.next/\aB R ρ' σ'.top v x/\∀p,nA E o p->bF true p st ρ σ st' ρ' σ'|.p _ _ o' f=>∀a,o'=some a->∃x,l9 E fr σ aK o x σ/\aB R ρ σ.top (f a) x
 |.alt l=>∀(β:Type)(k:au R.T->Option β)(r:β),EX k l=some r->∃v x,k v=some r/\l9 E fr σ aK o x σ/\aB R ρ σ.top v x
theorem yJ {top:Nat->Nat}{x:au R.T}{v:V}(hg:wQ x=true)(h:aB R ρ top x v):aI R ρ top x.cells v.cells/\fM v=true:=by
 cases x with
 |agg cs=>obtain⟨l,rfl,hl⟩:=h.mH;exact⟨hl,rfl⟩
 |int k n=>rw[h.kI];exact⟨.cons' iY rfl,rfl⟩|bool b=>rw[h.q9];exact⟨.cons' iY rfl,rfl⟩|jA b=>rw[h.vv];exact⟨.cons' iY rfl,rfl⟩|str b=>rw[h.o7];exact⟨.cons' iY rfl,rfl⟩|fF=>rw[h.p8];exact⟨.cons' iY rfl,rfl⟩|bB cs=>obtain⟨l,rfl,hl⟩:=h.IQ;exact⟨.cons' h rfl,rfl⟩
 |ay c t l=>obtain⟨c',rfl,hl⟩:=h.lU;exact⟨.cons' h rfl,rfl⟩
 |ref o off=>obtain⟨s,hs,rfl⟩:=h.uj;exact⟨.cons' h rfl,rfl⟩
 |aY o off=>obtain⟨s,rfl,hs⟩:=h.vw;exact⟨.cons' h rfl,rfl⟩
 |cu o=>obtain⟨s,hs,rfl⟩:=h.zZ;exact⟨.cons' h rfl,rfl⟩
 |dV k e m=>have:=h.Du;subst this;exact⟨.cons' h rfl,rfl⟩|fn f a b=>obtain⟨a',b',rfl,_⟩:=h.lG;exact⟨.cons' h rfl,rfl⟩
 |undef=>have:=h.agh;subst this;exact⟨.cons' h rfl,rfl⟩|aM o t=>rcases h.z8 with ⟨s,_,rfl⟩| ⟨_,rfl|rfl⟩<;>exact⟨.cons' h rfl,rfl⟩
 |sub o t a b=>rcases h.BA with ⟨_,_,_,⟨s,cp,_,_,rfl⟩| ⟨_,c,rfl⟩⟩<;>exact⟨.cons' h rfl,rfl⟩
 |lT o t i off=>obtain⟨s,_,_,rfl⟩:=h.Fp;exact⟨.cons' h rfl,rfl⟩
 |sv o off k n lo hi=>obtain⟨s,_,_,rfl⟩:=h.VU;exact⟨.cons' h rfl,rfl⟩
 |sel o off k n i m=>obtain⟨s,_,_,_,rfl⟩:=h.aaf;exact⟨.cons' h rfl,rfl⟩
 |yx k n y i=>obtain⟨_,_,rfl⟩:=h.aag;exact⟨.cons' h rfl,rfl⟩
 |sg _=>cases hg|iC=>have h':=h;unfold aB at h';subst h';exact⟨.cons' h rfl,rfl⟩|gQ=>have h':=h;unfold aB at h';subst h';exact⟨.cons' h rfl,rfl⟩|gD=>have h':=h;unfold aB at h';subst h';exact⟨.cons' h rfl,rfl⟩|iH=>have h':=h;unfold aB at h';subst h';exact⟨.cons' h rfl,rfl⟩|opt j w y=>cases hg|gone=>cases hg
theorem atj {top:Nat->Nat}{x:au R.T}{v:V}(hg:ZI x=true)(h:aB R ρ top x v):oneCell v=true:=by
 cases x with
 |agg cs=>cases hg|int k n=>rw[h.kI];rfl|bool b=>rw[h.q9];rfl|jA b=>rw[h.vv];rfl|str b=>rw[h.o7];rfl|fF=>rw[h.p8];rfl|bB cs=>cases hg|ay c t l=>obtain⟨c',rfl,hl⟩:=h.lU;rfl
 |ref o off=>obtain⟨s,hs,rfl⟩:=h.uj;rfl
 |aY o off=>obtain⟨s,rfl,hs⟩:=h.vw;rfl
 |cu o=>obtain⟨s,hs,rfl⟩:=h.zZ;rfl
 |dV k e m=>have:=h.Du;subst this;rfl|fn f a b=>obtain⟨a',b',rfl,_⟩:=h.lG;rfl
 |undef=>cases hg|aM o t=>rcases h.z8 with ⟨s,_,rfl⟩| ⟨_,rfl|rfl⟩<;>rfl
 |sub o t a b=>rcases h.BA with ⟨_,_,_,⟨s,cp,_,_,rfl⟩| ⟨_,c,rfl⟩⟩<;>rfl
 |lT o t i off=>obtain⟨s,_,_,rfl⟩:=h.Fp;rfl
 |sv o off k n lo hi=>obtain⟨s,_,_,rfl⟩:=h.VU;rfl
 |sel o off k n i m=>obtain⟨s,_,_,_,rfl⟩:=h.aaf;rfl
 |yx k n y i=>obtain⟨_,_,rfl⟩:=h.aag;rfl
 |sg _=>cases hg|iC=>unfold aB at h;subst h;rfl|gQ=>unfold aB at h;subst h;rfl|gD=>unfold aB at h;subst h;rfl|iH=>unfold aB at h;subst h;rfl|opt j w y=>cases hg|gone=>cases hg
theorem OT {top:Nat->Nat}:∀{x:List (au R.T)}{v:List V},Dl x=true->aI R ρ top x v->dU v=true
 | [],v,_,h=>M9|x::xs,v,hg,h=>by obtain⟨y,ys,rfl,h1,h2⟩:=h.dS;unfold Dl at hg;rw[aT] at hg;rw[afT,atj hg.1 h1,OT hg.2 h2];rfl
theorem atl {top:Nat->Nat}{ag:Bool}{n off:Nat}{cs:List (au R.T)}{l:List V}{x:au R.T}(h:aI R ρ top cs l)(hp:Vm ag n cs off=some x):∃v,CJ ag n l off=some v/\aB R ρ top x v:=by
 cases ag with
 |true=>
  have hp':(bif Nat.ble (off+n) cs.length then some (au.agg ((cs.drop off).take n)) else none)=some x:=hp;cases hb:Nat.ble (off+n) cs.length
  ·rw[hb] at hp';cases hp'
  ·rw[hb] at hp';cases hp'
   have hle:=lN hb;refine⟨.agg ((l.drop off).take n),?_,by unfold aB;exact⟨_,rfl,(h.drop off).take n⟩⟩;unfold CJ;rw[if_pos rfl,if_pos (by rw[h.length];exact hle)]
 |false=>obtain⟨v,h1,h2⟩:=h.get (show cs[off]? =some x from hp);exact⟨v,by unfold CJ;simpa using h1,h2⟩
theorem BH {top:Nat->Nat}{t:TypeId}{off:Nat}{cs:List (au R.T)}{l:List V}{x:au R.T}(h:aI R ρ top cs l)(hp:nk E t cs off=some x):∃v,kN E.P t l off=some v/\aB R ρ top x v:=by
 unfold nk at hp;cases h1:pI E.P t with
 |none=>simp only[h1] at hp;cases hp|some a=>
  cases h2:fq E.P t with
  |none=>simp only[h1,h2] at hp;cases hp|some n=>simp only[h1,h2] at hp;unfold kN;rw[h1,h2];exact atl h hp
theorem aau {top:Nat->Nat}{cs vs:List (au R.T)}{l k:List V}(off:Nat)(h:aI R ρ top cs l)(h':aI R ρ top vs k):aI R ρ top (Im cs off vs) (iT l off k):=by unfold Im iT;rw[h'.length];exact((h.take off).append h').append (h.drop _)
theorem V4 {top:Nat->Nat}{t:TypeId}{z:au R.T}(h:EY E t=some z):∃v,kC E.P t=some v/\aB R ρ top z v:=by
 unfold EY at h;unfold kC;cases h1:E.P.info? t with
 |none=>simp only[h1] at h;cases h|some i=>
  cases h2:i.zero with
  |none=>simp only[h1,h2] at h;cases h|some z'=>simp only[h1,h2] at h;obtain⟨v,hv,hr⟩:=agA (ρ:=ρ) (top:=top) h;exact⟨v,by simp[h2,hv],hr⟩
theorem agR {top:Nat->Nat}(place:Nat->Option (Nat×Nat)):∀{ps:List (Nat×au R.T)}{qs:List (Nat×V)}{cs:List (au R.T)}{l:List V}{cs':List (au R.T)},ps.map (·.1)=qs.map (·.1)->aI R ρ top (ps.map (·.2)) (qs.map (·.2))->
 aI R ρ top cs l->Vn place cs ps=some cs'->∃l',uN place l qs=some l'/\aI R ρ top cs' l'
 | [],[],cs,l,cs',_,_,h,hf=>by cases hf;exact⟨l,rfl,h⟩| [],_::_,_,_,_,h,_,_,_=>uH|_::_,[],_,_,_,h,_,_,_=>uH| (i,v)::ps,(j,w)::qs,cs,l,cs',hi,hr,h,hf=>by
   simp only[fQ,qO] at hi;obtain⟨rfl,hi⟩:=hi;obtain⟨y,ys,e,h1,h2⟩:=hr.dS;simp only[fQ,qO] at e;obtain⟨rfl,rfl⟩:=e;unfold Vn at hf;unfold uN;cases hp:place i with
   |none=>simp only[hp] at hf;cases hf|some q=>
    obtain⟨off,size⟩:=q;simp only[hp] at hf⊢;cases hb:(Nat.beq v.cells.length size&& Nat.ble (off+size) cs.length&& wQ v)
    ·rw[hb] at hf;cases hf
    ·rw[hb,cond_true] at hf
     simp only[aT] at hb;obtain⟨⟨b1,b2⟩,b3⟩:=hb;obtain⟨hc,hn⟩:=yJ b3 h1;rw[if_pos ⟨by rw[hc.length];exact iK b1,by rw[h.length];exact lN b2,hn⟩];exact agR place hi h2 (aau off h hc) hf
theorem agS {top:Nat->Nat}{x:au R.T}{v:V}{a:Bool}(h:Ou x=some a)(hr:aB R ρ top x v):v= .bool a:=by
 cases x<;>cases h
 ·exact hr.q9
 ·exact hr.vv
theorem agT {top:Nat->Nat}{x y:au R.T}{v w:V}{r:Bool}(h:Vo x y=some r)(hx:aB R ρ top x v)(hy:aB R ρ top y w):∃a b,v= .bool a/\w= .bool b/\r=(a==b):=by
 unfold Vo at h;cases h1:Ou x with
 |none=>simp only[h1] at h;cases h|some a=>
  cases h2:Ou y with
  |none=>simp only[h1,h2] at h;cases h|some b=>simp only[h1,h2] at h;cases h;exact⟨a,b,agS h1 hx,agS h2 hy,rfl⟩
theorem aav {top:Nat->Nat}{BI:TypeId->au R.T->au R.T->Option Bool}{eqv:TypeId->V->V->Option Bool}(he:∀t x y v w r,BI t x y=some r->aB R ρ top x v->aB R ρ top y w->eqv t v w=some r){xs ys:List (au R.T)}{vs ws:List V}(hx:aI R ρ top xs vs)(hy:aI R ρ top ys ws):∀{fs:List Field}{r:Bool},Io E BI xs ys fs=some r->Ev E.P eqv vs ws fs=some r
 | [],r,h=>by cases h;rfl|f::fs,r,h=>by
  unfold Io at h;unfold Ev;split at h
  ·rename_i hn;rw[if_pos hn];exact aav he hx hy h
  ·rename_i hn
   rw[if_neg hn];cases h1:nk E f.type xs f.offset with
   |none=>simp only[h1] at h;cases h|some a=>
    cases h2:nk E f.type ys f.offset with
    |none=>simp only[h1,h2] at h;cases h|some c=>
     cases h3:BI f.type a c with
     |none=>simp only[h1,h2,h3] at h;cases h|some r1=>
      cases h4:Io E BI xs ys fs with
      |none=>simp only[h1,h2,h3,h4] at h;cases h|some q=>simp only[h1,h2,h3,h4] at h;cases h;obtain⟨v1,e1,g1⟩:=BH hx h1;obtain⟨v2,e2,g2⟩:=BH hy h2;simp[e1,e2,he _ _ _ _ _ _ h3 g1 g2,aav he hx hy h4]
theorem agU {top:Nat->Nat}{BI:TypeId->au R.T->au R.T->Option Bool}{eqv:TypeId->V->V->Option Bool}(he:∀t x y v w r,BI t x y=some r->aB R ρ top x v->aB R ρ top y w->eqv t v w=some r){e:TypeId}{sz:Nat}{xs ys:List (au R.T)}{vs ws:List V}(hx:aI R ρ top xs vs)(hy:aI R ρ top ys ws):∀{is:List Nat}{r:Bool},Ov E BI e sz xs ys is=some r->GR E.P eqv e sz vs ws is=some r
 | [],r,h=>by cases h;rfl|i::is,r,h=>by
  unfold Ov at h;unfold GR;cases h1:nk E e xs (i*sz) with
  |none=>simp only[h1] at h;cases h|some a=>
   cases h2:nk E e ys (i*sz) with
   |none=>simp only[h1,h2] at h;cases h|some c=>
    cases h3:BI e a c with
    |none=>simp only[h1,h2,h3] at h;cases h|some r1=>
     cases h4:Ov E BI e sz xs ys is with
     |none=>simp only[h1,h2,h3,h4] at h;cases h|some q=>simp only[h1,h2,h3,h4] at h;cases h;obtain⟨v1,e1,g1⟩:=BH hx h1;obtain⟨v2,e2,g2⟩:=BH hy h2;simp[e1,e2,he _ _ _ _ _ _ h3 g1 g2,agU he hx hy h4]
theorem V5 {top:Nat->Nat}:∀(d:Nat)(t:TypeId)(x y:au R.T)(v w:V)(r:Bool),Ip E d t x y=some r->aB R ρ top x v->aB R ρ top y w->CK E.P d t v w=some r
 |0,_,_,_,_,_,_,h,_,_=>bL|d+1,t,x,y,v,w,r,h,hx,hy=>by
  unfold Ip at h;unfold CK;split at h
  ·rename_i fs xs ys hu
   obtain⟨l,rfl,h1⟩:=hx.mH;obtain⟨k,rfl,h2⟩:=hy.mH;rw[hu];dsimp only;split at h
   ·cases h
   ·rename_i hs;rw[if_neg hs];exact aav (V5 d) h1 h2 h
  ·rename_i n e xs ys hu
   obtain⟨l,rfl,h1⟩:=hx.mH;obtain⟨k,rfl,h2⟩:=hy.mH;rw[hu];dsimp only;cases hs:fq E.P e with
   |none=>simp only[hs] at h;cases h|some sz=>simp only[hs] at h;simp only[Option.bind_some];exact agU (V5 d) h1 h2 h
  ·cases h
  ·cases h
  ·rename_i hu
   obtain⟨a,c,rfl,rfl,rfl⟩:=agT h hx hy;rw[hu]
  ·rename_i k a k' c hu
   rw[hx.kI,hy.kI,hu];exact h
  ·rename_i a c hu
   rw[hx.o7,hy.o7,hu];exact h
  ·cases h
theorem agV {top:Nat->Nat}{t:TypeId}{x y:au R.T}{v w:V}{r:Bool}(h:Vp E t x y=some r)(hx:aB R ρ top x v)(hy:aB R ρ top y w):qQ E.P t v w=some r:=by
 unfold Vp at h;unfold qQ;split at h
 ·rename_i fs xs ys hu
  split at h
  ·cases h
  ·rename_i hs
   have:=V5 8 t _ _ v w r h hx hy;obtain⟨l,rfl,h1⟩:=hx.mH;obtain⟨k,rfl,h2⟩:=hy.mH;rw[hu];dsimp only;rw[if_neg hs];exact this
 ·rename_i fs xs ys hu
  split at h
  ·cases h
  ·rename_i hs
   have:=V5 8 t _ _ v w r h hx hy;obtain⟨l,rfl,h1⟩:=hx.mH;obtain⟨k,rfl,h2⟩:=hy.mH;rw[hu];dsimp only;rw[if_neg hs];exact this
 ·rename_i hu;cases h;unfold aB at hx hy;subst hx;subst hy;rw[hu]
 ·rename_i hu;cases h;obtain⟨a,b,rfl,_⟩:=hy.lG;unfold aB at hx;subst hx;rw[hu]
 ·rename_i hu;cases h;obtain⟨a,b,rfl,_⟩:=hx.lG;unfold aB at hy;subst hy;rw[hu]
 ·rename_i hu;obtain⟨a,c,rfl,rfl,rfl⟩:=agT h hx hy;rw[hu]
 ·cases h
end
end aR
end
