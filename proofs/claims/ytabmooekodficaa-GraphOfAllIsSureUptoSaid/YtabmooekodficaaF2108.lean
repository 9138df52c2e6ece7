import Derived.Test.YtabmooekodficaaF2107
set_option linter.all false
section
namespace Aq
open Go
theorem aJ {a b:Nat} (h:Nat.beq a b=true):a=b:=Nat.eq_of_beq_eq_true h
theorem lH {a b:Nat} (h:Nat.beq a b=false):a≠b:=fun e=>by rw[e,Rc] at h;cases h
theorem sK {a b:Nat} (h:a≠b):Nat.beq a b=false:=Bool.eq_false_iff.2 fun e=>h (aJ e)
section look
variable {α:Type}
theorem gD (f:α->α):∀(l:List (Nat×α)) (i:Nat),look (mapF f l) i=(look l i).map f
 | [],_=>rfl
 | (j,x)::l,i=>by
   show (bif Nat.beq j i then some (f x) else look (mapF f l) i)=Option.map f (bif Nat.beq j i then some x else look l i)
   cases Nat.beq j i
   ·exact gD f l i
   ·rfl
theorem dP {i j:Nat} (h:j≠i):∀(l:List (Nat×α)),look (delF i l) j=look l j
 | []=>rfl
 | (k,x)::l=>by
   show look (bif Nat.beq k i then delF i l else (k,x)::delF i l) j=bif Nat.beq k j then some x else look l j
   cases hk:Nat.beq k i
   ·show (bif Nat.beq k j then some x else look (delF i l) j)=_
    rw[dP h l]
   ·have:=aJ hk
    subst this
    rw[sK (Ne.symm h)]
    exact dP h l
theorem bH (l:List (Nat×α)) (i:Nat) (x:α):look ((i,x)::l) i=some x:=by
 show (bif Nat.beq i i then some x else look l i)=_;rw[Rc];rfl
theorem aT (l:List (Nat×α)) {i j:Nat} (x:α) (h:j≠i):look ((i,x)::l) j=look l j:=by
 show (bif Nat.beq i j then some x else look l j)=_;rw[sK (Ne.symm h)];rfl
end look
section
variable {R:Reg} {E:Env}
theorem Cn {ρ ρ':ak} {top top':Nat->Nat}:∀(t:Ty) (x:Den R.T t) (v:V),Rl R ρ top (tv1 R .any t x) v->Rl R ρ' top' (tv1 R .any t x) v
 |.int _,_,_,h=>h
 |.bool,_,_,h=>h
 |.str,_,_,h=>h
 |.slice _,_,_,h=>h
 |.st _,_,_,h=>h
theorem kD {ρ ρ':ak} {top top':Nat->Nat}:∀(l:List Ty) (p:PayT R.T l) (vs:List V),RlL R ρ top (tvs R .any l p) vs->RlL R ρ' top' (tvs R .any l p) vs
 | [],_,_,h=>h
 | [t],x,vs,h=>by
   obtain⟨v,l,rfl,h1,h2⟩:=h.inv_cons
   rw[h2.inv_nil]
   exact .cons' (Cn t x v h1) rfl
 |t::u::l,p,vs,h=>by
  obtain⟨v,ws,rfl,h1,h2⟩:=h.inv_cons
  exact .cons' (Cn t p.1 v h1) (kD (u::l) p.2 ws h2)
theorem Md {ρ ρ':ak} {top top':Nat->Nat} {t:Ty} {x:Den R.T t} {vs:List V} (h:RlL R ρ top (tvD R .any t x).cells vs):RlL R ρ' top' (tvD R .any t x).cells vs:=by
 cases t with
 |st n=>exact kD _ _ _ h
 |int k=>exact kD [.int k] x vs h
 |bool=>exact kD [.bool] x vs h
 |str=>exact kD [.str] x vs h
 |slice t=>exact kD [.slice t] x vs h
theorem RlL.split {ρ:ak} {top:Nat->Nat}:∀{ts ts':List (TV R.T)} {vs:List V},RlL R ρ top (ts++ts') vs->∃a b,vs=a++b/\RlL R ρ top ts a/\RlL R ρ top ts' b
 | [],_,vs,h=>⟨[],vs,rfl,rfl,h⟩
 |t::ts,ts',vs,h=>by
  obtain⟨v,ws,rfl,h1,h2⟩:=RlL.inv_cons (ts:=ts++ts') h
  obtain⟨a,b,rfl,h3,h4⟩:=RlL.split h2
  exact⟨v::a,b,rfl,.cons' h1 h3,h4⟩
theorem iw {ρ ρ':ak} {top top':Nat->Nat} {t:Ty}:∀(l:List (Den R.T t)) (vs:List V),RlL R ρ top (l.flatMap fun x=>(tvD R .any t x).cells) vs->RlL R ρ' top' (l.flatMap fun x=>(tvD R .any t x).cells) vs
 | [],vs,h=>h
 |x::l,vs,h=>by
  rw[QV] at h⊢
  obtain⟨a,b,rfl,h1,h2⟩:=h.split
  exact(Md h1).append (iw l b h2)
def bI (fr:Fr) (ρ:ak) (top:Nat->Nat):TV R.T->V->Prop
 |.opt j w y,v=>(fr.tm j= .bool w->Rl R ρ top y v)/\(fr.tm j= .bool (!w)\/fr.tm j=undefV->v=undefV)
 |x,v=>Rl R ρ top x v
theorem bI.of {fr:Fr} {ρ:ak} {top:Nat->Nat} {x:TV R.T} {v:V} (h:Rl R ρ top x v):bI fr ρ top x v:=by
 cases x<;>first|exact h|exact h.Cg.elim
def aK (ρ:ak) (σ:Sig) (o:Nat):Ob R.T->Prop
 |.cells cs=>∃s l,ρ.ob o=some s/\σ.cellsAt (ρ.om.lc o) s=some l/\RlL R ρ σ.top cs l
 |.map k e m=>∃s,ρ.ob o=some s/\σ.aV (ρ.om.lc o) s=some (m.map fun p=>encD R k p.1,m.map fun p=>encD R e p.2)
 |.smap ks vs=>∃s k l,ρ.ob o=some s/\σ.aV (ρ.om.lc o) s=some (k,l)/\RlL R ρ σ.top ks k/\RlL R ρ σ.top vs l
 |.arr t l=>l.length=ρ.ln o/\((l=[]/\ρ.ob o=none)\/∃s cs,ρ.ob o=some s/\σ.cellsAt (ρ.om.lc o) s=some cs/\RlL R ρ σ.top (l.flatMap fun x=>(tvD R .any t x).cells) cs)
 |.sg ss=>∃s,ρ.ob o=some s/\σ.cellsAt (ρ.om.lc o) s=some (sgV ss)
 |.gone=>True
 |.ro b=>aK ρ σ o b
theorem aK.strip {ρ:ak} {σ:Sig} {o:Nat}:∀{x:Ob R.T},aK ρ σ o x->aK ρ σ o (stripO x)
 |.cells _,h=>h
 |.map _ _ _,h=>h
 |.smap _ _,h=>h
 |.arr _ _,h=>h
 |.sg _,h=>h
 |.gone,h=>h
 |.ro b,h=>aK.strip (x:=b) h
structure aj (ρ:ak) (b:Nat) (st:MS R.T) (fr:Fr) (σ:Sig):Prop where
 d:fr.d=ρ.om.dp
 om:fr.om=ρ.om.om
 fr:∀i v,look st.fr i=some v->bI fr ρ σ.top v (fr.tm i)
 ob:∀o x,look st.ob o=some x->aK ρ σ o x
 inj:∀t u s,ρ.tk t=some s->ρ.tk u=some s->t=u
 lt:∀t s,ρ.tk t=some s->s<b
 ge:∀t s,ρ.tk t=some s->ρ.om.lo<=s
 nx:ρ.om.lo<=b
variable {ρ:ak} {b:Nat} {st:MS R.T} {fr:Fr} {σ:Sig}
theorem aj.le {b':Nat} (h:aj ρ b st fr σ) (hb:b<=b'):aj ρ b' st fr σ:={h with lt:=fun t s ht=>QF (h.lt t s ht) hb,nx:=Qw h.nx hb}
theorem aK.bump {o k:Nat}:∀{x:Ob R.T},aK ρ σ o x->aK ρ (σ.bump k) o x
 |.cells _,h=>h
 |.map _ _ _,h=>h
 |.smap _ _,h=>h
 |.arr _ _,h=>h
 |.sg _,h=>h
 |.gone,h=>h
 |.ro b,h=>aK.bump (x:=b) h
theorem aj.next (h:aj ρ b st fr σ) (k:Nat):aj ρ b st fr (σ.bump k):={h with fr:=h.fr,ob:=fun o x hx=>(h.ob o x hx).bump}
theorem aj.rd (h:aj ρ b st fr σ) {o:Nat} {x:Ob R.T} (hx:rdOb st o=some x):aK ρ σ o x:=by
 unfold rdOb at hx
 split at hx
 ·rename_i y hy;cases hx;exact(h.ob _ _ hy).strip
 ·cases hx
theorem Me {ρ:ak} {top:Nat->Nat} {x:TV R.T} {u v:V} {i:Nat} (h:bI fr ρ top x v):bI (fr.set i u) ρ top (unopt i x) v:=by
 cases x with
 |opt j w y=>
  show bI _ _ _ (bif Nat.beq j i then .gone else .opt j w y) v
  cases hj:Nat.beq j i
  ·have hs:(fr.set i u).tm j=fr.tm j:=pF _ _ (by simpa using lH hj)
   exact⟨fun hc=>h.1 (by rw[<-hs];exact hc),fun hc=>h.2 (by rw[<-hs];exact hc)⟩
  ·exact bI.of (x:=.gone) (by unfold Rl;trivial)
 |_=>exact h
theorem aj.put (h:aj ρ b st fr σ) (i:Nat) {x:TV R.T} {v:V} (hx:bI (fr.set i v) ρ σ.top x v):aj ρ b (st.put i x) (fr.set i v) σ where
 d:=h.d
 om:=h.om
 ob:=h.ob
 inj:=h.inj
 lt:=h.lt
 ge:=h.ge
 nx:=h.nx
 fr:=fun j y hy=>by
  by_cases e:j=i
  ·subst e
   have hy':some x=some y:=by rw[<-hy];exact(bH _ _ _).symm
   cases hy'
   rw[BL]
   exact hx
  ·have hy':look (mapF (unopt i) (delF i st.fr)) j=some y:=by rw[<-hy];exact(aT _ _ e).symm
   rw[gD,dP e,Qu] at hy'
   obtain⟨z,hz,rfl⟩:=hy'
   rw[pF _ _ (by simpa using e)]
   exact Me (h.fr j z hz)
theorem aj.putO (h:aj ρ b st fr σ) (d:Option Nat) {x:TV R.T} {v:V} (hx:Rl R ρ σ.top x v):aj ρ b (st.putO d x) (fr.put d v) σ:=by
 cases d with
 |none=>exact h
 |some i=>exact h.put i (.of hx)
theorem Mf {ρ:ak} {top:Nat->Nat} {x:TV R.T} {v:V} {i:Nat} {c:Bool} (hi:fr.tm i= .bool c) (h:bI fr ρ top x v):bI fr ρ top (lrn i c x) v:=by
 cases x with
 |opt j w y=>
  show bI _ _ _ (bif Nat.beq j i then (bif (c==w) then y else .undef) else .opt j w y) v
  cases hj:Nat.beq j i
  ·exact h
  ·have:=aJ hj
   subst this
   by_cases e:c=w
   ·subst e
    rw[beq_self_eq_true]
    exact bI.of (h.1 hi)
   ·rw[show (c==w)=false by simpa using e]
    have e':c= !w:=by cases c<;>cases w<;>first|rfl|exact absurd rfl e
    have h':=h.2 (.inl (by rw[hi,e']))
    subst h';exact bI.of (x:=.undef) (by unfold Rl;rfl)
 |_=>exact h
theorem aj.learn (h:aj ρ b st fr σ) {i:Nat} {c:Bool} (hc:fr.tm i= .bool c):aj ρ b (st.learn i c) fr σ where
 d:=h.d
 om:=h.om
 ob:=h.ob
 inj:=h.inj
 lt:=h.lt
 ge:=h.ge
 nx:=h.nx
 fr:=fun j y hy=>by
  by_cases e:j=i
  ·subst e
   have hy':some (TV.blit c)=some y:=by rw[<-hy];exact(bH _ _ _).symm
   cases hy'
   exact bI.of (x:=.blit c) (by unfold Rl;exact hc)
  ·have hy':look (mapF (lrn i c) (delF i st.fr)) j=some y:=by rw[<-hy];exact(aT _ _ e).symm
   rw[gD,dP e,Qu] at hy'
   obtain⟨z,hz,rfl⟩:=hy'
   exact Mf hc (h.fr j z hz)
def ak.bX (ρ:ak) (o s:Nat):ak:={ρ with ob:=upd ρ.ob o (some s)}
def ak.bg (ρ:ak) (t s:Nat):ak:={ρ with tk:=upd ρ.tk t (some s)}
theorem Co {ρ':ak} {top:Nat->Nat} {o:Nat} {x:TV R.T} {v:V} (ho:∀p,p≠o->ρ'.ob p=ρ.ob p/\ρ'.ln p=ρ.ln p) (ht:ρ'.tk=ρ.tk) (hx:ρ'.om=ρ.om) (h:bI fr ρ top x v):bI fr ρ' top (killO o x) v:=by
 unfold killO
 cases hm:ment o x
 ·cases x with
  |opt j w y=>exact⟨fun hc=>Rl.kill o ho ht hx y v hm (h.1 hc),h.2⟩
  |_=>exact bI.of (Rl.kill o ho ht hx _ v hm h)
 ·exact bI.of (x:=.gone) (by unfold Rl;trivial)
theorem wX (c:Cx) {o p:Nat} (h:p≠o):gQ (c.lc p) (c.lc o)=false:=by
 cases e:gQ (c.lc p) (c.lc o)
 ·rfl
 ·unfold gQ at e
  rw[iP,beq_iff_eq,beq_iff_eq] at e
  exact absurd (Prod.ext e.2 e.1) (c.Cc h)
theorem jJ {c:Cx} {o p:Nat} (σ:Sig) (s s':Nat) (x:AObj) (h:p≠o):(σ.setObj (c.lc o) s' x).cellsAt (c.lc p) s=σ.cellsAt (c.lc p) s:=BP σ s s' x (wX c h)
theorem ni {c:Cx} {o p:Nat} (σ:Sig) (s s':Nat) (x:AObj) (h:p≠o):(σ.setObj (c.lc o) s' x).aV (c.lc p) s=σ.aV (c.lc p) s:=BQ σ s s' x (wX c h)
theorem RlL.killC {ρ':ak} {top:Nat->Nat} {o:Nat} (ho:∀p,p≠o->ρ'.ob p=ρ.ob p/\ρ'.ln p=ρ.ln p) (ht:ρ'.tk=ρ.tk) (hx:ρ'.om=ρ.om):∀{cs:List (TV R.T)} {l:List V},RlL R ρ top cs l->RlL R ρ' top (killC o cs) l
 | [],_,h=>h
 |x::cs,_,h=>by
  obtain⟨v,ws,rfl,h1,h2⟩:=h.inv_cons
  refine .cons' ?_ (RlL.killC ho ht hx h2)
  unfold killO
  cases hm:ment o x
  ·exact Rl.kill o ho ht hx x v hm h1
  ·unfold Rl;trivial
theorem Cq {ρ':ak} {o p s':Nat} {a:AObj} (hp:p≠o) (ho:∀p,p≠o->ρ'.ob p=ρ.ob p/\ρ'.ln p=ρ.ln p) (ht:ρ'.tk=ρ.tk) (hx:ρ'.om=ρ.om):∀{x:Ob R.T},Ob.ment o x=false->aK ρ σ p x->aK ρ' (σ.setObj (ρ.om.lc o) s' a) p x
 |.cells cs,hm,h=>by
  obtain⟨s,l,h1,h2,h3⟩:=h
  exact⟨s,l,((ho p hp).1.trans h1),by rw[hx,jJ _ _ _ _ hp];exact h2,RlL.kill o ho ht hx _ _ hm h3⟩
 |.map k e m,_,h=>by
  obtain⟨s,h1,h2⟩:=h
  exact⟨s,((ho p hp).1.trans h1),by rw[hx,ni _ _ _ _ hp];exact h2⟩
 |.smap ks vs,hm,h=>by
  obtain⟨s,k,l,h1,h2,h3,h4⟩:=h
  have hm':(mentL o ks||mentL o vs)=false:=hm
  rw[QY] at hm'
  exact⟨s,k,l,((ho p hp).1.trans h1),by rw[hx,ni _ _ _ _ hp];exact h2,RlL.kill o ho ht hx _ _ hm'.1 h3,RlL.kill o ho ht hx _ _ hm'.2 h4⟩
 |.arr t l,hm,h=>by
  refine⟨h.1.trans (ho p hp).2.symm,?_⟩
  rcases h.2 with h| ⟨s,cs,h1,h2,h3⟩
  ·exact .inl ⟨h.1,(ho p hp).1.trans h.2⟩
  ·exact .inr ⟨s,cs,((ho p hp).1.trans h1),by rw[hx,jJ _ _ _ _ hp];exact h2,iw l cs h3⟩
 |.sg ss,_,h=>by
  obtain⟨s,h1,h2⟩:=h
  exact⟨s,((ho p hp).1.trans h1),by rw[hx,jJ _ _ _ _ hp];exact h2⟩
 |.gone,_,_=>trivial
 |.ro b,hm,h=>Cq hp ho ht hx (x:=b) hm h
theorem Mg {ρ':ak} {o p s':Nat} {a:AObj} {x:Ob R.T} (hp:p≠o) (ho:∀p,p≠o->ρ'.ob p=ρ.ob p/\ρ'.ln p=ρ.ln p) (ht:ρ'.tk=ρ.tk) (hx:ρ'.om=ρ.om) (h:aK ρ σ p x):aK ρ' (σ.setObj (ρ.om.lc o) s' a) p (Ob.kill o x):=by
 by_cases hc:∃cs,x= .cells cs
 ·obtain⟨cs,rfl⟩:=hc
  obtain⟨s,l,h1,h2,h3⟩:=h
  exact⟨s,l,((ho p hp).1.trans h1),by rw[hx,jJ _ _ _ _ hp];exact h2,RlL.killC ho ht hx h3⟩
 ·have e:Ob.kill o x=bif Ob.ment o x then .gone else x:=by cases x<;>first|rfl|exact absurd ⟨_,rfl⟩ hc
  rw[e]
  cases hm:Ob.ment o x
  ·exact Cq hp ho ht hx hm h
  ·trivial
theorem Cr {o p s:Nat} {a:AObj} (hp:p≠o):∀{x:Ob R.T},aK ρ σ p x->aK ρ (σ.setObj (ρ.om.lc o) s a) p x
 |.cells cs,h=>by obtain⟨s,l,h1,h2,h3⟩:=h;exact⟨s,l,h1,by rw[jJ _ _ _ _ hp];exact h2,h3⟩
 |.map k e m,h=>by obtain⟨s,h1,h2⟩:=h;exact⟨s,h1,by rw[ni _ _ _ _ hp];exact h2⟩
 |.smap ks vs,h=>by obtain⟨s,k,l,h1,h2,h3⟩:=h;exact⟨s,k,l,h1,by rw[ni _ _ _ _ hp];exact h2,h3⟩
 |.arr t l,h=>by
  refine⟨h.1,?_⟩
  rcases h.2 with h| ⟨s,cs,h1,h2,h3⟩
  ·exact .inl h
  ·exact .inr ⟨s,cs,h1,by rw[jJ _ _ _ _ hp];exact h2,h3⟩
 |.sg ss,h=>by obtain⟨s,h1,h2⟩:=h;exact⟨s,h1,by rw[jJ _ _ _ _ hp];exact h2⟩
 |.gone,_=>trivial
 |.ro b,h=>Cr hp (x:=b) h
theorem Ct {o t s n:Nat} (key:∀u s',u≠t->ρ.tk u=some s'->(ρ.bg t s).tk u=some s'/\(σ.aG s n).top s'=σ.top s'):∀{x:Ob R.T},aK ρ σ o x->aK (ρ.bg t s) (σ.aG s n) o (Ob.wk t x)
 |.cells cs,h=>by obtain⟨s',l,h1,h2,h3⟩:=h;exact⟨s',l,h1,h2,RlL.wk (ρ:=ρ) (ρ':=ρ.bg t s) (top:=σ.top) (top':=(σ.aG s n).top) t ⟨rfl,rfl,rfl⟩ key _ _ h3⟩
 |.map k e m,h=>h
 |.smap ks vs,h=>by obtain⟨s',k,l,h1,h2,h3,h4⟩:=h;exact⟨s',k,l,h1,h2,RlL.wk (ρ:=ρ) (ρ':=ρ.bg t s) (top:=σ.top) (top':=(σ.aG s n).top) t ⟨rfl,rfl,rfl⟩ key _ _ h3,RlL.wk (ρ:=ρ) (ρ':=ρ.bg t s) (top:=σ.top) (top':=(σ.aG s n).top) t ⟨rfl,rfl,rfl⟩ key _ _ h4⟩
 |.arr ty l,h=>by
  refine⟨h.1,?_⟩
  rcases h.2 with h| ⟨s,cs,h1,h2,h3⟩
  ·exact .inl h
  ·exact .inr ⟨s,cs,h1,h2,iw l cs h3⟩
 |.sg ss,h=>h
 |.gone,_=>trivial
 |.ro b,h=>Ct key (x:=b) h
theorem nu {o s:Nat}:∀p,p≠o->(ρ.bX o s).ob p=ρ.ob p/\(ρ.bX o s).ln p=ρ.ln p:=fun p h=>⟨by simp[ak.bX,upd,h],rfl⟩
def ak.lI (ρ:ak) (o n:Nat):ak:={ρ with ln:=upd ρ.ln o n}
theorem Cu {o n:Nat}:∀p,p≠o->(ρ.lI o n).ob p=ρ.ob p/\(ρ.lI o n).ln p=ρ.ln p:=fun p h=>⟨rfl,by simp[ak.lI,upd,h]⟩
def ak.gh (ρ:ak) (o:Nat):ak:={ρ.lI o 0 with ob:=upd ρ.ob o none}
theorem dZ {o:Nat}:∀p,p≠o->(ρ.gh o).ob p=ρ.ob p/\(ρ.gh o).ln p=ρ.ln p:=fun p h=>⟨by simp[ak.gh,upd,h],(Cu (ρ:=ρ) (n:=0) p h).2⟩
theorem iJ {o n:Nat}:(ρ.lI o n).ln o=n:=by simp[ak.lI,upd]
def ak.iY (ρ:ak) (o s n:Nat):ak:=(ρ.bX o s).lI o n
theorem wY {o s n:Nat}:∀p,p≠o->(ρ.iY o s n).ob p=ρ.ob p/\(ρ.iY o s n).ln p=ρ.ln p:=fun p h=>⟨(nu p h).1,(Cu p h).2⟩
theorem d9 {o s:Nat}:(ρ.bX o s).ob o=some s:=by simp[ak.bX,upd]
theorem aj.new' {ρ':ak} (h:aj ρ b st fr σ) (o s:Nat) {x:Ob R.T} {a:AObj} (nu:∀p,p≠o->ρ'.ob p=ρ.ob p/\ρ'.ln p=ρ.ln p) (ht:ρ'.tk=ρ.tk) (hom:ρ'.om=ρ.om) (hx:aK ρ' (σ.setObj (ρ.om.lc o) s a) o x):aj ρ' b (st.new o x) fr (σ.setObj (ρ.om.lc o) s a) where
 d:=by rw[hom];exact h.d
 om:=by rw[hom];exact h.om
 fr:=fun j y hy=>by
  have hy':look (mapF (killO o) st.fr) j=some y:=hy
  rw[gD,Qu] at hy'
  obtain⟨z,hz,rfl⟩:=hy'
  exact Co nu ht hom (h.fr j z hz)
 ob:=fun p y hy=>by
  by_cases e:p=o
  ·subst e
   have hy':some x=some y:=by rw[<-hy];exact(bH _ _ _).symm
   cases hy'
   exact hx
  ·have hy':look (mapF (Ob.kill o) (delF o st.ob)) p=some y:=by rw[<-hy];exact(aT _ _ e).symm
   rw[gD,dP e,Qu] at hy'
   obtain⟨z,hz,rfl⟩:=hy'
   exact Mg e nu ht hom (h.ob p z hz)
 inj:=by rw[ht];exact h.inj
 lt:=by rw[ht];exact h.lt
 ge:=by rw[ht,hom];exact h.ge
 nx:=by rw[hom];exact h.nx
theorem aj.new (h:aj ρ b st fr σ) (o s:Nat) {x:Ob R.T} {a:AObj} (hx:aK (ρ.bX o s) (σ.setObj (ρ.om.lc o) s a) o x):aj (ρ.bX o s) b (st.new o x) fr (σ.setObj (ρ.om.lc o) s a):=h.new' o s nu rfl rfl hx
theorem aj.lJ (h:aj ρ b st fr σ) (o s n:Nat) {x:Ob R.T} {a:AObj} (hx:aK (ρ.iY o s n) (σ.setObj (ρ.om.lc o) s a) o x):aj (ρ.iY o s n) b (st.new o x) fr (σ.setObj (ρ.om.lc o) s a):=h.new' o s wY rfl rfl hx
theorem Cv {ρ':ak} {o p:Nat} (hp:p≠o) (ho:∀p,p≠o->ρ'.ob p=ρ.ob p/\ρ'.ln p=ρ.ln p) (ht:ρ'.tk=ρ.tk) (hx:ρ'.om=ρ.om):∀{x:Ob R.T},Ob.ment o x=false->aK ρ σ p x->aK ρ' σ p x
 |.cells cs,hm,h=>by
  obtain⟨s,l,h1,h2,h3⟩:=h
  exact⟨s,l,((ho p hp).1.trans h1),by rw[hx];exact h2,RlL.kill o ho ht hx _ _ hm h3⟩
 |.map k e m,_,h=>by
  obtain⟨s,h1,h2⟩:=h
  exact⟨s,((ho p hp).1.trans h1),by rw[hx];exact h2⟩
 |.smap ks vs,hm,h=>by
  obtain⟨s,k,l,h1,h2,h3,h4⟩:=h
  have hm':(mentL o ks||mentL o vs)=false:=hm
  rw[QY] at hm'
  exact⟨s,k,l,((ho p hp).1.trans h1),by rw[hx];exact h2,RlL.kill o ho ht hx _ _ hm'.1 h3,RlL.kill o ho ht hx _ _ hm'.2 h4⟩
 |.arr t l,hm,h=>by
  refine⟨h.1.trans (ho p hp).2.symm,?_⟩
  rcases h.2 with h| ⟨s,cs,h1,h2,h3⟩
  ·exact .inl ⟨h.1,(ho p hp).1.trans h.2⟩
  ·exact .inr ⟨s,cs,((ho p hp).1.trans h1),by rw[hx];exact h2,iw l cs h3⟩
 |.sg ss,_,h=>by
  obtain⟨s,h1,h2⟩:=h
  exact⟨s,((ho p hp).1.trans h1),by rw[hx];exact h2⟩
 |.gone,_,_=>trivial
 |.ro b,hm,h=>Cv hp ho ht hx (x:=b) hm h
theorem aj.ghost (h:aj ρ b st fr σ) (o:Nat) (t:Ty):aj (ρ.gh o) b (st.new o (.arr t [])) fr σ where
 d:=h.d
 om:=h.om
 fr:=fun j y hy=>by
  have hy':look (mapF (killO o) st.fr) j=some y:=hy
  rw[gD,Qu] at hy'
  obtain⟨z,hz,rfl⟩:=hy'
  exact Co dZ rfl rfl (h.fr j z hz)
 ob:=fun p y hy=>by
  by_cases e:p=o
  ·subst e
   have hy':some (Ob.arr t ([]:List (Den R.T t)))=some y:=by rw[<-hy];exact(bH _ _ _).symm
   cases hy'
   exact⟨(iJ (ρ:=ρ) (n:=0)).symm,.inl ⟨rfl,by simp[ak.gh,upd]⟩⟩
  ·have hy':look (mapF (Ob.kill o) (delF o st.ob)) p=some y:=by rw[<-hy];exact(aT _ _ e).symm
   rw[gD,dP e,Qu] at hy'
   obtain⟨z,hz,rfl⟩:=hy'
   by_cases hc:∃cs,z= .cells cs
   ·obtain⟨cs,rfl⟩:=hc
    obtain⟨s,l,h1,h2,h3⟩:=h.ob p _ hz
    exact⟨s,l,((dZ (ρ:=ρ) p e).1.trans h1),h2,RlL.killC dZ rfl rfl h3⟩
   ·have e2:Ob.kill o z=bif Ob.ment o z then .gone else z:=by cases z<;>first|rfl|exact absurd ⟨_,rfl⟩ hc
    rw[e2]
    cases hm:Ob.ment o z
    ·exact Cv e dZ rfl rfl hm (h.ob p z hz)
    ·trivial
 inj:=h.inj
 lt:=h.lt
 ge:=h.ge
 nx:=h.nx
theorem Cw {c:Cx} {o p:Nat} (σ:Sig) (h:p≠o):(σ.aR (c.lc o)).obj (c.lc p)=σ.obj (c.lc p):=by
 unfold Sig.aR upd
 dsimp only
 rw[if_neg (c.Cc h)]
theorem Cy {σ':Sig} {p:Nat} (hp:σ'.obj (ρ.om.lc p)=σ.obj (ρ.om.lc p)) (ht:σ'.top=σ.top):∀{x:Ob R.T},aK ρ σ p x->aK ρ σ' p x
 |.cells cs,h=>by
  obtain⟨s,l,h1,h2,h3⟩:=h
  exact⟨s,l,h1,by unfold Sig.cellsAt at h2⊢;rw[hp];exact h2,by rw[ht];exact h3⟩
 |.map k e m,h=>by
  obtain⟨s,h1,h2⟩:=h
  exact⟨s,h1,by unfold Sig.aV at h2⊢;rw[hp];exact h2⟩
 |.smap ks vs,h=>by
  obtain⟨s,k,l,h1,h2,h3,h4⟩:=h
  exact⟨s,k,l,h1,by unfold Sig.aV at h2⊢;rw[hp];exact h2,by rw[ht];exact h3,by rw[ht];exact h4⟩
 |.arr t l,h=>by
  refine⟨h.1,?_⟩
  rcases h.2 with h| ⟨s,cs,h1,h2,h3⟩
  ·exact .inl h
  ·exact .inr ⟨s,cs,h1,by unfold Sig.cellsAt at h2⊢;rw[hp];exact h2,iw l cs h3⟩
 |.sg ss,h=>by
  obtain⟨s,h1,h2⟩:=h
  exact⟨s,h1,by unfold Sig.cellsAt at h2⊢;rw[hp];exact h2⟩
 |.gone,_=>trivial
 |.ro b,h=>Cy hp ht (x:=b) h
theorem aj.del (h:aj ρ b st fr σ) (o:Nat):aj ρ b (st.del o) fr (σ.aR (ρ.om.lc o)) where
 d:=h.d
 om:=h.om
 fr:=h.fr
 ob:=fun p y hy=>by
  by_cases e:p=o
  ·subst e
   have:look (delF p st.ob) p=some y:=hy
   have key:∀l:List (Nat×Ob R.T),look (delF p l) p=none:=by
    intro l
    induction l with
    |nil=>rfl
    |cons q l ih=>
     obtain⟨j,x⟩:=q
     unfold delF
     cases hj:Nat.beq j p
     ·show (bif Nat.beq j p then some x else look (delF p l) p)=none
      rw[hj];exact ih
     ·exact ih
   rw[key] at this;cases this
  ·have hy':look (delF o st.ob) p=some y:=hy
   rw[dP e] at hy'
   exact Cy (Cw σ e) rfl (h.ob p y hy')
 inj:=h.inj
 lt:=h.lt
 ge:=h.ge
 nx:=h.nx
theorem aj.set (h:aj ρ b st fr σ) (o s:Nat) {x:Ob R.T} {a:AObj} (hx:aK ρ (σ.setObj (ρ.om.lc o) s a) o x):aj ρ b (st.set o x) fr (σ.setObj (ρ.om.lc o) s a) where
 d:=h.d
 om:=h.om
 fr:=h.fr
 ob:=fun p y hy=>by
  by_cases e:p=o
  ·subst e
   have hy':some x=some y:=by rw[<-hy];exact(bH _ _ _).symm
   cases hy'
   exact hx
  ·have hy':look (delF o st.ob) p=some y:=by rw[<-hy];exact(aT _ _ e).symm
   rw[dP e] at hy'
   exact Cr e (h.ob p y hy')
 inj:=h.inj
 lt:=h.lt
 ge:=h.ge
 nx:=h.nx
theorem aj.wk (h:aj ρ b st fr σ) (t s n:Nat) {b':Nat} (hb:b<=b') (hs:s<b') (hl:ρ.om.lo<=s) (hf:∀u,u≠t->ρ.tk u≠some s):aj (ρ.bg t s) b' (st.wk t) fr (σ.aG s n) where
 d:=h.d
 om:=h.om
 fr:=fun j y hy=>by
  have hy':look (mapF (Aq.wk t) st.fr) j=some y:=hy
  rw[gD,Qu] at hy'
  obtain⟨z,hz,rfl⟩:=hy'
  have hz':=h.fr j z hz
  have key:∀u s',u≠t->ρ.tk u=some s'->(ρ.bg t s).tk u=some s'/\(σ.aG s n).top s'=σ.top s':=fun u s' hu hs'=>
   ⟨by simp[ak.bg,upd,hu,hs'],sF _ _ fun e=>hf u hu (by rw[hs',e])⟩
  cases z with
  |opt j' w y=>exact⟨fun hc=>Rl.wk (ρ:=ρ) (ρ':=ρ.bg t s) (top:=σ.top) (top':=(σ.aG s n).top) t ⟨rfl,rfl,rfl⟩ key y _ (hz'.1 hc),hz'.2⟩
  |_=>exact bI.of (Rl.wk (ρ:=ρ) (ρ':=ρ.bg t s) (top:=σ.top) (top':=(σ.aG s n).top) t ⟨rfl,rfl,rfl⟩ key _ _ hz')
 ob:=fun p y hy=>by
  have hy':look (mapF (Ob.wk t) st.ob) p=some y:=hy
  rw[gD,Qu] at hy'
  obtain⟨z,hz,rfl⟩:=hy'
  have hz':=h.ob p z hz
  have key:∀u s',u≠t->ρ.tk u=some s'->(ρ.bg t s).tk u=some s'/\(σ.aG s n).top s'=σ.top s':=fun u s' hu hs'=>
   ⟨by simp[ak.bg,upd,hu,hs'],sF _ _ fun e=>hf u hu (by rw[hs',e])⟩
  exact Ct key hz'
 inj:=fun u v s' hu hv=>by
  by_cases e1:u=t<;>by_cases e2:v=t
  ·rw[e1,e2]
  ·simp[ak.bg,upd,e1] at hu;simp[ak.bg,upd,e2] at hv;exact absurd (hu▸hv) (hf v e2)
  ·simp[ak.bg,upd,e1] at hu;simp[ak.bg,upd,e2] at hv;exact absurd (hv▸hu) (hf u e1)
  ·simp[ak.bg,upd,e1] at hu;simp[ak.bg,upd,e2] at hv;exact h.inj u v s' hu hv
 lt:=fun u s' hu=>by
  by_cases e1:u=t
  ·simp[ak.bg,upd,e1] at hu;omega
  ·simp[ak.bg,upd,e1] at hu;exact QF (h.lt u s' hu) hb
 ge:=fun u s' hu=>by
  by_cases e1:u=t
  ·simp[ak.bg,upd,e1] at hu;rw[<-hu];exact hl
  ·simp[ak.bg,upd,e1] at hu;exact h.ge u s' hu
 nx:=Qw h.nx hb
theorem Cz {top:Nat->Nat} {x:TV R.T} {v:Value} (h:ofScalarM v=some x):∃y,bP v=some y/\Rl R ρ top x y:=by
 unfold ofScalarM at h
 split at h<;>cases h<;>exact⟨_,rfl,by unfold Rl;rfl⟩
theorem CB {top:Nat->Nat}:∀{vs:List Value} {l:List (TV R.T)},ofScalarsM vs=some l->∃y,vs.mapM bP=some y/\RlL R ρ top l y
 | [],l,h=>by cases h;exact⟨[],rfl,rfl⟩
 |v::vs,l,h=>by
  unfold ofScalarsM at h
  cases h1:(ofScalarM v:Option (TV R.T)) with
  |none=>simp only[h1] at h;cases h
  |some a=>
   cases h2:(ofScalarsM vs:Option (List (TV R.T))) with
   |none=>simp only[h1,h2] at h;cases h
   |some as=>
    simp only[h1,h2] at h;cases h
    obtain⟨y,hy,hr⟩:=Cz (ρ:=ρ) (top:=top) h1
    obtain⟨ys,hys,hrs⟩:=CB h2
    exact⟨y::ys,by simp[hy,hys],.cons' hr hrs⟩
theorem CF {top:Nat->Nat} {x:TV R.T} {v:Value} (h:ofValueM v=some x):∃y,ofValue v=some y/\Rl R ρ top x y:=by
 unfold ofValueM at h
 split at h
 ·rename_i cs
  cases h2:(ofScalarsM cs.toList:Option (List (TV R.T))) with
  |none=>simp only[h2] at h;cases h
  |some l=>
   simp only[h2] at h;cases h
   obtain⟨ys,hys,hrs⟩:=CB (ρ:=ρ) (top:=top) h2
   exact⟨.agg ys,by simp[ofValue,hys],by unfold Rl;exact⟨_,rfl,hrs⟩⟩
 ·obtain⟨y,hy,hr⟩:=Cz (ρ:=ρ) (top:=top) h
  refine⟨y,?_,hr⟩
  unfold ofScalarM at h
  split at h<;>first|exact hy|cases h
def fM (fr:Fr) (g:List (Nat×Bool)):Prop:=∀j u,look g j=some u->fr.tm j= .bool u
theorem fM.nil:fM fr []:=fun _ _ h=>by cases h
theorem fM.cons {g:List (Nat×Bool)} {j:Nat} {u:Bool} (h:fr.tm j= .bool u) (hg:fM fr g):fM fr ((j,u)::g):=fun i v hi=>by
 by_cases e:i=j
 ·subst e;rw[bH] at hi;cases hi;exact h
 ·rw[aT _ _ e] at hi;exact hg i v hi
theorem Mh {fr:Fr} {top:Nat->Nat} {g:List (Nat×Bool)} (hg:fM fr g) {y x:TV R.T} {v:V} (hy:bI fr ρ top y v) (he:resG g y=some x):Rl R ρ top x v:=by
 cases y with
 |opt j w z=>
  unfold resG at he
  dsimp only at he
  split at he
  ·rename_i u hu
   cases he
   have:=hg j u hu
   by_cases e:u=w
   ·subst e;rw[beq_self_eq_true];exact hy.1 this
   ·rw[show (u==w)=false by simpa using e]
    have e':u= !w:=by cases u<;>cases w<;>first|rfl|exact absurd rfl e
    unfold Rl;exact hy.2 (.inl (by rw[this,e']))
  ·cases he
 |_=>cases he;exact hy
theorem aC (h:aj ρ b st fr σ) {g:List (Nat×Bool)} (hg:fM fr g) {o:Operand} {x:TV R.T} (he:evM g st o=some x):Rl R ρ σ.top x (fr.ev E o):=by
 cases o with
 |tmp t=>
  rw[mU]
  unfold evM at he
  dsimp only at he
  split at he
  ·rename_i v hv;exact Mh hg (h.fr _ _ hv) he
  ·cases he
 |const v=>
  rw[BM]
  obtain⟨y,hy,hr⟩:=CF (ρ:=ρ) (top:=σ.top) (show ofValueM v=some x from he)
  rw[hy];exact hr
 |func f=>cases he;rw[BN];unfold Rl;exact⟨[],[],rfl,rfl,rfl⟩
 |global i=>cases he
theorem jm (h:aj ρ b st fr σ) {g:List (Nat×Bool)} (hg:fM fr g):∀{l:List Operand} {xs:List (TV R.T)},evMs g st l=some xs->RlL R ρ σ.top xs (l.map (fr.ev E))
 | [],xs,he=>by cases he;rfl
 |o::l,xs,he=>by
  unfold evMs at he
  cases h1:evM g st o with
  |none=>simp only[h1] at he;cases he
  |some a=>
   cases h2:evMs g st l with
   |none=>simp only[h1,h2] at he;cases he
   |some as=>simp only[h1,h2] at he;cases he;exact .cons' (aC h hg h1) (jm h hg h2)
theorem wZ (h:aj ρ b st fr σ) {g:List (Nat×Bool)} (hg:fM fr g):∀{l:List (Nat×Operand)} {xs:List (Nat×TV R.T)},evPs g st l=some xs->xs.map (·.1)=l.map (·.1)/\RlL R ρ σ.top (xs.map (·.2)) (l.map fun p=>fr.ev E p.2)
 | [],xs,he=>by cases he;exact⟨rfl,rfl⟩
 | (i,o)::l,xs,he=>by
   unfold evPs at he
   cases h1:evM g st o with
   |none=>simp only[h1] at he;cases he
   |some a=>
    cases h2:evPs g st l with
    |none=>simp only[h1,h2] at he;cases he
    |some as=>
     simp only[h1,h2] at he;cases he
     obtain⟨e1,e2⟩:=wZ h hg h2
     exact⟨by simp[e1],.cons' (aC h hg h1) e2⟩
end
end Aq
end
section
namespace Aq
open Go
theorem Mi {n m:Nat} {v:Vec n} {w:Vec m} (h:castV v=some w):n=m/\HEq v w:=by
 unfold castV at h
 split at h
 ·rename_i e;subst e;cases h;exact⟨rfl,HEq.rfl⟩
 ·cases h
theorem CG:∀{k:SgK} {s:Sg} {x:PayG1 k},pk1 k s=some x->up1 k x=s
 |.i k,.i k' y,x,h=>by
  have h':(if k'=k then some y else none)=some (x:Int):=h
  by_cases e:k'=k
  ·subst e;rw[if_pos rfl] at h';cases h';rfl
  ·rw[if_neg e] at h';cases h'
 |.a k n,.a k' n' v,x,h=>by
  have h':(if k'=k then castV (m:=n) v else none)=some (x:Vec n):=h
  by_cases e:k'=k
  ·subst e;rw[if_pos rfl] at h'
   obtain⟨e1,e2⟩:=Mi h'
   subst e1;cases e2;rfl
  ·rw[if_neg e] at h';cases h'
 |.i k,.a _ _ _,x,h=>by cases h
 |.a k n,.i _ _,x,h=>by cases h
theorem sM:∀{l:List SgK} {ss:List Sg} {x:PayG l},pkG l ss=some x->upG l x=ss
 | [],ss,x,h=>by
   cases ss with
   |nil=>rfl
   |cons s ss=>cases h
 | [k],ss,x,h=>by
   cases ss with
   |nil=>cases h
   |cons s ss=>
    cases ss with
    |nil=>
     show [up1 k x]=[s]
     rw[CG (show pk1 k s=some x from h)]
    |cons s' ss=>cases h
 |k::k'::l,ss,x,h=>by
  cases ss with
  |nil=>cases h
  |cons s ss=>
   have h':(match pk1 k s with
    |some x=>match pkG (k'::l) ss with
     |some p=>some (x,p)
     |none=>none
    |none=>none)=some x:=h
   cases hu:pk1 k s with
   |none=>simp only[hu] at h';cases h'
   |some y=>
    cases hs:pkG (k'::l) ss with
    |none=>simp only[hu,hs] at h';cases h'
    |some q=>
     simp only[hu,hs] at h'
     obtain rfl:=QL h'
     show up1 k y::upG (k'::l) q=s::ss
     rw[CG hu,sM hs]
section
variable {R:Reg} (hR:RegOK R)
variable {ρ:ak} {top:Nat->Nat} {b:Nat} {st:MS R.T} {fr:Fr} {σ:Sig}
include hR
theorem lK {t:Ty} {x:Den R.T t} {tv:TV R.T} {v:V} (h:un1 R t tv=some x) (hr:Rl R ρ top tv v):Rl R ρ top (tv1 R .any t x) v:=by
 cases t with
 |int k=>rw[wQ h hr];unfold Rl;rfl
 |bool=>rw[wR h hr];unfold Rl;rfl
 |str=>rw[wT h hr];unfold Rl;rfl
 |slice t=>obtain⟨c,hv⟩:=Ck h hr;rw[hv];unfold Rl;exact⟨c,rfl,trivial⟩
 |st n=>cases h
theorem CJ:∀(l:List Ty) (p:PayT R.T l) (cs:List (TV R.T)) (vs:List V),uns R l cs=some p->RlL R ρ top cs vs->RlL R ρ top (tvs R .any l p) vs
 | [],p,cs,vs,h,hr=>by
   cases cs with
   |nil=>rw[hr.inv_nil];rfl
   |cons c cs=>cases h
 | [t],p,cs,vs,h,hr=>by
   have h':un1 R t (hd1 R cs)=some p:=h
   cases cs with
   |nil=>cases t<;>cases h'
   |cons c cs=>
    cases cs with
    |nil=>
     obtain⟨v,l,rfl,h1,h2⟩:=hr.inv_cons
     rw[h2.inv_nil]
     exact .cons' (lK hR h' h1) rfl
    |cons c' cs=>cases t<;>cases h'
 |t::u::l,p,cs,vs,h,hr=>by
  cases cs with
  |nil=>cases h
  |cons c cs=>
   obtain⟨v,vs,rfl,h1,h2⟩:=hr.inv_cons
   unfold uns at h
   cases hu:un1 R t c with
   |none=>simp only[hu] at h;cases h
   |some y=>
    cases hs:uns R (u::l) cs with
    |none=>simp only[hu,hs] at h;cases h
    |some q=>
     simp only[hu,hs] at h
     obtain rfl:=QL h
     exact .cons' (lK hR hu h1) (CJ (u::l) q cs vs hs h2)
theorem lM {t:Ty} {x:Den R.T t} {tv:TV R.T} {v:V} (h:unD R t tv=some x) (hr:Rl R ρ top tv v):Rl R ρ top (tvD R .any t x) v:=by
 cases t with
 |st n=>
  change unSt R n tv=some x at h
  unfold unSt at h
  split at h
  ·rename_i cs
   split at h
   ·rename_i p hp
    obtain rfl:=QL h
    obtain⟨l,hv,hl⟩:=hr.bY
    subst hv
    show Rl R ρ top (.agg (tvs R .any (R.lf n) (R.of n (R.to n p)))) _
    rw[hR.of_to]
    unfold Rl;exact⟨l,rfl,CJ hR _ _ _ _ hp hl⟩
   ·cases h
  ·cases h
 |int k=>exact lK hR (t:=.int k) h hr
 |bool=>exact lK hR (t:=.bool) h hr
 |str=>exact lK hR (t:=.str) h hr
 |slice t=>exact lK hR (t:=.slice t) h hr
omit hR in
theorem CK {sz n:Nat} {c c':Cp} {x:Cap} (h:capLe c c'=true) (hx:mW ρ top sz n c x):mW ρ top sz n c' x:=by
 cases c<;>cases c'<;>simp only[capLe,Qv] at h<;>first|trivial|exact hx|exact .inl hx|exact .inr (.inl hx)| (rw[<-aJ h];exact hx)
omit hR in
theorem w9 {k e k' e':Ty} {m:List (Den R.T k'×Den R.T e')} {x:List (Den R.T k×Den R.T e)} (h:castM R m=some x):k'=k/\e'=e/\HEq m x:=by
 unfold castM at h
 split at h
 ·rename_i e;obtain⟨rfl,rfl⟩:=e;cases h;exact⟨rfl,rfl,HEq.rfl⟩
 ·cases h
omit hR in
theorem CO {c:Cp} {t:Ty} {x:List (Den R.T t)} {tv:TV R.T} {v:V} (h:pkLst R c t tv=some x) (hr:Rl R ρ top tv v):Rl R ρ top (.lst c t x) v:=by
 unfold pkLst at h
 split at h
 ·rename_i c' t' l
  cases hc:capLe c' c
  ·rw[hc] at h;cases h
  ·rw[hc,cond_true] at h
   obtain⟨e,e2⟩:=iq h;subst e;cases e2
   obtain⟨c'',hv,hcc⟩:=hr.bW
   unfold Rl;exact⟨c'',hv,CK hc hcc⟩
 ·cases hc:capLe .nil c
  ·rw[hc] at h;cases h
  ·rw[hc,cond_true] at h;cases h
   unfold Rl;exact⟨.nil,hr.eP,CK hc rfl⟩
 ·cases h
mutual
theorem pK:∀(k:Sk) (x:PayS R.T k) (tv:TV R.T) (v:V),pk R k tv=some x->Rl R ρ top tv v->Rl R ρ top (up R .any k x) v
 |.d t,x,tv,v,h,hr=>lM hR (by unfold pk at h;exact h) hr
 |.l c t,x,tv,v,h,hr=>CO (by unfold pk at h;exact h) hr
 |.agg l,x,tv,v,h,hr=>by
  cases tv<;>first| (exact absurd (show none=some x from h) (by simp))|skip
  rename_i cs
  obtain⟨vs,rfl,hl⟩:=hr.bY
  show Rl R ρ top (.agg (upL R .any l x)) _
  unfold Rl;exact⟨vs,rfl,jo l x cs vs h hl⟩
 |.ref o off,x,tv,v,h,hr=>by
  cases tv<;>first| (exact absurd (show none=some x from h) (by simp))|skip
  rename_i p off'
  have h':(bif Nat.beq p o&& Nat.beq off' off then some () else none)=some x:=h
  cases hb:(Nat.beq p o&& Nat.beq off' off)
  ·rw[hb] at h';cases h'
  ·rw[iP] at hb
   rw[aJ hb.1,aJ hb.2] at hr
   exact hr
 |.cref l off,x,tv,v,h,hr=>by
  cases tv<;>first| (exact absurd (show none=some x from h) (by simp))|skip
  rename_i cs off'
  have h':(bif Nat.beq off' off then pkL R l cs else none)=some x:=h
  cases hb:Nat.beq off' off
  ·rw[hb] at h';cases h'
  ·rw[hb,cond_true] at h'
   rw[aJ hb] at hr
   obtain⟨vs,rfl,hl⟩:=hr.gy
   show Rl R ρ top (.cref (upL R .any l x) off) _
   unfold Rl;exact⟨vs,rfl,jo l x _ vs h' hl⟩
 |.mapr o,x,tv,v,h,hr=>by
  cases tv<;>first| (exact absurd (show none=some x from h) (by simp))|skip
  rename_i p
  have h':(bif Nat.beq p o then some () else none)=some x:=h
  cases hb:Nat.beq p o
  ·rw[hb] at h';cases h'
  ·rw[aJ hb] at hr
   exact hr
 |.mapc k e,x,tv,v,h,hr=>by
  cases tv<;>first| (exact absurd (show none=some x from h) (by simp))|skip
  rename_i k' e' m
  obtain⟨e1,e2,e3⟩:=w9 (show castM R m=some x from h)
  subst e1;subst e2;cases e3
  exact hr
 |.fn f a b,x,tv,v,h,hr=>by
  cases tv<;>first| (exact absurd (show none=some x from h) (by simp))|skip
  rename_i f' a' b'
  have h':(bif Nat.beq f' f then (match pkL R a a' with
   |some x=>match pkL R b b' with
    |some y=>some (x,y)
    |none=>none
   |none=>none) else none)=some x:=h
  cases hb:Nat.beq f' f
  ·rw[hb] at h';cases h'
  ·rw[hb,cond_true] at h'
   rw[aJ hb] at hr
   obtain⟨va,vb,rfl,ha,hbb⟩:=hr.dn
   cases h1:pkL R a a' with
   |none=>simp only[h1] at h';cases h'
   |some y=>
    cases h2:pkL R b b' with
    |none=>simp only[h1,h2] at h';cases h'
    |some z=>
     simp only[h1,h2] at h';cases h'
     show Rl R ρ top (.fn f (upL R .any a y) (upL R .any b z)) _
     unfold Rl;exact⟨va,vb,rfl,jo a y _ va h1 ha,jo b z _ vb h2 hbb⟩
 |.nils,x,tv,v,h,hr=>by
  cases tv<;>first| (exact absurd (show none=some x from h) (by simp))|skip
  exact hr
 |.vw o t,x,tv,v,h,hr=>by
  cases tv<;>first| (exact absurd (show none=some x from h) (by simp))|skip
  rename_i p t'
  have h':(bif Nat.beq p o then (if t'=t then some () else none) else none)=some x:=h
  cases hb:Nat.beq p o
  ·rw[hb] at h';cases h'
  ·rw[hb,cond_true] at h'
   split at h'
   ·rename_i e
    rw[aJ hb,e] at hr
    exact hr
   ·cases h'
 |.sub o t,x,tv,v,h,hr=>by
  cases tv<;>first| (exact absurd (show none=some x from h) (by simp))|skip
  rename_i p t' a b
  have h':(bif Nat.beq p o then (if t'=t then some (a,b) else none) else none)=some x:=h
  cases hb:Nat.beq p o
  ·rw[hb] at h';cases h'
  ·rw[hb,cond_true] at h'
   split at h'
   ·rename_i e
    cases h'
    rw[aJ hb,e] at hr
    exact hr
   ·cases h'
 |.sg l,x,tv,v,h,hr=>by
  cases tv<;>first| (exact absurd (show none=some x from h) (by simp))|skip
  rename_i ss
  show Rl R ρ top (.sg (upG l x)) v
  rw[sM (show pkG l ss=some x from h)]
  exact hr
 |.undef,x,tv,v,h,hr=>by
  cases tv<;>first| (exact absurd (show none=some x from h) (by simp))|skip
  exact hr
theorem jo:∀(l:List Sk) (x:PayL R.T l) (cs:List (TV R.T)) (vs:List V),pkL R l cs=some x->RlL R ρ top cs vs->RlL R ρ top (upL R .any l x) vs
 | [],x,cs,vs,h,hr=>by
   cases cs with
   |nil=>rw[hr.inv_nil];rfl
   |cons c cs=>exact absurd (show none=some x from h) (by simp)
 | [k],x,cs,vs,h,hr=>by
   cases cs with
   |nil=>exact absurd (show none=some x from h) (by simp)
   |cons c cs=>
    cases cs with
    |nil=>
     obtain⟨v,l,rfl,h1,h2⟩:=hr.inv_cons
     rw[h2.inv_nil]
     show RlL R ρ top [up R .any k x] _
     exact .cons' (pK k x _ v h h1) rfl
    |cons c' cs=>exact absurd (show none=some x from h) (by simp)
 |k::k'::l,x,cs,vs,h,hr=>by
  cases cs with
  |nil=>exact absurd (show none=some x from h) (by simp)
  |cons c cs=>
   have h':(match pk R k c with
    |some x=>match pkL R (k'::l) cs with
     |some p=>some (x,p)
     |none=>none
    |none=>none)=some x:=h
   obtain⟨v,vs,rfl,h1,h2⟩:=hr.inv_cons
   cases hu:pk R k c with
   |none=>simp only[hu] at h';cases h'
   |some y=>
    cases hs:pkL R (k'::l) cs with
    |none=>simp only[hu,hs] at h';cases h'
    |some q=>
     simp only[hu,hs] at h'
     obtain rfl:=QL h'
     show RlL R ρ top (up R .any k y::upL R .any (k'::l) q) _
     exact .cons' (pK k y _ v hu h1) (jo (k'::l) q _ vs hs h2)
end
omit hR in
theorem Mj {k:Sk} {j:Nat} {w:Bool} {y:TV R.T} {x:PayS R.T k} (h:pk R k (.opt j w y)=some x):False:=by
 cases k with
 |d t=>cases t<;>(unfold pk at h;cases h)
 |_=>unfold pk at h;cases h
theorem bI.pk {k:Sk} {x:PayS R.T k} {tv:TV R.T} {v:V} (h:pk R k tv=some x) (hr:bI fr ρ top tv v):Rl R ρ top (up R .any k x) v:=by
 cases tv<;>first|exact pK hR _ _ _ _ h hr|exact(Mj h).elim
theorem xg (h:aj ρ b st fr σ):∀(l:List (Nat×Sk)) (x:PaySl R.T l),pkSl R st.fr l=some x->∀i v,look (upSl R l x) i=some v->Rl R ρ σ.top v (fr.tm i)
 | [],x,hx,i,v,hv=>by cases hv
 | [(j,k)],x,hx,i,v,hv=>by
   unfold pkSl at hx
   split at hx
   ·rename_i y hy
    by_cases e:i=j
    ·subst e
     have hv':look [(i,up R .any k x)] i=some v:=hv
     rw[bH] at hv';cases hv'
     exact bI.pk hR hx (h.fr _ _ hy)
    ·have hv':look [(j,up R .any k x)] i=some v:=hv
     rw[aT _ _ e] at hv';cases hv'
   ·cases hx
 | (j,k)::q::l,x,hx,i,v,hv=>by
   unfold pkSl at hx
   split at hx
   ·rename_i y hy
    cases hu:pk R k y with
    |none=>simp only[hu] at hx;cases hx
    |some z=>
     cases hs:pkSl R st.fr (q::l) with
     |none=>simp only[hu,hs] at hx;cases hx
     |some p=>
      simp only[hu,hs] at hx
      obtain rfl:=QL hx
      have hv':look ((j,up R .any k z)::upSl R (q::l) p) i=some v:=hv
      by_cases e:i=j
      ·subst e
       rw[bH] at hv';cases hv'
       exact bI.pk hR hu (h.fr _ _ hy)
      ·rw[aT _ _ e] at hv'
       exact xg h (q::l) p hs i v hv'
   ·cases hx
theorem pO {o:Nat} {k:ObSk} {x:PayO R.T k} {y:Ob R.T} (hx:pkO R k y=some x) (hy:aK ρ σ o y):aK ρ σ o (upO R k x):=by
 cases k with
 |cells l=>
  cases y with
  |cells cs=>
   obtain⟨s,vs,h1,h2,h3⟩:=hy
   exact⟨s,vs,h1,h2,jo hR l x _ vs hx h3⟩
  |map k e m=>cases hx
  |smap _ _=>cases hx
  |arr _ _=>cases hx
  |sg _=>cases hx
  |gone=>cases hx
  |ro b=>cases hx
 |st n=>
  cases y with
  |cells cs=>
   obtain⟨s,vs,h1,h2,h3⟩:=hy
   obtain⟨l,e,hl⟩:=(lM hR (t:=.st n) (show unD R (.st n) (.agg cs)=some x from hx) (v:=.agg vs) ⟨vs,rfl,h3⟩).bY
   cases e
   exact⟨s,vs,h1,h2,hl⟩
  |map k e m=>cases hx
  |smap _ _=>cases hx
  |arr _ _=>cases hx
  |sg _=>cases hx
  |gone=>cases hx
  |ro b=>cases hx
 |arr t=>
  cases y with
  |arr t' l=>
   obtain⟨e,e2⟩:=iq hx
   subst e;cases e2
   exact hy
  |cells cs=>cases hx
  |map _ _ _=>cases hx
  |smap _ _=>cases hx
  |sg _=>cases hx
  |gone=>cases hx
  |ro b=>cases hx
 |sg l=>
  cases y with
  |sg ss=>
   show aK ρ σ o (.sg (upG l x))
   rw[sM (show pkG l ss=some x from hx)]
   exact hy
  |cells cs=>cases hx
  |map _ _ _=>cases hx
  |smap _ _=>cases hx
  |arr _ _=>cases hx
  |gone=>cases hx
  |ro b=>cases hx
 |map k e=>
  cases y with
  |map k' e' m=>
   obtain⟨e1,e2,e3⟩:=w9 hx
   subst e1;subst e2;cases e3
   exact hy
  |cells cs=>cases hx
  |smap _ _=>cases hx
  |arr _ _=>cases hx
  |sg _=>cases hx
  |gone=>cases hx
  |ro b=>cases hx
theorem CP (h:aj ρ b st fr σ):∀(l:List (Nat×ObSk)) (x:PayOs R.T l),pkOs R st.ob l=some x->∀i v,look (upOs R l x) i=some v->aK ρ σ i v
 | [],x,hx,i,v,hv=>by cases hv
 | [(j,k)],x,hx,i,v,hv=>by
   unfold pkOs at hx
   split at hx
   ·rename_i y hy
    by_cases e:i=j
    ·subst e
     have hv':look [(i,upO R k x)] i=some v:=hv
     rw[bH] at hv';cases hv'
     exact pO hR hx (h.ob _ _ hy)
    ·have hv':look [(j,upO R k x)] i=some v:=hv
     rw[aT _ _ e] at hv';cases hv'
   ·cases hx
 | (j,k)::q::l,x,hx,i,v,hv=>by
   unfold pkOs at hx
   split at hx
   ·rename_i y hy
    cases hu:pkO R k y with
    |none=>simp only[hu] at hx;cases hx
    |some z=>
     cases hs:pkOs R st.ob (q::l) with
     |none=>simp only[hu,hs] at hx;cases hx
     |some p=>
      simp only[hu,hs] at hx
      obtain rfl:=QL hx
      have hv':look ((j,upO R k z)::upOs R (q::l) p) i=some v:=hv
      by_cases e:i=j
      ·subst e
       rw[bH] at hv';cases hv'
       exact pO hR hu (h.ob _ _ hy)
      ·rw[aT _ _ e] at hv'
       exact CP h (q::l) p hs i v hv'
   ·cases hx
theorem aj.pack (h:aj ρ b st fr σ) {s:Shape} {p:Pay R.T s} (hp:pack R st s=some p):aj ρ b (unpack R s p) fr σ:=by
 obtain⟨sl,ob⟩:=s
 cases ob with
 |nil=>
  have hp':pkSl R st.fr sl=some p:=hp
  exact {h with fr:=fun i v hv=>.of (xg hR h sl p hp' i v hv),ob:=fun i v hv=>by cases hv}
 |cons o os=>
  unfold Aq.pack at hp
  cases hu:pkSl R st.fr sl with
  |none=>simp only[hu] at hp;cases hp
  |some x=>
   cases hs:pkOs R st.ob (o::os) with
   |none=>simp only[hu,hs] at hp;cases hp
   |some y=>
    simp only[hu,hs] at hp
    obtain rfl:=QL hp
    exact {h with fr:=fun i v hv=>.of (xg hR h sl x hu i v hv),ob:=fun i v hv=>CP hR h (o::os) y hs i v hv}
omit hR in
theorem CQ {e x:Ex} (h:exEq e x=true):e=x:=by
 cases e<;>cases x<;>simp only[exEq,Qv] at h<;>first|rfl|rw[aJ h]
omit hR in
def RO (st:MS R.T) (o:Nat):Prop:=∀x,look st.ob o=some x->isRo x=true
omit hR in
theorem sN {k:ObSk} {x:PayO R.T k} {y:Ob R.T} (hx:pkO R k y=some x) (hy:isRo y=true):False:=by
 cases y with
 |cells _=>cases hy
 |map _ _ _=>cases hy
 |smap _ _=>cases hy
 |arr _ _=>cases hy
 |sg _=>cases hy
 |gone=>cases k<;>cases hx
 |ro b=>cases k<;>cases hx
omit hR in
theorem CS {i:Nat} (hr:RO st i):∀(l:List (Nat×ObSk)) (x:PayOs R.T l),pkOs R st.ob l=some x->look (upOs R l x) i=none
 | [],x,hx=>rfl
 | [(j,k)],x,hx=>by
   unfold pkOs at hx
   split at hx
   ·rename_i y hy
    by_cases e:i=j
    ·subst e;exact(sN hx (hr _ hy)).elim
    ·show look [(j,upO R k x)] i=none
     rw[aT _ _ e];rfl
   ·cases hx
 | (j,k)::q::l,x,hx=>by
   unfold pkOs at hx
   split at hx
   ·rename_i y hy
    cases hu:pkO R k y with
    |none=>simp only[hu] at hx;cases hx
    |some z=>
     cases hs:pkOs R st.ob (q::l) with
     |none=>simp only[hu,hs] at hx;cases hx
     |some p=>
      simp only[hu,hs] at hx
      obtain rfl:=QL hx
      show look ((j,upO R k z)::upOs R (q::l) p) i=none
      by_cases e:i=j
      ·subst e;exact(sN hu (hr _ hy)).elim
      ·rw[aT _ _ e];exact CS hr (q::l) p hs
   ·cases hx
omit hR in
theorem Mk {s:Shape} {p:Pay R.T s} {i:Nat} (hp:Aq.pack R st s=some p) (hr:RO st i):look (unpack R s p).ob i=none:=by
 obtain⟨sl,ob⟩:=s
 cases ob with
 |nil=>rfl
 |cons o os=>
  unfold Aq.pack at hp
  cases hu:pkSl R st.fr sl with
  |none=>simp only[hu] at hp;cases hp
  |some x=>
   cases hs:pkOs R st.ob (o::os) with
   |none=>simp only[hu,hs] at hp;cases hp
   |some y=>
    simp only[hu,hs] at hp
    obtain rfl:=QL hp
    exact CS hr (o::os) y hs
omit hR
theorem iZ {α:Type}:∀(l m:List (Nat×α)) (i:Nat),look (l++m) i=match look l i with|some x=>some x|none=>look m i
 | [],m,i=>rfl
 | (j,x)::l,m,i=>by
   show (bif Nat.beq j i then some x else look (l++m) i)=match (bif Nat.beq j i then some x else look l i) with|some x=>some x|none=>look m i
   cases Nat.beq j i
   ·exact iZ l m i
   ·rfl
theorem aj.over {st':MS R.T} (h:aj ρ b st fr σ) (h':aj ρ b st' fr σ):aj ρ b (st.over st') fr σ:={h with
 fr:=fun i v hv=>by
  have hv':look (st.fr++st'.fr) i=some v:=hv
  rw[iZ] at hv'
  split at hv'
  ·rename_i x hx;cases hv';exact h.fr _ _ hx
  ·exact h'.fr _ _ hv'
 ob:=fun i v hv=>by
  have hv':look (st.ob++st'.ob) i=some v:=hv
  rw[iZ] at hv'
  split at hv'
  ·rename_i x hx;cases hv';exact h.ob _ _ hx
  ·exact h'.ob _ _ hv'}
theorem jK {α:Type} {p:Nat->α->Bool} {f:α->α} {l:List (Nat×α)}:∀{is:List Nat} {i:Nat} {y:α},look (selF p f l is) i=some y->∃x,look l i=some x/\p i x=true/\y=f x
 | [],i,y,h=>by cases h
 |j::is,i,y,h=>by
  unfold selF at h
  split at h
  ·rename_i x hx
   cases hp:p j x
   ·rw[hp] at h;exact jK h
   ·rw[hp,cond_true] at h
    by_cases e:i=j
    ·subst e;rw[bH] at h;cases h;exact⟨x,hx,hp,rfl⟩
    ·rw[aT _ _ e] at h;exact jK h
  ·exact jK h
mutual
theorem Rl.solid {ρ':ak} {top':Nat->Nat} {W:List Nat} (ho:∀o,memN o W=false->ρ'.ob o=ρ.ob o/\ρ'.ln o=ρ.ln o) (hx:ρ'.om=ρ.om):∀(x:TV R.T) (v:V),Aq.solid W x=true->Rl R ρ top x v->Rl R ρ' top' x v
 |.lst c t l,v,hs,h=>by
  obtain⟨c',hv,hc⟩:=h
  refine⟨c',hv,?_⟩
  cases c<;>first|exact hc| (simp[Aq.solid] at hs;done)
 |.ref o off,v,hs,h=>by
  obtain⟨s,h1,h2⟩:=h
  unfold Aq.solid at hs
  exact⟨s,by rw[(ho o (by simpa using hs)).1];exact h1,by rw[hx];exact h2⟩
 |.mapr o,v,hs,h=>by
  obtain⟨s,h1,h2⟩:=h
  unfold Aq.solid at hs
  exact⟨s,by rw[(ho o (by simpa using hs)).1];exact h1,by rw[hx];exact h2⟩
 |.vw o t,v,hs,h=>by
  unfold Aq.solid at hs
  obtain⟨k1,k2⟩:=ho o (by simpa using hs)
  rcases h with ⟨s,h1,h2⟩| ⟨h1,h2⟩
  ·exact .inl ⟨s,by rw[k1];exact h1,by rw[k2,hx];exact h2⟩
  ·exact .inr ⟨by rw[k2];exact h1,h2⟩
 |.sub o t a b,v,hs,h=>by
  unfold Aq.solid at hs
  obtain⟨k1,k2⟩:=ho o (by simpa using hs)
  obtain⟨g0,g1,g2,h⟩:=h
  refine⟨g0,g1,by rw[k2];exact g2,?_⟩
  rcases h with ⟨s,cp,h1,h2,h3⟩|h
  ·exact .inl ⟨s,cp,by rw[k1];exact h1,h2,by rw[hx];exact h3⟩
  ·exact .inr h
 |.eref o t i off,v,hs,h=>by
  obtain⟨s,h1,h2⟩:=h
  unfold Aq.solid at hs
  exact⟨s,by rw[(ho o (by simpa using hs)).1];exact h1,by rw[hx];exact h2⟩
 |.sv o _ _ _ _ _,v,hs,h=>by
  obtain⟨s,h1,h2⟩:=h
  unfold Aq.solid at hs
  exact⟨s,by rw[(ho o (by simpa using hs)).1];exact h1,by rw[hx];exact h2⟩
 |.sel o _ _ _ _ _,v,hs,h=>by
  obtain⟨s,h1,h2⟩:=h
  unfold Aq.solid at hs
  exact⟨s,by rw[(ho o (by simpa using hs)).1];exact h1,by rw[hx];exact h2⟩
 |.sg _,_,_,h=>h
 |.gel _ _ _ _,_,_,h=>h
 |.agg cs,v,hs,h=>by obtain⟨l,hv,hl⟩:=h;exact⟨l,hv,RlL.solid ho hx cs l (by unfold Aq.solid at hs;exact hs) hl⟩
 |.tup cs,v,hs,h=>by obtain⟨l,hv,hl⟩:=h;exact⟨l,hv,RlL.solid ho hx cs l (by unfold Aq.solid at hs;exact hs) hl⟩
 |.cref cs off,v,hs,h=>by obtain⟨l,hv,hl⟩:=h;exact⟨l,hv,RlL.solid ho hx cs l (by unfold Aq.solid at hs;exact hs) hl⟩
 |.fn f a b,v,hs,h=>by
  obtain⟨a',b',hv,ha,hb⟩:=h
  unfold Aq.solid at hs
  rw[iP] at hs
  exact⟨a',b',hv,RlL.solid ho hx a a' hs.1 ha,RlL.solid ho hx b b' hs.2 hb⟩
 |.opt _ _ _,_,_,h=>h.elim
 |.int _ _,_,_,h=>h
 |.bool _,_,_,h=>h
 |.blit _,_,_,h=>h
 |.str _,_,_,h=>h
 |.nilp,_,_,h=>h
 |.nilf,_,_,h=>h
 |.nilm,_,_,h=>h
 |.nili,_,_,h=>h
 |.nils,_,_,h=>h
 |.mapc _ _ _,_,_,h=>h
 |.undef,_,_,h=>h
 |.gone,_,_,h=>trivial
theorem RlL.solid {ρ':ak} {top':Nat->Nat} {W:List Nat} (ho:∀o,memN o W=false->ρ'.ob o=ρ.ob o/\ρ'.ln o=ρ.ln o) (hx:ρ'.om=ρ.om):∀(x:List (TV R.T)) (v:List V),solidL W x=true->RlL R ρ top x v->RlL R ρ' top' x v
 | [],_,_,h=>h
 |x::xs,_,hs,⟨v,vs,e,h1,h2⟩=>by
  unfold solidL at hs
  rw[iP] at hs
  exact⟨v,vs,e,Rl.solid ho hx x v hs.1 h1,RlL.solid ho hx xs vs hs.2 h2⟩
end
theorem Ml {x:TV R.T} {v:V} (h:bI fr ρ top x v):bI fr ρ top (wkA x) v:=by
 cases x with
 |lst c t l=>
  cases c with
  |own u=>obtain⟨c',hv,_⟩:=Rl.bW (show Rl R ρ top (.lst (.own u) t l) v from h);exact .of (x:=.lst .any t l) (by unfold Rl;exact⟨c',hv,trivial⟩)
  |_=>exact h
 |_=>exact h
theorem Mq {W:List Nat} {x:TV R.T} {v:V} (hs:Aq.solid W x=true) (h:bI fr ρ top x v):Rl R ρ top x v:=by
 cases x<;>first|exact h| (simp[Aq.solid] at hs;done)
structure au (nr:Bool) (o:Nat) (st:MS R.T) (ρ:ak) (σ:Sig) (st':MS R.T) (ρ':ak) (σ':Sig):Prop where
 ob:ρ'.ob o=ρ.ob o
 ln:ρ'.ln o=ρ.ln o
 om:ρ'.om=ρ.om
 nx:σ.next<=σ'.next
 lp:(∀l,l<σ.next->σ'.loops l=σ.loops l)/\∀s,s<ρ.om.lo->σ'.top s=σ.top s
 dp:∀L,nr=true\/L.1<=ρ.om.dp->ρ.om.out L->σ'.obj L=σ.obj L
 ro:RO st o->RO st' o/\∀s,σ'.cellsAt (ρ.om.lc o) s=σ.cellsAt (ρ.om.lc o) s/\σ'.aV (ρ.om.lc o) s=σ.aV (ρ.om.lc o) s
structure Kp (nr:Bool) (W:List Nat) (st:MS R.T) (fr:Fr) (σ:Sig) (ρ:ak) (st':MS R.T) (fr':Fr) (σ':Sig) (ρ':ak):Prop where
 fr:∀i,memN i W=false->fr'.tm i=fr.tm i
 ob:∀o,memN o W=false->au nr o st ρ σ st' ρ' σ'
section
variable {nr:Bool}
theorem xk {c:Cx} {o s:Nat} {x:AObj} {L:Loc} (h:c.out L):(σ.setObj (c.lc o) s x).obj L=σ.obj L:=by
 unfold Sig.setObj upd
 dsimp only
 rw[if_neg (h o)]
theorem Mr {c:Cx} {o:Nat} {L:Loc} (h:c.out L):(σ.aR (c.lc o)).obj L=σ.obj L:=by
 unfold Sig.aR upd
 dsimp only
 rw[if_neg (h o)]
theorem Cx.CU (c:Cx) {L:Loc} (h:c.dp<L.1):c.out L:=fun o e=>by
 have:=c.gZ o
 rw[<-e] at this
 omega
theorem au.refl {o:Nat}:au nr o st ρ σ st ρ σ:=⟨rfl,rfl,rfl,Qt _,⟨fun _ _=>rfl,fun _ _=>rfl⟩,fun _ _ _=>rfl,fun h=>⟨h,fun _=>⟨rfl,rfl⟩⟩⟩
theorem au.trans {o:Nat} {st' bn:MS R.T} {ρ' fO:ak} {σ' bL:Sig} (h:au nr o st ρ σ st' ρ' σ') (g:au nr o st' ρ' σ' bn fO bL):au nr o st ρ σ bn fO bL:=
 ⟨g.ob.trans h.ob,g.ln.trans h.ln,g.om.trans h.om,Qw h.nx g.nx,⟨fun l hl=>(g.lp.1 l (QF hl h.nx)).trans (h.lp.1 l hl),fun s hs=>(g.lp.2 s (by rw[h.om];exact hs)).trans (h.lp.2 s hs)⟩,fun L hn hL=>(g.dp L (by rw[h.om];exact hn) (by rw[h.om];exact hL)).trans (h.dp L hn hL),fun hr=>by
   have g':=fun hr=>g.ro hr
   rw[h.om] at g'
   exact⟨(g' (h.ro hr).1).1,fun s=>⟨((g' (h.ro hr).1).2 s).1.trans ((h.ro hr).2 s).1,((g' (h.ro hr).1).2 s).2.trans ((h.ro hr).2 s).2⟩⟩⟩
theorem Kp.refl {W:List Nat}:Kp nr W st fr σ ρ st fr σ ρ:=⟨fun _ _=>rfl,fun _ _=>.refl⟩
theorem Kp.trans {W:List Nat} {st' bn:MS R.T} {fr' kE:Fr} {ρ' fO:ak} {σ' bL:Sig} (h:Kp nr W st fr σ ρ st' fr' σ' ρ') (g:Kp nr W st' fr' σ' ρ' bn kE bL fO):Kp nr W st fr σ ρ bn kE bL fO:=
 ⟨fun i hi=>(g.fr i hi).trans (h.fr i hi),fun o ho=>(h.ob o ho).trans (g.ob o ho)⟩
theorem Kp.mono {W W':List Nat} {st':MS R.T} {fr':Fr} {ρ':ak} {σ':Sig} (h:Kp nr W st fr σ ρ st' fr' σ' ρ') (hw:∀i,memN i W'=false->memN i W=false):Kp nr W' st fr σ ρ st' fr' σ' ρ':=
 ⟨fun i hi=>h.fr i (hw i hi),fun o ho=>h.ob o (hw o ho)⟩
theorem pQ:∀(i:Nat) (l m:List Nat),memN i (l++m)=(memN i l||memN i m)
 |i,[],m=>rfl
 |i,j::l,m=>by show (Nat.beq i j||memN i (l++m))=_;rw[pQ i l m,<-Bool.or_assoc];rfl
theorem CV {o:Nat} {ρ':ak} {σ':Sig} {W:List Nat} (ho:∀o,memN o W=false->ρ'.ob o=ρ.ob o/\ρ'.ln o=ρ.ln o) (hx:ρ'.om=ρ.om) (hm:memN o W=false) (hc:∀s,σ'.cellsAt (ρ.om.lc o) s=σ.cellsAt (ρ.om.lc o) s/\σ'.aV (ρ.om.lc o) s=σ.aV (ρ.om.lc o) s):∀{x:Ob R.T},solidO W x=true->aK ρ σ o x->aK ρ' σ' o x
 |.cells cs,hs,h=>by
  obtain⟨s,l,h1,h2,h3⟩:=h
  exact⟨s,l,by rw[(ho o hm).1];exact h1,by rw[hx,(hc s).1];exact h2,RlL.solid ho hx cs l hs h3⟩
 |.map k e m,_,h=>by obtain⟨s,h1,h2⟩:=h;exact⟨s,by rw[(ho o hm).1];exact h1,by rw[hx,(hc s).2];exact h2⟩
 |.smap ks vs,hs,h=>by
  obtain⟨s,k,l,h1,h2,h3,h4⟩:=h
  have hs':(solidL W ks&& solidL W vs)=true:=hs
  rw[iP] at hs'
  exact⟨s,k,l,by rw[(ho o hm).1];exact h1,by rw[hx,(hc s).2];exact h2,RlL.solid ho hx ks k hs'.1 h3,RlL.solid ho hx vs l hs'.2 h4⟩
 |.arr t l,_,h=>by
  refine⟨h.1.trans (ho o hm).2.symm,?_⟩
  rcases h.2 with h| ⟨s,cs,h1,h2,h3⟩
  ·exact .inl ⟨h.1,(ho o hm).1.trans h.2⟩
  ·exact .inr ⟨s,cs,by rw[(ho o hm).1];exact h1,by rw[hx,(hc s).1];exact h2,iw l cs h3⟩
 |.sg ss,_,h=>by obtain⟨s,h1,h2⟩:=h;exact⟨s,by rw[(ho o hm).1];exact h1,by rw[hx,(hc s).1];exact h2⟩
 |.gone,_,_=>trivial
 |.ro b,hs,h=>CV ho hx hm hc (x:=b) hs h
theorem jL:∀W:List Nat,∃n,∀m,n<=m->memN m W=false
 | []=>⟨0,fun _ _=>rfl⟩
 |i::W=>by
  obtain⟨n,hn⟩:=jL W
  refine⟨n+i+1,fun m hm=>?_⟩
  show (Nat.beq m i||memN m W)=false
  rw[sK (by omega),hn m (by omega)];rfl
theorem Kp.om {W:List Nat} {st':MS R.T} {fr':Fr} {ρ':ak} {σ':Sig} (h:Kp nr W st fr σ ρ st' fr' σ' ρ'):ρ'.om=ρ.om:=by
 obtain⟨n,hn⟩:=jL W
 exact(h.ob n (hn n (Qt _))).om
theorem aj.base {W K O:List Nat} {mark:Ob R.T->Ob R.T} (hmark:∀ρ σ o x,aK ρ σ o x->aK (R:=R) ρ σ o (mark x)) {st0 st' bn:MS R.T} {fr':Fr} {ρ':ak} {σ':Sig} {b':Nat} (h:aj ρ b st fr σ) (hk:Kp nr W st0 fr σ ρ st' fr' σ' ρ') (h':aj ρ' b' bn fr' σ')
 (hro:∀o x,look st.ob o=some x->memN o W=false->memN o O=true->solidO W x=true->RO st0 o):aj ρ' b' (Aq.base W K O mark st) fr' σ':={h' with
 fr:=fun i v hv=>by
  obtain⟨x,h1,h2,rfl⟩:=jK hv
  rw[iP,Q6] at h2
  have:=Mq h2.2 (Ml (h.fr _ _ h1))
  rw[hk.fr i h2.1]
  exact .of (Rl.solid (fun o ho=>⟨(hk.ob o ho).ob,(hk.ob o ho).ln⟩) hk.om _ _ h2.2 this)
 ob:=fun o y hy=>by
  have hO:memN o O=true:=by
   have:∀{is:List Nat} {y:Ob R.T},look (selF (fun o b=>!(memN o W)&& solidO W b) mark st.ob is) o=some y->memN o is=true:=by
    intro is
    induction is with
    |nil=>intro y h;cases h
    |cons j is ih=>
     intro y h
     show (Nat.beq o j||memN o is)=true
     unfold selF at h
     by_cases e:o=j
     ·subst e;rw[Rc];rfl
     ·split at h
      ·rename_i x hx
       cases hp:(!(memN j W)&& solidO W x)
       ·rw[hp] at h;rw[ih h,Bool.or_true]
       ·rw[hp,cond_true,aT _ _ e] at h;rw[ih h,Bool.or_true]
      ·rw[ih h,Bool.or_true]
   exact this hy
  obtain⟨x,h1,h2,rfl⟩:=jK hy
  rw[iP,Q6] at h2
  have hc:=((hk.ob o h2.1).ro (hro o x h1 h2.1 hO h2.2)).2
  exact hmark _ _ _ _ (CV (fun o ho=>⟨(hk.ob o ho).ob,(hk.ob o ho).ln⟩) hk.om h2.1 hc h2.2 (h.ob _ _ h1))}
theorem xq {W K O:List Nat} {st':MS R.T} {o:Nat} {x:Ob R.T} (h1:look st.ob o=some x) (h2:memN o W=false) (h3:memN o O=true) (h4:solidO W x=true):RO ((Aq.base W K O .ro st).over st') o:=by
 intro y hy
 have hl:∃z,look (selF (fun o b=>!(memN o W)&& solidO W b) Ob.ro st.ob O) o=some (.ro z):=by
  have:∀is:List Nat,memN o is=true->∃z,look (selF (fun o b=>!(memN o W)&& solidO W b) Ob.ro st.ob is) o=some (.ro z):=by
   intro is
   induction is with
   |nil=>intro h;cases h
   |cons j is ih=>
    intro h
    by_cases e:o=j
    ·subst e
     unfold selF
     rw[h1]
     dsimp only
     rw[h2,h4]
     exact⟨x,bH _ _ _⟩
    ·have h':(Nat.beq o j||memN o is)=true:=h
     rw[sK e,Bool.false_or] at h'
     obtain⟨z,hz⟩:=ih h'
     refine⟨z,?_⟩
     unfold selF
     split
     ·rename_i w hw
      cases (!(memN j W)&& solidO W w)
      ·exact hz
      ·rw[cond_true,aT _ _ e];exact hz
     ·exact hz
  exact this O h3
 obtain⟨z,hz⟩:=hl
 have hy':look (selF (fun o b=>!(memN o W)&& solidO W b) Ob.ro st.ob O++st'.ob) o=some y:=hy
 rw[iZ,hz] at hy'
 cases hy';rfl
theorem Ms {t:Nat}:∀{x:Ob R.T},isRo x=true->isRo (Ob.wk t x)=true
 |.ro _,_=>rfl
 |.gone,_=>rfl
 |.cells _,h=>by cases h
 |.map _ _ _,h=>by cases h
 |.smap _ _,h=>by cases h
 |.arr _ _,h=>by cases h
theorem sO {t:Nat} {x:Ob R.T} (h:isRo x=true):isRo (Ob.kill t x)=true:=by
 have e:Ob.kill t x=bif Ob.ment t x then .gone else x:=by cases x<;>first|rfl|cases h
 rw[e]
 cases Ob.ment t x
 ·exact h
 ·rfl
theorem au.wk {p t s n:Nat} (hl:ρ.om.lo<=s):au nr p st ρ σ (st.wk t) (ρ.bg t s) (σ.aG s n):=⟨rfl,rfl,rfl,Qt _,⟨fun _ _=>rfl,fun s' hs'=>sF _ _ (by omega)⟩,fun _ _ _=>rfl,fun hr=>⟨fun x hx=>by
 have hx':look (mapF (Ob.wk t) st.ob) p=some x:=hx
 rw[gD,Qu] at hx'
 obtain⟨z,hz,rfl⟩:=hx'
 exact Ms (hr z hz),fun _=>⟨rfl,rfl⟩⟩⟩
theorem au.set {o q s:Nat} {x y:Ob R.T} {a:AObj} (hl:look st.ob o=some y) (hy:isRo y=false):au nr q st ρ σ (st.set o x) ρ (σ.setObj (ρ.om.lc o) s a):=⟨rfl,rfl,rfl,Qt _,⟨fun _ _=>rfl,fun _ _=>rfl⟩,fun _ _ hL=>xk hL,fun hr=>by
 have hne:q≠o:=by rintro rfl;rw[hr y hl] at hy;cases hy
 refine⟨fun z hz=>?_,fun s'=>⟨jJ _ _ _ _ hne,ni _ _ _ _ hne⟩⟩
 have hz':look ((o,x)::delF o st.ob) q=some z:=hz
 rw[aT _ _ hne,dP hne] at hz'
 exact hr z hz'⟩
theorem au.new {o q s:Nat} {x:Ob R.T} {a:AObj} (hne:q≠o):au nr q st ρ σ (st.new o x) (ρ.bX o s) (σ.setObj (ρ.om.lc o) s a):=⟨by simp[ak.bX,upd,hne],rfl,rfl,Qt _,⟨fun _ _=>rfl,fun _ _=>rfl⟩,fun _ _ hL=>xk hL,fun hr=>by
 refine⟨fun z hz=>?_,fun s'=>⟨jJ _ _ _ _ hne,ni _ _ _ _ hne⟩⟩
 have hz':look ((o,x)::mapF (Ob.kill o) (delF o st.ob)) q=some z:=hz
 rw[aT _ _ hne,gD,dP hne,Qu] at hz'
 obtain⟨w,hw,rfl⟩:=hz'
 exact sO (hr w hw)⟩
theorem dQ {d:Option Nat} {v:TV R.T}:(st.putO d v).ob=st.ob:=by cases d<;>rfl
theorem au.same {st':MS R.T} {o:Nat} (h:st'.ob=st.ob):au nr o st ρ σ st' ρ σ:=⟨rfl,rfl,rfl,Qt _,⟨fun _ _=>rfl,fun _ _=>rfl⟩,fun _ _ _=>rfl,fun hr=>⟨fun x hx=>hr x (by rw[<-h];exact hx),fun _=>⟨rfl,rfl⟩⟩⟩
theorem au.congr {st' bn:MS R.T} {ρ':ak} {σ':Sig} {o:Nat} (h:au nr o st ρ σ st' ρ' σ') (e:bn.ob=st'.ob):au nr o st ρ σ bn ρ' σ':=⟨h.ob,h.ln,h.om,h.nx,h.lp,h.dp,fun hr=>⟨fun x hx=>(h.ro hr).1 x (by rw[<-e];exact hx),(h.ro hr).2⟩⟩
theorem au.from {st' bn:MS R.T} {ρ':ak} {σ':Sig} {o:Nat} (h:au nr o st ρ σ st' ρ' σ') (e:st.ob=bn.ob):au nr o bn ρ σ st' ρ' σ':=⟨h.ob,h.ln,h.om,h.nx,h.lp,h.dp,fun hr=>h.ro fun x hx=>hr x (by rw[<-e];exact hx)⟩
theorem Kp.op {d:Option Nat} {W:List Nat} {y:V} {st':MS R.T} {ρ':ak} {σ':Sig} {Q:Nat->Prop} (hd:∀p,memN p W=false->d≠some p/\Q p) (h:∀p,Q p->au nr p st ρ σ st' ρ' σ'):Kp nr W st fr σ ρ st' (fr.put d y) σ' ρ':=
 ⟨fun i hi=>by
   cases d with
   |none=>rfl
   |some j=>exact pF _ _ (by have:=(hd i hi).1;simp at this;simpa using fun e=>this e.symm),fun p hp=>h p (hd p hp).2⟩
theorem CX {W K O:List Nat} {st':MS R.T} {o:Nat} (h:look st'.ob o=none):RO ((Aq.base W K O .ro st).over st') o:=by
 intro y hy
 have hy':look (selF (fun o b=>!(memN o W)&& solidO W b) Ob.ro st.ob O++st'.ob) o=some y:=hy
 rw[iZ] at hy'
 split at hy'
 ·rename_i x hx
  cases hy'
  obtain⟨z,_,_,rfl⟩:=jK hx
  rfl
 ·rw[h] at hy';cases hy'
theorem pR {st':MS R.T} {o:Nat} (h1:RO st o) (h2:RO st' o):RO (st.over st') o:=by
 intro y hy
 have hy':look (st.ob++st'.ob) o=some y:=hy
 rw[iZ] at hy'
 split at hy'
 ·rename_i x hx;cases hy';exact h1 _ hx
 ·exact h2 _ hy'
theorem CY {W K O:List Nat} {mark:Ob R.T->Ob R.T} {o:Nat} (hm:∀x,isRo x=true->isRo (mark x)=true) (h:RO st o):RO (Aq.base W K O mark st) o:=by
 intro y hy
 obtain⟨x,h1,_,rfl⟩:=jK hy
 exact hm _ (h _ h1)
theorem finish {W K O:List Nat} {H S' bn:MS R.T} {fr':Fr} {ρ':ak} {σ':Sig} {b':Nat} (hi:aj ρ b st fr σ) (hH:∀o,memN o W=false->RO st o->RO H o) (hro:∀o x,look st.ob o=some x->memN o W=false->memN o O=true->solidO W x=true->RO H o)
 (hk:Kp nr W H fr σ ρ S' fr' σ' ρ') (hi':aj ρ' b' bn fr' σ') (hn:∀o,memN o W=false->RO H o->look bn.ob o=none):
 aj ρ' b' ((Aq.base W K O (fun b=>b) st).over bn) fr' σ'/\Kp nr W st fr σ ρ ((Aq.base W K O (fun b=>b) st).over bn) fr' σ' ρ':=by
 have hk2:Kp nr W H fr σ ρ bn fr' σ' ρ':=⟨hk.fr,fun o ho=>⟨(hk.ob o ho).ob,(hk.ob o ho).ln,(hk.ob o ho).om,(hk.ob o ho).nx,(hk.ob o ho).lp,(hk.ob o ho).dp,fun hr=>⟨fun x hx=>(by rw[hn o ho hr] at hx;cases hx),((hk.ob o ho).ro hr).2⟩⟩⟩
 refine⟨(hi.base (fun _ _ _ _ h=>h) hk2 hi' hro).over hi',hk.fr,fun o ho=>⟨(hk.ob o ho).ob,(hk.ob o ho).ln,(hk.ob o ho).om,(hk.ob o ho).nx,(hk.ob o ho).lp,(hk.ob o ho).dp,fun hr=>⟨?_,((hk.ob o ho).ro (hH o ho hr)).2⟩⟩⟩
 exact pR (CY (fun _ h=>h) hr) fun x hx=>(by rw[hn o ho (hH o ho hr)] at hx;cases hx)
theorem pU {x:TV R.T} {v:V} (hx:isE x=true) (h:bI fr ρ top x v):v= .lst .nil []\/v= .lst .full []:=by
 cases x<;>first| (cases hx;done)|skip
 ·exact .inl (Rl.eP (R:=R) (show Rl R ρ top .nils v from h))
 ·rename_i c t l
  obtain⟨c',hv,hc⟩:=Rl.bW (R:=R) (show Rl R ρ top (.lst c t l) v from h)
  cases c<;>first| (cases hx;done)|skip
  ·have:l=[]:=by simpa [isE] using hx
   subst this
   have hc':c'= .nil:=hc
   rw[hc'] at hv;exact .inl hv
  ·have:l=[]:=by simpa [isE] using hx
   subst this
   have hc':c'= .full:=hc
   rw[hc'] at hv;exact .inr hv
theorem pV {W:List Nat}:∀(l:List (Nat×Sk)) (st:MS R.T) (ρ:ak),aj ρ b st fr σ->∃ρ',aj ρ' b (prepS W l st) fr σ/\Kp nr W st fr σ ρ (prepS W l st) fr σ ρ'
 | [],st,ρ,h=>⟨ρ,h,.refl⟩
 | (i,k)::l,st,ρ,h=>by
   have other:prepS W ((i,k)::l) st=prepS W l st->∃ρ',aj ρ' b (prepS W ((i,k)::l) st) fr σ/\Kp nr W st fr σ ρ (prepS W ((i,k)::l) st) fr σ ρ':=fun e=>by
    rw[e];exact pV l st ρ h
   cases k<;>first|exact other rfl|skip
   rename_i o t
   unfold prepS
   split
   ·rename_i v hv
    cases hb:(isE v&& memN o W)
    ·exact pV l st ρ h
    ·rw[cond_true]
     rw[iP] at hb
     have hg:=h.ghost o t
     have hE:=pU hb.1 (h.fr _ _ hv)
     have jc:aj (ρ.gh o) b (⟨(i,.vw o t)::(st.new o (.arr t [])).fr,(st.new o (.arr t [])).ob⟩:MS R.T) fr σ:={hg with
      fr:=fun j y hy=>by
       by_cases e:j=i
       ·subst e
        have hy':look ((j,TV.vw o t)::(st.new o (.arr t [])).fr) j=some y:=hy
        rw[bH] at hy';cases hy'
        exact .of (by unfold Rl;exact .inr ⟨iJ (ρ:=ρ) (n:=0),hE⟩)
       ·have hy':look ((i,TV.vw o t)::(st.new o (.arr t [])).fr) j=some y:=hy
        rw[aT _ _ e] at hy'
        exact hg.fr j y hy'
      ob:=hg.ob}
     obtain⟨ρ',h1,h2⟩:=pV (W:=W) l _ _ jc
     refine⟨ρ',h1,Kp.trans ⟨fun _ _=>rfl,fun p hp=>?_⟩ h2⟩
     have hne:p≠o:=by rintro rfl;rw[hb.2] at hp;cases hp
     refine⟨(dZ p hne).1,(dZ p hne).2,rfl,Qt _,⟨fun _ _=>rfl,fun _ _=>rfl⟩,fun _ _ _=>rfl,fun hr=>⟨fun x hx=>?_,fun _=>⟨rfl,rfl⟩⟩⟩
     have hx':look ((o,Ob.arr t [])::mapF (Ob.kill o) (delF o st.ob)) p=some x:=hx
     rw[aT _ _ hne,gD,dP hne,Qu] at hx'
     obtain⟨w,hw,rfl⟩:=hx'
     exact sO (hr w hw)
   ·exact pV l st ρ h
theorem Mt {W:List Nat} (o:Nat) (k:ObSk) (st:MS R.T) (ρ:ak) (h:aj ρ b st fr σ):∃ρ',aj ρ' b (prepO1 W o k st) fr σ/\Kp nr W st fr σ ρ (prepO1 W o k st) fr σ ρ':=by
 have same:∃ρ',aj ρ' b st fr σ/\Kp nr W st fr σ ρ st fr σ ρ':=⟨ρ,h,.refl⟩
 unfold prepO1
 split
 ·split
  ·rename_i p t
   split
   ·rename_i cs hv
    split
    ·rename_i v
     cases hb:(isE v&& memN p W&& !(Nat.beq o p))
     ·exact same
     ·rw[cond_true]
      rw[iP,iP,Q6] at hb
      have hop:o≠p:=lH hb.2
      have hg:=h.ghost p t
      obtain⟨s,cs,h1,h2,h3⟩:=h.ob _ _ hv
      obtain⟨w,ws,rfl,h4,h5⟩:=h3.inv_cons
      have h6:=h5.inv_nil
      subst h6
      have hE:=pU (fr:=fr) hb.1.1 (.of h4)
      refine⟨ρ.gh p,{hg with
       ob:=fun j y hy=>by
        by_cases e:j=o
        ·subst e
         have hy':look ((j,Ob.cells [.vw p t])::(st.new p (.arr t [])).ob) j=some y:=hy
         rw[bH] at hy';cases hy'
         exact⟨s,[w],(dZ j hop).1.trans h1,h2,.cons' (by unfold Rl;exact .inr ⟨iJ (ρ:=ρ) (n:=0),hE⟩) rfl⟩
        ·have hy':look ((o,Ob.cells [.vw p t])::(st.new p (.arr t [])).ob) j=some y:=hy
         rw[aT _ _ e] at hy'
         exact hg.ob j y hy'},fun _ _=>rfl,fun q hq=>?_⟩
      have hne:q≠p:=by rintro rfl;rw[hb.1.2] at hq;cases hq
      refine⟨(dZ q hne).1,(dZ q hne).2,rfl,Qt _,⟨fun _ _=>rfl,fun _ _=>rfl⟩,fun _ _ _=>rfl,fun hr=>⟨fun x hx=>?_,fun _=>⟨rfl,rfl⟩⟩⟩
      have hqo:q≠o:=by rintro rfl;have:=hr _ hv;cases this
      have hx':look ((o,Ob.cells [.vw p t])::((p,Ob.arr t [])::mapF (Ob.kill p) (delF p st.ob))) q=some x:=hx
      rw[aT _ _ hqo,aT _ _ hne,gD,dP hne,Qu] at hx'
      obtain⟨w,hw,rfl⟩:=hx'
      exact sO (hr w hw)
    ·exact same
   ·exact same
  ·rename_i p t
   split
   ·rename_i cs hv
    split
    ·rename_i v
     cases hb:(isE v&& memN p W&& !(Nat.beq o p))
     ·exact same
     ·rw[cond_true]
      rw[iP,iP,Q6] at hb
      have hop:o≠p:=lH hb.2
      have hg:=h.ghost p t
      obtain⟨s,cs,h1,h2,h3⟩:=h.ob _ _ hv
      obtain⟨w,ws,rfl,h4,h5⟩:=h3.inv_cons
      have h6:=h5.inv_nil
      subst h6
      have hE:=pU (fr:=fr) hb.1.1 (.of h4)
      refine⟨ρ.gh p,{hg with
       ob:=fun j y hy=>by
        by_cases e:j=o
        ·subst e
         have hy':look ((j,Ob.cells [.sub p t 0 0])::(st.new p (.arr t [])).ob) j=some y:=hy
         rw[bH] at hy';cases hy'
         exact⟨s,[w],(dZ j hop).1.trans h1,h2,.cons' (by unfold Rl;exact⟨QC _,QC _,Int.natCast_nonneg _,.inr ⟨rfl,by rcases hE with h|h<;>exact⟨_,h⟩⟩⟩) rfl⟩
        ·have hy':look ((o,Ob.cells [.sub p t 0 0])::(st.new p (.arr t [])).ob) j=some y:=hy
         rw[aT _ _ e] at hy'
         exact hg.ob j y hy'},fun _ _=>rfl,fun q hq=>?_⟩
      have hne:q≠p:=by rintro rfl;rw[hb.1.2] at hq;cases hq
      refine⟨(dZ q hne).1,(dZ q hne).2,rfl,Qt _,⟨fun _ _=>rfl,fun _ _=>rfl⟩,fun _ _ _=>rfl,fun hr=>⟨fun x hx=>?_,fun _=>⟨rfl,rfl⟩⟩⟩
      have hqo:q≠o:=by rintro rfl;have:=hr _ hv;cases this
      have hx':look ((o,Ob.cells [.sub p t 0 0])::((p,Ob.arr t [])::mapF (Ob.kill p) (delF p st.ob))) q=some x:=hx
      rw[aT _ _ hqo,aT _ _ hne,gD,dP hne,Qu] at hx'
      obtain⟨w,hw,rfl⟩:=hx'
      exact sO (hr w hw)
    ·exact same
   ·exact same
  ·exact same
 ·exact same
theorem CZ {W:List Nat}:∀(l:List (Nat×ObSk)) (st:MS R.T) (ρ:ak),aj ρ b st fr σ->∃ρ',aj ρ' b (prepO W l st) fr σ/\Kp nr W st fr σ ρ (prepO W l st) fr σ ρ'
 | [],st,ρ,h=>⟨ρ,h,.refl⟩
 | (o,k)::l,st,ρ,h=>by
   obtain⟨ρ1,h1,h2⟩:=Mt (nr:=nr) (W:=W) o k st ρ h
   obtain⟨ρ2,h3,h4⟩:=CZ (W:=W) l _ _ h1
   exact⟨ρ2,h3,h2.trans h4⟩
theorem Mv {W:List Nat} {o:Nat} {k:ObSk} {st:MS R.T} (h:st.fr=[]):(prepO1 W o k st).fr=[]:=by
 unfold prepO1
 split
 ·split
  ·split
   ·split
    ·rename_i p t _ _ v _
     cases (isE v&& memN p W&& !(Nat.beq o p))
     ·exact h
     ·show mapF (killO p) st.fr=[]
      rw[h];rfl
    ·exact h
   ·exact h
  ·split
   ·split
    ·rename_i p t _ _ v _
     cases (isE v&& memN p W&& !(Nat.beq o p))
     ·exact h
     ·show mapF (killO p) st.fr=[]
      rw[h];rfl
    ·exact h
   ·exact h
  ·exact h
 ·exact h
theorem C8 {W:List Nat}:∀{l:List (Nat×ObSk)} {st:MS R.T},st.fr=[]->(prepO W l st).fr=[]
 | [],_,h=>h
 | (o,k)::l,st,h=>C8 (l:=l) (Mv h)
section
variable (hR:RegOK R)
include hR
omit hR in
theorem C9 {W:List Nat}:∀{l:List (Nat×Sk)},st.fr=[]->prepS W l st=st
 | [],_=>rfl
 | (i,k)::l,h=>by
   have:=C9 (W:=W) (l:=l) h
   cases k<;>first|exact this|skip
   unfold prepS
   rw[h];exact this
omit hR in
theorem Da:∀{l:List (Nat×Sk)} {p:PaySl R.T l},pkSl R [] l=some p->l=[]
 | [],_,_=>rfl
 | [(i,k)],p,h=>by cases h
 | (i,k)::q::l,p,h=>by cases h
omit hR in
theorem Mw {W:List Nat} (he:st.fr=[]) {s:Shape} {p:Pay R.T s} (hp:Aq.packW R W st s=some p):(unpack R s p).fr=[]:=by
 unfold Aq.packW at hp
 have he':=C8 (W:=W) (l:=s.ob) he
 rw[C9 he'] at hp
 generalize prepO W s.ob st=st at hp he'
 replace he:=he'
 clear he'
 obtain⟨sl,ob⟩:=s
 cases ob with
 |nil=>
  have hp':pkSl R st.fr sl=some p:=hp
  rw[he] at hp'
  have:=Da hp'
  subst this;rfl
 |cons o os=>
  unfold Aq.pack at hp
  rw[he] at hp
  cases hu:pkSl R [] sl with
  |none=>simp only[hu] at hp;cases hp
  |some x=>
   have:=Da hu
   subst this;rfl
theorem aj.packW {W:List Nat} (h:aj ρ b st fr σ) {s:Shape} {p:Pay R.T s} (hp:Aq.packW R W st s=some p):∃ρ' S',aj ρ' b (unpack R s p) fr σ/\Kp nr W st fr σ ρ S' fr σ ρ'/\(st.fr=[]->(unpack R s p).fr=[])/\∀i,memN i W=false->RO st i->look (unpack R s p).ob i=none:=by
 obtain⟨ρ0,h01,h02⟩:=CZ (nr:=nr) (W:=W) s.ob st ρ h
 obtain⟨ρ',h1,h2'⟩:=pV (nr:=nr) (W:=W) s.sl _ ρ0 h01
 have h2:=h02.trans h2'
 exact⟨ρ',_,h1.pack hR hp,h2,fun he=>Mw he hp,fun i hi hr=>Mk hp ((h2.ob i hi).ro hr).1⟩
theorem ny {β:Type} {W:List Nat} (h:aj ρ b st fr σ) {e:Ex}:∀{l:List (Ex×Shape)} {o:Out R.T l},packOut R W e st l=some o->∃ρ' S' st',aj ρ' b st' fr σ/\Kp nr W st fr σ ρ S' fr σ ρ'/\(st.fr=[]->st'.fr=[])/\(∀i,memN i W=false->RO st i->look st'.ob i=none)/\∀(k:Ex->MS R.T->Option β) (bs:MS R.T),unpackOut R bs k l o=k e (bs.over st')
 | [],o,hp=>by cases hp
 | [(x,s)],o,hp=>by
   have hp':(bif exEq e x then Aq.packW R W st s else none)=some o:=hp
   cases hb:exEq e x
   ·rw[hb] at hp';cases hp'
   ·rw[hb,cond_true] at hp'
    have:=CQ hb;subst this
    obtain⟨ρ',S',h1,h2,h0,h3⟩:=h.packW hR hp'
    exact⟨ρ',S',_,h1,h2,h0,h3,fun k bs=>rfl⟩
 | (x,s)::q::l,o,hp=>by
   unfold packOut at hp
   cases hb:exEq e x
   ·rw[hb,cond_false] at hp
    cases hu:packOut R W e st (q::l) with
    |none=>simp only[hu] at hp;cases hp
    |some y=>
     simp only[hu] at hp
     obtain rfl:=QL hp
     obtain⟨ρ',S',st',h1,h3,h0,h4,h2⟩:=ny (β:=β) h hu
     exact⟨ρ',S',st',h1,h3,h0,h4,fun k bs=>h2 k bs⟩
   ·rw[hb,cond_true] at hp
    have:=CQ hb;subst this
    cases hu:Aq.packW R W st s with
    |none=>simp only[hu] at hp;cases hp
    |some y=>
     simp only[hu] at hp
     obtain rfl:=QL hp
     obtain⟨ρ',S',h1,h2,h0,h3⟩:=h.packW hR hu
     exact⟨ρ',S',_,h1,h2,h0,h3,fun k bs=>rfl⟩
end
end
end
end Aq
end
section
namespace Aq
open Go
def ND (E:Env) (o:Oper) (p:Nat):Prop:=o.dst≠some p/\∀d,o.dst=some d->E.cn d≠p
section
variable {R:Reg} {E:Env}
variable {ρ:ak} {b:Nat} {st:MS R.T} {fr:Fr} {σ:Sig}
def jd (E:Env) (fr:Fr) (o:Oper):Bool:=match o.op with
 |.call c=>match c.callee with
  |.value f=>dx E fr o f
  |_=>false
 |_=>false
def dA (E:Env) (fr:Fr) (σ:Sig) (ah:Nat) (o:Oper) (x:V) (σ':Sig):Prop:=
 (jd E fr o=false->∀all os Q,aW all fr o=some true->OW E all (ah+1) os (fr.put o.dst x) σ' Q->OW E all ah (o::os) fr σ Q)/\
 (jd E fr o=false->∀ms all os fs Q,aW all fr o=some true->FW' E ms all (ah+1) os (fr.put o.dst x) σ' (fs++[footI E all fr o true]) Q->FW' E ms all ah (o::os) fr σ fs Q)
theorem dA.of {ah:Nat} {o:Oper} {x:V} {σ':Sig} (h:∀S,opC E S fr σ ah o=some (x,fr,σ')):dA E fr σ ah o x σ':=
 ⟨fun _ _ _ _ hw h'=>OW.op hw h h',fun _ _ _ _ _ _ hw h'=>FW'.op hw h h'⟩
theorem Mx {S:cK} {ah:Nat} {o:Oper} {x:V} {σ':Sig} (h:opV E fr σ ah o=some (x,σ')):opC E S fr σ ah o=some (x,fr,σ'):=by
 unfold opC
 split
 ·rename_i c hc;unfold opV at h;rw[hc] at h;cases h
 ·rename_i c hc;unfold opV at h;rw[hc] at h;cases h
 ·rw[h];rfl
theorem Db {o:Oper} {c:Call} {f:Operand} {g:FuncId} {a b:List V} (ho:o.op= .call c) (aS:c.callee= .value f) (hf:fr.ev E f= .fn (.func g) a b) (h:jd E fr o=false):∀d,o.dst=some d->E.own g d=false:=by
 intro d hd
 unfold jd at h
 rw[ho] at h
 dsimp only at h
 rw[aS] at h
 dsimp only at h
 unfold dx at h
 rw[hf,hd] at h
 exact h
theorem dA.bC {ah:Nat} {o:Oper} {x:V} {σ':Sig} (h:opV E fr σ ah o=some (x,σ')):dA E fr σ ah o x σ':=.of fun S=>Mx h
def fB (E:Env) (st:MS R.T) (ρ:ak) (ah:Nat) (fr:Fr) (σ:Sig) (o:Oper):Res R->Prop
 |.t v=>∃x,dA E fr σ ah o x σ/\Rl R ρ σ.top v x
 |.c c v=>c=true->∃x,dA E fr σ ah o x σ/\Rl R ρ σ.top v x
 |.w v st'=>∃x σ' ρ',dA E fr σ ah o x σ'/\aj ρ' (ah+1) st' fr σ'/\σ'.next=σ.next/\Rl R ρ' σ'.top v x/\∀p,ND E o p->au true p st ρ σ st' ρ' σ'
 |.wc c v st'=>c=true->∃x σ' ρ',dA E fr σ ah o x σ'/\aj ρ' (ah+1) st' fr σ'/\σ'.next=σ.next/\Rl R ρ' σ'.top v x/\∀p,ND E o p->au true p st ρ σ st' ρ' σ'
 |.p _ _ o' f=>∀a,o'=some a->∃x,dA E fr σ ah o x σ/\Rl R ρ σ.top (f a) x
theorem gF {top:Nat->Nat} {x:TV R.T} {v:V} (hg:notG x=true) (h:Rl R ρ top x v):RlL R ρ top x.cells v.cells/\notRaw v=true:=by
 cases x with
 |agg cs=>obtain⟨l,rfl,hl⟩:=h.bY;exact⟨hl,rfl⟩
 |int k n=>rw[h.inv_int];exact⟨.cons' (by unfold Rl;rfl) rfl,rfl⟩
 |bool b=>rw[h.fA];exact⟨.cons' (by unfold Rl;rfl) rfl,rfl⟩
 |blit b=>rw[h.ig];exact⟨.cons' (by unfold Rl;rfl) rfl,rfl⟩
 |str b=>rw[h.dH];exact⟨.cons' (by unfold Rl;rfl) rfl,rfl⟩
 |nils=>rw[h.eP];exact⟨.cons' (by unfold Rl;rfl) rfl,rfl⟩
 |tup cs=>obtain⟨l,rfl,hl⟩:=h.mX;exact⟨.cons' h rfl,rfl⟩
 |lst c t l=>obtain⟨c',rfl,hl⟩:=h.bW;exact⟨.cons' h rfl,rfl⟩
 |ref o off=>obtain⟨s,hs,rfl⟩:=h.dY;exact⟨.cons' h rfl,rfl⟩
 |cref o off=>obtain⟨s,rfl,hs⟩:=h.gy;exact⟨.cons' h rfl,rfl⟩
 |mapr o=>obtain⟨s,hs,rfl⟩:=h.jH;exact⟨.cons' h rfl,rfl⟩
 |mapc k e m=>have:=h.ku;subst this;exact⟨.cons' h rfl,rfl⟩
 |fn f a b=>obtain⟨a',b',rfl,_⟩:=h.dn;exact⟨.cons' h rfl,rfl⟩
 |undef=>have:=h.Ce;subst this;exact⟨.cons' h rfl,rfl⟩
 |vw o t=>rcases h.jl with ⟨s,_,rfl⟩| ⟨_,rfl|rfl⟩<;>exact⟨.cons' h rfl,rfl⟩
 |sub o t a b=>rcases h.jI with ⟨_,_,_,⟨s,cp,_,_,rfl⟩| ⟨_,c,rfl⟩⟩<;>exact⟨.cons' h rfl,rfl⟩
 |eref o t i off=>obtain⟨s,_,_,rfl⟩:=h.lG;exact⟨.cons' h rfl,rfl⟩
 |sv o off k n lo hi=>obtain⟨s,_,_,rfl⟩:=h.kC;exact⟨.cons' h rfl,rfl⟩
 |sel o off k n i m=>obtain⟨s,_,_,_,rfl⟩:=h.pJ;exact⟨.cons' h rfl,rfl⟩
 |gel k n y i=>obtain⟨_,_,rfl⟩:=h.sI;exact⟨.cons' h rfl,rfl⟩
 |sg _=>cases hg
 |nilp=>have h':=h;unfold Rl at h';subst h';exact⟨.cons' h rfl,rfl⟩
 |nilf=>have h':=h;unfold Rl at h';subst h';exact⟨.cons' h rfl,rfl⟩
 |nilm=>have h':=h;unfold Rl at h';subst h';exact⟨.cons' h rfl,rfl⟩
 |nili=>have h':=h;unfold Rl at h';subst h';exact⟨.cons' h rfl,rfl⟩
 |opt j w y=>cases hg
 |gone=>cases hg
theorem MB {top:Nat->Nat} {x:TV R.T} {v:V} (hg:oneM x=true) (h:Rl R ρ top x v):oneCell v=true:=by
 cases x with
 |agg cs=>cases hg
 |int k n=>rw[h.inv_int];rfl
 |bool b=>rw[h.fA];rfl
 |blit b=>rw[h.ig];rfl
 |str b=>rw[h.dH];rfl
 |nils=>rw[h.eP];rfl
 |tup cs=>cases hg
 |lst c t l=>obtain⟨c',rfl,hl⟩:=h.bW;rfl
 |ref o off=>obtain⟨s,hs,rfl⟩:=h.dY;rfl
 |cref o off=>obtain⟨s,rfl,hs⟩:=h.gy;rfl
 |mapr o=>obtain⟨s,hs,rfl⟩:=h.jH;rfl
 |mapc k e m=>have:=h.ku;subst this;rfl
 |fn f a b=>obtain⟨a',b',rfl,_⟩:=h.dn;rfl
 |undef=>cases hg
 |vw o t=>rcases h.jl with ⟨s,_,rfl⟩| ⟨_,rfl|rfl⟩<;>rfl
 |sub o t a b=>rcases h.jI with ⟨_,_,_,⟨s,cp,_,_,rfl⟩| ⟨_,c,rfl⟩⟩<;>rfl
 |eref o t i off=>obtain⟨s,_,_,rfl⟩:=h.lG;rfl
 |sv o off k n lo hi=>obtain⟨s,_,_,rfl⟩:=h.kC;rfl
 |sel o off k n i m=>obtain⟨s,_,_,_,rfl⟩:=h.pJ;rfl
 |gel k n y i=>obtain⟨_,_,rfl⟩:=h.sI;rfl
 |sg _=>cases hg
 |nilp=>unfold Rl at h;subst h;rfl
 |nilf=>unfold Rl at h;subst h;rfl
 |nilm=>unfold Rl at h;subst h;rfl
 |nili=>unfold Rl at h;subst h;rfl
 |opt j w y=>cases hg
 |gone=>cases hg
theorem nA {top:Nat->Nat}:∀{x:List (TV R.T)} {v:List V},oneMs x=true->RlL R ρ top x v->oneCells v=true
 | [],v,_,h=>by rw[h.inv_nil];rfl
 |x::xs,v,hg,h=>by
  obtain⟨y,ys,rfl,h1,h2⟩:=h.inv_cons
  unfold oneMs at hg
  rw[iP] at hg
  rw[BX,MB hg.1 h1,nA hg.2 h2];rfl
theorem MC {top:Nat->Nat} {ag:Bool} {n off:Nat} {cs:List (TV R.T)} {l:List V} {x:TV R.T} (h:RlL R ρ top cs l) (hp:partM ag n cs off=some x):∃v,eU ag n l off=some v/\Rl R ρ top x v:=by
 cases ag with
 |true=>
  have hp':(bif Nat.ble (off+n) cs.length then some (TV.agg ((cs.drop off).take n)) else none)=some x:=hp
  cases hb:Nat.ble (off+n) cs.length
  ·rw[hb] at hp';cases hp'
  ·rw[hb] at hp';cases hp'
   have hle:=QJ hb
   refine⟨.agg ((l.drop off).take n),?_,by unfold Rl;exact⟨_,rfl,(h.drop off).take n⟩⟩
   unfold eU;rw[if_pos rfl,if_pos (by rw[h.length];exact hle)]
 |false=>
  obtain⟨v,h1,h2⟩:=h.get (show cs[off]? =some x from hp)
  exact⟨v,by unfold eU;simpa using h1,h2⟩
theorem jM {top:Nat->Nat} {t:TypeId} {off:Nat} {cs:List (TV R.T)} {l:List V} {x:TV R.T} (h:RlL R ρ top cs l) (hp:ldM E t cs off=some x):∃v,ldT E.P t l off=some v/\Rl R ρ top x v:=by
 unfold ldM at hp
 cases h1:isAggT E.P t with
 |none=>simp only[h1] at hp;cases hp
 |some a=>
  cases h2:szT E.P t with
  |none=>simp only[h1,h2] at hp;cases hp
  |some n=>
   simp only[h1,h2] at hp
   unfold ldT;rw[h1,h2];exact MC h hp
theorem xu {top:Nat->Nat} {cs vs:List (TV R.T)} {l k:List V} (off:Nat) (h:RlL R ρ top cs l) (h':RlL R ρ top vs k):RlL R ρ top (spliceM cs off vs) (spliceL l off k):=by
 unfold spliceM spliceL
 rw[h'.length]
 exact((h.take off).append h').append (h.drop _)
theorem lN {top:Nat->Nat} {t:TypeId} {z:TV R.T} (h:zeroM E t=some z):∃v,zeroT E.P t=some v/\Rl R ρ top z v:=by
 unfold zeroM at h
 unfold zeroT
 cases h1:E.P.info? t with
 |none=>simp only[h1] at h;cases h
 |some i=>
  cases h2:i.zero with
  |none=>simp only[h1,h2] at h;cases h
  |some z'=>
   simp only[h1,h2] at h
   obtain⟨v,hv,hr⟩:=CF (ρ:=ρ) (top:=top) h
   exact⟨v,by simp[h2,hv],hr⟩
theorem Dc {top:Nat->Nat} (place:Nat->Option (Nat×Nat)):∀{ps:List (Nat×TV R.T)} {qs:List (Nat×V)} {cs:List (TV R.T)} {l:List V} {cs':List (TV R.T)},ps.map (·.1)=qs.map (·.1)->RlL R ρ top (ps.map (·.2)) (qs.map (·.2))->
 RlL R ρ top cs l->fillM place cs ps=some cs'->∃l',gL place l qs=some l'/\RlL R ρ top cs' l'
 | [],[],cs,l,cs',_,_,h,hf=>by cases hf;exact⟨l,rfl,h⟩
 | [],_::_,_,_,_,h,_,_,_=>by simp at h
 |_::_,[],_,_,_,h,_,_,_=>by simp at h
 | (i,v)::ps,(j,w)::qs,cs,l,cs',hi,hr,h,hf=>by
   simp only[QA,Rb] at hi
   obtain⟨rfl,hi⟩:=hi
   obtain⟨y,ys,e,h1,h2⟩:=hr.inv_cons
   simp only[QA,Rb] at e
   obtain⟨rfl,rfl⟩:=e
   unfold fillM at hf
   unfold gL
   cases hp:place i with
   |none=>simp only[hp] at hf;cases hf
   |some q=>
    obtain⟨off,size⟩:=q
    simp only[hp] at hf⊢
    cases hb:(Nat.beq v.cells.length size&& Nat.ble (off+size) cs.length&& notG v)
    ·rw[hb] at hf;cases hf
    ·rw[hb,cond_true] at hf
     simp only[iP] at hb
     obtain⟨⟨b1,b2⟩,b3⟩:=hb
     obtain⟨hc,hn⟩:=gF b3 h1
     rw[if_pos ⟨by rw[hc.length];exact aJ b1,by rw[h.length];exact QJ b2,hn⟩]
     exact Dc place hi h2 (xu off h hc) hf
theorem Df {top:Nat->Nat} {x:TV R.T} {v:V} {a:Bool} (h:bM x=some a) (hr:Rl R ρ top x v):v= .bool a:=by
 cases x<;>cases h
 ·exact hr.fA
 ·exact hr.ig
theorem Dh {top:Nat->Nat} {x y:TV R.T} {v w:V} {r:Bool} (h:eqSM x y=some r) (hx:Rl R ρ top x v) (hy:Rl R ρ top y w):∃a b,v= .bool a/\w= .bool b/\r=(a==b):=by
 unfold eqSM at h
 cases h1:bM x with
 |none=>simp only[h1] at h;cases h
 |some a=>
  cases h2:bM y with
  |none=>simp only[h1,h2] at h;cases h
  |some b=>simp only[h1,h2] at h;cases h;exact⟨a,b,Df h1 hx,Df h2 hy,rfl⟩
theorem xw {top:Nat->Nat} {jN:TypeId->TV R.T->TV R.T->Option Bool} {eqv:TypeId->V->V->Option Bool} (he:∀t x y v w r,jN t x y=some r->Rl R ρ top x v->Rl R ρ top y w->eqv t v w=some r)
 {xs ys:List (TV R.T)} {vs ws:List V} (hx:RlL R ρ top xs vs) (hy:RlL R ρ top ys ws):∀{fs:List Field} {r:Bool},eqFlM E jN xs ys fs=some r->kP E.P eqv vs ws fs=some r
 | [],r,h=>by cases h;rfl
 |f::fs,r,h=>by
  unfold eqFlM at h
  unfold kP
  split at h
  ·rename_i hn;rw[if_pos hn];exact xw he hx hy h
  ·rename_i hn
   rw[if_neg hn]
   cases h1:ldM E f.type xs f.offset with
   |none=>simp only[h1] at h;cases h
   |some a=>
    cases h2:ldM E f.type ys f.offset with
    |none=>simp only[h1,h2] at h;cases h
    |some c=>
     cases h3:jN f.type a c with
     |none=>simp only[h1,h2,h3] at h;cases h
     |some r1=>
      cases h4:eqFlM E jN xs ys fs with
      |none=>simp only[h1,h2,h3,h4] at h;cases h
      |some q=>
       simp only[h1,h2,h3,h4] at h;cases h
       obtain⟨v1,e1,g1⟩:=jM hx h1
       obtain⟨v2,e2,g2⟩:=jM hy h2
       simp[e1,e2,he _ _ _ _ _ _ h3 g1 g2,xw he hx hy h4]
theorem Di {top:Nat->Nat} {jN:TypeId->TV R.T->TV R.T->Option Bool} {eqv:TypeId->V->V->Option Bool} (he:∀t x y v w r,jN t x y=some r->Rl R ρ top x v->Rl R ρ top y w->eqv t v w=some r)
 {e:TypeId} {sz:Nat} {xs ys:List (TV R.T)} {vs ws:List V} (hx:RlL R ρ top xs vs) (hy:RlL R ρ top ys ws):∀{is:List Nat} {r:Bool},eqElM E jN e sz xs ys is=some r->lW E.P eqv e sz vs ws is=some r
 | [],r,h=>by cases h;rfl
 |i::is,r,h=>by
  unfold eqElM at h
  unfold lW
  cases h1:ldM E e xs (i*sz) with
  |none=>simp only[h1] at h;cases h
  |some a=>
   cases h2:ldM E e ys (i*sz) with
   |none=>simp only[h1,h2] at h;cases h
   |some c=>
    cases h3:jN e a c with
    |none=>simp only[h1,h2,h3] at h;cases h
    |some r1=>
     cases h4:eqElM E jN e sz xs ys is with
     |none=>simp only[h1,h2,h3,h4] at h;cases h
     |some q=>
      simp only[h1,h2,h3,h4] at h;cases h
      obtain⟨v1,e1,g1⟩:=jM hx h1
      obtain⟨v2,e2,g2⟩:=jM hy h2
      simp[e1,e2,he _ _ _ _ _ _ h3 g1 g2,Di he hx hy h4]
theorem sP {top:Nat->Nat}:∀(d:Nat) (t:TypeId) (x y:TV R.T) (v w:V) (r:Bool),eqTM E d t x y=some r->Rl R ρ top x v->Rl R ρ top y w->jQ E.P d t v w=some r
 |0,_,_,_,_,_,_,h,_,_=>by cases h
 |d+1,t,x,y,v,w,r,h,hx,hy=>by
  unfold eqTM at h
  unfold jQ
  split at h
  ·rename_i fs xs ys hu
   obtain⟨l,rfl,h1⟩:=hx.bY
   obtain⟨k,rfl,h2⟩:=hy.bY
   rw[hu];dsimp only
   split at h
   ·cases h
   ·rename_i hs;rw[if_neg hs];exact xw (sP d) h1 h2 h
  ·rename_i n e xs ys hu
   obtain⟨l,rfl,h1⟩:=hx.bY
   obtain⟨k,rfl,h2⟩:=hy.bY
   rw[hu];dsimp only
   cases hs:szT E.P e with
   |none=>simp only[hs] at h;cases h
   |some sz=>simp only[hs] at h;simp only[Option.bind_some];exact Di (sP d) h1 h2 h
  ·cases h
  ·cases h
  ·rename_i hu
   obtain⟨a,c,rfl,rfl,rfl⟩:=Dh h hx hy
   rw[hu]
  ·rename_i k a k' c hu
   rw[hx.inv_int,hy.inv_int,hu];exact h
  ·rename_i a c hu
   rw[hx.dH,hy.dH,hu];exact h
  ·cases h
theorem Dj {top:Nat->Nat} {t:TypeId} {x y:TV R.T} {v w:V} {r:Bool} (h:eqM E t x y=some r) (hx:Rl R ρ top x v) (hy:Rl R ρ top y w):eX E.P t v w=some r:=by
 unfold eqM at h
 unfold eX
 split at h
 ·rename_i fs xs ys hu
  split at h
  ·cases h
  ·rename_i hs
   have:=sP 8 t _ _ v w r h hx hy
   obtain⟨l,rfl,h1⟩:=hx.bY
   obtain⟨k,rfl,h2⟩:=hy.bY
   rw[hu];dsimp only;rw[if_neg hs];exact this
 ·rename_i fs xs ys hu
  split at h
  ·cases h
  ·rename_i hs
   have:=sP 8 t _ _ v w r h hx hy
   obtain⟨l,rfl,h1⟩:=hx.bY
   obtain⟨k,rfl,h2⟩:=hy.bY
   rw[hu];dsimp only;rw[if_neg hs];exact this
 ·rename_i hu;cases h;unfold Rl at hx hy;subst hx;subst hy;rw[hu]
 ·rename_i hu;cases h;obtain⟨a,b,rfl,_⟩:=hy.dn;unfold Rl at hx;subst hx;rw[hu]
 ·rename_i hu;cases h;obtain⟨a,b,rfl,_⟩:=hx.dn;unfold Rl at hy;subst hy;rw[hu]
 ·rename_i hu;obtain⟨a,c,rfl,rfl,rfl⟩:=Dh h hx hy;rw[hu]
 ·cases h
end
end Aq
end
