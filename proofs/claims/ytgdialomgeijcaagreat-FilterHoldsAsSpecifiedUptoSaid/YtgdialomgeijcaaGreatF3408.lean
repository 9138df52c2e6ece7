/- Part of the proof of a law. -/
import Derived.Test.YtgdialomgeijcaaGreatF3407
set_option linter.all false
set_option linter.unusedSimpArgs false
set_option linter.unusedSectionVars false
section
namespace Aq
open Go
set_option linter.unusedSectionVars false
set_option linter.unusedVariables false
theorem dn {a b:Nat} (h:Nat.beq a b=true):a=b:=Nat.eq_of_beq_eq_true h
theorem Gl {a b:Nat} (h:Nat.beq a b=false):a≠b:=fun e=>by rw[e,Nat.beq_refl] at h;cases h
theorem Gm {a b:Nat} (h:a≠b):Nat.beq a b=false:=Bool.eq_false_iff.2 fun e=>h (dn e)
section look
variable {α:Type}
theorem oP (f:α→α):∀(l:List (Nat×α)) (i:Nat),look (jr f l) i=(look l i).map f
 | [],_=>rfl
 | (j,x)::l,i=>by
   show (bif Nat.beq j i then some (f x) else look (jr f l) i)=Option.map f (bif Nat.beq j i then some x else look l i)
   cases Nat.beq j i
   ·exact oP f l i
   ·rfl
theorem mM {i j:Nat} (h:j≠i):∀(l:List (Nat×α)),look (fJ i l) j=look l j
 | []=>rfl
 | (k,x)::l=>by
   show look (bif Nat.beq k i then fJ i l else (k,x)::fJ i l) j=bif Nat.beq k j then some x else look l j
   cases hk:Nat.beq k i
   ·show (bif Nat.beq k j then some x else look (fJ i l) j)=_
    rw[mM h l]
   ·have:=dn hk
    subst this
    rw[Gm (Ne.symm h)]
    exact mM h l
theorem gI (l:List (Nat×α)) (i:Nat) (x:α):look ((i,x)::l) i=some x:=by
 show (bif Nat.beq i i then some x else look l i)=_;rw[Nat.beq_refl];rfl
theorem eU (l:List (Nat×α)) {i j:Nat} (x:α) (h:j≠i):look ((i,x)::l) j=look l j:=by
 show (bif Nat.beq i j then some x else look l j)=_;rw[Gm (Ne.symm h)];rfl
end look
section
variable {R:fI} {E:Env}
theorem Q6 {ρ ρ':aK} {top top':Nat→Nat}:∀(t:Ty) (x:Den R.T t) (v:V),Rl R ρ top (tX R .any t x) v→Rl R ρ' top' (tX R .any t x) v
 |.int _,_,_,h=>h
 |.bool,_,_,h=>h
 |.str,_,_,h=>h
 |.slice _,_,_,h=>h
 |.st _,_,_,h=>h
theorem vK {ρ ρ':aK} {top top':Nat→Nat}:∀(l:List Ty) (p:jS R.T l) (vs:List V),ay R ρ top (gM R .any l p) vs→ay R ρ' top' (gM R .any l p) vs
 | [],_,_,h=>h
 | [t],x,vs,h=>by
   obtain⟨v,l,rfl,h1,h2⟩:=h.bX
   rw[h2.dO]
   exact .cons' (Q6 t x v h1) rfl
 |t::u::l,p,vs,h=>by
  obtain⟨v,ws,rfl,h1,h2⟩:=h.bX
  exact .cons' (Q6 t p.1 v h1) (vK (u::l) p.2 ws h2)
theorem abl {ρ ρ':aK} {top top':Nat→Nat} {t:Ty} {x:Den R.T t} {vs:List V} (h:ay R ρ top (dN R .any t x).cells vs):ay R ρ' top' (dN R .any t x).cells vs:=by
 cases t with
 |st n=>exact vK _ _ _ h
 |int k=>exact vK [.int k] x vs h
 |bool=>exact vK [.bool] x vs h
 |str=>exact vK [.str] x vs h
 |slice t=>exact vK [.slice t] x vs h
theorem ay.split {ρ:aK} {top:Nat→Nat}:∀{ts ts':List (TV R.T)} {vs:List V},ay R ρ top (ts++ts') vs→∃a b,vs=a++b∧ay R ρ top ts a∧ay R ρ top ts' b
 | [],_,vs,h=>⟨[],vs,rfl,rfl,h⟩
 |t::ts,ts',vs,h=>by
  obtain⟨v,ws,rfl,h1,h2⟩:=ay.bX (ts:=ts++ts') h
  obtain⟨a,b,rfl,h3,h4⟩:=ay.split h2
  exact⟨v::a,b,rfl,.cons' h1 h3,h4⟩
theorem uo {ρ ρ':aK} {top top':Nat→Nat} {t:Ty}:∀(l:List (Den R.T t)) (vs:List V),ay R ρ top (l.flatMap fun x=>(dN R .any t x).cells) vs→ay R ρ' top' (l.flatMap fun x=>(dN R .any t x).cells) vs
 | [],vs,h=>h
 |x::l,vs,h=>by
  rw[List.flatMap_cons] at h⊢
  obtain⟨a,b,rfl,h1,h2⟩:=h.split
  exact(abl h1).append (uo l b h2)
def fM (fr:Fr) (ρ:aK) (top:Nat→Nat):TV R.T→V→Prop
 |.opt j w y,v=>(fr.tm j= .bool w→Rl R ρ top y v)∧(fr.tm j= .bool (!w)∨fr.tm j=aA→v=aA)
 |x,v=>Rl R ρ top x v
theorem fM.of {fr:Fr} {ρ:aK} {top:Nat→Nat} {x:TV R.T} {v:V} (h:Rl R ρ top x v):fM fr ρ top x v:=by
 cases x<;>first|exact h|exact h.QW.elim
def dx (ρ:aK) (σ:ah) (o:Nat):Ob R.T→Prop
 |.cells cs=> ∃s l,ρ.ob o=some s∧σ.bD (ρ.om.lc o) s=some l∧ay R ρ σ.top cs l
 |.map k e m=> ∃s,ρ.ob o=some s∧σ.dU (ρ.om.lc o) s=some (m.map fun p=>aC R k p.1,m.map fun p=>aC R e p.2)
 |.smap ks vs=> ∃s k l,ρ.ob o=some s∧σ.dU (ρ.om.lc o) s=some (k,l)∧ay R ρ σ.top ks k∧ay R ρ σ.top vs l
 |.arr t l=>l.length=ρ.ln o∧((l=[]∧ρ.ob o=none)∨∃s cs,ρ.ob o=some s∧σ.bD (ρ.om.lc o) s=some cs∧ay R ρ σ.top (l.flatMap fun x=>(dN R .any t x).cells) cs)
 |.sg ss=> ∃s,ρ.ob o=some s∧σ.bD (ρ.om.lc o) s=some (bf ss)
 |.gone=>True
 |.ro b=>dx ρ σ o b
theorem dx.strip {ρ:aK} {σ:ah} {o:Nat}:∀{x:Ob R.T},dx ρ σ o x→dx ρ σ o (Km x)
 |.cells _,h=>h
 |.map _ _ _,h=>h
 |.smap _ _,h=>h
 |.arr _ _,h=>h
 |.sg _,h=>h
 |.gone,h=>h
 |.ro b,h=>dx.strip (x:=b) h
structure aB (ρ:aK) (b:Nat) (st:MS R.T) (fr:Fr) (σ:ah):Prop where
 d:fr.d=ρ.om.dp
 om:fr.om=ρ.om.om
 fr:∀i v,look st.fr i=some v→fM fr ρ σ.top v (fr.tm i)
 ob:∀o x,look st.ob o=some x→dx ρ σ o x
 inj:∀t u s,ρ.tk t=some s→ρ.tk u=some s→t=u
 lt:∀t s,ρ.tk t=some s→s<b
 ge:∀t s,ρ.tk t=some s→ρ.om.lo≤s
 nx:ρ.om.lo≤b
variable {ρ:aK} {b:Nat} {st:MS R.T} {fr:Fr} {σ:ah}
theorem aB.le {b':Nat} (h:aB ρ b st fr σ) (hb:b≤b'):aB ρ b' st fr σ:={h with lt:=fun t s ht=>Nat.lt_of_lt_of_le (h.lt t s ht) hb,nx:=Nat.le_trans h.nx hb}
theorem dx.bump {o k:Nat}:∀{x:Ob R.T},dx ρ σ o x→dx ρ (σ.bump k) o x
 |.cells _,h=>h
 |.map _ _ _,h=>h
 |.smap _ _,h=>h
 |.arr _ _,h=>h
 |.sg _,h=>h
 |.gone,h=>h
 |.ro b,h=>dx.bump (x:=b) h
theorem aB.next (h:aB ρ b st fr σ) (k:Nat):aB ρ b st fr (σ.bump k):={h with fr:=h.fr,ob:=fun o x hx=>(h.ob o x hx).bump}
theorem aB.rd (h:aB ρ b st fr σ) {o:Nat} {x:Ob R.T} (hx:jU st o=some x):dx ρ σ o x:=by
 unfold jU at hx
 split at hx
 ·rename_i y hy;cases hx;exact(h.ob _ _ hy).strip
 ·cases hx
theorem abm {ρ:aK} {top:Nat→Nat} {x:TV R.T} {u v:V} {i:Nat} (h:fM fr ρ top x v):fM (fr.set i u) ρ top (Kk i x) v:=by
 cases x with
 |opt j w y=>
  show fM _ _ _ (bif Nat.beq j i then .gone else .opt j w y) v
  cases hj:Nat.beq j i
  ·have hs:(fr.set i u).tm j=fr.tm j:=tL _ _ (by simpa using Gl hj)
   exact⟨fun hc=>h.1 (by rw[←hs];exact hc),fun hc=>h.2 (by rw[←hs];exact hc)⟩
  ·exact fM.of (x:=.gone) (by unfold Rl;trivial)
 |_=>exact h
theorem aB.put (h:aB ρ b st fr σ) (i:Nat) {x:TV R.T} {v:V} (hx:fM (fr.set i v) ρ σ.top x v):aB ρ b (st.put i x) (fr.set i v) σ where
 d:=h.d
 om:=h.om
 ob:=h.ob
 inj:=h.inj
 lt:=h.lt
 ge:=h.ge
 nx:=h.nx
 fr:=fun j y hy=>by
  by_cases e:j=i
  ·subst e
   have hy':some x=some y:=by rw[←hy];exact(gI _ _ _).symm
   cases hy'
   rw[Qo]
   exact hx
  ·have hy':look (jr (Kk i) (fJ i st.fr)) j=some y:=by rw[←hy];exact(eU _ _ e).symm
   rw[oP,mM e,Option.map_eq_some_iff] at hy'
   obtain⟨z,hz,rfl⟩:=hy'
   rw[tL _ _ (by simpa using e)]
   exact abm (h.fr j z hz)
theorem aB.dH (h:aB ρ b st fr σ) (d:Option Nat) {x:TV R.T} {v:V} (hx:Rl R ρ σ.top x v):aB ρ b (st.dH d x) (fr.put d v) σ:=by
 cases d with
 |none=>exact h
 |some i=>exact h.put i (.of hx)
theorem abn {ρ:aK} {top:Nat→Nat} {x:TV R.T} {v:V} {i:Nat} {c:Bool} (hi:fr.tm i= .bool c) (h:fM fr ρ top x v):fM fr ρ top (Kl i c x) v:=by
 cases x with
 |opt j w y=>
  show fM _ _ _ (bif Nat.beq j i then (bif (c==w) then y else .undef) else .opt j w y) v
  cases hj:Nat.beq j i
  ·exact h
  ·have:=dn hj
   subst this
   by_cases e:c=w
   ·subst e
    rw[beq_self_eq_true]
    exact fM.of (h.1 hi)
   ·rw[show (c==w)=false by simpa using e]
    have e':c= !w:=by cases c<;>cases w<;>first|rfl|exact absurd rfl e
    have h':=h.2 (.inl (by rw[hi,e']))
    subst h';exact fM.of (x:=.undef) (by unfold Rl;rfl)
 |_=>exact h
theorem aB.learn (h:aB ρ b st fr σ) {i:Nat} {c:Bool} (hc:fr.tm i= .bool c):aB ρ b (st.learn i c) fr σ where
 d:=h.d
 om:=h.om
 ob:=h.ob
 inj:=h.inj
 lt:=h.lt
 ge:=h.ge
 nx:=h.nx
 fr:=fun j y hy=>by
  by_cases e:j=i
  ·subst e
   have hy':some (TV.fq c)=some y:=by rw[←hy];exact(gI _ _ _).symm
   cases hy'
   exact fM.of (x:=.fq c) (by unfold Rl;exact hc)
  ·have hy':look (jr (Kl i c) (fJ i st.fr)) j=some y:=by rw[←hy];exact(eU _ _ e).symm
   rw[oP,mM e,Option.map_eq_some_iff] at hy'
   obtain⟨z,hz,rfl⟩:=hy'
   exact abn hc (h.fr j z hz)
def aK.jA (ρ:aK) (o s:Nat):aK:={ρ with ob:=upd ρ.ob o (some s)}
def aK.eG (ρ:aK) (t s:Nat):aK:={ρ with tk:=upd ρ.tk t (some s)}
theorem Q7 {ρ':aK} {top:Nat→Nat} {o:Nat} {x:TV R.T} {v:V} (ho:∀p,p≠o→ρ'.ob p=ρ.ob p∧ρ'.ln p=ρ.ln p) (ht:ρ'.tk=ρ.tk) (hx:ρ'.om=ρ.om) (h:fM fr ρ top x v):fM fr ρ' top (Cz o x) v:=by
 unfold Cz
 cases hm:jq o x
 ·cases x with
  |opt j w y=>exact⟨fun hc=>Rl.kill o ho ht hx y v hm (h.1 hc),h.2⟩
  |_=>exact fM.of (Rl.kill o ho ht hx _ v hm h)
 ·exact fM.of (x:=.gone) (by unfold Rl;trivial)
theorem KX (c:Cx) {o p:Nat} (h:p≠o):ng (c.lc p) (c.lc o)=false:=by
 cases e:ng (c.lc p) (c.lc o)
 ·rfl
 ·unfold ng at e
  rw[Bool.and_eq_true,beq_iff_eq,beq_iff_eq] at e
  exact absurd (Prod.ext e.2 e.1) (c.QU h)
theorem vL {c:Cx} {o p:Nat} (σ:ah) (s s':Nat) (x:eO) (h:p≠o):(σ.setObj (c.lc o) s' x).bD (c.lc p) s=σ.bD (c.lc p) s:=Qs σ s s' x (KX c h)
theorem Af {c:Cx} {o p:Nat} (σ:ah) (s s':Nat) (x:eO) (h:p≠o):(σ.setObj (c.lc o) s' x).dU (c.lc p) s=σ.dU (c.lc p) s:=Qt σ s s' x (KX c h)
theorem Q8 {ρ':aK} {o p s':Nat} {a:eO} (hp:p≠o) (ho:∀p,p≠o→ρ'.ob p=ρ.ob p∧ρ'.ln p=ρ.ln p) (ht:ρ'.tk=ρ.tk) (hx:ρ'.om=ρ.om):∀{x:Ob R.T},Ob.jq o x=false→dx ρ σ p x→dx ρ' (σ.setObj (ρ.om.lc o) s' a) p x
 |.cells cs,hm,h=>by
  obtain⟨s,l,h1,h2,h3⟩:=h
  exact⟨s,l,((ho p hp).1.trans h1),by rw[hx,vL _ _ _ _ hp];exact h2,ay.kill o ho ht hx _ _ hm h3⟩
 |.map k e m,_,h=>by
  obtain⟨s,h1,h2⟩:=h
  exact⟨s,((ho p hp).1.trans h1),by rw[hx,Af _ _ _ _ hp];exact h2⟩
 |.smap ks vs,hm,h=>by
  obtain⟨s,k,l,h1,h2,h3,h4⟩:=h
  have hm':(jT o ks||jT o vs)=false:=hm
  rw[Bool.or_eq_false_iff] at hm'
  exact⟨s,k,l,((ho p hp).1.trans h1),by rw[hx,Af _ _ _ _ hp];exact h2,ay.kill o ho ht hx _ _ hm'.1 h3,ay.kill o ho ht hx _ _ hm'.2 h4⟩
 |.arr t l,hm,h=>by
  refine⟨h.1.trans (ho p hp).2.symm, ?_⟩
  rcases h.2 with h| ⟨s,cs,h1,h2,h3⟩
  ·exact .inl ⟨h.1,(ho p hp).1.trans h.2⟩
  ·exact .inr ⟨s,cs,((ho p hp).1.trans h1),by rw[hx,vL _ _ _ _ hp];exact h2,uo l cs h3⟩
 |.sg ss,_,h=>by
  obtain⟨s,h1,h2⟩:=h
  exact⟨s,((ho p hp).1.trans h1),by rw[hx,vL _ _ _ _ hp];exact h2⟩
 |.gone,_,_=>trivial
 |.ro b,hm,h=>Q8 hp ho ht hx (x:=b) hm h
theorem abo {ρ':aK} {o p s':Nat} {a:eO} {x:Ob R.T} (hp:p≠o) (ho:∀p,p≠o→ρ'.ob p=ρ.ob p∧ρ'.ln p=ρ.ln p) (ht:ρ'.tk=ρ.tk) (hx:ρ'.om=ρ.om) (h:dx ρ σ p x):dx ρ' (σ.setObj (ρ.om.lc o) s' a) p (Ob.kill o x):=by
 unfold Ob.kill
 cases hm:Ob.jq o x
 ·exact Q8 hp ho ht hx hm h
 ·trivial
theorem Q9 {o p s:Nat} {a:eO} (hp:p≠o):∀{x:Ob R.T},dx ρ σ p x→dx ρ (σ.setObj (ρ.om.lc o) s a) p x
 |.cells cs,h=>by obtain⟨s,l,h1,h2,h3⟩:=h;exact⟨s,l,h1,by rw[vL _ _ _ _ hp];exact h2,h3⟩
 |.map k e m,h=>by obtain⟨s,h1,h2⟩:=h;exact⟨s,h1,by rw[Af _ _ _ _ hp];exact h2⟩
 |.smap ks vs,h=>by obtain⟨s,k,l,h1,h2,h3⟩:=h;exact⟨s,k,l,h1,by rw[Af _ _ _ _ hp];exact h2,h3⟩
 |.arr t l,h=>by
  refine⟨h.1, ?_⟩
  rcases h.2 with h| ⟨s,cs,h1,h2,h3⟩
  ·exact .inl h
  ·exact .inr ⟨s,cs,h1,by rw[vL _ _ _ _ hp];exact h2,h3⟩
 |.sg ss,h=>by obtain⟨s,h1,h2⟩:=h;exact⟨s,h1,by rw[vL _ _ _ _ hp];exact h2⟩
 |.gone,_=>trivial
 |.ro b,h=>Q9 hp (x:=b) h
theorem Ra {o t s n:Nat} (key:∀u s',u≠t→ρ.tk u=some s'→(ρ.eG t s).tk u=some s'∧(σ.bE s n).top s'=σ.top s'):∀{x:Ob R.T},dx ρ σ o x→dx (ρ.eG t s) (σ.bE s n) o (Ob.wk t x)
 |.cells cs,h=>by obtain⟨s',l,h1,h2,h3⟩:=h;exact⟨s',l,h1,h2,ay.wk (ρ:=ρ) (ρ':=ρ.eG t s) (top:=σ.top) (top':=(σ.bE s n).top) t ⟨rfl,rfl,rfl⟩ key _ _ h3⟩
 |.map k e m,h=>h
 |.smap ks vs,h=>by obtain⟨s',k,l,h1,h2,h3,h4⟩:=h;exact⟨s',k,l,h1,h2,ay.wk (ρ:=ρ) (ρ':=ρ.eG t s) (top:=σ.top) (top':=(σ.bE s n).top) t ⟨rfl,rfl,rfl⟩ key _ _ h3,ay.wk (ρ:=ρ) (ρ':=ρ.eG t s) (top:=σ.top) (top':=(σ.bE s n).top) t ⟨rfl,rfl,rfl⟩ key _ _ h4⟩
 |.arr ty l,h=>by
  refine⟨h.1, ?_⟩
  rcases h.2 with h| ⟨s,cs,h1,h2,h3⟩
  ·exact .inl h
  ·exact .inr ⟨s,cs,h1,h2,uo l cs h3⟩
 |.sg ss,h=>h
 |.gone,_=>trivial
 |.ro b,h=>Ra key (x:=b) h
theorem Ah {o s:Nat}:∀p,p≠o→(ρ.jA o s).ob p=ρ.ob p∧(ρ.jA o s).ln p=ρ.ln p:=fun p h=>⟨by simp[aK.jA,upd,h],rfl⟩
def aK.xI (ρ:aK) (o n:Nat):aK:={ρ with ln:=upd ρ.ln o n}
theorem Rb {o n:Nat}:∀p,p≠o→(ρ.xI o n).ob p=ρ.ob p∧(ρ.xI o n).ln p=ρ.ln p:=fun p h=>⟨rfl,by simp[aK.xI,upd,h]⟩
def aK.gh (ρ:aK) (o:Nat):aK:={ρ.xI o 0 with ob:=upd ρ.ob o none}
theorem Ai {o:Nat}:∀p,p≠o→(ρ.gh o).ob p=ρ.ob p∧(ρ.gh o).ln p=ρ.ln p:=fun p h=>⟨by simp[aK.gh,upd,h],(Rb (ρ:=ρ) (n:=0) p h).2⟩
theorem Dc {o n:Nat}:(ρ.xI o n).ln o=n:=by simp[aK.xI,upd]
def aK.xJ (ρ:aK) (o s n:Nat):aK:=(ρ.jA o s).xI o n
theorem KY {o s n:Nat}:∀p,p≠o→(ρ.xJ o s n).ob p=ρ.ob p∧(ρ.xJ o s n).ln p=ρ.ln p:=fun p h=>⟨(Ah p h).1,(Rb p h).2⟩
theorem oQ {o s:Nat}:(ρ.jA o s).ob o=some s:=by simp[aK.jA,upd]
theorem aB.new' {ρ':aK} (h:aB ρ b st fr σ) (o s:Nat) {x:Ob R.T} {a:eO} (Ah:∀p,p≠o→ρ'.ob p=ρ.ob p∧ρ'.ln p=ρ.ln p) (ht:ρ'.tk=ρ.tk) (aW:ρ'.om=ρ.om) (hx:dx ρ' (σ.setObj (ρ.om.lc o) s a) o x):aB ρ' b (st.new o x) fr (σ.setObj (ρ.om.lc o) s a) where
 d:=by rw[aW];exact h.d
 om:=by rw[aW];exact h.om
 fr:=fun j y hy=>by
  have hy':look (jr (Cz o) st.fr) j=some y:=hy
  rw[oP,Option.map_eq_some_iff] at hy'
  obtain⟨z,hz,rfl⟩:=hy'
  exact Q7 Ah ht aW (h.fr j z hz)
 ob:=fun p y hy=>by
  by_cases e:p=o
  ·subst e
   have hy':some x=some y:=by rw[←hy];exact(gI _ _ _).symm
   cases hy'
   exact hx
  ·have hy':look (jr (Ob.kill o) (fJ o st.ob)) p=some y:=by rw[←hy];exact(eU _ _ e).symm
   rw[oP,mM e,Option.map_eq_some_iff] at hy'
   obtain⟨z,hz,rfl⟩:=hy'
   exact abo e Ah ht aW (h.ob p z hz)
 inj:=by rw[ht];exact h.inj
 lt:=by rw[ht];exact h.lt
 ge:=by rw[ht,aW];exact h.ge
 nx:=by rw[aW];exact h.nx
theorem aB.new (h:aB ρ b st fr σ) (o s:Nat) {x:Ob R.T} {a:eO} (hx:dx (ρ.jA o s) (σ.setObj (ρ.om.lc o) s a) o x):aB (ρ.jA o s) b (st.new o x) fr (σ.setObj (ρ.om.lc o) s a):=h.new' o s Ah rfl rfl hx
theorem aB.KZ (h:aB ρ b st fr σ) (o s n:Nat) {x:Ob R.T} {a:eO} (hx:dx (ρ.xJ o s n) (σ.setObj (ρ.om.lc o) s a) o x):aB (ρ.xJ o s n) b (st.new o x) fr (σ.setObj (ρ.om.lc o) s a):=h.new' o s KY rfl rfl hx
theorem Rc {ρ':aK} {o p:Nat} (hp:p≠o) (ho:∀p,p≠o→ρ'.ob p=ρ.ob p∧ρ'.ln p=ρ.ln p) (ht:ρ'.tk=ρ.tk) (hx:ρ'.om=ρ.om):∀{x:Ob R.T},Ob.jq o x=false→dx ρ σ p x→dx ρ' σ p x
 |.cells cs,hm,h=>by
  obtain⟨s,l,h1,h2,h3⟩:=h
  exact⟨s,l,((ho p hp).1.trans h1),by rw[hx];exact h2,ay.kill o ho ht hx _ _ hm h3⟩
 |.map k e m,_,h=>by
  obtain⟨s,h1,h2⟩:=h
  exact⟨s,((ho p hp).1.trans h1),by rw[hx];exact h2⟩
 |.smap ks vs,hm,h=>by
  obtain⟨s,k,l,h1,h2,h3,h4⟩:=h
  have hm':(jT o ks||jT o vs)=false:=hm
  rw[Bool.or_eq_false_iff] at hm'
  exact⟨s,k,l,((ho p hp).1.trans h1),by rw[hx];exact h2,ay.kill o ho ht hx _ _ hm'.1 h3,ay.kill o ho ht hx _ _ hm'.2 h4⟩
 |.arr t l,hm,h=>by
  refine⟨h.1.trans (ho p hp).2.symm, ?_⟩
  rcases h.2 with h| ⟨s,cs,h1,h2,h3⟩
  ·exact .inl ⟨h.1,(ho p hp).1.trans h.2⟩
  ·exact .inr ⟨s,cs,((ho p hp).1.trans h1),by rw[hx];exact h2,uo l cs h3⟩
 |.sg ss,_,h=>by
  obtain⟨s,h1,h2⟩:=h
  exact⟨s,((ho p hp).1.trans h1),by rw[hx];exact h2⟩
 |.gone,_,_=>trivial
 |.ro b,hm,h=>Rc hp ho ht hx (x:=b) hm h
theorem aB.ghost (h:aB ρ b st fr σ) (o:Nat) (t:Ty):aB (ρ.gh o) b (st.new o (.arr t [])) fr σ where
 d:=h.d
 om:=h.om
 fr:=fun j y hy=>by
  have hy':look (jr (Cz o) st.fr) j=some y:=hy
  rw[oP,Option.map_eq_some_iff] at hy'
  obtain⟨z,hz,rfl⟩:=hy'
  exact Q7 Ai rfl rfl (h.fr j z hz)
 ob:=fun p y hy=>by
  by_cases e:p=o
  ·subst e
   have hy':some (Ob.arr t ([]:List (Den R.T t)))=some y:=by rw[←hy];exact(gI _ _ _).symm
   cases hy'
   exact⟨(Dc (ρ:=ρ) (n:=0)).symm,.inl ⟨rfl,by simp[aK.gh,upd]⟩⟩
  ·have hy':look (jr (Ob.kill o) (fJ o st.ob)) p=some y:=by rw[←hy];exact(eU _ _ e).symm
   rw[oP,mM e,Option.map_eq_some_iff] at hy'
   obtain⟨z,hz,rfl⟩:=hy'
   unfold Ob.kill
   cases hm:Ob.jq o z
   ·exact Rc e Ai rfl rfl hm (h.ob p z hz)
   ·trivial
 inj:=h.inj
 lt:=h.lt
 ge:=h.ge
 nx:=h.nx
theorem Rf {c:Cx} {o p:Nat} (σ:ah) (h:p≠o):(σ.fE (c.lc o)).obj (c.lc p)=σ.obj (c.lc p):=by
 unfold ah.fE upd
 dsimp only
 rw[if_neg (c.QU h)]
theorem Rh {σ':ah} {p:Nat} (hp:σ'.obj (ρ.om.lc p)=σ.obj (ρ.om.lc p)) (ht:σ'.top=σ.top):∀{x:Ob R.T},dx ρ σ p x→dx ρ σ' p x
 |.cells cs,h=>by
  obtain⟨s,l,h1,h2,h3⟩:=h
  exact⟨s,l,h1,by unfold ah.bD at h2⊢;rw[hp];exact h2,by rw[ht];exact h3⟩
 |.map k e m,h=>by
  obtain⟨s,h1,h2⟩:=h
  exact⟨s,h1,by unfold ah.dU at h2⊢;rw[hp];exact h2⟩
 |.smap ks vs,h=>by
  obtain⟨s,k,l,h1,h2,h3,h4⟩:=h
  exact⟨s,k,l,h1,by unfold ah.dU at h2⊢;rw[hp];exact h2,by rw[ht];exact h3,by rw[ht];exact h4⟩
 |.arr t l,h=>by
  refine⟨h.1, ?_⟩
  rcases h.2 with h| ⟨s,cs,h1,h2,h3⟩
  ·exact .inl h
  ·exact .inr ⟨s,cs,h1,by unfold ah.bD at h2⊢;rw[hp];exact h2,uo l cs h3⟩
 |.sg ss,h=>by
  obtain⟨s,h1,h2⟩:=h
  exact⟨s,h1,by unfold ah.bD at h2⊢;rw[hp];exact h2⟩
 |.gone,_=>trivial
 |.ro b,h=>Rh hp ht (x:=b) h
theorem aB.del (h:aB ρ b st fr σ) (o:Nat):aB ρ b (st.del o) fr (σ.fE (ρ.om.lc o)) where
 d:=h.d
 om:=h.om
 fr:=h.fr
 ob:=fun p y hy=>by
  by_cases e:p=o
  ·subst e
   have:look (fJ p st.ob) p=some y:=hy
   have key:∀l:List (Nat×Ob R.T),look (fJ p l) p=none:=by
    intro l
    induction l with
    |nil=>rfl
    |cons q l ih=>
     obtain⟨j,x⟩:=q
     unfold fJ
     cases hj:Nat.beq j p
     ·show (bif Nat.beq j p then some x else look (fJ p l) p)=none
      rw[hj];exact ih
     ·exact ih
   rw[key] at this;cases this
  ·have hy':look (fJ o st.ob) p=some y:=hy
   rw[mM e] at hy'
   exact Rh (Rf σ e) rfl (h.ob p y hy')
 inj:=h.inj
 lt:=h.lt
 ge:=h.ge
 nx:=h.nx
theorem aB.set (h:aB ρ b st fr σ) (o s:Nat) {x:Ob R.T} {a:eO} (hx:dx ρ (σ.setObj (ρ.om.lc o) s a) o x):aB ρ b (st.set o x) fr (σ.setObj (ρ.om.lc o) s a) where
 d:=h.d
 om:=h.om
 fr:=h.fr
 ob:=fun p y hy=>by
  by_cases e:p=o
  ·subst e
   have hy':some x=some y:=by rw[←hy];exact(gI _ _ _).symm
   cases hy'
   exact hx
  ·have hy':look (fJ o st.ob) p=some y:=by rw[←hy];exact(eU _ _ e).symm
   rw[mM e] at hy'
   exact Q9 e (h.ob p y hy')
 inj:=h.inj
 lt:=h.lt
 ge:=h.ge
 nx:=h.nx
theorem aB.wk (h:aB ρ b st fr σ) (t s n:Nat) {b':Nat} (hb:b≤b') (hs:s<b') (hl:ρ.om.lo≤s) (hf:∀u,u≠t→ρ.tk u≠some s):aB (ρ.eG t s) b' (st.wk t) fr (σ.bE s n) where
 d:=h.d
 om:=h.om
 fr:=fun j y hy=>by
  have hy':look (jr (Aq.wk t) st.fr) j=some y:=hy
  rw[oP,Option.map_eq_some_iff] at hy'
  obtain⟨z,hz,rfl⟩:=hy'
  have hz':=h.fr j z hz
  have key:∀u s',u≠t→ρ.tk u=some s'→(ρ.eG t s).tk u=some s'∧(σ.bE s n).top s'=σ.top s':=fun u s' hu hs'=>
   ⟨by simp[aK.eG,upd,hu,hs'],Cr _ _ fun e=>hf u hu (by rw[hs',e])⟩
  cases z with
  |opt j' w y=>exact⟨fun hc=>Rl.wk (ρ:=ρ) (ρ':=ρ.eG t s) (top:=σ.top) (top':=(σ.bE s n).top) t ⟨rfl,rfl,rfl⟩ key y _ (hz'.1 hc),hz'.2⟩
  |_=>exact fM.of (Rl.wk (ρ:=ρ) (ρ':=ρ.eG t s) (top:=σ.top) (top':=(σ.bE s n).top) t ⟨rfl,rfl,rfl⟩ key _ _ hz')
 ob:=fun p y hy=>by
  have hy':look (jr (Ob.wk t) st.ob) p=some y:=hy
  rw[oP,Option.map_eq_some_iff] at hy'
  obtain⟨z,hz,rfl⟩:=hy'
  have hz':=h.ob p z hz
  have key:∀u s',u≠t→ρ.tk u=some s'→(ρ.eG t s).tk u=some s'∧(σ.bE s n).top s'=σ.top s':=fun u s' hu hs'=>
   ⟨by simp[aK.eG,upd,hu,hs'],Cr _ _ fun e=>hf u hu (by rw[hs',e])⟩
  exact Ra key hz'
 inj:=fun u v s' hu hv=>by
  by_cases e1:u=t<;>by_cases e2:v=t
  ·rw[e1,e2]
  ·simp[aK.eG,upd,e1] at hu;simp[aK.eG,upd,e2] at hv;exact absurd (hu▸hv) (hf v e2)
  ·simp[aK.eG,upd,e1] at hu;simp[aK.eG,upd,e2] at hv;exact absurd (hv▸hu) (hf u e1)
  ·simp[aK.eG,upd,e1] at hu;simp[aK.eG,upd,e2] at hv;exact h.inj u v s' hu hv
 lt:=fun u s' hu=>by
  by_cases e1:u=t
  ·simp[aK.eG,upd,e1] at hu;omega
  ·simp[aK.eG,upd,e1] at hu;exact Nat.lt_of_lt_of_le (h.lt u s' hu) hb
 ge:=fun u s' hu=>by
  by_cases e1:u=t
  ·simp[aK.eG,upd,e1] at hu;rw[←hu];exact hl
  ·simp[aK.eG,upd,e1] at hu;exact h.ge u s' hu
 nx:=Nat.le_trans h.nx hb
theorem Ri {top:Nat→Nat} {x:TV R.T} {v:Value} (h:xg v=some x):∃y,gu v=some y∧Rl R ρ top x y:=by
 unfold xg at h
 split at h<;>cases h<;>exact⟨_,rfl,by unfold Rl;rfl⟩
theorem Rj {top:Nat→Nat}:∀{vs:List Value} {l:List (TV R.T)},zx vs=some l→∃y,vs.mapM gu=some y∧ay R ρ top l y
 | [],l,h=>by cases h;exact⟨[],rfl,rfl⟩
 |v::vs,l,h=>by
  unfold zx at h
  cases h1:(xg v:Option (TV R.T)) with
  |none=>simp only[h1] at h;cases h
  |some a=>
   cases h2:(zx vs:Option (List (TV R.T))) with
   |none=>simp only[h1,h2] at h;cases h
   |some as=>
    simp only[h1,h2] at h;cases h
    obtain⟨y,hy,hr⟩:=Ri (ρ:=ρ) (top:=top) h1
    obtain⟨ys,hys,hrs⟩:=Rj h2
    exact⟨y::ys,by simp[hy,hys],.cons' hr hrs⟩
theorem Rk {top:Nat→Nat} {x:TV R.T} {v:Value} (h:zy v=some x):∃y,ofValue v=some y∧Rl R ρ top x y:=by
 unfold zy at h
 split at h
 ·rename_i cs
  cases h2:(zx cs.toList:Option (List (TV R.T))) with
  |none=>simp only[h2] at h;cases h
  |some l=>
   simp only[h2] at h;cases h
   obtain⟨ys,hys,hrs⟩:=Rj (ρ:=ρ) (top:=top) h2
   exact⟨.agg ys,by simp[ofValue,hys],by unfold Rl;exact⟨_,rfl,hrs⟩⟩
 ·obtain⟨y,hy,hr⟩:=Ri (ρ:=ρ) (top:=top) h
  refine⟨y, ?_,hr⟩
  unfold xg at h
  split at h<;>first|exact hy|cases h
def lU (fr:Fr) (g:List (Nat×Bool)):Prop:=∀j u,look g j=some u→fr.tm j= .bool u
theorem lU.nil:lU fr []:=fun _ _ h=>by cases h
theorem lU.cons {g:List (Nat×Bool)} {j:Nat} {u:Bool} (h:fr.tm j= .bool u) (hg:lU fr g):lU fr ((j,u)::g):=fun i v hi=>by
 by_cases e:i=j
 ·subst e;rw[gI] at hi;cases hi;exact h
 ·rw[eU _ _ e] at hi;exact hg i v hi
theorem abp {fr:Fr} {top:Nat→Nat} {g:List (Nat×Bool)} (hg:lU fr g) {y x:TV R.T} {v:V} (hy:fM fr ρ top y v) (he:FH g y=some x):Rl R ρ top x v:=by
 cases y with
 |opt j w z=>
  unfold FH at he
  dsimp only at he
  split at he
  ·rename_i u hu
   cases he
   have:=hg j u hu
   by_cases e:u=w
   ·subst e;rw[beq_self_eq_true];exact hy.1 this
   ·rw[show (u==w)=false by simpa using e]
    have e':u= !w:=by cases u<;>cases w<;>first|rfl|exact absurd rfl e
    unfold Rl;exact hy.2 (.inl (by rw[this,e']))
  ·cases he
 |_=>cases he;exact hy
theorem aR (h:aB ρ b st fr σ) {g:List (Nat×Bool)} (hg:lU fr g) {o:Operand} {x:TV R.T} (he:aV g st o=some x):Rl R ρ σ.top x (fr.ev E o):=by
 cases o with
 |tmp t=>
  rw[zm]
  unfold aV at he
  dsimp only at he
  split at he
  ·rename_i v hv;exact abp hg (h.fr _ _ hv) he
  ·cases he
 |const v=>
  rw[Qp]
  obtain⟨y,hy,hr⟩:=Rk (ρ:=ρ) (top:=σ.top) (show zy v=some x from he)
  rw[hy];exact hr
 |func f=>cases he;rw[Qq];unfold Rl;exact⟨[],[],rfl,rfl,rfl⟩
 |global i=>cases he
theorem rE (h:aB ρ b st fr σ) {g:List (Nat×Bool)} (hg:lU fr g):∀{l:List Operand} {xs:List (TV R.T)},kE g st l=some xs→ay R ρ σ.top xs (l.map (fr.ev E))
 | [],xs,he=>by cases he;rfl
 |o::l,xs,he=>by
  unfold kE at he
  cases h1:aV g st o with
  |none=>simp only[h1] at he;cases he
  |some a=>
   cases h2:kE g st l with
   |none=>simp only[h1,h2] at he;cases he
   |some as=>simp only[h1,h2] at he;cases he;exact .cons' (aR h hg h1) (rE h hg h2)
theorem K4 (h:aB ρ b st fr σ) {g:List (Nat×Bool)} (hg:lU fr g):∀{l:List (Nat×Operand)} {xs:List (Nat×TV R.T)},zA g st l=some xs→xs.map (·.1)=l.map (·.1)∧ay R ρ σ.top (xs.map (·.2)) (l.map fun p=>fr.ev E p.2)
 | [],xs,he=>by cases he;exact⟨rfl,rfl⟩
 | (i,o)::l,xs,he=>by
   unfold zA at he
   cases h1:aV g st o with
   |none=>simp only[h1] at he;cases he
   |some a=>
    cases h2:zA g st l with
    |none=>simp only[h1,h2] at he;cases he
    |some as=>
     simp only[h1,h2] at he;cases he
     obtain⟨e1,e2⟩:=K4 h hg h2
     exact⟨by simp[e1],.cons' (aR h hg h1) e2⟩
end
end Aq
end
section
namespace Aq
open Go
set_option linter.unusedSectionVars false
set_option linter.unusedVariables false
theorem abq {n m:Nat} {v:Vec n} {w:Vec m} (h:Fz v=some w):n=m∧HEq v w:=by
 unfold Fz at h
 split at h
 ·rename_i e;subst e;cases h;exact⟨rfl,HEq.rfl⟩
 ·cases h
theorem Rm:∀{k:gG} {s:Sg} {x:zo k},zq k s=some x→Cy k x=s
 |.i k,.i k' y,x,h=>by
  have h':(if k'=k then some y else none)=some (x:Int):=h
  by_cases e:k'=k
  ·subst e;rw[if_pos rfl] at h';cases h';rfl
  ·rw[if_neg e] at h';cases h'
 |.a k n,.a k' n' v,x,h=>by
  have h':(if k'=k then Fz (m:=n) v else none)=some (x:Vec n):=h
  by_cases e:k'=k
  ·subst e;rw[if_pos rfl] at h'
   obtain⟨e1,e2⟩:=abq h'
   subst e1;cases e2;rfl
  ·rw[if_neg e] at h';cases h'
 |.i k,.a _ _ _,x,h=>by cases h
 |.a k n,.i _ _,x,h=>by cases h
theorem Gn:∀{l:List gG} {ss:List Sg} {x:wY l},tV l ss=some x→qc l x=ss
 | [],ss,x,h=>by
   cases ss with
   |nil=>rfl
   |cons s ss=>cases h
 | [k],ss,x,h=>by
   cases ss with
   |nil=>cases h
   |cons s ss=>
    cases ss with
    |nil=>
     show [Cy k x]=[s]
     rw[Rm (show zq k s=some x from h)]
    |cons s' ss=>cases h
 |k::k'::l,ss,x,h=>by
  cases ss with
  |nil=>cases h
  |cons s ss=>
   have h':(match zq k s with
    |some x=>match tV (k'::l) ss with
     |some p=>some (x,p)
     |none=>none
    |none=>none)=some x:=h
   cases hu:zq k s with
   |none=>simp only[hu] at h';cases h'
   |some y=>
    cases hs:tV (k'::l) ss with
    |none=>simp only[hu,hs] at h';cases h'
    |some q=>
     simp only[hu,hs] at h'
     obtain rfl:=Option.some.inj h'
     show Cy k y::qc (k'::l) q=s::ss
     rw[Rm hu,Gn hs]
section
variable {R:fI} (hR:kY R)
variable {ρ:aK} {top:Nat→Nat} {b:Nat} {st:MS R.T} {fr:Fr} {σ:ah}
include hR
theorem xK {t:Ty} {x:Den R.T t} {tv:TV R.T} {v:V} (h:mD R t tv=some x) (hr:Rl R ρ top tv v):Rl R ρ top (tX R .any t x) v:=by
 cases t with
 |int k=>rw[KR h hr];unfold Rl;rfl
 |bool=>rw[KS h hr];unfold Rl;rfl
 |str=>rw[KT h hr];unfold Rl;rfl
 |slice t=>obtain⟨c,hv⟩:=Q0 h hr;rw[hv];unfold Rl;exact⟨c,rfl,trivial⟩
 |st n=>cases h
theorem Rn:∀(l:List Ty) (p:jS R.T l) (cs:List (TV R.T)) (vs:List V),u7 R l cs=some p→ay R ρ top cs vs→ay R ρ top (gM R .any l p) vs
 | [],p,cs,vs,h,hr=>by
   cases cs with
   |nil=>rw[hr.dO];rfl
   |cons c cs=>cases h
 | [t],p,cs,vs,h,hr=>by
   have h':mD R t (hd1 R cs)=some p:=h
   cases cs with
   |nil=>cases t<;>cases h'
   |cons c cs=>
    cases cs with
    |nil=>
     obtain⟨v,l,rfl,h1,h2⟩:=hr.bX
     rw[h2.dO]
     exact .cons' (xK hR h' h1) rfl
    |cons c' cs=>cases t<;>cases h'
 |t::u::l,p,cs,vs,h,hr=>by
  cases cs with
  |nil=>cases h
  |cons c cs=>
   obtain⟨v,vs,rfl,h1,h2⟩:=hr.bX
   unfold u7 at h
   cases hu:mD R t c with
   |none=>simp only[hu] at h;cases h
   |some y=>
    cases hs:u7 R (u::l) cs with
    |none=>simp only[hu,hs] at h;cases h
    |some q=>
     simp only[hu,hs] at h
     obtain rfl:=Option.some.inj h
     exact .cons' (xK hR hu h1) (Rn (u::l) q cs vs hs h2)
theorem Df {t:Ty} {x:Den R.T t} {tv:TV R.T} {v:V} (h:lK R t tv=some x) (hr:Rl R ρ top tv v):Rl R ρ top (dN R .any t x) v:=by
 cases t with
 |st n=>
  change w9 R n tv=some x at h
  unfold w9 at h
  split at h
  ·rename_i cs
   split at h
   ·rename_i p hp
    obtain rfl:=Option.some.inj h
    obtain⟨l,hv,hl⟩:=hr.iK
    subst hv
    show Rl R ρ top (.agg (gM R .any (R.lf n) (R.of n (R.to n p)))) _
    rw[hR.C9]
    unfold Rl;exact⟨l,rfl,Rn hR _ _ _ _ hp hl⟩
   ·cases h
  ·cases h
 |int k=>exact xK hR (t:=.int k) h hr
 |bool=>exact xK hR (t:=.bool) h hr
 |str=>exact xK hR (t:=.str) h hr
 |slice t=>exact xK hR (t:=.slice t) h hr
omit hR in
theorem Ro {sz n:Nat} {c c':Cp} {x:Cap} (h:zD c c'=true) (hx:Ab ρ top sz n c x):Ab ρ top sz n c' x:=by
 cases c<;>cases c'<;>simp only[zD,Bool.false_eq_true] at h<;>first|trivial|exact hx|exact .inl hx|exact .inr (.inl hx)| (rw[←dn h];exact hx)
omit hR in
theorem K5 {k e k' e':Ty} {m:List (Den R.T k'×Den R.T e')} {x:List (Den R.T k×Den R.T e)} (h:zF R m=some x):k'=k∧e'=e∧HEq m x:=by
 unfold zF at h
 split at h
 ·rename_i e;obtain⟨rfl,rfl⟩:=e;cases h;exact⟨rfl,rfl,HEq.rfl⟩
 ·cases h
omit hR in
theorem Rp {c:Cp} {t:Ty} {x:List (Den R.T t)} {tv:TV R.T} {v:V} (h:FL R c t tv=some x) (hr:Rl R ρ top tv v):Rl R ρ top (.aj c t x) v:=by
 unfold FL at h
 split at h
 ·rename_i c' t' l
  cases hc:zD c' c
  ·rw[hc] at h;cases h
  ·rw[hc,cond_true] at h
   obtain⟨e,e2⟩:=oO h;subst e;cases e2
   obtain⟨c'',hv,hcc⟩:=hr.iV
   unfold Rl;exact⟨c'',hv,Ro hc hcc⟩
 ·cases hc:zD .nil c
  ·rw[hc] at h;cases h
  ·rw[hc,cond_true] at h;cases h
   unfold Rl;exact⟨.nil,hr.nQ,Ro hc rfl⟩
 ·cases h
mutual
theorem K6:∀(k:Sk) (x:nM R.T k) (tv:TV R.T) (v:V),pk R k tv=some x→Rl R ρ top tv v→Rl R ρ top (up R .any k x) v
 |.d t,x,tv,v,h,hr=>Df hR (by unfold pk at h;exact h) hr
 |.l c t,x,tv,v,h,hr=>Rp (by unfold pk at h;exact h) hr
 |.agg l,x,tv,v,h,hr=>by
  cases tv<;>first| (exact absurd (show none=some x from h) (by simp))|skip
  rename_i cs
  obtain⟨vs,rfl,hl⟩:=hr.iK
  show Rl R ρ top (.agg (gN R .any l x)) _
  unfold Rl;exact⟨vs,rfl,xL l x cs vs h hl⟩
 |.ref o off,x,tv,v,h,hr=>by
  cases tv<;>first| (exact absurd (show none=some x from h) (by simp))|skip
  rename_i p off'
  have h':(bif Nat.beq p o&& Nat.beq off' off then some () else none)=some x:=h
  cases hb:(Nat.beq p o&& Nat.beq off' off)
  ·rw[hb] at h';cases h'
  ·rw[Bool.and_eq_true] at hb
   rw[dn hb.1,dn hb.2] at hr
   exact hr
 |.aH l off,x,tv,v,h,hr=>by
  cases tv<;>first| (exact absurd (show none=some x from h) (by simp))|skip
  rename_i cs off'
  have h':(bif Nat.beq off' off then eF R l cs else none)=some x:=h
  cases hb:Nat.beq off' off
  ·rw[hb] at h';cases h'
  ·rw[hb,cond_true] at h'
   rw[dn hb] at hr
   obtain⟨vs,rfl,hl⟩:=hr.qj
   show Rl R ρ top (.aH (gN R .any l x) off) _
   unfold Rl;exact⟨vs,rfl,xL l x _ vs h' hl⟩
 |.bq o,x,tv,v,h,hr=>by
  cases tv<;>first| (exact absurd (show none=some x from h) (by simp))|skip
  rename_i p
  have h':(bif Nat.beq p o then some () else none)=some x:=h
  cases hb:Nat.beq p o
  ·rw[hb] at h';cases h'
  ·rw[dn hb] at hr
   exact hr
 |.bL k e,x,tv,v,h,hr=>by
  cases tv<;>first| (exact absurd (show none=some x from h) (by simp))|skip
  rename_i k' e' m
  obtain⟨e1,e2,e3⟩:=K5 (show zF R m=some x from h)
  subst e1;subst e2;cases e3
  exact hr
 |.fn f a b,x,tv,v,h,hr=>by
  cases tv<;>first| (exact absurd (show none=some x from h) (by simp))|skip
  rename_i f' a' b'
  have h':(bif Nat.beq f' f then (match eF R a a' with
   |some x=>match eF R b b' with
    |some y=>some (x,y)
    |none=>none
   |none=>none) else none)=some x:=h
  cases hb:Nat.beq f' f
  ·rw[hb] at h';cases h'
  ·rw[hb,cond_true] at h'
   rw[dn hb] at hr
   obtain⟨va,vb,rfl,ha,hbb⟩:=hr.jY
   cases h1:eF R a a' with
   |none=>simp only[h1] at h';cases h'
   |some y=>
    cases h2:eF R b b' with
    |none=>simp only[h1,h2] at h';cases h'
    |some z=>
     simp only[h1,h2] at h';cases h'
     show Rl R ρ top (.fn f (gN R .any a y) (gN R .any b z)) _
     unfold Rl;exact⟨va,vb,rfl,xL a y _ va h1 ha,xL b z _ vb h2 hbb⟩
 |.d9,x,tv,v,h,hr=>by
  cases tv<;>first| (exact absurd (show none=some x from h) (by simp))|skip
  exact hr
 |.vw o t,x,tv,v,h,hr=>by
  cases tv<;>first| (exact absurd (show none=some x from h) (by simp))|skip
  rename_i p t'
  have h':(bif Nat.beq p o then (if t'=t then some () else none) else none)=some x:=h
  cases hb:Nat.beq p o
  ·rw[hb] at h';cases h'
  ·rw[hb,cond_true] at h'
   split at h'
   ·rename_i e
    rw[dn hb,e] at hr
    exact hr
   ·cases h'
 |.sg l,x,tv,v,h,hr=>by
  cases tv<;>first| (exact absurd (show none=some x from h) (by simp))|skip
  rename_i ss
  show Rl R ρ top (.sg (qc l x)) v
  rw[Gn (show tV l ss=some x from h)]
  exact hr
 |.undef,x,tv,v,h,hr=>by
  cases tv<;>first| (exact absurd (show none=some x from h) (by simp))|skip
  exact hr
theorem xL:∀(l:List Sk) (x:ak R.T l) (cs:List (TV R.T)) (vs:List V),eF R l cs=some x→ay R ρ top cs vs→ay R ρ top (gN R .any l x) vs
 | [],x,cs,vs,h,hr=>by
   cases cs with
   |nil=>rw[hr.dO];rfl
   |cons c cs=>exact absurd (show none=some x from h) (by simp)
 | [k],x,cs,vs,h,hr=>by
   cases cs with
   |nil=>exact absurd (show none=some x from h) (by simp)
   |cons c cs=>
    cases cs with
    |nil=>
     obtain⟨v,l,rfl,h1,h2⟩:=hr.bX
     rw[h2.dO]
     show ay R ρ top [up R .any k x] _
     exact .cons' (K6 k x _ v h h1) rfl
    |cons c' cs=>exact absurd (show none=some x from h) (by simp)
 |k::k'::l,x,cs,vs,h,hr=>by
  cases cs with
  |nil=>exact absurd (show none=some x from h) (by simp)
  |cons c cs=>
   have h':(match pk R k c with
    |some x=>match eF R (k'::l) cs with
     |some p=>some (x,p)
     |none=>none
    |none=>none)=some x:=h
   obtain⟨v,vs,rfl,h1,h2⟩:=hr.bX
   cases hu:pk R k c with
   |none=>simp only[hu] at h';cases h'
   |some y=>
    cases hs:eF R (k'::l) cs with
    |none=>simp only[hu,hs] at h';cases h'
    |some q=>
     simp only[hu,hs] at h'
     obtain rfl:=Option.some.inj h'
     show ay R ρ top (up R .any k y::gN R .any (k'::l) q) _
     exact .cons' (K6 k y _ v hu h1) (xL (k'::l) q _ vs hs h2)
end
omit hR in
theorem abr {k:Sk} {j:Nat} {w:Bool} {y:TV R.T} {x:nM R.T k} (h:pk R k (.opt j w y)=some x):False:=by
 cases k with
 |d t=>cases t<;>(unfold pk at h;cases h)
 |_=>unfold pk at h;cases h
theorem fM.pk {k:Sk} {x:nM R.T k} {tv:TV R.T} {v:V} (h:pk R k tv=some x) (hr:fM fr ρ top tv v):Rl R ρ top (up R .any k x) v:=by
 cases tv<;>first|exact K6 hR _ _ _ _ h hr|exact(abr h).elim
theorem K7 (h:aB ρ b st fr σ):∀(l:List (Nat×Sk)) (x:wZ R.T l),nO R st.fr l=some x→∀i v,look (CG R l x) i=some v→Rl R ρ σ.top v (fr.tm i)
 | [],x,hx,i,v,hv=>by cases hv
 | [(j,k)],x,hx,i,v,hv=>by
   unfold nO at hx
   split at hx
   ·rename_i y hy
    by_cases e:i=j
    ·subst e
     have hv':look [(i,up R .any k x)] i=some v:=hv
     rw[gI] at hv';cases hv'
     exact fM.pk hR hx (h.fr _ _ hy)
    ·have hv':look [(j,up R .any k x)] i=some v:=hv
     rw[eU _ _ e] at hv';cases hv'
   ·cases hx
 | (j,k)::q::l,x,hx,i,v,hv=>by
   unfold nO at hx
   split at hx
   ·rename_i y hy
    cases hu:pk R k y with
    |none=>simp only[hu] at hx;cases hx
    |some z=>
     cases hs:nO R st.fr (q::l) with
     |none=>simp only[hu,hs] at hx;cases hx
     |some p=>
      simp only[hu,hs] at hx
      obtain rfl:=Option.some.inj hx
      have hv':look ((j,up R .any k z)::CG R (q::l) p) i=some v:=hv
      by_cases e:i=j
      ·subst e
       rw[gI] at hv';cases hv'
       exact fM.pk hR hu (h.fr _ _ hy)
      ·rw[eU _ _ e] at hv'
       exact K7 h (q::l) p hs i v hv'
   ·cases hx
theorem K8 {o:Nat} {k:iT} {x:u6 R.T k} {y:Ob R.T} (hx:vB R k y=some x) (hy:dx ρ σ o y):dx ρ σ o (jd R k x):=by
 cases k with
 |cells l=>
  cases y with
  |cells cs=>
   obtain⟨s,vs,h1,h2,h3⟩:=hy
   exact⟨s,vs,h1,h2,xL hR l x _ vs hx h3⟩
  |map k e m=>cases hx
  |smap _ _=>cases hx
  |arr _ _=>cases hx
  |sg _=>cases hx
  |gone=>cases hx
  |ro b=>cases hx
 |st n=>
  cases y with
  |cells cs=>
   obtain⟨s,vs,h1,h2,h3⟩:=hy
   obtain⟨l,e,hl⟩:=(Df hR (t:=.st n) (show lK R (.st n) (.agg cs)=some x from hx) (v:=.agg vs) ⟨vs,rfl,h3⟩).iK
   cases e
   exact⟨s,vs,h1,h2,hl⟩
  |map k e m=>cases hx
  |smap _ _=>cases hx
  |arr _ _=>cases hx
  |sg _=>cases hx
  |gone=>cases hx
  |ro b=>cases hx
 |arr t=>
  cases y with
  |arr t' l=>
   obtain⟨e,e2⟩:=oO hx
   subst e;cases e2
   exact hy
  |cells cs=>cases hx
  |map _ _ _=>cases hx
  |smap _ _=>cases hx
  |sg _=>cases hx
  |gone=>cases hx
  |ro b=>cases hx
 |sg l=>
  cases y with
  |sg ss=>
   show dx ρ σ o (.sg (qc l x))
   rw[Gn (show tV l ss=some x from hx)]
   exact hy
  |cells cs=>cases hx
  |map _ _ _=>cases hx
  |smap _ _=>cases hx
  |arr _ _=>cases hx
  |gone=>cases hx
  |ro b=>cases hx
 |map k e=>
  cases y with
  |map k' e' m=>
   obtain⟨e1,e2,e3⟩:=K5 hx
   subst e1;subst e2;cases e3
   exact hy
  |cells cs=>cases hx
  |smap _ _=>cases hx
  |arr _ _=>cases hx
  |sg _=>cases hx
  |gone=>cases hx
  |ro b=>cases hx
theorem Rq (h:aB ρ b st fr σ):∀(l:List (Nat×iT)) (x:lJ R.T l),jW R st.ob l=some x→∀i v,look (je R l x) i=some v→dx ρ σ i v
 | [],x,hx,i,v,hv=>by cases hv
 | [(j,k)],x,hx,i,v,hv=>by
   unfold jW at hx
   split at hx
   ·rename_i y hy
    by_cases e:i=j
    ·subst e
     have hv':look [(i,jd R k x)] i=some v:=hv
     rw[gI] at hv';cases hv'
     exact K8 hR hx (h.ob _ _ hy)
    ·have hv':look [(j,jd R k x)] i=some v:=hv
     rw[eU _ _ e] at hv';cases hv'
   ·cases hx
 | (j,k)::q::l,x,hx,i,v,hv=>by
   unfold jW at hx
   split at hx
   ·rename_i y hy
    cases hu:vB R k y with
    |none=>simp only[hu] at hx;cases hx
    |some z=>
     cases hs:jW R st.ob (q::l) with
     |none=>simp only[hu,hs] at hx;cases hx
     |some p=>
      simp only[hu,hs] at hx
      obtain rfl:=Option.some.inj hx
      have hv':look ((j,jd R k z)::je R (q::l) p) i=some v:=hv
      by_cases e:i=j
      ·subst e
       rw[gI] at hv';cases hv'
       exact K8 hR hu (h.ob _ _ hy)
      ·rw[eU _ _ e] at hv'
       exact Rq h (q::l) p hs i v hv'
   ·cases hx
theorem aB.pack (h:aB ρ b st fr σ) {s:Shape} {p:mo R.T s} (hp:pack R st s=some p):aB ρ b (unpack R s p) fr σ:=by
 obtain⟨sl,ob⟩:=s
 cases ob with
 |nil=>
  have hp':nO R st.fr sl=some p:=hp
  exact {h with fr:=fun i v hv=>.of (K7 hR h sl p hp' i v hv),ob:=fun i v hv=>by cases hv}
 |cons o os=>
  unfold Aq.pack at hp
  cases hu:nO R st.fr sl with
  |none=>simp only[hu] at hp;cases hp
  |some x=>
   cases hs:jW R st.ob (o::os) with
   |none=>simp only[hu,hs] at hp;cases hp
   |some y=>
    simp only[hu,hs] at hp
    obtain rfl:=Option.some.inj hp
    exact {h with fr:=fun i v hv=>.of (K7 hR h sl x hu i v hv),ob:=fun i v hv=>Rq hR h (o::os) y hs i v hv}
omit hR in
theorem Rs {e x:Ex} (h:xq e x=true):e=x:=by
 cases e<;>cases x<;>simp only[xq,Bool.false_eq_true] at h<;>first|rfl|rw[dn h]
omit hR in
def RO (st:MS R.T) (o:Nat):Prop:=∀x,look st.ob o=some x→lM x=true
omit hR in
theorem K9 {k:iT} {x:u6 R.T k} {y:Ob R.T} (hx:vB R k y=some x) (hy:lM y=true):False:=by
 cases y with
 |cells _=>cases hy
 |map _ _ _=>cases hy
 |smap _ _=>cases hy
 |arr _ _=>cases hy
 |sg _=>cases hy
 |gone=>cases k<;>cases hx
 |ro b=>cases k<;>cases hx
omit hR in
theorem Rt {i:Nat} (hr:RO st i):∀(l:List (Nat×iT)) (x:lJ R.T l),jW R st.ob l=some x→look (je R l x) i=none
 | [],x,hx=>rfl
 | [(j,k)],x,hx=>by
   unfold jW at hx
   split at hx
   ·rename_i y hy
    by_cases e:i=j
    ·subst e;exact(K9 hx (hr _ hy)).elim
    ·show look [(j,jd R k x)] i=none
     rw[eU _ _ e];rfl
   ·cases hx
 | (j,k)::q::l,x,hx=>by
   unfold jW at hx
   split at hx
   ·rename_i y hy
    cases hu:vB R k y with
    |none=>simp only[hu] at hx;cases hx
    |some z=>
     cases hs:jW R st.ob (q::l) with
     |none=>simp only[hu,hs] at hx;cases hx
     |some p=>
      simp only[hu,hs] at hx
      obtain rfl:=Option.some.inj hx
      show look ((j,jd R k z)::je R (q::l) p) i=none
      by_cases e:i=j
      ·subst e;exact(K9 hu (hr _ hy)).elim
      ·rw[eU _ _ e];exact Rt hr (q::l) p hs
   ·cases hx
omit hR in
theorem abt {s:Shape} {p:mo R.T s} {i:Nat} (hp:Aq.pack R st s=some p) (hr:RO st i):look (unpack R s p).ob i=none:=by
 obtain⟨sl,ob⟩:=s
 cases ob with
 |nil=>rfl
 |cons o os=>
  unfold Aq.pack at hp
  cases hu:nO R st.fr sl with
  |none=>simp only[hu] at hp;cases hp
  |some x=>
   cases hs:jW R st.ob (o::os) with
   |none=>simp only[hu,hs] at hp;cases hp
   |some y=>
    simp only[hu,hs] at hp
    obtain rfl:=Option.some.inj hp
    exact Rt hr (o::os) y hs
omit hR
theorem uq {α:Type}:∀(l m:List (Nat×α)) (i:Nat),look (l++m) i=match look l i with|some x=>some x|none=>look m i
 | [],m,i=>rfl
 | (j,x)::l,m,i=>by
   show (bif Nat.beq j i then some x else look (l++m) i)=match (bif Nat.beq j i then some x else look l i) with|some x=>some x|none=>look m i
   cases Nat.beq j i
   ·exact uq l m i
   ·rfl
theorem aB.over {st':MS R.T} (h:aB ρ b st fr σ) (h':aB ρ b st' fr σ):aB ρ b (st.over st') fr σ:={h with
 fr:=fun i v hv=>by
  have hv':look (st.fr++st'.fr) i=some v:=hv
  rw[uq] at hv'
  split at hv'
  ·rename_i x hx;cases hv';exact h.fr _ _ hx
  ·exact h'.fr _ _ hv'
 ob:=fun i v hv=>by
  have hv':look (st.ob++st'.ob) i=some v:=hv
  rw[uq] at hv'
  split at hv'
  ·rename_i x hx;cases hv';exact h.ob _ _ hx
  ·exact h'.ob _ _ hv'}
theorem uw {α:Type} {p:Nat→α→Bool} {f:α→α} {l:List (Nat×α)}:∀{is:List Nat} {i:Nat} {y:α},look (kD p f l is) i=some y→∃x,look l i=some x∧p i x=true∧y=f x
 | [],i,y,h=>by cases h
 |j::is,i,y,h=>by
  unfold kD at h
  split at h
  ·rename_i x hx
   cases hp:p j x
   ·rw[hp] at h;exact uw h
   ·rw[hp,cond_true] at h
    by_cases e:i=j
    ·subst e;rw[gI] at h;cases h;exact⟨x,hx,hp,rfl⟩
    ·rw[eU _ _ e] at h;exact uw h
  ·exact uw h
mutual
theorem Rl.solid {ρ':aK} {top':Nat→Nat} {W:List Nat} (ho:∀o,aO o W=false→ρ'.ob o=ρ.ob o∧ρ'.ln o=ρ.ln o) (hx:ρ'.om=ρ.om):∀(x:TV R.T) (v:V),Aq.solid W x=true→Rl R ρ top x v→Rl R ρ' top' x v
 |.aj c t l,v,hs,h=>by
  obtain⟨c',hv,hc⟩:=h
  refine⟨c',hv, ?_⟩
  cases c<;>first|exact hc| (simp[Aq.solid] at hs;done)
 |.ref o off,v,hs,h=>by
  obtain⟨s,h1,h2⟩:=h
  unfold Aq.solid at hs
  exact⟨s,by rw[(ho o (by simpa using hs)).1];exact h1,by rw[hx];exact h2⟩
 |.bq o,v,hs,h=>by
  obtain⟨s,h1,h2⟩:=h
  unfold Aq.solid at hs
  exact⟨s,by rw[(ho o (by simpa using hs)).1];exact h1,by rw[hx];exact h2⟩
 |.vw o t,v,hs,h=>by
  unfold Aq.solid at hs
  obtain⟨k1,k2⟩:=ho o (by simpa using hs)
  rcases h with ⟨s,h1,h2⟩| ⟨h1,h2⟩
  ·exact .inl ⟨s,by rw[k1];exact h1,by rw[k2,hx];exact h2⟩
  ·exact .inr ⟨by rw[k2];exact h1,h2⟩
 |.iq o t i off,v,hs,h=>by
  obtain⟨s,h1,h2⟩:=h
  unfold Aq.solid at hs
  exact⟨s,by rw[(ho o (by simpa using hs)).1];exact h1,by rw[hx];exact h2⟩
 |.sv o _ _ _ _ _,v,hs,h=>by
  obtain⟨s,h1,h2⟩:=h
  unfold Aq.solid at hs
  exact⟨s,by rw[(ho o (by simpa using hs)).1];exact h1,by rw[hx];exact h2⟩
 |.sel o _ _ _ _ _,v,hs,h=>by
  obtain⟨s,h1,h2⟩:=h
  unfold Aq.solid at hs
  exact⟨s,by rw[(ho o (by simpa using hs)).1];exact h1,by rw[hx];exact h2⟩
 |.sg _,_,_,h=>h
 |.nL _ _ _ _,_,_,h=>h
 |.agg cs,v,hs,h=>by obtain⟨l,hv,hl⟩:=h;exact⟨l,hv,ay.solid ho hx cs l (by unfold Aq.solid at hs;exact hs) hl⟩
 |.aT cs,v,hs,h=>by obtain⟨l,hv,hl⟩:=h;exact⟨l,hv,ay.solid ho hx cs l (by unfold Aq.solid at hs;exact hs) hl⟩
 |.aH cs off,v,hs,h=>by obtain⟨l,hv,hl⟩:=h;exact⟨l,hv,ay.solid ho hx cs l (by unfold Aq.solid at hs;exact hs) hl⟩
 |.fn f a b,v,hs,h=>by
  obtain⟨a',b',hv,ha,hb⟩:=h
  unfold Aq.solid at hs
  rw[Bool.and_eq_true] at hs
  exact⟨a',b',hv,ay.solid ho hx a a' hs.1 ha,ay.solid ho hx b b' hs.2 hb⟩
 |.opt _ _ _,_,_,h=>h.elim
 |.int _ _,_,_,h=>h
 |.bool _,_,_,h=>h
 |.fq _,_,_,h=>h
 |.str _,_,_,h=>h
 |.dQ,_,_,h=>h
 |.dJ,_,_,h=>h
 |.dF,_,_,h=>h
 |.dK,_,_,h=>h
 |.d9,_,_,h=>h
 |.bL _ _ _,_,_,h=>h
 |.undef,_,_,h=>h
 |.gone,_,_,h=>trivial
theorem ay.solid {ρ':aK} {top':Nat→Nat} {W:List Nat} (ho:∀o,aO o W=false→ρ'.ob o=ρ.ob o∧ρ'.ln o=ρ.ln o) (hx:ρ'.om=ρ.om):∀(x:List (TV R.T)) (v:List V),nN W x=true→ay R ρ top x v→ay R ρ' top' x v
 | [],_,_,h=>h
 |x::xs,_,hs,⟨v,vs,e,h1,h2⟩=>by
  unfold nN at hs
  rw[Bool.and_eq_true] at hs
  exact⟨v,vs,e,Rl.solid ho hx x v hs.1 h1,ay.solid ho hx xs vs hs.2 h2⟩
end
theorem abu {x:TV R.T} {v:V} (h:fM fr ρ top x v):fM fr ρ top (Kn x) v:=by
 cases x with
 |aj c t l=>
  cases c with
  |own u=>obtain⟨c',hv,_⟩:=Rl.iV (show Rl R ρ top (.aj (.own u) t l) v from h);exact .of (x:=.aj .any t l) (by unfold Rl;exact⟨c',hv,trivial⟩)
  |_=>exact h
 |_=>exact h
theorem abv {W:List Nat} {x:TV R.T} {v:V} (hs:Aq.solid W x=true) (h:fM fr ρ top x v):Rl R ρ top x v:=by
 cases x<;>first|exact h| (simp[Aq.solid] at hs;done)
structure aQ (nr:Bool) (o:Nat) (st:MS R.T) (ρ:aK) (σ:ah) (st':MS R.T) (ρ':aK) (σ':ah):Prop where
 ob:ρ'.ob o=ρ.ob o
 ln:ρ'.ln o=ρ.ln o
 om:ρ'.om=ρ.om
 nx:σ.next≤σ'.next
 lp:(∀l,l<σ.next→σ'.loops l=σ.loops l)∧∀s,s<ρ.om.lo→σ'.top s=σ.top s
 dp:∀L,nr=true∨L.1≤ρ.om.dp→ρ.om.out L→σ'.obj L=σ.obj L
 ro:RO st o→RO st' o∧∀s,σ'.bD (ρ.om.lc o) s=σ.bD (ρ.om.lc o) s∧σ'.dU (ρ.om.lc o) s=σ.dU (ρ.om.lc o) s
structure Kp (nr:Bool) (W:List Nat) (st:MS R.T) (fr:Fr) (σ:ah) (ρ:aK) (st':MS R.T) (fr':Fr) (σ':ah) (ρ':aK):Prop where
 fr:∀i,aO i W=false→fr'.tm i=fr.tm i
 ob:∀o,aO o W=false→aQ nr o st ρ σ st' ρ' σ'
section
variable {nr:Bool}
theorem La {c:Cx} {o s:Nat} {x:eO} {L:Loc} (h:c.out L):(σ.setObj (c.lc o) s x).obj L=σ.obj L:=by
 unfold ah.setObj upd
 dsimp only
 rw[if_neg (h o)]
theorem abw {c:Cx} {o:Nat} {L:Loc} (h:c.out L):(σ.fE (c.lc o)).obj L=σ.obj L:=by
 unfold ah.fE upd
 dsimp only
 rw[if_neg (h o)]
theorem Cx.Ru (c:Cx) {L:Loc} (h:c.dp<L.1):c.out L:=fun o e=>by
 have:=c.Aa o
 rw[←e] at this
 omega
theorem aQ.refl {o:Nat}:aQ nr o st ρ σ st ρ σ:=⟨rfl,rfl,rfl,Nat.le_refl _,⟨fun _ _=>rfl,fun _ _=>rfl⟩,fun _ _ _=>rfl,fun h=>⟨h,fun _=>⟨rfl,rfl⟩⟩⟩
theorem aQ.trans {o:Nat} {st' eH:MS R.T} {ρ' lV:aK} {σ' jh:ah} (h:aQ nr o st ρ σ st' ρ' σ') (g:aQ nr o st' ρ' σ' eH lV jh):aQ nr o st ρ σ eH lV jh:=
 ⟨g.ob.trans h.ob,g.ln.trans h.ln,g.om.trans h.om,Nat.le_trans h.nx g.nx,⟨fun l hl=>(g.lp.1 l (Nat.lt_of_lt_of_le hl h.nx)).trans (h.lp.1 l hl),fun s hs=>(g.lp.2 s (by rw[h.om];exact hs)).trans (h.lp.2 s hs)⟩,fun L hn hL=>(g.dp L (by rw[h.om];exact hn) (by rw[h.om];exact hL)).trans (h.dp L hn hL),fun hr=>by
   have g':=fun hr=>g.ro hr
   rw[h.om] at g'
   exact⟨(g' (h.ro hr).1).1,fun s=>⟨((g' (h.ro hr).1).2 s).1.trans ((h.ro hr).2 s).1,((g' (h.ro hr).1).2 s).2.trans ((h.ro hr).2 s).2⟩⟩⟩
theorem Kp.refl {W:List Nat}:Kp nr W st fr σ ρ st fr σ ρ:=⟨fun _ _=>rfl,fun _ _=>.refl⟩
theorem Kp.trans {W:List Nat} {st' eH:MS R.T} {fr' vM:Fr} {ρ' lV:aK} {σ' jh:ah} (h:Kp nr W st fr σ ρ st' fr' σ' ρ') (g:Kp nr W st' fr' σ' ρ' eH vM jh lV):Kp nr W st fr σ ρ eH vM jh lV:=
 ⟨fun i hi=>(g.fr i hi).trans (h.fr i hi),fun o ho=>(h.ob o ho).trans (g.ob o ho)⟩
theorem Kp.mono {W W':List Nat} {st':MS R.T} {fr':Fr} {ρ':aK} {σ':ah} (h:Kp nr W st fr σ ρ st' fr' σ' ρ') (hw:∀i,aO i W'=false→aO i W=false):Kp nr W' st fr σ ρ st' fr' σ' ρ':=
 ⟨fun i hi=>h.fr i (hw i hi),fun o ho=>h.ob o (hw o ho)⟩
theorem Dh:∀(i:Nat) (l m:List Nat),aO i (l++m)=(aO i l||aO i m)
 |i,[],m=>rfl
 |i,j::l,m=>by show (Nat.beq i j||aO i (l++m))=_;rw[Dh i l m,←Bool.or_assoc];rfl
theorem Rv {o:Nat} {ρ':aK} {σ':ah} {W:List Nat} (ho:∀o,aO o W=false→ρ'.ob o=ρ.ob o∧ρ'.ln o=ρ.ln o) (hx:ρ'.om=ρ.om) (hm:aO o W=false) (hc:∀s,σ'.bD (ρ.om.lc o) s=σ.bD (ρ.om.lc o) s∧σ'.dU (ρ.om.lc o) s=σ.dU (ρ.om.lc o) s):∀{x:Ob R.T},jV W x=true→dx ρ σ o x→dx ρ' σ' o x
 |.cells cs,hs,h=>by
  obtain⟨s,l,h1,h2,h3⟩:=h
  exact⟨s,l,by rw[(ho o hm).1];exact h1,by rw[hx,(hc s).1];exact h2,ay.solid ho hx cs l hs h3⟩
 |.map k e m,_,h=>by obtain⟨s,h1,h2⟩:=h;exact⟨s,by rw[(ho o hm).1];exact h1,by rw[hx,(hc s).2];exact h2⟩
 |.smap ks vs,hs,h=>by
  obtain⟨s,k,l,h1,h2,h3,h4⟩:=h
  have hs':(nN W ks&& nN W vs)=true:=hs
  rw[Bool.and_eq_true] at hs'
  exact⟨s,k,l,by rw[(ho o hm).1];exact h1,by rw[hx,(hc s).2];exact h2,ay.solid ho hx ks k hs'.1 h3,ay.solid ho hx vs l hs'.2 h4⟩
 |.arr t l,_,h=>by
  refine⟨h.1.trans (ho o hm).2.symm, ?_⟩
  rcases h.2 with h| ⟨s,cs,h1,h2,h3⟩
  ·exact .inl ⟨h.1,(ho o hm).1.trans h.2⟩
  ·exact .inr ⟨s,cs,by rw[(ho o hm).1];exact h1,by rw[hx,(hc s).1];exact h2,uo l cs h3⟩
 |.sg ss,_,h=>by obtain⟨s,h1,h2⟩:=h;exact⟨s,by rw[(ho o hm).1];exact h1,by rw[hx,(hc s).1];exact h2⟩
 |.gone,_,_=>trivial
 |.ro b,hs,h=>Rv ho hx hm hc (x:=b) hs h
theorem Aj:∀W:List Nat,∃n,∀m,n≤m→aO m W=false
 | []=>⟨0,fun _ _=>rfl⟩
 |i::W=>by
  obtain⟨n,hn⟩:=Aj W
  refine⟨n+i+1,fun m hm=> ?_⟩
  show (Nat.beq m i||aO m W)=false
  rw[Gm (by omega),hn m (by omega)];rfl
theorem Kp.om {W:List Nat} {st':MS R.T} {fr':Fr} {ρ':aK} {σ':ah} (h:Kp nr W st fr σ ρ st' fr' σ' ρ'):ρ'.om=ρ.om:=by
 obtain⟨n,hn⟩:=Aj W
 exact(h.ob n (hn n (Nat.le_refl _))).om
theorem aB.base {W K O:List Nat} {mark:Ob R.T→Ob R.T} (hmark:∀ρ σ o x,dx ρ σ o x→dx (R:=R) ρ σ o (mark x)) {st0 st' eH:MS R.T} {fr':Fr} {ρ':aK} {σ':ah} {b':Nat} (h:aB ρ b st fr σ) (hk:Kp nr W st0 fr σ ρ st' fr' σ' ρ') (h':aB ρ' b' eH fr' σ')
 (hro:∀o x,look st.ob o=some x→aO o W=false→aO o O=true→jV W x=true→RO st0 o):aB ρ' b' (Aq.base W K O mark st) fr' σ':={h' with
 fr:=fun i v hv=>by
  obtain⟨x,h1,h2,rfl⟩:=uw hv
  rw[Bool.and_eq_true,Bool.not_eq_true'] at h2
  have:=abv h2.2 (abu (h.fr _ _ h1))
  rw[hk.fr i h2.1]
  exact .of (Rl.solid (fun o ho=>⟨(hk.ob o ho).ob,(hk.ob o ho).ln⟩) hk.om _ _ h2.2 this)
 ob:=fun o y hy=>by
  have hO:aO o O=true:=by
   have:∀{is:List Nat} {y:Ob R.T},look (kD (fun o b=> !(aO o W)&& jV W b) mark st.ob is) o=some y→aO o is=true:=by
    intro is
    induction is with
    |nil=>intro y h;cases h
    |cons j is ih=>
     intro y h
     show (Nat.beq o j||aO o is)=true
     unfold kD at h
     by_cases e:o=j
     ·subst e;rw[Nat.beq_refl];rfl
     ·split at h
      ·rename_i x hx
       cases hp:(!(aO j W)&& jV W x)
       ·rw[hp] at h;rw[ih h,Bool.or_true]
       ·rw[hp,cond_true,eU _ _ e] at h;rw[ih h,Bool.or_true]
      ·rw[ih h,Bool.or_true]
   exact this hy
  obtain⟨x,h1,h2,rfl⟩:=uw hy
  rw[Bool.and_eq_true,Bool.not_eq_true'] at h2
  have hc:=((hk.ob o h2.1).ro (hro o x h1 h2.1 hO h2.2)).2
  exact hmark _ _ _ _ (Rv (fun o ho=>⟨(hk.ob o ho).ob,(hk.ob o ho).ln⟩) hk.om h2.1 hc h2.2 (h.ob _ _ h1))}
theorem Lb {W K O:List Nat} {st':MS R.T} {o:Nat} {x:Ob R.T} (h1:look st.ob o=some x) (h2:aO o W=false) (h3:aO o O=true) (h4:jV W x=true):RO ((Aq.base W K O .ro st).over st') o:=by
 intro y hy
 have hl:∃z,look (kD (fun o b=> !(aO o W)&& jV W b) Ob.ro st.ob O) o=some (.ro z):=by
  have:∀is:List Nat,aO o is=true→∃z,look (kD (fun o b=> !(aO o W)&& jV W b) Ob.ro st.ob is) o=some (.ro z):=by
   intro is
   induction is with
   |nil=>intro h;cases h
   |cons j is ih=>
    intro h
    by_cases e:o=j
    ·subst e
     unfold kD
     rw[h1]
     dsimp only
     rw[h2,h4]
     exact⟨x,gI _ _ _⟩
    ·have h':(Nat.beq o j||aO o is)=true:=h
     rw[Gm e,Bool.false_or] at h'
     obtain⟨z,hz⟩:=ih h'
     refine⟨z, ?_⟩
     unfold kD
     split
     ·rename_i w hw
      cases (!(aO j W)&& jV W w)
      ·exact hz
      ·rw[cond_true,eU _ _ e];exact hz
     ·exact hz
  exact this O h3
 obtain⟨z,hz⟩:=hl
 have hy':look (kD (fun o b=> !(aO o W)&& jV W b) Ob.ro st.ob O++st'.ob) o=some y:=hy
 rw[uq,hz] at hy'
 cases hy';rfl
theorem abx {t:Nat}:∀{x:Ob R.T},lM x=true→lM (Ob.wk t x)=true
 |.ro _,_=>rfl
 |.gone,_=>rfl
 |.cells _,h=>by cases h
 |.map _ _ _,h=>by cases h
 |.smap _ _,h=>by cases h
 |.arr _ _,h=>by cases h
theorem Rw {t:Nat} {x:Ob R.T} (h:lM x=true):lM (Ob.kill t x)=true:=by
 unfold Ob.kill
 cases Ob.jq t x
 ·exact h
 ·rfl
theorem aQ.wk {p t s n:Nat} (hl:ρ.om.lo≤s):aQ nr p st ρ σ (st.wk t) (ρ.eG t s) (σ.bE s n):=⟨rfl,rfl,rfl,Nat.le_refl _,⟨fun _ _=>rfl,fun s' hs'=>Cr _ _ (by omega)⟩,fun _ _ _=>rfl,fun hr=>⟨fun x hx=>by
 have hx':look (jr (Ob.wk t) st.ob) p=some x:=hx
 rw[oP,Option.map_eq_some_iff] at hx'
 obtain⟨z,hz,rfl⟩:=hx'
 exact abx (hr z hz),fun _=>⟨rfl,rfl⟩⟩⟩
theorem aQ.set {o q s:Nat} {x y:Ob R.T} {a:eO} (hl:look st.ob o=some y) (hy:lM y=false):aQ nr q st ρ σ (st.set o x) ρ (σ.setObj (ρ.om.lc o) s a):=⟨rfl,rfl,rfl,Nat.le_refl _,⟨fun _ _=>rfl,fun _ _=>rfl⟩,fun _ _ hL=>La hL,fun hr=>by
 have hne:q≠o:=by rintro rfl;rw[hr y hl] at hy;cases hy
 refine⟨fun z hz=> ?_,fun s'=>⟨vL _ _ _ _ hne,Af _ _ _ _ hne⟩⟩
 have hz':look ((o,x)::fJ o st.ob) q=some z:=hz
 rw[eU _ _ hne,mM hne] at hz'
 exact hr z hz'⟩
theorem aQ.new {o q s:Nat} {x:Ob R.T} {a:eO} (hne:q≠o):aQ nr q st ρ σ (st.new o x) (ρ.jA o s) (σ.setObj (ρ.om.lc o) s a):=⟨by simp[aK.jA,upd,hne],rfl,rfl,Nat.le_refl _,⟨fun _ _=>rfl,fun _ _=>rfl⟩,fun _ _ hL=>La hL,fun hr=>by
 refine⟨fun z hz=> ?_,fun s'=>⟨vL _ _ _ _ hne,Af _ _ _ _ hne⟩⟩
 have hz':look ((o,x)::jr (Ob.kill o) (fJ o st.ob)) q=some z:=hz
 rw[eU _ _ hne,oP,mM hne,Option.map_eq_some_iff] at hz'
 obtain⟨w,hw,rfl⟩:=hz'
 exact Rw (hr w hw)⟩
theorem jK {d:Option Nat} {v:TV R.T}:(st.dH d v).ob=st.ob:=by cases d<;>rfl
theorem aQ.same {st':MS R.T} {o:Nat} (h:st'.ob=st.ob):aQ nr o st ρ σ st' ρ σ:=⟨rfl,rfl,rfl,Nat.le_refl _,⟨fun _ _=>rfl,fun _ _=>rfl⟩,fun _ _ _=>rfl,fun hr=>⟨fun x hx=>hr x (by rw[←h];exact hx),fun _=>⟨rfl,rfl⟩⟩⟩
theorem aQ.congr {st' eH:MS R.T} {ρ':aK} {σ':ah} {o:Nat} (h:aQ nr o st ρ σ st' ρ' σ') (e:eH.ob=st'.ob):aQ nr o st ρ σ eH ρ' σ':=⟨h.ob,h.ln,h.om,h.nx,h.lp,h.dp,fun hr=>⟨fun x hx=>(h.ro hr).1 x (by rw[←e];exact hx),(h.ro hr).2⟩⟩
theorem aQ.from {st' eH:MS R.T} {ρ':aK} {σ':ah} {o:Nat} (h:aQ nr o st ρ σ st' ρ' σ') (e:st.ob=eH.ob):aQ nr o eH ρ σ st' ρ' σ':=⟨h.ob,h.ln,h.om,h.nx,h.lp,h.dp,fun hr=>h.ro fun x hx=>hr x (by rw[←e];exact hx)⟩
theorem Kp.op {d:Option Nat} {W:List Nat} {y:V} {st':MS R.T} {ρ':aK} {σ':ah} (hd:∀p,aO p W=false→d≠some p) (h:∀p,d≠some p→aQ nr p st ρ σ st' ρ' σ'):Kp nr W st fr σ ρ st' (fr.put d y) σ' ρ':=
 ⟨fun i hi=>by
   cases d with
   |none=>rfl
   |some j=>exact tL _ _ (by have:=hd i hi;simp at this;simpa using fun e=>this e.symm),fun p hp=>h p (hd p hp)⟩
theorem Rx {W K O:List Nat} {st':MS R.T} {o:Nat} (h:look st'.ob o=none):RO ((Aq.base W K O .ro st).over st') o:=by
 intro y hy
 have hy':look (kD (fun o b=> !(aO o W)&& jV W b) Ob.ro st.ob O++st'.ob) o=some y:=hy
 rw[uq] at hy'
 split at hy'
 ·rename_i x hx
  cases hy'
  obtain⟨z,_,_,rfl⟩:=uw hx
  rfl
 ·rw[h] at hy';cases hy'
theorem Gp {st':MS R.T} {o:Nat} (h1:RO st o) (h2:RO st' o):RO (st.over st') o:=by
 intro y hy
 have hy':look (st.ob++st'.ob) o=some y:=hy
 rw[uq] at hy'
 split at hy'
 ·rename_i x hx;cases hy';exact h1 _ hx
 ·exact h2 _ hy'
theorem Ry {W K O:List Nat} {mark:Ob R.T→Ob R.T} {o:Nat} (hm:∀x,lM x=true→lM (mark x)=true) (h:RO st o):RO (Aq.base W K O mark st) o:=by
 intro y hy
 obtain⟨x,h1,_,rfl⟩:=uw hy
 exact hm _ (h _ h1)
theorem finish {W K O:List Nat} {H S' eH:MS R.T} {fr':Fr} {ρ':aK} {σ':ah} {b':Nat} (hi:aB ρ b st fr σ) (hH:∀o,aO o W=false→RO st o→RO H o) (hro:∀o x,look st.ob o=some x→aO o W=false→aO o O=true→jV W x=true→RO H o)
 (hk:Kp nr W H fr σ ρ S' fr' σ' ρ') (hi':aB ρ' b' eH fr' σ') (hn:∀o,aO o W=false→RO H o→look eH.ob o=none):
 aB ρ' b' ((Aq.base W K O (fun b=>b) st).over eH) fr' σ'∧Kp nr W st fr σ ρ ((Aq.base W K O (fun b=>b) st).over eH) fr' σ' ρ':=by
 have hk2:Kp nr W H fr σ ρ eH fr' σ' ρ':=⟨hk.fr,fun o ho=>⟨(hk.ob o ho).ob,(hk.ob o ho).ln,(hk.ob o ho).om,(hk.ob o ho).nx,(hk.ob o ho).lp,(hk.ob o ho).dp,fun hr=>⟨fun x hx=>(by rw[hn o ho hr] at hx;cases hx),((hk.ob o ho).ro hr).2⟩⟩⟩
 refine⟨(hi.base (fun _ _ _ _ h=>h) hk2 hi' hro).over hi',hk.fr,fun o ho=>⟨(hk.ob o ho).ob,(hk.ob o ho).ln,(hk.ob o ho).om,(hk.ob o ho).nx,(hk.ob o ho).lp,(hk.ob o ho).dp,fun hr=>⟨?_,((hk.ob o ho).ro (hH o ho hr)).2⟩⟩⟩
 exact Gp (Ry (fun _ h=>h) hr) fun x hx=>(by rw[hn o ho (hH o ho hr)] at hx;cases hx)
theorem Rz {x:TV R.T} {v:V} (hx:zG x=true) (h:fM fr ρ top x v):v= .aj .nil []∨v= .aj .full []:=by
 cases x<;>first| (cases hx;done)|skip
 ·exact .inl (Rl.nQ (R:=R) (show Rl R ρ top .d9 v from h))
 ·rename_i c t l
  obtain⟨c',hv,hc⟩:=Rl.iV (R:=R) (show Rl R ρ top (.aj c t l) v from h)
  cases c<;>first| (cases hx;done)|skip
  ·have:l=[]:=by simpa [zG] using hx
   subst this
   have hc':c'= .nil:=hc
   rw[hc'] at hv;exact .inl hv
  ·have:l=[]:=by simpa [zG] using hx
   subst this
   have hc':c'= .full:=hc
   rw[hc'] at hv;exact .inr hv
theorem Di {W:List Nat}:∀(l:List (Nat×Sk)) (st:MS R.T) (ρ:aK),aB ρ b st fr σ→∃ρ',aB ρ' b (mG W l st) fr σ∧Kp nr W st fr σ ρ (mG W l st) fr σ ρ'
 | [],st,ρ,h=>⟨ρ,h,.refl⟩
 | (i,k)::l,st,ρ,h=>by
   have other:mG W ((i,k)::l) st=mG W l st→∃ρ',aB ρ' b (mG W ((i,k)::l) st) fr σ∧Kp nr W st fr σ ρ (mG W ((i,k)::l) st) fr σ ρ':=fun e=>by
    rw[e];exact Di l st ρ h
   cases k<;>first|exact other rfl|skip
   rename_i o t
   unfold mG
   split
   ·rename_i v hv
    cases hb:(zG v&& aO o W)
    ·exact Di l st ρ h
    ·rw[cond_true]
     rw[Bool.and_eq_true] at hb
     have hg:=h.ghost o t
     have hE:=Rz hb.1 (h.fr _ _ hv)
     have Lc:aB (ρ.gh o) b (⟨(i,.vw o t)::(st.new o (.arr t [])).fr,(st.new o (.arr t [])).ob⟩:MS R.T) fr σ:={hg with
      fr:=fun j y hy=>by
       by_cases e:j=i
       ·subst e
        have hy':look ((j,TV.vw o t)::(st.new o (.arr t [])).fr) j=some y:=hy
        rw[gI] at hy';cases hy'
        exact .of (by unfold Rl;exact .inr ⟨Dc (ρ:=ρ) (n:=0),hE⟩)
       ·have hy':look ((i,TV.vw o t)::(st.new o (.arr t [])).fr) j=some y:=hy
        rw[eU _ _ e] at hy'
        exact hg.fr j y hy'
      ob:=hg.ob}
     obtain⟨ρ',h1,h2⟩:=Di (W:=W) l _ _ Lc
     refine⟨ρ',h1,Kp.trans ⟨fun _ _=>rfl,fun p hp=> ?_⟩ h2⟩
     have hne:p≠o:=by rintro rfl;rw[hb.2] at hp;cases hp
     refine⟨(Ai p hne).1,(Ai p hne).2,rfl,Nat.le_refl _,⟨fun _ _=>rfl,fun _ _=>rfl⟩,fun _ _ _=>rfl,fun hr=>⟨fun x hx=> ?_,fun _=>⟨rfl,rfl⟩⟩⟩
     have hx':look ((o,Ob.arr t [])::jr (Ob.kill o) (fJ o st.ob)) p=some x:=hx
     rw[eU _ _ hne,oP,mM hne,Option.map_eq_some_iff] at hx'
     obtain⟨w,hw,rfl⟩:=hx'
     exact Rw (hr w hw)
   ·exact Di l st ρ h
section
variable (hR:kY R)
include hR
omit hR in
theorem RA {W:List Nat}:∀{l:List (Nat×Sk)},st.fr=[]→mG W l st=st
 | [],_=>rfl
 | (i,k)::l,h=>by
   have:=RA (W:=W) (l:=l) h
   cases k<;>first|exact this|skip
   unfold mG
   rw[h];exact this
omit hR in
theorem RB:∀{l:List (Nat×Sk)} {p:wZ R.T l},nO R [] l=some p→l=[]
 | [],_,_=>rfl
 | [(i,k)],p,h=>by cases h
 | (i,k)::q::l,p,h=>by cases h
omit hR in
theorem aby {W:List Nat} (he:st.fr=[]) {s:Shape} {p:mo R.T s} (hp:Aq.jf R W st s=some p):(unpack R s p).fr=[]:=by
 unfold Aq.jf at hp
 rw[RA he] at hp
 obtain⟨sl,ob⟩:=s
 cases ob with
 |nil=>
  have hp':nO R st.fr sl=some p:=hp
  rw[he] at hp'
  have:=RB hp'
  subst this;rfl
 |cons o os=>
  unfold Aq.pack at hp
  rw[he] at hp
  cases hu:nO R [] sl with
  |none=>simp only[hu] at hp;cases hp
  |some x=>
   have:=RB hu
   subst this;rfl
theorem aB.jf {W:List Nat} (h:aB ρ b st fr σ) {s:Shape} {p:mo R.T s} (hp:Aq.jf R W st s=some p):∃ρ' S',aB ρ' b (unpack R s p) fr σ∧Kp nr W st fr σ ρ S' fr σ ρ'∧(st.fr=[]→(unpack R s p).fr=[])∧∀i,aO i W=false→RO st i→look (unpack R s p).ob i=none:=by
 obtain⟨ρ',h1,h2⟩:=Di (W:=W) s.sl st ρ h
 exact⟨ρ',_,h1.pack hR hp,h2,fun he=>aby he hp,fun i hi hr=>abt hp ((h2.ob i hi).ro hr).1⟩
theorem Ak {β:Type} {W:List Nat} (h:aB ρ b st fr σ) {e:Ex}:∀{l:List (Ex×Shape)} {o:Out R.T l},oJ R W e st l=some o→∃ρ' S' st',aB ρ' b st' fr σ∧Kp nr W st fr σ ρ S' fr σ ρ'∧(st.fr=[]→st'.fr=[])∧(∀i,aO i W=false→RO st i→look st'.ob i=none)∧∀(k:Ex→MS R.T→Option β) (bs:MS R.T),rz R bs k l o=k e (bs.over st')
 | [],o,hp=>by cases hp
 | [(x,s)],o,hp=>by
   have hp':(bif xq e x then Aq.jf R W st s else none)=some o:=hp
   cases hb:xq e x
   ·rw[hb] at hp';cases hp'
   ·rw[hb,cond_true] at hp'
    have:=Rs hb;subst this
    obtain⟨ρ',S',h1,h2,h0,h3⟩:=h.jf hR hp'
    exact⟨ρ',S',_,h1,h2,h0,h3,fun k bs=>rfl⟩
 | (x,s)::q::l,o,hp=>by
   unfold oJ at hp
   cases hb:xq e x
   ·rw[hb,cond_false] at hp
    cases hu:oJ R W e st (q::l) with
    |none=>simp only[hu] at hp;cases hp
    |some y=>
     simp only[hu] at hp
     obtain rfl:=Option.some.inj hp
     obtain⟨ρ',S',st',h1,h3,h0,h4,h2⟩:=Ak (β:=β) h hu
     exact⟨ρ',S',st',h1,h3,h0,h4,fun k bs=>h2 k bs⟩
   ·rw[hb,cond_true] at hp
    have:=Rs hb;subst this
    cases hu:Aq.jf R W st s with
    |none=>simp only[hu] at hp;cases hp
    |some y=>
     simp only[hu] at hp
     obtain rfl:=Option.some.inj hp
     obtain⟨ρ',S',h1,h2,h0,h3⟩:=h.jf hR hu
     exact⟨ρ',S',_,h1,h2,h0,h3,fun k bs=>rfl⟩
end
end
end
end Aq
end
section
namespace Aq
open Go
set_option linter.unusedSectionVars false
set_option linter.unusedVariables false
section
variable {R:fI} {E:Env}
variable {ρ:aK} {b:Nat} {st:MS R.T} {fr:Fr} {σ:ah}
def ql (E:Env) (fr:Fr) (o:Oper):Bool:=match o.op with
 |.call c=>match c.callee with
  |.value f=>iO E fr o f
  |_=>false
 |_=>false
def jB (E:Env) (fr:Fr) (σ:ah) (au:Nat) (o:Oper) (x:V) (σ':ah):Prop:=
 (ql E fr o=false→∀all os Q,bS all fr o=some true→OW E all (au+1) os (fr.put o.dst x) σ' Q→OW E all au (o::os) fr σ Q)∧
 (ql E fr o=false→∀ms all os fs Q,bS all fr o=some true→bJ E ms all (au+1) os (fr.put o.dst x) σ' (fs++[dA E all fr o true]) Q→bJ E ms all au (o::os) fr σ fs Q)
theorem jB.of {au:Nat} {o:Oper} {x:V} {σ':ah} (h:∀S,opC E S fr σ au o=some (x,fr,σ')):jB E fr σ au o x σ':=
 ⟨fun _ _ _ _ hw h'=>OW.op hw h h',fun _ _ _ _ _ _ hw h'=>bJ.op hw h h'⟩
theorem abz {S:dW} {au:Nat} {o:Oper} {x:V} {σ':ah} (h:aS E fr σ au o=some (x,σ')):opC E S fr σ au o=some (x,fr,σ'):=by
 unfold opC
 split
 ·rename_i c hc;unfold aS at h;rw[hc] at h;cases h
 ·rename_i c hc;unfold aS at h;rw[hc] at h;cases h
 ·rw[h];rfl
theorem RD {o:Oper} {c:Call} {f:Operand} {g:FuncId} {a b:List V} (ho:o.op= .call c) (cZ:c.callee= .value f) (hf:fr.ev E f= .fn (.func g) a b) (h:ql E fr o=false):∀d,o.dst=some d→E.own g d=false:=by
 intro d hd
 unfold ql at h
 rw[ho] at h
 dsimp only at h
 rw[cZ] at h
 dsimp only at h
 unfold iO at h
 rw[hf,hd] at h
 exact h
theorem jB.fu {au:Nat} {o:Oper} {x:V} {σ':ah} (h:aS E fr σ au o=some (x,σ')):jB E fr σ au o x σ':=.of fun S=>abz h
def oU (E:Env) (st:MS R.T) (ρ:aK) (au:Nat) (fr:Fr) (σ:ah) (o:Oper):bW R→Prop
 |.t v=> ∃x,jB E fr σ au o x σ∧Rl R ρ σ.top v x
 |.c c v=>c=true→∃x,jB E fr σ au o x σ∧Rl R ρ σ.top v x
 |.w v st'=> ∃x σ' ρ',jB E fr σ au o x σ'∧aB ρ' (au+1) st' fr σ'∧σ'.next=σ.next∧Rl R ρ' σ'.top v x∧∀p,o.dst≠some p→aQ true p st ρ σ st' ρ' σ'
 |.wc c v st'=>c=true→∃x σ' ρ',jB E fr σ au o x σ'∧aB ρ' (au+1) st' fr σ'∧σ'.next=σ.next∧Rl R ρ' σ'.top v x∧∀p,o.dst≠some p→aQ true p st ρ σ st' ρ' σ'
 |.p _ _ o' f=> ∀a,o'=some a→∃x,jB E fr σ au o x σ∧Rl R ρ σ.top (f a) x
theorem rF {top:Nat→Nat} {x:TV R.T} {v:V} (hg:vo x=true) (h:Rl R ρ top x v):ay R ρ top x.cells v.cells∧dL v=true:=by
 cases x with
 |agg cs=>obtain⟨l,rfl,hl⟩:=h.iK;exact⟨hl,rfl⟩
 |int k n=>rw[h.dZ];exact⟨.cons' (by unfold Rl;rfl) rfl,rfl⟩
 |bool b=>rw[h.mK];exact⟨.cons' (by unfold Rl;rfl) rfl,rfl⟩
 |fq b=>rw[h.qh];exact⟨.cons' (by unfold Rl;rfl) rfl,rfl⟩
 |str b=>rw[h.jJ];exact⟨.cons' (by unfold Rl;rfl) rfl,rfl⟩
 |d9=>rw[h.nQ];exact⟨.cons' (by unfold Rl;rfl) rfl,rfl⟩
 |aT cs=>obtain⟨l,rfl,hl⟩:=h.Gh;exact⟨.cons' h rfl,rfl⟩
 |aj c t l=>obtain⟨c',rfl,hl⟩:=h.iV;exact⟨.cons' h rfl,rfl⟩
 |ref o off=>obtain⟨s,hs,rfl⟩:=h.lT;exact⟨.cons' h rfl,rfl⟩
 |aH o off=>obtain⟨s,rfl,hs⟩:=h.qj;exact⟨.cons' h rfl,rfl⟩
 |bq o=>obtain⟨s,hs,rfl⟩:=h.um;exact⟨.cons' h rfl,rfl⟩
 |bL k e m=>have:=h.Ac;subst this;exact⟨.cons' h rfl,rfl⟩
 |fn f a b=>obtain⟨a',b',rfl,_⟩:=h.jY;exact⟨.cons' h rfl,rfl⟩
 |undef=>have:=h.QV;subst this;exact⟨.cons' h rfl,rfl⟩
 |vw o t=>rcases h.xG with ⟨s,_,rfl⟩| ⟨_,rfl|rfl⟩<;>exact⟨.cons' h rfl,rfl⟩
 |iq o t i off=>obtain⟨s,_,_,rfl⟩:=h.xH;exact⟨.cons' h rfl,rfl⟩
 |sv o off k n lo hi=>obtain⟨s,_,_,rfl⟩:=h.vJ;exact⟨.cons' h rfl,rfl⟩
 |sel o off k n i m=>obtain⟨s,_,_,_,rfl⟩:=h.Db;exact⟨.cons' h rfl,rfl⟩
 |nL k n y i=>obtain⟨_,_,rfl⟩:=h.Gi;exact⟨.cons' h rfl,rfl⟩
 |sg _=>cases hg
 |dQ=>have h':=h;unfold Rl at h';subst h';exact⟨.cons' h rfl,rfl⟩
 |dJ=>have h':=h;unfold Rl at h';subst h';exact⟨.cons' h rfl,rfl⟩
 |dF=>have h':=h;unfold Rl at h';subst h';exact⟨.cons' h rfl,rfl⟩
 |dK=>have h':=h;unfold Rl at h';subst h';exact⟨.cons' h rfl,rfl⟩
 |opt j w y=>cases hg
 |gone=>cases hg
theorem abA {top:Nat→Nat} {x:TV R.T} {v:V} (hg:Ko x=true) (h:Rl R ρ top x v):oneCell v=true:=by
 cases x with
 |agg cs=>cases hg
 |int k n=>rw[h.dZ];rfl
 |bool b=>rw[h.mK];rfl
 |fq b=>rw[h.qh];rfl
 |str b=>rw[h.jJ];rfl
 |d9=>rw[h.nQ];rfl
 |aT cs=>cases hg
 |aj c t l=>obtain⟨c',rfl,hl⟩:=h.iV;rfl
 |ref o off=>obtain⟨s,hs,rfl⟩:=h.lT;rfl
 |aH o off=>obtain⟨s,rfl,hs⟩:=h.qj;rfl
 |bq o=>obtain⟨s,hs,rfl⟩:=h.um;rfl
 |bL k e m=>have:=h.Ac;subst this;rfl
 |fn f a b=>obtain⟨a',b',rfl,_⟩:=h.jY;rfl
 |undef=>cases hg
 |vw o t=>rcases h.xG with ⟨s,_,rfl⟩| ⟨_,rfl|rfl⟩<;>rfl
 |iq o t i off=>obtain⟨s,_,_,rfl⟩:=h.xH;rfl
 |sv o off k n lo hi=>obtain⟨s,_,_,rfl⟩:=h.vJ;rfl
 |sel o off k n i m=>obtain⟨s,_,_,_,rfl⟩:=h.Db;rfl
 |nL k n y i=>obtain⟨_,_,rfl⟩:=h.Gi;rfl
 |sg _=>cases hg
 |dQ=>unfold Rl at h;subst h;rfl
 |dJ=>unfold Rl at h;subst h;rfl
 |dF=>unfold Rl at h;subst h;rfl
 |dK=>unfold Rl at h;subst h;rfl
 |opt j w y=>cases hg
 |gone=>cases hg
theorem Dj {top:Nat→Nat}:∀{x:List (TV R.T)} {v:List V},vk x=true→ay R ρ top x v→bn v=true
 | [],v,_,h=>by rw[h.dO];rfl
 |x::xs,v,hg,h=>by
  obtain⟨y,ys,rfl,h1,h2⟩:=h.bX
  unfold vk at hg
  rw[Bool.and_eq_true] at hg
  rw[Qx,abA hg.1 h1,Dj hg.2 h2];rfl
theorem abB {top:Nat→Nat} {ag:Bool} {n off:Nat} {cs:List (TV R.T)} {l:List V} {x:TV R.T} (h:ay R ρ top cs l) (hp:FN ag n cs off=some x):∃v,kK ag n l off=some v∧Rl R ρ top x v:=by
 cases ag with
 |true=>
  have hp':(bif Nat.ble (off+n) cs.length then some (TV.agg ((cs.drop off).take n)) else none)=some x:=hp
  cases hb:Nat.ble (off+n) cs.length
  ·rw[hb] at hp';cases hp'
  ·rw[hb] at hp';cases hp'
   have hle:=Nat.le_of_ble_eq_true hb
   refine⟨.agg ((l.drop off).take n), ?_,by unfold Rl;exact⟨_,rfl,(h.drop off).take n⟩⟩
   unfold kK;rw[if_pos rfl,if_pos (by rw[h.length];exact hle)]
 |false=>
  obtain⟨v,h1,h2⟩:=h.get (show cs[off]? =some x from hp)
  exact⟨v,by unfold kK;simpa using h1,h2⟩
theorem uy {top:Nat→Nat} {t:TypeId} {off:Nat} {cs:List (TV R.T)} {l:List V} {x:TV R.T} (h:ay R ρ top cs l) (hp:iU E t cs off=some x):∃v,eB E.P t l off=some v∧Rl R ρ top x v:=by
 unfold iU at hp
 cases h1:gB E.P t with
 |none=>simp only[h1] at hp;cases hp
 |some a=>
  cases h2:bF E.P t with
  |none=>simp only[h1,h2] at hp;cases hp
  |some n=>
   simp only[h1,h2] at hp
   unfold eB;rw[h1,h2];exact abB h hp
theorem Ld {top:Nat→Nat} {cs vs:List (TV R.T)} {l k:List V} (off:Nat) (h:ay R ρ top cs l) (h':ay R ρ top vs k):ay R ρ top (zH cs off vs) (dR l off k):=by
 unfold zH dR
 rw[h'.length]
 exact((h.take off).append h').append (h.drop _)
theorem Al {top:Nat→Nat} {t:TypeId} {z:TV R.T} (h:tY E t=some z):∃v,fO E.P t=some v∧Rl R ρ top z v:=by
 unfold tY at h
 unfold fO
 cases h1:E.P.info? t with
 |none=>simp only[h1] at h;cases h
 |some i=>
  cases h2:i.zero with
  |none=>simp only[h1,h2] at h;cases h
  |some z'=>
   simp only[h1,h2] at h
   obtain⟨v,hv,hr⟩:=Rk (ρ:=ρ) (top:=top) h
   exact⟨v,by simp[h2,hv],hr⟩
theorem RF {top:Nat→Nat} (place:Nat→Option (Nat×Nat)):∀{ps:List (Nat×TV R.T)} {qs:List (Nat×V)} {cs:List (TV R.T)} {l:List V} {cs':List (TV R.T)},ps.map (·.1)=qs.map (·.1)→ay R ρ top (ps.map (·.2)) (qs.map (·.2))→
 ay R ρ top cs l→FP place cs ps=some cs'→∃l',l5 place l qs=some l'∧ay R ρ top cs' l'
 | [],[],cs,l,cs',_,_,h,hf=>by cases hf;exact⟨l,rfl,h⟩
 | [],_::_,_,_,_,h,_,_,_=>by simp at h
 |_::_,[],_,_,_,h,_,_,_=>by simp at h
 | (i,v)::ps,(j,w)::qs,cs,l,cs',hi,hr,h,hf=>by
   simp only[List.map_cons,List.cons.injEq] at hi
   obtain⟨rfl,hi⟩:=hi
   obtain⟨y,ys,e,h1,h2⟩:=hr.bX
   simp only[List.map_cons,List.cons.injEq] at e
   obtain⟨rfl,rfl⟩:=e
   unfold FP at hf
   unfold l5
   cases hp:place i with
   |none=>simp only[hp] at hf;cases hf
   |some q=>
    obtain⟨off,size⟩:=q
    simp only[hp] at hf⊢
    cases hb:(Nat.beq v.cells.length size&& Nat.ble (off+size) cs.length&& vo v)
    ·rw[hb] at hf;cases hf
    ·rw[hb,cond_true] at hf
     simp only[Bool.and_eq_true] at hb
     obtain⟨⟨b1,b2⟩,b3⟩:=hb
     obtain⟨hc,hn⟩:=rF b3 h1
     rw[if_pos ⟨by rw[hc.length];exact dn b1,by rw[h.length];exact Nat.le_of_ble_eq_true b2,hn⟩]
     exact RF place hi h2 (Ld off h hc) hf
theorem RG {top:Nat→Nat} {x:TV R.T} {v:V} {a:Bool} (h:bM x=some a) (hr:Rl R ρ top x v):v= .bool a:=by
 cases x<;>cases h
 ·exact hr.mK
 ·exact hr.qh
theorem RH {top:Nat→Nat} {x y:TV R.T} {v w:V} {r:Bool} (h:FQ x y=some r) (hx:Rl R ρ top x v) (hy:Rl R ρ top y w):∃a b,v= .bool a∧w= .bool b∧r=(a==b):=by
 unfold FQ at h
 cases h1:bM x with
 |none=>simp only[h1] at h;cases h
 |some a=>
  cases h2:bM y with
  |none=>simp only[h1,h2] at h;cases h
  |some b=>simp only[h1,h2] at h;cases h;exact⟨a,b,RG h1 hx,RG h2 hy,rfl⟩
theorem Le {top:Nat→Nat} {uz:TypeId→TV R.T→TV R.T→Option Bool} {eqv:TypeId→V→V→Option Bool} (he:∀t x y v w r,uz t x y=some r→Rl R ρ top x v→Rl R ρ top y w→eqv t v w=some r)
 {xs ys:List (TV R.T)} {vs ws:List V} (hx:ay R ρ top xs vs) (hy:ay R ρ top ys ws):∀{fs:List Field} {r:Bool},zI E uz xs ys fs=some r→wB E.P eqv vs ws fs=some r
 | [],r,h=>by cases h;rfl
 |f::fs,r,h=>by
  unfold zI at h
  unfold wB
  split at h
  ·rename_i hn;rw[if_pos hn];exact Le he hx hy h
  ·rename_i hn
   rw[if_neg hn]
   cases h1:iU E f.type xs f.offset with
   |none=>simp only[h1] at h;cases h
   |some a=>
    cases h2:iU E f.type ys f.offset with
    |none=>simp only[h1,h2] at h;cases h
    |some c=>
     cases h3:uz f.type a c with
     |none=>simp only[h1,h2,h3] at h;cases h
     |some r1=>
      cases h4:zI E uz xs ys fs with
      |none=>simp only[h1,h2,h3,h4] at h;cases h
      |some q=>
       simp only[h1,h2,h3,h4] at h;cases h
       obtain⟨v1,e1,g1⟩:=uy hx h1
       obtain⟨v2,e2,g2⟩:=uy hy h2
       simp[e1,e2,he _ _ _ _ _ _ h3 g1 g2,Le he hx hy h4]
theorem RI {top:Nat→Nat} {uz:TypeId→TV R.T→TV R.T→Option Bool} {eqv:TypeId→V→V→Option Bool} (he:∀t x y v w r,uz t x y=some r→Rl R ρ top x v→Rl R ρ top y w→eqv t v w=some r)
 {e:TypeId} {sz:Nat} {xs ys:List (TV R.T)} {vs ws:List V} (hx:ay R ρ top xs vs) (hy:ay R ρ top ys ws):∀{is:List Nat} {r:Bool},CJ E uz e sz xs ys is=some r→yE E.P eqv e sz vs ws is=some r
 | [],r,h=>by cases h;rfl
 |i::is,r,h=>by
  unfold CJ at h
  unfold yE
  cases h1:iU E e xs (i*sz) with
  |none=>simp only[h1] at h;cases h
  |some a=>
   cases h2:iU E e ys (i*sz) with
   |none=>simp only[h1,h2] at h;cases h
   |some c=>
    cases h3:uz e a c with
    |none=>simp only[h1,h2,h3] at h;cases h
    |some r1=>
     cases h4:CJ E uz e sz xs ys is with
     |none=>simp only[h1,h2,h3,h4] at h;cases h
     |some q=>
      simp only[h1,h2,h3,h4] at h;cases h
      obtain⟨v1,e1,g1⟩:=uy hx h1
      obtain⟨v2,e2,g2⟩:=uy hy h2
      simp[e1,e2,he _ _ _ _ _ _ h3 g1 g2,RI he hx hy h4]
theorem Gq {top:Nat→Nat}:∀(d:Nat) (t:TypeId) (x y:TV R.T) (v w:V) (r:Bool),zJ E d t x y=some r→Rl R ρ top x v→Rl R ρ top y w→uK E.P d t v w=some r
 |0,_,_,_,_,_,_,h,_,_=>by cases h
 |d+1,t,x,y,v,w,r,h,hx,hy=>by
  unfold zJ at h
  unfold uK
  split at h
  ·rename_i fs xs ys hu
   obtain⟨l,rfl,h1⟩:=hx.iK
   obtain⟨k,rfl,h2⟩:=hy.iK
   rw[hu];dsimp only
   split at h
   ·cases h
   ·rename_i hs;rw[if_neg hs];exact Le (Gq d) h1 h2 h
  ·rename_i n e xs ys hu
   obtain⟨l,rfl,h1⟩:=hx.iK
   obtain⟨k,rfl,h2⟩:=hy.iK
   rw[hu];dsimp only
   cases hs:bF E.P e with
   |none=>simp only[hs] at h;cases h
   |some sz=>simp only[hs] at h;simp only[Option.bind_some];exact RI (Gq d) h1 h2 h
  ·cases h
  ·cases h
  ·rename_i hu
   obtain⟨a,c,rfl,rfl,rfl⟩:=RH h hx hy
   rw[hu]
  ·rename_i k a k' c hu
   rw[hx.dZ,hy.dZ,hu];exact h
  ·rename_i a c hu
   rw[hx.jJ,hy.jJ,hu];exact h
  ·cases h
theorem RJ {top:Nat→Nat} {t:TypeId} {x y:TV R.T} {v w:V} {r:Bool} (h:FT E t x y=some r) (hx:Rl R ρ top x v) (hy:Rl R ρ top y w):ow E.P t v w=some r:=by
 unfold FT at h
 unfold ow
 split at h
 ·rename_i fs xs ys hu
  split at h
  ·cases h
  ·rename_i hs
   have:=Gq 8 t _ _ v w r h hx hy
   obtain⟨l,rfl,h1⟩:=hx.iK
   obtain⟨k,rfl,h2⟩:=hy.iK
   rw[hu];dsimp only;rw[if_neg hs];exact this
 ·rename_i fs xs ys hu
  split at h
  ·cases h
  ·rename_i hs
   have:=Gq 8 t _ _ v w r h hx hy
   obtain⟨l,rfl,h1⟩:=hx.iK
   obtain⟨k,rfl,h2⟩:=hy.iK
   rw[hu];dsimp only;rw[if_neg hs];exact this
 ·rename_i hu;cases h;unfold Rl at hx hy;subst hx;subst hy;rw[hu]
 ·rename_i hu;cases h;obtain⟨a,b,rfl,_⟩:=hy.jY;unfold Rl at hx;subst hx;rw[hu]
 ·rename_i hu;cases h;obtain⟨a,b,rfl,_⟩:=hx.jY;unfold Rl at hy;subst hy;rw[hu]
 ·rename_i hu;obtain⟨a,c,rfl,rfl,rfl⟩:=RH h hx hy;rw[hu]
 ·cases h
end
end Aq
end
