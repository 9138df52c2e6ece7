/- Part of the proof of a law. -/
import Derived.Test.YtdcnajadcbedkaaGreatDoorS807
set_option linter.all false
set_option linter.unusedSimpArgs false
set_option linter.unusedSectionVars false
section
namespace Aq
open Go
set_option linter.unusedSectionVars false
set_option linter.unusedVariables false
theorem dI {a b:Nat} (h:Nat.beq a b=true):a=b:=Nat.eq_of_beq_eq_true h
theorem IE {a b:Nat} (h:Nat.beq a b=false):a≠b:=fun e=>by rw[e,Nat.beq_refl] at h;cases h
theorem IG {a b:Nat} (h:a≠b):Nat.beq a b=false:=Bool.eq_false_iff.2 fun e=>h (dI e)
section look
variable {α:Type}
theorem pW (f:α→α):∀(l:List (Nat×α)) (i:Nat),look (jW f l) i=(look l i).map f
 | [],_=>rfl
 | (j,x)::l,i=>by
   show (bif Nat.beq j i then some (f x) else look (jW f l) i)=Option.map f (bif Nat.beq j i then some x else look l i)
   cases Nat.beq j i
   ·exact pW f l i
   ·rfl
theorem nR {i j:Nat} (h:j≠i):∀(l:List (Nat×α)),look (fV i l) j=look l j
 | []=>rfl
 | (k,x)::l=>by
   show look (bif Nat.beq k i then fV i l else (k,x)::fV i l) j=bif Nat.beq k j then some x else look l j
   cases hk:Nat.beq k i
   ·show (bif Nat.beq k j then some x else look (fV i l) j)=_
    rw[nR h l]
   ·have:=dI hk
    subst this
    rw[IG (Ne.symm h)]
    exact nR h l
theorem iI (l:List (Nat×α)) (i:Nat) (x:α):look ((i,x)::l) i=some x:=by
 show (bif Nat.beq i i then some x else look l i)=_;rw[Nat.beq_refl];rfl
theorem fC (l:List (Nat×α)) {i j:Nat} (x:α) (h:j≠i):look ((i,x)::l) j=look l j:=by
 show (bif Nat.beq i j then some x else look l j)=_;rw[IG (Ne.symm h)];rfl
end look
section
variable {R:fU} {E:Env}
theorem Wn {ρ ρ':aL} {top top':Nat→Nat}:∀(t:Ty) (x:Den R.T t) (v:V),Rl R ρ top (uR R .any t x) v→Rl R ρ' top' (uR R .any t x) v
 |.int _,_,_,h=>h
 |.bool,_,_,h=>h
 |.str,_,_,h=>h
 |.slice _,_,_,h=>h
 |.st _,_,_,h=>h
theorem vB {ρ ρ':aL} {top top':Nat→Nat}:∀(l:List Ty) (p:lC R.T l) (vs:List V),aB R ρ top (iU R .any l p) vs→aB R ρ' top' (iU R .any l p) vs
 | [],_,_,h=>h
 | [t],x,vs,h=>by
   obtain⟨v,l,rfl,h1,h2⟩:=h.dH
   rw[h2.eH]
   exact .cons' (Wn t x v h1) rfl
 |t::u::l,p,vs,h=>by
  obtain⟨v,ws,rfl,h1,h2⟩:=h.dH
  exact .cons' (Wn t p.1 v h1) (vB (u::l) p.2 ws h2)
theorem af6 {ρ ρ':aL} {top top':Nat→Nat} {t:Ty} {x:Den R.T t} {vs:List V} (h:aB R ρ top (eG R .any t x).cells vs):aB R ρ' top' (eG R .any t x).cells vs:=by
 cases t with
 |st n=>exact vB _ _ _ h
 |int k=>exact vB [.int k] x vs h
 |bool=>exact vB [.bool] x vs h
 |str=>exact vB [.str] x vs h
 |slice t=>exact vB [.slice t] x vs h
theorem aB.split {ρ:aL} {top:Nat→Nat}:∀{ts ts':List (TV R.T)} {vs:List V},aB R ρ top (ts++ts') vs→∃a b,vs=a++b∧aB R ρ top ts a∧aB R ρ top ts' b
 | [],_,vs,h=>⟨[],vs,rfl,rfl,h⟩
 |t::ts,ts',vs,h=>by
  obtain⟨v,ws,rfl,h1,h2⟩:=aB.dH (ts:=ts++ts') h
  obtain⟨a,b,rfl,h3,h4⟩:=aB.split h2
  exact⟨v::a,b,rfl,.cons' h1 h3,h4⟩
theorem sS {ρ ρ':aL} {top top':Nat→Nat} {t:Ty}:∀(l:List (Den R.T t)) (vs:List V),aB R ρ top (l.flatMap fun x=>(eG R .any t x).cells) vs→aB R ρ' top' (l.flatMap fun x=>(eG R .any t x).cells) vs
 | [],vs,h=>h
 |x::l,vs,h=>by
  rw[List.flatMap_cons] at h⊢
  obtain⟨a,b,rfl,h1,h2⟩:=h.split
  exact(af6 h1).append (sS l b h2)
def gq (fr:Fr) (ρ:aL) (top:Nat→Nat):TV R.T→V→Prop
 |.opt j w y,v=>(fr.tm j= .bool w→Rl R ρ top y v)∧(fr.tm j= .bool (!w)∨fr.tm j=aC→v=aC)
 |x,v=>Rl R ρ top x v
theorem gq.of {fr:Fr} {ρ:aL} {top:Nat→Nat} {x:TV R.T} {v:V} (h:Rl R ρ top x v):gq fr ρ top x v:=by
 cases x<;>first|exact h|exact h.V9.elim
def dO (ρ:aL) (σ:ah) (o:Nat):Ob R.T→Prop
 |.cells cs=> ∃s l,ρ.ob o=some s∧σ.bO (ρ.om.lc o) s=some l∧aB R ρ σ.top cs l
 |.map k e m=> ∃s,ρ.ob o=some s∧σ.eD (ρ.om.lc o) s=some (m.map fun p=>aG R k p.1,m.map fun p=>aG R e p.2)
 |.smap ks vs=> ∃s k l,ρ.ob o=some s∧σ.eD (ρ.om.lc o) s=some (k,l)∧aB R ρ σ.top ks k∧aB R ρ σ.top vs l
 |.arr t l=>l.length=ρ.ln o∧((l=[]∧ρ.ob o=none)∨∃s cs,ρ.ob o=some s∧σ.bO (ρ.om.lc o) s=some cs∧aB R ρ σ.top (l.flatMap fun x=>(eG R .any t x).cells) cs)
 |.sg ss=> ∃s,ρ.ob o=some s∧σ.bO (ρ.om.lc o) s=some (bH ss)
 |.gone=>True
 |.ro b=>dO ρ σ o b
theorem dO.strip {ρ:aL} {σ:ah} {o:Nat}:∀{x:Ob R.T},dO ρ σ o x→dO ρ σ o (N7 x)
 |.cells _,h=>h
 |.map _ _ _,h=>h
 |.smap _ _,h=>h
 |.arr _ _,h=>h
 |.sg _,h=>h
 |.gone,h=>h
 |.ro b,h=>dO.strip (x:=b) h
structure aH (ρ:aL) (b:Nat) (st:MS R.T) (fr:Fr) (σ:ah):Prop where
 d:fr.d=ρ.om.dp
 om:fr.om=ρ.om.om
 fr:∀i v,look st.fr i=some v→gq fr ρ σ.top v (fr.tm i)
 ob:∀o x,look st.ob o=some x→dO ρ σ o x
 inj:∀t u s,ρ.tk t=some s→ρ.tk u=some s→t=u
 lt:∀t s,ρ.tk t=some s→s<b
 ge:∀t s,ρ.tk t=some s→ρ.om.lo≤s
 nx:ρ.om.lo≤b
variable {ρ:aL} {b:Nat} {st:MS R.T} {fr:Fr} {σ:ah}
theorem aH.le {b':Nat} (h:aH ρ b st fr σ) (hb:b≤b'):aH ρ b' st fr σ:={h with lt:=fun t s ht=>Nat.lt_of_lt_of_le (h.lt t s ht) hb,nx:=Nat.le_trans h.nx hb}
theorem dO.bump {o k:Nat}:∀{x:Ob R.T},dO ρ σ o x→dO ρ (σ.bump k) o x
 |.cells _,h=>h
 |.map _ _ _,h=>h
 |.smap _ _,h=>h
 |.arr _ _,h=>h
 |.sg _,h=>h
 |.gone,h=>h
 |.ro b,h=>dO.bump (x:=b) h
theorem aH.next (h:aH ρ b st fr σ) (k:Nat):aH ρ b st fr (σ.bump k):={h with fr:=h.fr,ob:=fun o x hx=>(h.ob o x hx).bump}
theorem aH.rd (h:aH ρ b st fr σ) {o:Nat} {x:Ob R.T} (hx:kS st o=some x):dO ρ σ o x:=by
 unfold kS at hx
 split at hx
 ·rename_i y hy;cases hx;exact(h.ob _ _ hy).strip
 ·cases hx
theorem af7 {ρ:aL} {top:Nat→Nat} {x:TV R.T} {u v:V} {i:Nat} (h:gq fr ρ top x v):gq (fr.set i u) ρ top (NY i x) v:=by
 cases x with
 |opt j w y=>
  show gq _ _ _ (bif Nat.beq j i then .gone else .opt j w y) v
  cases hj:Nat.beq j i
  ·have hs:(fr.set i u).tm j=fr.tm j:=Cj _ _ (by simpa using IE hj)
   exact⟨fun hc=>h.1 (by rw[←hs];exact hc),fun hc=>h.2 (by rw[←hs];exact hc)⟩
  ·exact gq.of (x:=.gone) (by unfold Rl;trivial)
 |_=>exact h
theorem aH.put (h:aH ρ b st fr σ) (i:Nat) {x:TV R.T} {v:V} (hx:gq (fr.set i v) ρ σ.top x v):aH ρ b (st.put i x) (fr.set i v) σ where
 d:=h.d
 om:=h.om
 ob:=h.ob
 inj:=h.inj
 lt:=h.lt
 ge:=h.ge
 nx:=h.nx
 fr:=fun j y hy=>by
  by_cases e:j=i
  ·subst e
   have hy':some x=some y:=by rw[←hy];exact(iI _ _ _).symm
   cases hy'
   rw[Ho]
   exact hx
  ·have hy':look (jW (NY i) (fV i st.fr)) j=some y:=by rw[←hy];exact(fC _ _ e).symm
   rw[pW,nR e,Option.map_eq_some_iff] at hy'
   obtain⟨z,hz,rfl⟩:=hy'
   rw[Cj _ _ (by simpa using e)]
   exact af7 (h.fr j z hz)
theorem aH.dQ (h:aH ρ b st fr σ) (d:Option Nat) {x:TV R.T} {v:V} (hx:Rl R ρ σ.top x v):aH ρ b (st.dQ d x) (fr.put d v) σ:=by
 cases d with
 |none=>exact h
 |some i=>exact h.put i (.of hx)
theorem af8 {ρ:aL} {top:Nat→Nat} {x:TV R.T} {v:V} {i:Nat} {c:Bool} (hi:fr.tm i= .bool c) (h:gq fr ρ top x v):gq fr ρ top (NZ i c x) v:=by
 cases x with
 |opt j w y=>
  show gq _ _ _ (bif Nat.beq j i then (bif (c==w) then y else .undef) else .opt j w y) v
  cases hj:Nat.beq j i
  ·exact h
  ·have:=dI hj
   subst this
   by_cases e:c=w
   ·subst e
    rw[beq_self_eq_true]
    exact gq.of (h.1 hi)
   ·rw[show (c==w)=false by simpa using e]
    have e':c= !w:=by cases c<;>cases w<;>first|rfl|exact absurd rfl e
    have h':=h.2 (.inl (by rw[hi,e']))
    subst h';exact gq.of (x:=.undef) (by unfold Rl;rfl)
 |_=>exact h
theorem aH.learn (h:aH ρ b st fr σ) {i:Nat} {c:Bool} (hc:fr.tm i= .bool c):aH ρ b (st.learn i c) fr σ where
 d:=h.d
 om:=h.om
 ob:=h.ob
 inj:=h.inj
 lt:=h.lt
 ge:=h.ge
 nx:=h.nx
 fr:=fun j y hy=>by
  by_cases e:j=i
  ·subst e
   have hy':some (TV.fH c)=some y:=by rw[←hy];exact(iI _ _ _).symm
   cases hy'
   exact gq.of (x:=.fH c) (by unfold Rl;exact hc)
  ·have hy':look (jW (NZ i c) (fV i st.fr)) j=some y:=by rw[←hy];exact(fC _ _ e).symm
   rw[pW,nR e,Option.map_eq_some_iff] at hy'
   obtain⟨z,hz,rfl⟩:=hy'
   exact af8 hc (h.fr j z hz)
def aL.jZ (ρ:aL) (o s:Nat):aL:={ρ with ob:=upd ρ.ob o (some s)}
def aL.fJ (ρ:aL) (t s:Nat):aL:={ρ with tk:=upd ρ.tk t (some s)}
theorem Wo {ρ':aL} {top:Nat→Nat} {o:Nat} {x:TV R.T} {v:V} (ho:∀p,p≠o→ρ'.ob p=ρ.ob p∧ρ'.ln p=ρ.ln p) (ht:ρ'.tk=ρ.tk) (hx:ρ'.om=ρ.om) (h:gq fr ρ top x v):gq fr ρ' top (Cr o x) v:=by
 unfold Cr
 cases hm:jV o x
 ·cases x with
  |opt j w y=>exact⟨fun hc=>Rl.kill o ho ht hx y v hm (h.1 hc),h.2⟩
  |_=>exact gq.of (Rl.kill o ho ht hx _ v hm h)
 ·exact gq.of (x:=.gone) (by unfold Rl;trivial)
theorem OM (c:Cx) {o p:Nat} (h:p≠o):nZ (c.lc p) (c.lc o)=false:=by
 cases e:nZ (c.lc p) (c.lc o)
 ·rfl
 ·unfold nZ at e
  rw[Bool.and_eq_true,beq_iff_eq,beq_iff_eq] at e
  exact absurd (Prod.ext e.2 e.1) (c.V7 h)
theorem vC {c:Cx} {o p:Nat} (σ:ah) (s s':Nat) (x:fE) (h:p≠o):(σ.setObj (c.lc o) s' x).bO (c.lc p) s=σ.bO (c.lc p) s:=Vz σ s s' x (OM c h)
theorem zH {c:Cx} {o p:Nat} (σ:ah) (s s':Nat) (x:fE) (h:p≠o):(σ.setObj (c.lc o) s' x).eD (c.lc p) s=σ.eD (c.lc p) s:=VA σ s s' x (OM c h)
theorem Wp {ρ':aL} {o p s':Nat} {a:fE} (hp:p≠o) (ho:∀p,p≠o→ρ'.ob p=ρ.ob p∧ρ'.ln p=ρ.ln p) (ht:ρ'.tk=ρ.tk) (hx:ρ'.om=ρ.om):∀{x:Ob R.T},Ob.jV o x=false→dO ρ σ p x→dO ρ' (σ.setObj (ρ.om.lc o) s' a) p x
 |.cells cs,hm,h=>by
  obtain⟨s,l,h1,h2,h3⟩:=h
  exact⟨s,l,((ho p hp).1.trans h1),by rw[hx,vC _ _ _ _ hp];exact h2,aB.kill o ho ht hx _ _ hm h3⟩
 |.map k e m,_,h=>by
  obtain⟨s,h1,h2⟩:=h
  exact⟨s,((ho p hp).1.trans h1),by rw[hx,zH _ _ _ _ hp];exact h2⟩
 |.smap ks vs,hm,h=>by
  obtain⟨s,k,l,h1,h2,h3,h4⟩:=h
  have hm':(kR o ks||kR o vs)=false:=hm
  rw[Bool.or_eq_false_iff] at hm'
  exact⟨s,k,l,((ho p hp).1.trans h1),by rw[hx,zH _ _ _ _ hp];exact h2,aB.kill o ho ht hx _ _ hm'.1 h3,aB.kill o ho ht hx _ _ hm'.2 h4⟩
 |.arr t l,hm,h=>by
  refine⟨h.1.trans (ho p hp).2.symm, ?_⟩
  rcases h.2 with h| ⟨s,cs,h1,h2,h3⟩
  ·exact .inl ⟨h.1,(ho p hp).1.trans h.2⟩
  ·exact .inr ⟨s,cs,((ho p hp).1.trans h1),by rw[hx,vC _ _ _ _ hp];exact h2,sS l cs h3⟩
 |.sg ss,_,h=>by
  obtain⟨s,h1,h2⟩:=h
  exact⟨s,((ho p hp).1.trans h1),by rw[hx,vC _ _ _ _ hp];exact h2⟩
 |.gone,_,_=>trivial
 |.ro b,hm,h=>Wp hp ho ht hx (x:=b) hm h
theorem af9 {ρ':aL} {o p s':Nat} {a:fE} {x:Ob R.T} (hp:p≠o) (ho:∀p,p≠o→ρ'.ob p=ρ.ob p∧ρ'.ln p=ρ.ln p) (ht:ρ'.tk=ρ.tk) (hx:ρ'.om=ρ.om) (h:dO ρ σ p x):dO ρ' (σ.setObj (ρ.om.lc o) s' a) p (Ob.kill o x):=by
 unfold Ob.kill
 cases hm:Ob.jV o x
 ·exact Wp hp ho ht hx hm h
 ·trivial
theorem Wq {o p s:Nat} {a:fE} (hp:p≠o):∀{x:Ob R.T},dO ρ σ p x→dO ρ (σ.setObj (ρ.om.lc o) s a) p x
 |.cells cs,h=>by obtain⟨s,l,h1,h2,h3⟩:=h;exact⟨s,l,h1,by rw[vC _ _ _ _ hp];exact h2,h3⟩
 |.map k e m,h=>by obtain⟨s,h1,h2⟩:=h;exact⟨s,h1,by rw[zH _ _ _ _ hp];exact h2⟩
 |.smap ks vs,h=>by obtain⟨s,k,l,h1,h2,h3⟩:=h;exact⟨s,k,l,h1,by rw[zH _ _ _ _ hp];exact h2,h3⟩
 |.arr t l,h=>by
  refine⟨h.1, ?_⟩
  rcases h.2 with h| ⟨s,cs,h1,h2,h3⟩
  ·exact .inl h
  ·exact .inr ⟨s,cs,h1,by rw[vC _ _ _ _ hp];exact h2,h3⟩
 |.sg ss,h=>by obtain⟨s,h1,h2⟩:=h;exact⟨s,h1,by rw[vC _ _ _ _ hp];exact h2⟩
 |.gone,_=>trivial
 |.ro b,h=>Wq hp (x:=b) h
theorem Ws {o t s n:Nat} (key:∀u s',u≠t→ρ.tk u=some s'→(ρ.fJ t s).tk u=some s'∧(σ.bV s n).top s'=σ.top s'):∀{x:Ob R.T},dO ρ σ o x→dO (ρ.fJ t s) (σ.bV s n) o (Ob.wk t x)
 |.cells cs,h=>by obtain⟨s',l,h1,h2,h3⟩:=h;exact⟨s',l,h1,h2,aB.wk (ρ:=ρ) (ρ':=ρ.fJ t s) (top:=σ.top) (top':=(σ.bV s n).top) t ⟨rfl,rfl,rfl⟩ key _ _ h3⟩
 |.map k e m,h=>h
 |.smap ks vs,h=>by obtain⟨s',k,l,h1,h2,h3,h4⟩:=h;exact⟨s',k,l,h1,h2,aB.wk (ρ:=ρ) (ρ':=ρ.fJ t s) (top:=σ.top) (top':=(σ.bV s n).top) t ⟨rfl,rfl,rfl⟩ key _ _ h3,aB.wk (ρ:=ρ) (ρ':=ρ.fJ t s) (top:=σ.top) (top':=(σ.bV s n).top) t ⟨rfl,rfl,rfl⟩ key _ _ h4⟩
 |.arr ty l,h=>by
  refine⟨h.1, ?_⟩
  rcases h.2 with h| ⟨s,cs,h1,h2,h3⟩
  ·exact .inl h
  ·exact .inr ⟨s,cs,h1,h2,sS l cs h3⟩
 |.sg ss,h=>h
 |.gone,_=>trivial
 |.ro b,h=>Ws key (x:=b) h
theorem zI {o s:Nat}:∀p,p≠o→(ρ.jZ o s).ob p=ρ.ob p∧(ρ.jZ o s).ln p=ρ.ln p:=fun p h=>⟨by simp[aL.jZ,upd,h],rfl⟩
def aL.wW (ρ:aL) (o n:Nat):aL:={ρ with ln:=upd ρ.ln o n}
theorem Wt {o n:Nat}:∀p,p≠o→(ρ.wW o n).ob p=ρ.ob p∧(ρ.wW o n).ln p=ρ.ln p:=fun p h=>⟨rfl,by simp[aL.wW,upd,h]⟩
def aL.gh (ρ:aL) (o:Nat):aL:={ρ.wW o 0 with ob:=upd ρ.ob o none}
theorem zJ {o:Nat}:∀p,p≠o→(ρ.gh o).ob p=ρ.ob p∧(ρ.gh o).ln p=ρ.ln p:=fun p h=>⟨by simp[aL.gh,upd,h],(Wt (ρ:=ρ) (n:=0) p h).2⟩
theorem CU {o n:Nat}:(ρ.wW o n).ln o=n:=by simp[aL.wW,upd]
def aL.wX (ρ:aL) (o s n:Nat):aL:=(ρ.jZ o s).wW o n
theorem OO {o s n:Nat}:∀p,p≠o→(ρ.wX o s n).ob p=ρ.ob p∧(ρ.wX o s n).ln p=ρ.ln p:=fun p h=>⟨(zI p h).1,(Wt p h).2⟩
theorem pX {o s:Nat}:(ρ.jZ o s).ob o=some s:=by simp[aL.jZ,upd]
theorem aH.new' {ρ':aL} (h:aH ρ b st fr σ) (o s:Nat) {x:Ob R.T} {a:fE} (zI:∀p,p≠o→ρ'.ob p=ρ.ob p∧ρ'.ln p=ρ.ln p) (ht:ρ'.tk=ρ.tk) (bg:ρ'.om=ρ.om) (hx:dO ρ' (σ.setObj (ρ.om.lc o) s a) o x):aH ρ' b (st.new o x) fr (σ.setObj (ρ.om.lc o) s a) where
 d:=by rw[bg];exact h.d
 om:=by rw[bg];exact h.om
 fr:=fun j y hy=>by
  have hy':look (jW (Cr o) st.fr) j=some y:=hy
  rw[pW,Option.map_eq_some_iff] at hy'
  obtain⟨z,hz,rfl⟩:=hy'
  exact Wo zI ht bg (h.fr j z hz)
 ob:=fun p y hy=>by
  by_cases e:p=o
  ·subst e
   have hy':some x=some y:=by rw[←hy];exact(iI _ _ _).symm
   cases hy'
   exact hx
  ·have hy':look (jW (Ob.kill o) (fV o st.ob)) p=some y:=by rw[←hy];exact(fC _ _ e).symm
   rw[pW,nR e,Option.map_eq_some_iff] at hy'
   obtain⟨z,hz,rfl⟩:=hy'
   exact af9 e zI ht bg (h.ob p z hz)
 inj:=by rw[ht];exact h.inj
 lt:=by rw[ht];exact h.lt
 ge:=by rw[ht,bg];exact h.ge
 nx:=by rw[bg];exact h.nx
theorem aH.new (h:aH ρ b st fr σ) (o s:Nat) {x:Ob R.T} {a:fE} (hx:dO (ρ.jZ o s) (σ.setObj (ρ.om.lc o) s a) o x):aH (ρ.jZ o s) b (st.new o x) fr (σ.setObj (ρ.om.lc o) s a):=h.new' o s zI rfl rfl hx
theorem aH.OP (h:aH ρ b st fr σ) (o s n:Nat) {x:Ob R.T} {a:fE} (hx:dO (ρ.wX o s n) (σ.setObj (ρ.om.lc o) s a) o x):aH (ρ.wX o s n) b (st.new o x) fr (σ.setObj (ρ.om.lc o) s a):=h.new' o s OO rfl rfl hx
theorem Wu {ρ':aL} {o p:Nat} (hp:p≠o) (ho:∀p,p≠o→ρ'.ob p=ρ.ob p∧ρ'.ln p=ρ.ln p) (ht:ρ'.tk=ρ.tk) (hx:ρ'.om=ρ.om):∀{x:Ob R.T},Ob.jV o x=false→dO ρ σ p x→dO ρ' σ p x
 |.cells cs,hm,h=>by
  obtain⟨s,l,h1,h2,h3⟩:=h
  exact⟨s,l,((ho p hp).1.trans h1),by rw[hx];exact h2,aB.kill o ho ht hx _ _ hm h3⟩
 |.map k e m,_,h=>by
  obtain⟨s,h1,h2⟩:=h
  exact⟨s,((ho p hp).1.trans h1),by rw[hx];exact h2⟩
 |.smap ks vs,hm,h=>by
  obtain⟨s,k,l,h1,h2,h3,h4⟩:=h
  have hm':(kR o ks||kR o vs)=false:=hm
  rw[Bool.or_eq_false_iff] at hm'
  exact⟨s,k,l,((ho p hp).1.trans h1),by rw[hx];exact h2,aB.kill o ho ht hx _ _ hm'.1 h3,aB.kill o ho ht hx _ _ hm'.2 h4⟩
 |.arr t l,hm,h=>by
  refine⟨h.1.trans (ho p hp).2.symm, ?_⟩
  rcases h.2 with h| ⟨s,cs,h1,h2,h3⟩
  ·exact .inl ⟨h.1,(ho p hp).1.trans h.2⟩
  ·exact .inr ⟨s,cs,((ho p hp).1.trans h1),by rw[hx];exact h2,sS l cs h3⟩
 |.sg ss,_,h=>by
  obtain⟨s,h1,h2⟩:=h
  exact⟨s,((ho p hp).1.trans h1),by rw[hx];exact h2⟩
 |.gone,_,_=>trivial
 |.ro b,hm,h=>Wu hp ho ht hx (x:=b) hm h
theorem aH.ghost (h:aH ρ b st fr σ) (o:Nat) (t:Ty):aH (ρ.gh o) b (st.new o (.arr t [])) fr σ where
 d:=h.d
 om:=h.om
 fr:=fun j y hy=>by
  have hy':look (jW (Cr o) st.fr) j=some y:=hy
  rw[pW,Option.map_eq_some_iff] at hy'
  obtain⟨z,hz,rfl⟩:=hy'
  exact Wo zJ rfl rfl (h.fr j z hz)
 ob:=fun p y hy=>by
  by_cases e:p=o
  ·subst e
   have hy':some (Ob.arr t ([]:List (Den R.T t)))=some y:=by rw[←hy];exact(iI _ _ _).symm
   cases hy'
   exact⟨(CU (ρ:=ρ) (n:=0)).symm,.inl ⟨rfl,by simp[aL.gh,upd]⟩⟩
  ·have hy':look (jW (Ob.kill o) (fV o st.ob)) p=some y:=by rw[←hy];exact(fC _ _ e).symm
   rw[pW,nR e,Option.map_eq_some_iff] at hy'
   obtain⟨z,hz,rfl⟩:=hy'
   unfold Ob.kill
   cases hm:Ob.jV o z
   ·exact Wu e zJ rfl rfl hm (h.ob p z hz)
   ·trivial
 inj:=h.inj
 lt:=h.lt
 ge:=h.ge
 nx:=h.nx
theorem Wv {c:Cx} {o p:Nat} (σ:ah) (h:p≠o):(σ.jH (c.lc o)).obj (c.lc p)=σ.obj (c.lc p):=by
 unfold ah.jH upd
 dsimp only
 rw[if_neg (c.V7 h)]
theorem Ww {σ':ah} {p:Nat} (hp:σ'.obj (ρ.om.lc p)=σ.obj (ρ.om.lc p)) (ht:σ'.top=σ.top):∀{x:Ob R.T},dO ρ σ p x→dO ρ σ' p x
 |.cells cs,h=>by
  obtain⟨s,l,h1,h2,h3⟩:=h
  exact⟨s,l,h1,by unfold ah.bO at h2⊢;rw[hp];exact h2,by rw[ht];exact h3⟩
 |.map k e m,h=>by
  obtain⟨s,h1,h2⟩:=h
  exact⟨s,h1,by unfold ah.eD at h2⊢;rw[hp];exact h2⟩
 |.smap ks vs,h=>by
  obtain⟨s,k,l,h1,h2,h3,h4⟩:=h
  exact⟨s,k,l,h1,by unfold ah.eD at h2⊢;rw[hp];exact h2,by rw[ht];exact h3,by rw[ht];exact h4⟩
 |.arr t l,h=>by
  refine⟨h.1, ?_⟩
  rcases h.2 with h| ⟨s,cs,h1,h2,h3⟩
  ·exact .inl h
  ·exact .inr ⟨s,cs,h1,by unfold ah.bO at h2⊢;rw[hp];exact h2,sS l cs h3⟩
 |.sg ss,h=>by
  obtain⟨s,h1,h2⟩:=h
  exact⟨s,h1,by unfold ah.bO at h2⊢;rw[hp];exact h2⟩
 |.gone,_=>trivial
 |.ro b,h=>Ww hp ht (x:=b) h
theorem aH.del (h:aH ρ b st fr σ) (o:Nat):aH ρ b (st.del o) fr (σ.jH (ρ.om.lc o)) where
 d:=h.d
 om:=h.om
 fr:=h.fr
 ob:=fun p y hy=>by
  by_cases e:p=o
  ·subst e
   have:look (fV p st.ob) p=some y:=hy
   have key:∀l:List (Nat×Ob R.T),look (fV p l) p=none:=by
    intro l
    induction l with
    |nil=>rfl
    |cons q l ih=>
     obtain⟨j,x⟩:=q
     unfold fV
     cases hj:Nat.beq j p
     ·show (bif Nat.beq j p then some x else look (fV p l) p)=none
      rw[hj];exact ih
     ·exact ih
   rw[key] at this;cases this
  ·have hy':look (fV o st.ob) p=some y:=hy
   rw[nR e] at hy'
   exact Ww (Wv σ e) rfl (h.ob p y hy')
 inj:=h.inj
 lt:=h.lt
 ge:=h.ge
 nx:=h.nx
theorem aH.set (h:aH ρ b st fr σ) (o s:Nat) {x:Ob R.T} {a:fE} (hx:dO ρ (σ.setObj (ρ.om.lc o) s a) o x):aH ρ b (st.set o x) fr (σ.setObj (ρ.om.lc o) s a) where
 d:=h.d
 om:=h.om
 fr:=h.fr
 ob:=fun p y hy=>by
  by_cases e:p=o
  ·subst e
   have hy':some x=some y:=by rw[←hy];exact(iI _ _ _).symm
   cases hy'
   exact hx
  ·have hy':look (fV o st.ob) p=some y:=by rw[←hy];exact(fC _ _ e).symm
   rw[nR e] at hy'
   exact Wq e (h.ob p y hy')
 inj:=h.inj
 lt:=h.lt
 ge:=h.ge
 nx:=h.nx
theorem aH.wk (h:aH ρ b st fr σ) (t s n:Nat) {b':Nat} (hb:b≤b') (hs:s<b') (hl:ρ.om.lo≤s) (hf:∀u,u≠t→ρ.tk u≠some s):aH (ρ.fJ t s) b' (st.wk t) fr (σ.bV s n) where
 d:=h.d
 om:=h.om
 fr:=fun j y hy=>by
  have hy':look (jW (Aq.wk t) st.fr) j=some y:=hy
  rw[pW,Option.map_eq_some_iff] at hy'
  obtain⟨z,hz,rfl⟩:=hy'
  have hz':=h.fr j z hz
  have key:∀u s',u≠t→ρ.tk u=some s'→(ρ.fJ t s).tk u=some s'∧(σ.bV s n).top s'=σ.top s':=fun u s' hu hs'=>
   ⟨by simp[aL.fJ,upd,hu,hs'],Cm _ _ fun e=>hf u hu (by rw[hs',e])⟩
  cases z with
  |opt j' w y=>exact⟨fun hc=>Rl.wk (ρ:=ρ) (ρ':=ρ.fJ t s) (top:=σ.top) (top':=(σ.bV s n).top) t ⟨rfl,rfl,rfl⟩ key y _ (hz'.1 hc),hz'.2⟩
  |_=>exact gq.of (Rl.wk (ρ:=ρ) (ρ':=ρ.fJ t s) (top:=σ.top) (top':=(σ.bV s n).top) t ⟨rfl,rfl,rfl⟩ key _ _ hz')
 ob:=fun p y hy=>by
  have hy':look (jW (Ob.wk t) st.ob) p=some y:=hy
  rw[pW,Option.map_eq_some_iff] at hy'
  obtain⟨z,hz,rfl⟩:=hy'
  have hz':=h.ob p z hz
  have key:∀u s',u≠t→ρ.tk u=some s'→(ρ.fJ t s).tk u=some s'∧(σ.bV s n).top s'=σ.top s':=fun u s' hu hs'=>
   ⟨by simp[aL.fJ,upd,hu,hs'],Cm _ _ fun e=>hf u hu (by rw[hs',e])⟩
  exact Ws key hz'
 inj:=fun u v s' hu hv=>by
  by_cases e1:u=t<;>by_cases e2:v=t
  ·rw[e1,e2]
  ·simp[aL.fJ,upd,e1] at hu;simp[aL.fJ,upd,e2] at hv;exact absurd (hu▸hv) (hf v e2)
  ·simp[aL.fJ,upd,e1] at hu;simp[aL.fJ,upd,e2] at hv;exact absurd (hv▸hu) (hf u e1)
  ·simp[aL.fJ,upd,e1] at hu;simp[aL.fJ,upd,e2] at hv;exact h.inj u v s' hu hv
 lt:=fun u s' hu=>by
  by_cases e1:u=t
  ·simp[aL.fJ,upd,e1] at hu;omega
  ·simp[aL.fJ,upd,e1] at hu;exact Nat.lt_of_lt_of_le (h.lt u s' hu) hb
 ge:=fun u s' hu=>by
  by_cases e1:u=t
  ·simp[aL.fJ,upd,e1] at hu;rw[←hu];exact hl
  ·simp[aL.fJ,upd,e1] at hu;exact h.ge u s' hu
 nx:=Nat.le_trans h.nx hb
theorem Wx {top:Nat→Nat} {x:TV R.T} {v:Value} (h:wJ v=some x):∃y,iC v=some y∧Rl R ρ top x y:=by
 unfold wJ at h
 split at h<;>cases h<;>exact⟨_,rfl,by unfold Rl;rfl⟩
theorem Wy {top:Nat→Nat}:∀{vs:List Value} {l:List (TV R.T)},yQ vs=some l→∃y,vs.mapM iC=some y∧aB R ρ top l y
 | [],l,h=>by cases h;exact⟨[],rfl,rfl⟩
 |v::vs,l,h=>by
  unfold yQ at h
  cases h1:(wJ v:Option (TV R.T)) with
  |none=>simp only[h1] at h;cases h
  |some a=>
   cases h2:(yQ vs:Option (List (TV R.T))) with
   |none=>simp only[h1,h2] at h;cases h
   |some as=>
    simp only[h1,h2] at h;cases h
    obtain⟨y,hy,hr⟩:=Wx (ρ:=ρ) (top:=top) h1
    obtain⟨ys,hys,hrs⟩:=Wy h2
    exact⟨y::ys,by simp[hy,hys],.cons' hr hrs⟩
theorem Wz {top:Nat→Nat} {x:TV R.T} {v:Value} (h:yR v=some x):∃y,ofValue v=some y∧Rl R ρ top x y:=by
 unfold yR at h
 split at h
 ·rename_i cs
  cases h2:(yQ cs.toList:Option (List (TV R.T))) with
  |none=>simp only[h2] at h;cases h
  |some l=>
   simp only[h2] at h;cases h
   obtain⟨ys,hys,hrs⟩:=Wy (ρ:=ρ) (top:=top) h2
   exact⟨.agg ys,by simp[ofValue,hys],by unfold Rl;exact⟨_,rfl,hrs⟩⟩
 ·obtain⟨y,hy,hr⟩:=Wx (ρ:=ρ) (top:=top) h
  refine⟨y, ?_,hr⟩
  unfold wJ at h
  split at h<;>first|exact hy|cases h
def mV (fr:Fr) (g:List (Nat×Bool)):Prop:=∀j u,look g j=some u→fr.tm j= .bool u
theorem mV.nil:mV fr []:=fun _ _ h=>by cases h
theorem mV.cons {g:List (Nat×Bool)} {j:Nat} {u:Bool} (h:fr.tm j= .bool u) (hg:mV fr g):mV fr ((j,u)::g):=fun i v hi=>by
 by_cases e:i=j
 ·subst e;rw[iI] at hi;cases hi;exact h
 ·rw[fC _ _ e] at hi;exact hg i v hi
theorem aga {fr:Fr} {top:Nat→Nat} {g:List (Nat×Bool)} (hg:mV fr g) {y x:TV R.T} {v:V} (hy:gq fr ρ top y v) (he:HV g y=some x):Rl R ρ top x v:=by
 cases y with
 |opt j w z=>
  unfold HV at he
  dsimp only at he
  split at he
  ·rename_i u hu
   cases he
   have:=hg j u hu
   by_cases e:u=w
   ·subst e;rw[beq_self_eq_true];exact hy.1 this
   ·rw[show (u==w)=false by simpa using e]
    have e':u= !w:=by cases u<;>cases w<;>first|rfl|exact absurd rfl e
    unfold Rl;exact hy.2 (.inl (by rw[this,e']))
  ·cases he
 |_=>cases he;exact hy
theorem aY (h:aH ρ b st fr σ) {g:List (Nat×Bool)} (hg:mV fr g) {o:Operand} {x:TV R.T} (he:aZ g st o=some x):Rl R ρ σ.top x (fr.ev E o):=by
 cases o with
 |tmp t=>
  rw[yJ]
  unfold aZ at he
  dsimp only at he
  split at he
  ·rename_i v hv;exact aga hg (h.fr _ _ hv) he
  ·cases he
 |const v=>
  rw[Vw]
  obtain⟨y,hy,hr⟩:=Wz (ρ:=ρ) (top:=σ.top) (show yR v=some x from he)
  rw[hy];exact hr
 |func f=>cases he;rw[Vx];unfold Rl;exact⟨[],[],rfl,rfl,rfl⟩
 |global i=>cases he
theorem sU (h:aH ρ b st fr σ) {g:List (Nat×Bool)} (hg:mV fr g):∀{l:List Operand} {xs:List (TV R.T)},lF g st l=some xs→aB R ρ σ.top xs (l.map (fr.ev E))
 | [],xs,he=>by cases he;rfl
 |o::l,xs,he=>by
  unfold lF at he
  cases h1:aZ g st o with
  |none=>simp only[h1] at he;cases he
  |some a=>
   cases h2:lF g st l with
   |none=>simp only[h1,h2] at he;cases he
   |some as=>simp only[h1,h2] at he;cases he;exact .cons' (aY h hg h1) (sU h hg h2)
theorem OQ (h:aH ρ b st fr σ) {g:List (Nat×Bool)} (hg:mV fr g):∀{l:List (Nat×Operand)} {xs:List (Nat×TV R.T)},yS g st l=some xs→xs.map (·.1)=l.map (·.1)∧aB R ρ σ.top (xs.map (·.2)) (l.map fun p=>fr.ev E p.2)
 | [],xs,he=>by cases he;exact⟨rfl,rfl⟩
 | (i,o)::l,xs,he=>by
   unfold yS at he
   cases h1:aZ g st o with
   |none=>simp only[h1] at he;cases he
   |some a=>
    cases h2:yS g st l with
    |none=>simp only[h1,h2] at he;cases he
    |some as=>
     simp only[h1,h2] at he;cases he
     obtain⟨e1,e2⟩:=OQ h hg h2
     exact⟨by simp[e1],.cons' (aY h hg h1) e2⟩
end
end Aq
end
section
namespace Aq
open Go
set_option linter.unusedSectionVars false
set_option linter.unusedVariables false
theorem agb {n m:Nat} {v:Vec n} {w:Vec m} (h:Hu v=some w):n=m∧HEq v w:=by
 unfold Hu at h
 split at h
 ·rename_i e;subst e;cases h;exact⟨rfl,HEq.rfl⟩
 ·cases h
theorem WA:∀{k:iH} {s:Sg} {x:yM k},yN k s=some x→Cq k x=s
 |.i k,.i k' y,x,h=>by
  have h':(if k'=k then some y else none)=some (x:Int):=h
  by_cases e:k'=k
  ·subst e;rw[if_pos rfl] at h';cases h';rfl
  ·rw[if_neg e] at h';cases h'
 |.a k n,.a k' n' v,x,h=>by
  have h':(if k'=k then Hu (m:=n) v else none)=some (x:Vec n):=h
  by_cases e:k'=k
  ·subst e;rw[if_pos rfl] at h'
   obtain⟨e1,e2⟩:=agb h'
   subst e1;cases e2;rfl
  ·rw[if_neg e] at h';cases h'
 |.i k,.a _ _ _,x,h=>by cases h
 |.a k n,.i _ _,x,h=>by cases h
theorem II:∀{l:List iH} {ss:List Sg} {x:wF l},sJ l ss=some x→qF l x=ss
 | [],ss,x,h=>by
   cases ss with
   |nil=>rfl
   |cons s ss=>cases h
 | [k],ss,x,h=>by
   cases ss with
   |nil=>cases h
   |cons s ss=>
    cases ss with
    |nil=>
     show [Cq k x]=[s]
     rw[WA (show yN k s=some x from h)]
    |cons s' ss=>cases h
 |k::k'::l,ss,x,h=>by
  cases ss with
  |nil=>cases h
  |cons s ss=>
   have h':(match yN k s with
    |some x=>match sJ (k'::l) ss with
     |some p=>some (x,p)
     |none=>none
    |none=>none)=some x:=h
   cases hu:yN k s with
   |none=>simp only[hu] at h';cases h'
   |some y=>
    cases hs:sJ (k'::l) ss with
    |none=>simp only[hu,hs] at h';cases h'
    |some q=>
     simp only[hu,hs] at h'
     obtain rfl:=Option.some.inj h'
     show Cq k y::qF (k'::l) q=s::ss
     rw[WA hu,II hs]
section
variable {R:fU} (hR:lZ R)
variable {ρ:aL} {top:Nat→Nat} {b:Nat} {st:MS R.T} {fr:Fr} {σ:ah}
include hR
theorem wY {t:Ty} {x:Den R.T t} {tv:TV R.T} {v:V} (h:nK R t tv=some x) (hr:Rl R ρ top tv v):Rl R ρ top (uR R .any t x) v:=by
 cases t with
 |int k=>rw[OE h hr];unfold Rl;rfl
 |bool=>rw[OG h hr];unfold Rl;rfl
 |str=>rw[OH h hr];unfold Rl;rfl
 |slice t=>obtain⟨c,hv⟩:=Wj h hr;rw[hv];unfold Rl;exact⟨c,rfl,trivial⟩
 |st n=>cases h
theorem WB:∀(l:List Ty) (p:lC R.T l) (cs:List (TV R.T)) (vs:List V),uS R l cs=some p→aB R ρ top cs vs→aB R ρ top (iU R .any l p) vs
 | [],p,cs,vs,h,hr=>by
   cases cs with
   |nil=>rw[hr.eH];rfl
   |cons c cs=>cases h
 | [t],p,cs,vs,h,hr=>by
   have h':nK R t (hd1 R cs)=some p:=h
   cases cs with
   |nil=>cases t<;>cases h'
   |cons c cs=>
    cases cs with
    |nil=>
     obtain⟨v,l,rfl,h1,h2⟩:=hr.dH
     rw[h2.eH]
     exact .cons' (wY hR h' h1) rfl
    |cons c' cs=>cases t<;>cases h'
 |t::u::l,p,cs,vs,h,hr=>by
  cases cs with
  |nil=>cases h
  |cons c cs=>
   obtain⟨v,vs,rfl,h1,h2⟩:=hr.dH
   unfold uS at h
   cases hu:nK R t c with
   |none=>simp only[hu] at h;cases h
   |some y=>
    cases hs:uS R (u::l) cs with
    |none=>simp only[hu,hs] at h;cases h
    |some q=>
     simp only[hu,hs] at h
     obtain rfl:=Option.some.inj h
     exact .cons' (wY hR hu h1) (WB (u::l) q cs vs hs h2)
theorem CV {t:Ty} {x:Den R.T t} {tv:TV R.T} {v:V} (h:mJ R t tv=some x) (hr:Rl R ρ top tv v):Rl R ρ top (eG R .any t x) v:=by
 cases t with
 |st n=>
  change wI R n tv=some x at h
  unfold wI at h
  split at h
  ·rename_i cs
   split at h
   ·rename_i p hp
    obtain rfl:=Option.some.inj h
    obtain⟨l,hv,hl⟩:=hr.jA
    subst hv
    show Rl R ρ top (.agg (iU R .any (R.lf n) (R.of n (R.to n p)))) _
    rw[hR.CP]
    unfold Rl;exact⟨l,rfl,WB hR _ _ _ _ hp hl⟩
   ·cases h
  ·cases h
 |int k=>exact wY hR (t:=.int k) h hr
 |bool=>exact wY hR (t:=.bool) h hr
 |str=>exact wY hR (t:=.str) h hr
 |slice t=>exact wY hR (t:=.slice t) h hr
omit hR in
theorem WC {sz n:Nat} {c c':Cp} {x:Cap} (h:yV c c'=true) (hx:zB ρ top sz n c x):zB ρ top sz n c' x:=by
 cases c<;>cases c'<;>simp only[yV,Bool.false_eq_true] at h<;>first|trivial|exact hx|exact .inl hx|exact .inr (.inl hx)| (rw[←dI h];exact hx)
omit hR in
theorem OT {k e k' e':Ty} {m:List (Den R.T k'×Den R.T e')} {x:List (Den R.T k×Den R.T e)} (h:yX R m=some x):k'=k∧e'=e∧HEq m x:=by
 unfold yX at h
 split at h
 ·rename_i e;obtain⟨rfl,rfl⟩:=e;cases h;exact⟨rfl,rfl,HEq.rfl⟩
 ·cases h
omit hR in
theorem WE {c:Cp} {t:Ty} {x:List (Den R.T t)} {tv:TV R.T} {v:V} (h:H6 R c t tv=some x) (hr:Rl R ρ top tv v):Rl R ρ top (.aj c t x) v:=by
 unfold H6 at h
 split at h
 ·rename_i c' t' l
  cases hc:yV c' c
  ·rw[hc] at h;cases h
  ·rw[hc,cond_true] at h
   obtain⟨e,e2⟩:=pV h;subst e;cases e2
   obtain⟨c'',hv,hcc⟩:=hr.jO
   unfold Rl;exact⟨c'',hv,WC hc hcc⟩
 ·cases hc:yV .nil c
  ·rw[hc] at h;cases h
  ·rw[hc,cond_true] at h;cases h
   unfold Rl;exact⟨.nil,hr.nQ,WC hc rfl⟩
 ·cases h
mutual
theorem OU:∀(k:Sk) (x:oG R.T k) (tv:TV R.T) (v:V),pk R k tv=some x→Rl R ρ top tv v→Rl R ρ top (up R .any k x) v
 |.d t,x,tv,v,h,hr=>CV hR (by unfold pk at h;exact h) hr
 |.l c t,x,tv,v,h,hr=>WE (by unfold pk at h;exact h) hr
 |.agg l,x,tv,v,h,hr=>by
  cases tv<;>first| (exact absurd (show none=some x from h) (by simp))|skip
  rename_i cs
  obtain⟨vs,rfl,hl⟩:=hr.jA
  show Rl R ρ top (.agg (iy R .any l x)) _
  unfold Rl;exact⟨vs,rfl,wZ l x cs vs h hl⟩
 |.ref o off,x,tv,v,h,hr=>by
  cases tv<;>first| (exact absurd (show none=some x from h) (by simp))|skip
  rename_i p off'
  have h':(bif Nat.beq p o&& Nat.beq off' off then some () else none)=some x:=h
  cases hb:(Nat.beq p o&& Nat.beq off' off)
  ·rw[hb] at h';cases h'
  ·rw[Bool.and_eq_true] at hb
   rw[dI hb.1,dI hb.2] at hr
   exact hr
 |.aI l off,x,tv,v,h,hr=>by
  cases tv<;>first| (exact absurd (show none=some x from h) (by simp))|skip
  rename_i cs off'
  have h':(bif Nat.beq off' off then eX R l cs else none)=some x:=h
  cases hb:Nat.beq off' off
  ·rw[hb] at h';cases h'
  ·rw[hb,cond_true] at h'
   rw[dI hb] at hr
   obtain⟨vs,rfl,hl⟩:=hr.rE
   show Rl R ρ top (.aI (iy R .any l x) off) _
   unfold Rl;exact⟨vs,rfl,wZ l x _ vs h' hl⟩
 |.bN o,x,tv,v,h,hr=>by
  cases tv<;>first| (exact absurd (show none=some x from h) (by simp))|skip
  rename_i p
  have h':(bif Nat.beq p o then some () else none)=some x:=h
  cases hb:Nat.beq p o
  ·rw[hb] at h';cases h'
  ·rw[dI hb] at hr
   exact hr
 |.cK k e,x,tv,v,h,hr=>by
  cases tv<;>first| (exact absurd (show none=some x from h) (by simp))|skip
  rename_i k' e' m
  obtain⟨e1,e2,e3⟩:=OT (show yX R m=some x from h)
  subst e1;subst e2;cases e3
  exact hr
 |.fn f a b,x,tv,v,h,hr=>by
  cases tv<;>first| (exact absurd (show none=some x from h) (by simp))|skip
  rename_i f' a' b'
  have h':(bif Nat.beq f' f then (match eX R a a' with
   |some x=>match eX R b b' with
    |some y=>some (x,y)
    |none=>none
   |none=>none) else none)=some x:=h
  cases hb:Nat.beq f' f
  ·rw[hb] at h';cases h'
  ·rw[hb,cond_true] at h'
   rw[dI hb] at hr
   obtain⟨va,vb,rfl,ha,hbb⟩:=hr.l5
   cases h1:eX R a a' with
   |none=>simp only[h1] at h';cases h'
   |some y=>
    cases h2:eX R b b' with
    |none=>simp only[h1,h2] at h';cases h'
    |some z=>
     simp only[h1,h2] at h';cases h'
     show Rl R ρ top (.fn f (iy R .any a y) (iy R .any b z)) _
     unfold Rl;exact⟨va,vb,rfl,wZ a y _ va h1 ha,wZ b z _ vb h2 hbb⟩
 |.dW,x,tv,v,h,hr=>by
  cases tv<;>first| (exact absurd (show none=some x from h) (by simp))|skip
  exact hr
 |.vw o t,x,tv,v,h,hr=>by
  cases tv<;>first| (exact absurd (show none=some x from h) (by simp))|skip
  rename_i p t'
  have h':(bif Nat.beq p o then (if t'=t then some () else none) else none)=some x:=h
  cases hb:Nat.beq p o
  ·rw[hb] at h';cases h'
  ·rw[hb,cond_true] at h'
   split at h'
   ·rename_i e
    rw[dI hb,e] at hr
    exact hr
   ·cases h'
 |.sg l,x,tv,v,h,hr=>by
  cases tv<;>first| (exact absurd (show none=some x from h) (by simp))|skip
  rename_i ss
  show Rl R ρ top (.sg (qF l x)) v
  rw[II (show sJ l ss=some x from h)]
  exact hr
 |.undef,x,tv,v,h,hr=>by
  cases tv<;>first| (exact absurd (show none=some x from h) (by simp))|skip
  exact hr
theorem wZ:∀(l:List Sk) (x:aA R.T l) (cs:List (TV R.T)) (vs:List V),eX R l cs=some x→aB R ρ top cs vs→aB R ρ top (iy R .any l x) vs
 | [],x,cs,vs,h,hr=>by
   cases cs with
   |nil=>rw[hr.eH];rfl
   |cons c cs=>exact absurd (show none=some x from h) (by simp)
 | [k],x,cs,vs,h,hr=>by
   cases cs with
   |nil=>exact absurd (show none=some x from h) (by simp)
   |cons c cs=>
    cases cs with
    |nil=>
     obtain⟨v,l,rfl,h1,h2⟩:=hr.dH
     rw[h2.eH]
     show aB R ρ top [up R .any k x] _
     exact .cons' (OU k x _ v h h1) rfl
    |cons c' cs=>exact absurd (show none=some x from h) (by simp)
 |k::k'::l,x,cs,vs,h,hr=>by
  cases cs with
  |nil=>exact absurd (show none=some x from h) (by simp)
  |cons c cs=>
   have h':(match pk R k c with
    |some x=>match eX R (k'::l) cs with
     |some p=>some (x,p)
     |none=>none
    |none=>none)=some x:=h
   obtain⟨v,vs,rfl,h1,h2⟩:=hr.dH
   cases hu:pk R k c with
   |none=>simp only[hu] at h';cases h'
   |some y=>
    cases hs:eX R (k'::l) cs with
    |none=>simp only[hu,hs] at h';cases h'
    |some q=>
     simp only[hu,hs] at h'
     obtain rfl:=Option.some.inj h'
     show aB R ρ top (up R .any k y::iy R .any (k'::l) q) _
     exact .cons' (OU k y _ v hu h1) (wZ (k'::l) q _ vs hs h2)
end
omit hR in
theorem agc {k:Sk} {j:Nat} {w:Bool} {y:TV R.T} {x:oG R.T k} (h:pk R k (.opt j w y)=some x):False:=by
 cases k with
 |d t=>cases t<;>(unfold pk at h;cases h)
 |_=>unfold pk at h;cases h
theorem gq.pk {k:Sk} {x:oG R.T k} {tv:TV R.T} {v:V} (h:pk R k tv=some x) (hr:gq fr ρ top tv v):Rl R ρ top (up R .any k x) v:=by
 cases tv<;>first|exact OU hR _ _ _ _ h hr|exact(agc h).elim
theorem OV (h:aH ρ b st fr σ):∀(l:List (Nat×Sk)) (x:wG R.T l),oJ R st.fr l=some x→∀i v,look (Cv R l x) i=some v→Rl R ρ σ.top v (fr.tm i)
 | [],x,hx,i,v,hv=>by cases hv
 | [(j,k)],x,hx,i,v,hv=>by
   unfold oJ at hx
   split at hx
   ·rename_i y hy
    by_cases e:i=j
    ·subst e
     have hv':look [(i,up R .any k x)] i=some v:=hv
     rw[iI] at hv';cases hv'
     exact gq.pk hR hx (h.fr _ _ hy)
    ·have hv':look [(j,up R .any k x)] i=some v:=hv
     rw[fC _ _ e] at hv';cases hv'
   ·cases hx
 | (j,k)::q::l,x,hx,i,v,hv=>by
   unfold oJ at hx
   split at hx
   ·rename_i y hy
    cases hu:pk R k y with
    |none=>simp only[hu] at hx;cases hx
    |some z=>
     cases hs:oJ R st.fr (q::l) with
     |none=>simp only[hu,hs] at hx;cases hx
     |some p=>
      simp only[hu,hs] at hx
      obtain rfl:=Option.some.inj hx
      have hv':look ((j,up R .any k z)::Cv R (q::l) p) i=some v:=hv
      by_cases e:i=j
      ·subst e
       rw[iI] at hv';cases hv'
       exact gq.pk hR hu (h.fr _ _ hy)
      ·rw[fC _ _ e] at hv'
       exact OV h (q::l) p hs i v hv'
   ·cases hx
theorem OX {o:Nat} {k:jC} {x:uQ R.T k} {y:Ob R.T} (hx:uW R k y=some x) (hy:dO ρ σ o y):dO ρ σ o (jL R k x):=by
 cases k with
 |cells l=>
  cases y with
  |cells cs=>
   obtain⟨s,vs,h1,h2,h3⟩:=hy
   exact⟨s,vs,h1,h2,wZ hR l x _ vs hx h3⟩
  |map k e m=>cases hx
  |smap _ _=>cases hx
  |arr _ _=>cases hx
  |sg _=>cases hx
  |gone=>cases hx
  |ro b=>cases hx
 |st n=>
  cases y with
  |cells cs=>
   obtain⟨s,vs,h1,h2,h3⟩:=hy
   obtain⟨l,e,hl⟩:=(CV hR (t:=.st n) (show mJ R (.st n) (.agg cs)=some x from hx) (v:=.agg vs) ⟨vs,rfl,h3⟩).jA
   cases e
   exact⟨s,vs,h1,h2,hl⟩
  |map k e m=>cases hx
  |smap _ _=>cases hx
  |arr _ _=>cases hx
  |sg _=>cases hx
  |gone=>cases hx
  |ro b=>cases hx
 |arr t=>
  cases y with
  |arr t' l=>
   obtain⟨e,e2⟩:=pV hx
   subst e;cases e2
   exact hy
  |cells cs=>cases hx
  |map _ _ _=>cases hx
  |smap _ _=>cases hx
  |sg _=>cases hx
  |gone=>cases hx
  |ro b=>cases hx
 |sg l=>
  cases y with
  |sg ss=>
   show dO ρ σ o (.sg (qF l x))
   rw[II (show sJ l ss=some x from hx)]
   exact hy
  |cells cs=>cases hx
  |map _ _ _=>cases hx
  |smap _ _=>cases hx
  |arr _ _=>cases hx
  |gone=>cases hx
  |ro b=>cases hx
 |map k e=>
  cases y with
  |map k' e' m=>
   obtain⟨e1,e2,e3⟩:=OT hx
   subst e1;subst e2;cases e3
   exact hy
  |cells cs=>cases hx
  |smap _ _=>cases hx
  |arr _ _=>cases hx
  |sg _=>cases hx
  |gone=>cases hx
  |ro b=>cases hx
theorem WG (h:aH ρ b st fr σ):∀(l:List (Nat×jC)) (x:mI R.T l),kV R st.ob l=some x→∀i v,look (jM R l x) i=some v→dO ρ σ i v
 | [],x,hx,i,v,hv=>by cases hv
 | [(j,k)],x,hx,i,v,hv=>by
   unfold kV at hx
   split at hx
   ·rename_i y hy
    by_cases e:i=j
    ·subst e
     have hv':look [(i,jL R k x)] i=some v:=hv
     rw[iI] at hv';cases hv'
     exact OX hR hx (h.ob _ _ hy)
    ·have hv':look [(j,jL R k x)] i=some v:=hv
     rw[fC _ _ e] at hv';cases hv'
   ·cases hx
 | (j,k)::q::l,x,hx,i,v,hv=>by
   unfold kV at hx
   split at hx
   ·rename_i y hy
    cases hu:uW R k y with
    |none=>simp only[hu] at hx;cases hx
    |some z=>
     cases hs:kV R st.ob (q::l) with
     |none=>simp only[hu,hs] at hx;cases hx
     |some p=>
      simp only[hu,hs] at hx
      obtain rfl:=Option.some.inj hx
      have hv':look ((j,jL R k z)::jM R (q::l) p) i=some v:=hv
      by_cases e:i=j
      ·subst e
       rw[iI] at hv';cases hv'
       exact OX hR hu (h.ob _ _ hy)
      ·rw[fC _ _ e] at hv'
       exact WG h (q::l) p hs i v hv'
   ·cases hx
theorem aH.pack (h:aH ρ b st fr σ) {s:Shape} {p:nJ R.T s} (hp:pack R st s=some p):aH ρ b (unpack R s p) fr σ:=by
 obtain⟨sl,ob⟩:=s
 cases ob with
 |nil=>
  have hp':oJ R st.fr sl=some p:=hp
  exact {h with fr:=fun i v hv=>.of (OV hR h sl p hp' i v hv),ob:=fun i v hv=>by cases hv}
 |cons o os=>
  unfold Aq.pack at hp
  cases hu:oJ R st.fr sl with
  |none=>simp only[hu] at hp;cases hp
  |some x=>
   cases hs:kV R st.ob (o::os) with
   |none=>simp only[hu,hs] at hp;cases hp
   |some y=>
    simp only[hu,hs] at hp
    obtain rfl:=Option.some.inj hp
    exact {h with fr:=fun i v hv=>.of (OV hR h sl x hu i v hv),ob:=fun i v hv=>WG hR h (o::os) y hs i v hv}
omit hR in
theorem WH {e x:Ex} (h:wM e x=true):e=x:=by
 cases e<;>cases x<;>simp only[wM,Bool.false_eq_true] at h<;>first|rfl|rw[dI h]
omit hR in
def RO (st:MS R.T) (o:Nat):Prop:=∀x,look st.ob o=some x→mK x=true
omit hR in
theorem OY {k:jC} {x:uQ R.T k} {y:Ob R.T} (hx:uW R k y=some x) (hy:mK y=true):False:=by
 cases y with
 |cells _=>cases hy
 |map _ _ _=>cases hy
 |smap _ _=>cases hy
 |arr _ _=>cases hy
 |sg _=>cases hy
 |gone=>cases k<;>cases hx
 |ro b=>cases k<;>cases hx
omit hR in
theorem WI {i:Nat} (hr:RO st i):∀(l:List (Nat×jC)) (x:mI R.T l),kV R st.ob l=some x→look (jM R l x) i=none
 | [],x,hx=>rfl
 | [(j,k)],x,hx=>by
   unfold kV at hx
   split at hx
   ·rename_i y hy
    by_cases e:i=j
    ·subst e;exact(OY hx (hr _ hy)).elim
    ·show look [(j,jL R k x)] i=none
     rw[fC _ _ e];rfl
   ·cases hx
 | (j,k)::q::l,x,hx=>by
   unfold kV at hx
   split at hx
   ·rename_i y hy
    cases hu:uW R k y with
    |none=>simp only[hu] at hx;cases hx
    |some z=>
     cases hs:kV R st.ob (q::l) with
     |none=>simp only[hu,hs] at hx;cases hx
     |some p=>
      simp only[hu,hs] at hx
      obtain rfl:=Option.some.inj hx
      show look ((j,jL R k z)::jM R (q::l) p) i=none
      by_cases e:i=j
      ·subst e;exact(OY hu (hr _ hy)).elim
      ·rw[fC _ _ e];exact WI hr (q::l) p hs
   ·cases hx
omit hR in
theorem agd {s:Shape} {p:nJ R.T s} {i:Nat} (hp:Aq.pack R st s=some p) (hr:RO st i):look (unpack R s p).ob i=none:=by
 obtain⟨sl,ob⟩:=s
 cases ob with
 |nil=>rfl
 |cons o os=>
  unfold Aq.pack at hp
  cases hu:oJ R st.fr sl with
  |none=>simp only[hu] at hp;cases hp
  |some x=>
   cases hs:kV R st.ob (o::os) with
   |none=>simp only[hu,hs] at hp;cases hp
   |some y=>
    simp only[hu,hs] at hp
    obtain rfl:=Option.some.inj hp
    exact WI hr (o::os) y hs
omit hR
theorem sV {α:Type}:∀(l m:List (Nat×α)) (i:Nat),look (l++m) i=match look l i with|some x=>some x|none=>look m i
 | [],m,i=>rfl
 | (j,x)::l,m,i=>by
   show (bif Nat.beq j i then some x else look (l++m) i)=match (bif Nat.beq j i then some x else look l i) with|some x=>some x|none=>look m i
   cases Nat.beq j i
   ·exact sV l m i
   ·rfl
theorem aH.over {st':MS R.T} (h:aH ρ b st fr σ) (h':aH ρ b st' fr σ):aH ρ b (st.over st') fr σ:={h with
 fr:=fun i v hv=>by
  have hv':look (st.fr++st'.fr) i=some v:=hv
  rw[sV] at hv'
  split at hv'
  ·rename_i x hx;cases hv';exact h.fr _ _ hx
  ·exact h'.fr _ _ hv'
 ob:=fun i v hv=>by
  have hv':look (st.ob++st'.ob) i=some v:=hv
  rw[sV] at hv'
  split at hv'
  ·rename_i x hx;cases hv';exact h.ob _ _ hx
  ·exact h'.ob _ _ hv'}
theorem sW {α:Type} {p:Nat→α→Bool} {f:α→α} {l:List (Nat×α)}:∀{is:List Nat} {i:Nat} {y:α},look (lD p f l is) i=some y→∃x,look l i=some x∧p i x=true∧y=f x
 | [],i,y,h=>by cases h
 |j::is,i,y,h=>by
  unfold lD at h
  split at h
  ·rename_i x hx
   cases hp:p j x
   ·rw[hp] at h;exact sW h
   ·rw[hp,cond_true] at h
    by_cases e:i=j
    ·subst e;rw[iI] at h;cases h;exact⟨x,hx,hp,rfl⟩
    ·rw[fC _ _ e] at h;exact sW h
  ·exact sW h
mutual
theorem Rl.solid {ρ':aL} {top':Nat→Nat} {W:List Nat} (ho:∀o,aP o W=false→ρ'.ob o=ρ.ob o∧ρ'.ln o=ρ.ln o) (hx:ρ'.om=ρ.om):∀(x:TV R.T) (v:V),Aq.solid W x=true→Rl R ρ top x v→Rl R ρ' top' x v
 |.aj c t l,v,hs,h=>by
  obtain⟨c',hv,hc⟩:=h
  refine⟨c',hv, ?_⟩
  cases c<;>first|exact hc| (simp[Aq.solid] at hs;done)
 |.ref o off,v,hs,h=>by
  obtain⟨s,h1,h2⟩:=h
  unfold Aq.solid at hs
  exact⟨s,by rw[(ho o (by simpa using hs)).1];exact h1,by rw[hx];exact h2⟩
 |.bN o,v,hs,h=>by
  obtain⟨s,h1,h2⟩:=h
  unfold Aq.solid at hs
  exact⟨s,by rw[(ho o (by simpa using hs)).1];exact h1,by rw[hx];exact h2⟩
 |.vw o t,v,hs,h=>by
  unfold Aq.solid at hs
  obtain⟨k1,k2⟩:=ho o (by simpa using hs)
  rcases h with ⟨s,h1,h2⟩| ⟨h1,h2⟩
  ·exact .inl ⟨s,by rw[k1];exact h1,by rw[k2,hx];exact h2⟩
  ·exact .inr ⟨by rw[k2];exact h1,h2⟩
 |.jk o t i off,v,hs,h=>by
  obtain⟨s,h1,h2⟩:=h
  unfold Aq.solid at hs
  exact⟨s,by rw[(ho o (by simpa using hs)).1];exact h1,by rw[hx];exact h2⟩
 |.sv o _ _ _ _ _,v,hs,h=>by
  obtain⟨s,h1,h2⟩:=h
  unfold Aq.solid at hs
  exact⟨s,by rw[(ho o (by simpa using hs)).1];exact h1,by rw[hx];exact h2⟩
 |.sel o _ _ _ _ _,v,hs,h=>by
  obtain⟨s,h1,h2⟩:=h
  unfold Aq.solid at hs
  exact⟨s,by rw[(ho o (by simpa using hs)).1];exact h1,by rw[hx];exact h2⟩
 |.sg _,_,_,h=>h
 |.oz _ _ _ _,_,_,h=>h
 |.agg cs,v,hs,h=>by obtain⟨l,hv,hl⟩:=h;exact⟨l,hv,aB.solid ho hx cs l (by unfold Aq.solid at hs;exact hs) hl⟩
 |.bA cs,v,hs,h=>by obtain⟨l,hv,hl⟩:=h;exact⟨l,hv,aB.solid ho hx cs l (by unfold Aq.solid at hs;exact hs) hl⟩
 |.aI cs off,v,hs,h=>by obtain⟨l,hv,hl⟩:=h;exact⟨l,hv,aB.solid ho hx cs l (by unfold Aq.solid at hs;exact hs) hl⟩
 |.fn f a b,v,hs,h=>by
  obtain⟨a',b',hv,ha,hb⟩:=h
  unfold Aq.solid at hs
  rw[Bool.and_eq_true] at hs
  exact⟨a',b',hv,aB.solid ho hx a a' hs.1 ha,aB.solid ho hx b b' hs.2 hb⟩
 |.opt _ _ _,_,_,h=>h.elim
 |.int _ _,_,_,h=>h
 |.bool _,_,_,h=>h
 |.fH _,_,_,h=>h
 |.str _,_,_,h=>h
 |.eu,_,_,h=>h
 |.dU,_,_,h=>h
 |.dP,_,_,h=>h
 |.fB,_,_,h=>h
 |.dW,_,_,h=>h
 |.cK _ _ _,_,_,h=>h
 |.undef,_,_,h=>h
 |.gone,_,_,h=>trivial
theorem aB.solid {ρ':aL} {top':Nat→Nat} {W:List Nat} (ho:∀o,aP o W=false→ρ'.ob o=ρ.ob o∧ρ'.ln o=ρ.ln o) (hx:ρ'.om=ρ.om):∀(x:List (TV R.T)) (v:List V),oI W x=true→aB R ρ top x v→aB R ρ' top' x v
 | [],_,_,h=>h
 |x::xs,_,hs,⟨v,vs,e,h1,h2⟩=>by
  unfold oI at hs
  rw[Bool.and_eq_true] at hs
  exact⟨v,vs,e,Rl.solid ho hx x v hs.1 h1,aB.solid ho hx xs vs hs.2 h2⟩
end
theorem agf {x:TV R.T} {v:V} (h:gq fr ρ top x v):gq fr ρ top (N8 x) v:=by
 cases x with
 |aj c t l=>
  cases c with
  |own u=>obtain⟨c',hv,_⟩:=Rl.jO (show Rl R ρ top (.aj (.own u) t l) v from h);exact .of (x:=.aj .any t l) (by unfold Rl;exact⟨c',hv,trivial⟩)
  |_=>exact h
 |_=>exact h
theorem agh {W:List Nat} {x:TV R.T} {v:V} (hs:Aq.solid W x=true) (h:gq fr ρ top x v):Rl R ρ top x v:=by
 cases x<;>first|exact h| (simp[Aq.solid] at hs;done)
structure aV (nr:Bool) (o:Nat) (st:MS R.T) (ρ:aL) (σ:ah) (st':MS R.T) (ρ':aL) (σ':ah):Prop where
 ob:ρ'.ob o=ρ.ob o
 ln:ρ'.ln o=ρ.ln o
 om:ρ'.om=ρ.om
 nx:σ.next≤σ'.next
 lp:(∀l,l<σ.next→σ'.loops l=σ.loops l)∧∀s,s<ρ.om.lo→σ'.top s=σ.top s
 dp:∀L,nr=true∨L.1≤ρ.om.dp→ρ.om.out L→σ'.obj L=σ.obj L
 ro:RO st o→RO st' o∧∀s,σ'.bO (ρ.om.lc o) s=σ.bO (ρ.om.lc o) s∧σ'.eD (ρ.om.lc o) s=σ.eD (ρ.om.lc o) s
structure Kp (nr:Bool) (W:List Nat) (st:MS R.T) (fr:Fr) (σ:ah) (ρ:aL) (st':MS R.T) (fr':Fr) (σ':ah) (ρ':aL):Prop where
 fr:∀i,aP i W=false→fr'.tm i=fr.tm i
 ob:∀o,aP o W=false→aV nr o st ρ σ st' ρ' σ'
section
variable {nr:Bool}
theorem OZ {c:Cx} {o s:Nat} {x:fE} {L:Loc} (h:c.out L):(σ.setObj (c.lc o) s x).obj L=σ.obj L:=by
 unfold ah.setObj upd
 dsimp only
 rw[if_neg (h o)]
theorem agi {c:Cx} {o:Nat} {L:Loc} (h:c.out L):(σ.jH (c.lc o)).obj L=σ.obj L:=by
 unfold ah.jH upd
 dsimp only
 rw[if_neg (h o)]
theorem Cx.WJ (c:Cx) {L:Loc} (h:c.dp<L.1):c.out L:=fun o e=>by
 have:=c.zA o
 rw[←e] at this
 omega
theorem aV.refl {o:Nat}:aV nr o st ρ σ st ρ σ:=⟨rfl,rfl,rfl,Nat.le_refl _,⟨fun _ _=>rfl,fun _ _=>rfl⟩,fun _ _ _=>rfl,fun h=>⟨h,fun _=>⟨rfl,rfl⟩⟩⟩
theorem aV.trans {o:Nat} {st' fu:MS R.T} {ρ' mW:aL} {σ' jE:ah} (h:aV nr o st ρ σ st' ρ' σ') (g:aV nr o st' ρ' σ' fu mW jE):aV nr o st ρ σ fu mW jE:=
 ⟨g.ob.trans h.ob,g.ln.trans h.ln,g.om.trans h.om,Nat.le_trans h.nx g.nx,⟨fun l hl=>(g.lp.1 l (Nat.lt_of_lt_of_le hl h.nx)).trans (h.lp.1 l hl),fun s hs=>(g.lp.2 s (by rw[h.om];exact hs)).trans (h.lp.2 s hs)⟩,fun L hn hL=>(g.dp L (by rw[h.om];exact hn) (by rw[h.om];exact hL)).trans (h.dp L hn hL),fun hr=>by
   have g':=fun hr=>g.ro hr
   rw[h.om] at g'
   exact⟨(g' (h.ro hr).1).1,fun s=>⟨((g' (h.ro hr).1).2 s).1.trans ((h.ro hr).2 s).1,((g' (h.ro hr).1).2 s).2.trans ((h.ro hr).2 s).2⟩⟩⟩
theorem Kp.refl {W:List Nat}:Kp nr W st fr σ ρ st fr σ ρ:=⟨fun _ _=>rfl,fun _ _=>.refl⟩
theorem Kp.trans {W:List Nat} {st' fu:MS R.T} {fr' sZ:Fr} {ρ' mW:aL} {σ' jE:ah} (h:Kp nr W st fr σ ρ st' fr' σ' ρ') (g:Kp nr W st' fr' σ' ρ' fu sZ jE mW):Kp nr W st fr σ ρ fu sZ jE mW:=
 ⟨fun i hi=>(g.fr i hi).trans (h.fr i hi),fun o ho=>(h.ob o ho).trans (g.ob o ho)⟩
theorem Kp.mono {W W':List Nat} {st':MS R.T} {fr':Fr} {ρ':aL} {σ':ah} (h:Kp nr W st fr σ ρ st' fr' σ' ρ') (hw:∀i,aP i W'=false→aP i W=false):Kp nr W' st fr σ ρ st' fr' σ' ρ':=
 ⟨fun i hi=>h.fr i (hw i hi),fun o ho=>h.ob o (hw o ho)⟩
theorem CX:∀(i:Nat) (l m:List Nat),aP i (l++m)=(aP i l||aP i m)
 |i,[],m=>rfl
 |i,j::l,m=>by show (Nat.beq i j||aP i (l++m))=_;rw[CX i l m,←Bool.or_assoc];rfl
theorem WK {o:Nat} {ρ':aL} {σ':ah} {W:List Nat} (ho:∀o,aP o W=false→ρ'.ob o=ρ.ob o∧ρ'.ln o=ρ.ln o) (hx:ρ'.om=ρ.om) (hm:aP o W=false) (hc:∀s,σ'.bO (ρ.om.lc o) s=σ.bO (ρ.om.lc o) s∧σ'.eD (ρ.om.lc o) s=σ.eD (ρ.om.lc o) s):∀{x:Ob R.T},kT W x=true→dO ρ σ o x→dO ρ' σ' o x
 |.cells cs,hs,h=>by
  obtain⟨s,l,h1,h2,h3⟩:=h
  exact⟨s,l,by rw[(ho o hm).1];exact h1,by rw[hx,(hc s).1];exact h2,aB.solid ho hx cs l hs h3⟩
 |.map k e m,_,h=>by obtain⟨s,h1,h2⟩:=h;exact⟨s,by rw[(ho o hm).1];exact h1,by rw[hx,(hc s).2];exact h2⟩
 |.smap ks vs,hs,h=>by
  obtain⟨s,k,l,h1,h2,h3,h4⟩:=h
  have hs':(oI W ks&& oI W vs)=true:=hs
  rw[Bool.and_eq_true] at hs'
  exact⟨s,k,l,by rw[(ho o hm).1];exact h1,by rw[hx,(hc s).2];exact h2,aB.solid ho hx ks k hs'.1 h3,aB.solid ho hx vs l hs'.2 h4⟩
 |.arr t l,_,h=>by
  refine⟨h.1.trans (ho o hm).2.symm, ?_⟩
  rcases h.2 with h| ⟨s,cs,h1,h2,h3⟩
  ·exact .inl ⟨h.1,(ho o hm).1.trans h.2⟩
  ·exact .inr ⟨s,cs,by rw[(ho o hm).1];exact h1,by rw[hx,(hc s).1];exact h2,sS l cs h3⟩
 |.sg ss,_,h=>by obtain⟨s,h1,h2⟩:=h;exact⟨s,by rw[(ho o hm).1];exact h1,by rw[hx,(hc s).1];exact h2⟩
 |.gone,_,_=>trivial
 |.ro b,hs,h=>WK ho hx hm hc (x:=b) hs h
theorem zK:∀W:List Nat,∃n,∀m,n≤m→aP m W=false
 | []=>⟨0,fun _ _=>rfl⟩
 |i::W=>by
  obtain⟨n,hn⟩:=zK W
  refine⟨n+i+1,fun m hm=> ?_⟩
  show (Nat.beq m i||aP m W)=false
  rw[IG (by omega),hn m (by omega)];rfl
theorem Kp.om {W:List Nat} {st':MS R.T} {fr':Fr} {ρ':aL} {σ':ah} (h:Kp nr W st fr σ ρ st' fr' σ' ρ'):ρ'.om=ρ.om:=by
 obtain⟨n,hn⟩:=zK W
 exact(h.ob n (hn n (Nat.le_refl _))).om
theorem aH.base {W K O:List Nat} {mark:Ob R.T→Ob R.T} (hmark:∀ρ σ o x,dO ρ σ o x→dO (R:=R) ρ σ o (mark x)) {st0 st' fu:MS R.T} {fr':Fr} {ρ':aL} {σ':ah} {b':Nat} (h:aH ρ b st fr σ) (hk:Kp nr W st0 fr σ ρ st' fr' σ' ρ') (h':aH ρ' b' fu fr' σ')
 (hro:∀o x,look st.ob o=some x→aP o W=false→aP o O=true→kT W x=true→RO st0 o):aH ρ' b' (Aq.base W K O mark st) fr' σ':={h' with
 fr:=fun i v hv=>by
  obtain⟨x,h1,h2,rfl⟩:=sW hv
  rw[Bool.and_eq_true,Bool.not_eq_true'] at h2
  have:=agh h2.2 (agf (h.fr _ _ h1))
  rw[hk.fr i h2.1]
  exact .of (Rl.solid (fun o ho=>⟨(hk.ob o ho).ob,(hk.ob o ho).ln⟩) hk.om _ _ h2.2 this)
 ob:=fun o y hy=>by
  have hO:aP o O=true:=by
   have:∀{is:List Nat} {y:Ob R.T},look (lD (fun o b=> !(aP o W)&& kT W b) mark st.ob is) o=some y→aP o is=true:=by
    intro is
    induction is with
    |nil=>intro y h;cases h
    |cons j is ih=>
     intro y h
     show (Nat.beq o j||aP o is)=true
     unfold lD at h
     by_cases e:o=j
     ·subst e;rw[Nat.beq_refl];rfl
     ·split at h
      ·rename_i x hx
       cases hp:(!(aP j W)&& kT W x)
       ·rw[hp] at h;rw[ih h,Bool.or_true]
       ·rw[hp,cond_true,fC _ _ e] at h;rw[ih h,Bool.or_true]
      ·rw[ih h,Bool.or_true]
   exact this hy
  obtain⟨x,h1,h2,rfl⟩:=sW hy
  rw[Bool.and_eq_true,Bool.not_eq_true'] at h2
  have hc:=((hk.ob o h2.1).ro (hro o x h1 h2.1 hO h2.2)).2
  exact hmark _ _ _ _ (WK (fun o ho=>⟨(hk.ob o ho).ob,(hk.ob o ho).ln⟩) hk.om h2.1 hc h2.2 (h.ob _ _ h1))}
theorem O1 {W K O:List Nat} {st':MS R.T} {o:Nat} {x:Ob R.T} (h1:look st.ob o=some x) (h2:aP o W=false) (h3:aP o O=true) (h4:kT W x=true):RO ((Aq.base W K O .ro st).over st') o:=by
 intro y hy
 have hl:∃z,look (lD (fun o b=> !(aP o W)&& kT W b) Ob.ro st.ob O) o=some (.ro z):=by
  have:∀is:List Nat,aP o is=true→∃z,look (lD (fun o b=> !(aP o W)&& kT W b) Ob.ro st.ob is) o=some (.ro z):=by
   intro is
   induction is with
   |nil=>intro h;cases h
   |cons j is ih=>
    intro h
    by_cases e:o=j
    ·subst e
     unfold lD
     rw[h1]
     dsimp only
     rw[h2,h4]
     exact⟨x,iI _ _ _⟩
    ·have h':(Nat.beq o j||aP o is)=true:=h
     rw[IG e,Bool.false_or] at h'
     obtain⟨z,hz⟩:=ih h'
     refine⟨z, ?_⟩
     unfold lD
     split
     ·rename_i w hw
      cases (!(aP j W)&& kT W w)
      ·exact hz
      ·rw[cond_true,fC _ _ e];exact hz
     ·exact hz
  exact this O h3
 obtain⟨z,hz⟩:=hl
 have hy':look (lD (fun o b=> !(aP o W)&& kT W b) Ob.ro st.ob O++st'.ob) o=some y:=hy
 rw[sV,hz] at hy'
 cases hy';rfl
theorem agj {t:Nat}:∀{x:Ob R.T},mK x=true→mK (Ob.wk t x)=true
 |.ro _,_=>rfl
 |.gone,_=>rfl
 |.cells _,h=>by cases h
 |.map _ _ _,h=>by cases h
 |.smap _ _,h=>by cases h
 |.arr _ _,h=>by cases h
theorem WL {t:Nat} {x:Ob R.T} (h:mK x=true):mK (Ob.kill t x)=true:=by
 unfold Ob.kill
 cases Ob.jV t x
 ·exact h
 ·rfl
theorem aV.wk {p t s n:Nat} (hl:ρ.om.lo≤s):aV nr p st ρ σ (st.wk t) (ρ.fJ t s) (σ.bV s n):=⟨rfl,rfl,rfl,Nat.le_refl _,⟨fun _ _=>rfl,fun s' hs'=>Cm _ _ (by omega)⟩,fun _ _ _=>rfl,fun hr=>⟨fun x hx=>by
 have hx':look (jW (Ob.wk t) st.ob) p=some x:=hx
 rw[pW,Option.map_eq_some_iff] at hx'
 obtain⟨z,hz,rfl⟩:=hx'
 exact agj (hr z hz),fun _=>⟨rfl,rfl⟩⟩⟩
theorem aV.set {o q s:Nat} {x y:Ob R.T} {a:fE} (hl:look st.ob o=some y) (hy:mK y=false):aV nr q st ρ σ (st.set o x) ρ (σ.setObj (ρ.om.lc o) s a):=⟨rfl,rfl,rfl,Nat.le_refl _,⟨fun _ _=>rfl,fun _ _=>rfl⟩,fun _ _ hL=>OZ hL,fun hr=>by
 have hne:q≠o:=by rintro rfl;rw[hr y hl] at hy;cases hy
 refine⟨fun z hz=> ?_,fun s'=>⟨vC _ _ _ _ hne,zH _ _ _ _ hne⟩⟩
 have hz':look ((o,x)::fV o st.ob) q=some z:=hz
 rw[fC _ _ hne,nR hne] at hz'
 exact hr z hz'⟩
theorem aV.new {o q s:Nat} {x:Ob R.T} {a:fE} (hne:q≠o):aV nr q st ρ σ (st.new o x) (ρ.jZ o s) (σ.setObj (ρ.om.lc o) s a):=⟨by simp[aL.jZ,upd,hne],rfl,rfl,Nat.le_refl _,⟨fun _ _=>rfl,fun _ _=>rfl⟩,fun _ _ hL=>OZ hL,fun hr=>by
 refine⟨fun z hz=> ?_,fun s'=>⟨vC _ _ _ _ hne,zH _ _ _ _ hne⟩⟩
 have hz':look ((o,x)::jW (Ob.kill o) (fV o st.ob)) q=some z:=hz
 rw[fC _ _ hne,pW,nR hne,Option.map_eq_some_iff] at hz'
 obtain⟨w,hw,rfl⟩:=hz'
 exact WL (hr w hw)⟩
theorem kI {d:Option Nat} {v:TV R.T}:(st.dQ d v).ob=st.ob:=by cases d<;>rfl
theorem aV.same {st':MS R.T} {o:Nat} (h:st'.ob=st.ob):aV nr o st ρ σ st' ρ σ:=⟨rfl,rfl,rfl,Nat.le_refl _,⟨fun _ _=>rfl,fun _ _=>rfl⟩,fun _ _ _=>rfl,fun hr=>⟨fun x hx=>hr x (by rw[←h];exact hx),fun _=>⟨rfl,rfl⟩⟩⟩
theorem aV.congr {st' fu:MS R.T} {ρ':aL} {σ':ah} {o:Nat} (h:aV nr o st ρ σ st' ρ' σ') (e:fu.ob=st'.ob):aV nr o st ρ σ fu ρ' σ':=⟨h.ob,h.ln,h.om,h.nx,h.lp,h.dp,fun hr=>⟨fun x hx=>(h.ro hr).1 x (by rw[←e];exact hx),(h.ro hr).2⟩⟩
theorem aV.from {st' fu:MS R.T} {ρ':aL} {σ':ah} {o:Nat} (h:aV nr o st ρ σ st' ρ' σ') (e:st.ob=fu.ob):aV nr o fu ρ σ st' ρ' σ':=⟨h.ob,h.ln,h.om,h.nx,h.lp,h.dp,fun hr=>h.ro fun x hx=>hr x (by rw[←e];exact hx)⟩
theorem Kp.op {d:Option Nat} {W:List Nat} {y:V} {st':MS R.T} {ρ':aL} {σ':ah} (hd:∀p,aP p W=false→d≠some p) (h:∀p,d≠some p→aV nr p st ρ σ st' ρ' σ'):Kp nr W st fr σ ρ st' (fr.put d y) σ' ρ':=
 ⟨fun i hi=>by
   cases d with
   |none=>rfl
   |some j=>exact Cj _ _ (by have:=hd i hi;simp at this;simpa using fun e=>this e.symm),fun p hp=>h p (hd p hp)⟩
theorem WM {W K O:List Nat} {st':MS R.T} {o:Nat} (h:look st'.ob o=none):RO ((Aq.base W K O .ro st).over st') o:=by
 intro y hy
 have hy':look (lD (fun o b=> !(aP o W)&& kT W b) Ob.ro st.ob O++st'.ob) o=some y:=hy
 rw[sV] at hy'
 split at hy'
 ·rename_i x hx
  cases hy'
  obtain⟨z,_,_,rfl⟩:=sW hx
  rfl
 ·rw[h] at hy';cases hy'
theorem IJ {st':MS R.T} {o:Nat} (h1:RO st o) (h2:RO st' o):RO (st.over st') o:=by
 intro y hy
 have hy':look (st.ob++st'.ob) o=some y:=hy
 rw[sV] at hy'
 split at hy'
 ·rename_i x hx;cases hy';exact h1 _ hx
 ·exact h2 _ hy'
theorem WO {W K O:List Nat} {mark:Ob R.T→Ob R.T} {o:Nat} (hm:∀x,mK x=true→mK (mark x)=true) (h:RO st o):RO (Aq.base W K O mark st) o:=by
 intro y hy
 obtain⟨x,h1,_,rfl⟩:=sW hy
 exact hm _ (h _ h1)
theorem finish {W K O:List Nat} {H S' fu:MS R.T} {fr':Fr} {ρ':aL} {σ':ah} {b':Nat} (hi:aH ρ b st fr σ) (hH:∀o,aP o W=false→RO st o→RO H o) (hro:∀o x,look st.ob o=some x→aP o W=false→aP o O=true→kT W x=true→RO H o)
 (hk:Kp nr W H fr σ ρ S' fr' σ' ρ') (hi':aH ρ' b' fu fr' σ') (hn:∀o,aP o W=false→RO H o→look fu.ob o=none):
 aH ρ' b' ((Aq.base W K O (fun b=>b) st).over fu) fr' σ'∧Kp nr W st fr σ ρ ((Aq.base W K O (fun b=>b) st).over fu) fr' σ' ρ':=by
 have hk2:Kp nr W H fr σ ρ fu fr' σ' ρ':=⟨hk.fr,fun o ho=>⟨(hk.ob o ho).ob,(hk.ob o ho).ln,(hk.ob o ho).om,(hk.ob o ho).nx,(hk.ob o ho).lp,(hk.ob o ho).dp,fun hr=>⟨fun x hx=>(by rw[hn o ho hr] at hx;cases hx),((hk.ob o ho).ro hr).2⟩⟩⟩
 refine⟨(hi.base (fun _ _ _ _ h=>h) hk2 hi' hro).over hi',hk.fr,fun o ho=>⟨(hk.ob o ho).ob,(hk.ob o ho).ln,(hk.ob o ho).om,(hk.ob o ho).nx,(hk.ob o ho).lp,(hk.ob o ho).dp,fun hr=>⟨?_,((hk.ob o ho).ro (hH o ho hr)).2⟩⟩⟩
 exact IJ (WO (fun _ h=>h) hr) fun x hx=>(by rw[hn o ho (hH o ho hr)] at hx;cases hx)
theorem WQ {x:TV R.T} {v:V} (hx:yY x=true) (h:gq fr ρ top x v):v= .aj .nil []∨v= .aj .full []:=by
 cases x<;>first| (cases hx;done)|skip
 ·exact .inl (Rl.nQ (R:=R) (show Rl R ρ top .dW v from h))
 ·rename_i c t l
  obtain⟨c',hv,hc⟩:=Rl.jO (R:=R) (show Rl R ρ top (.aj c t l) v from h)
  cases c<;>first| (cases hx;done)|skip
  ·have:l=[]:=by simpa [yY] using hx
   subst this
   have hc':c'= .nil:=hc
   rw[hc'] at hv;exact .inl hv
  ·have:l=[]:=by simpa [yY] using hx
   subst this
   have hc':c'= .full:=hc
   rw[hc'] at hv;exact .inr hv
theorem CY {W:List Nat}:∀(l:List (Nat×Sk)) (st:MS R.T) (ρ:aL),aH ρ b st fr σ→∃ρ',aH ρ' b (nM W l st) fr σ∧Kp nr W st fr σ ρ (nM W l st) fr σ ρ'
 | [],st,ρ,h=>⟨ρ,h,.refl⟩
 | (i,k)::l,st,ρ,h=>by
   have other:nM W ((i,k)::l) st=nM W l st→∃ρ',aH ρ' b (nM W ((i,k)::l) st) fr σ∧Kp nr W st fr σ ρ (nM W ((i,k)::l) st) fr σ ρ':=fun e=>by
    rw[e];exact CY l st ρ h
   cases k<;>first|exact other rfl|skip
   rename_i o t
   unfold nM
   split
   ·rename_i v hv
    cases hb:(yY v&& aP o W)
    ·exact CY l st ρ h
    ·rw[cond_true]
     rw[Bool.and_eq_true] at hb
     have hg:=h.ghost o t
     have hE:=WQ hb.1 (h.fr _ _ hv)
     have O4:aH (ρ.gh o) b (⟨(i,.vw o t)::(st.new o (.arr t [])).fr,(st.new o (.arr t [])).ob⟩:MS R.T) fr σ:={hg with
      fr:=fun j y hy=>by
       by_cases e:j=i
       ·subst e
        have hy':look ((j,TV.vw o t)::(st.new o (.arr t [])).fr) j=some y:=hy
        rw[iI] at hy';cases hy'
        exact .of (by unfold Rl;exact .inr ⟨CU (ρ:=ρ) (n:=0),hE⟩)
       ·have hy':look ((i,TV.vw o t)::(st.new o (.arr t [])).fr) j=some y:=hy
        rw[fC _ _ e] at hy'
        exact hg.fr j y hy'
      ob:=hg.ob}
     obtain⟨ρ',h1,h2⟩:=CY (W:=W) l _ _ O4
     refine⟨ρ',h1,Kp.trans ⟨fun _ _=>rfl,fun p hp=> ?_⟩ h2⟩
     have hne:p≠o:=by rintro rfl;rw[hb.2] at hp;cases hp
     refine⟨(zJ p hne).1,(zJ p hne).2,rfl,Nat.le_refl _,⟨fun _ _=>rfl,fun _ _=>rfl⟩,fun _ _ _=>rfl,fun hr=>⟨fun x hx=> ?_,fun _=>⟨rfl,rfl⟩⟩⟩
     have hx':look ((o,Ob.arr t [])::jW (Ob.kill o) (fV o st.ob)) p=some x:=hx
     rw[fC _ _ hne,pW,nR hne,Option.map_eq_some_iff] at hx'
     obtain⟨w,hw,rfl⟩:=hx'
     exact WL (hr w hw)
   ·exact CY l st ρ h
section
variable (hR:lZ R)
include hR
omit hR in
theorem WR {W:List Nat}:∀{l:List (Nat×Sk)},st.fr=[]→nM W l st=st
 | [],_=>rfl
 | (i,k)::l,h=>by
   have:=WR (W:=W) (l:=l) h
   cases k<;>first|exact this|skip
   unfold nM
   rw[h];exact this
omit hR in
theorem WS:∀{l:List (Nat×Sk)} {p:wG R.T l},oJ R [] l=some p→l=[]
 | [],_,_=>rfl
 | [(i,k)],p,h=>by cases h
 | (i,k)::q::l,p,h=>by cases h
omit hR in
theorem agk {W:List Nat} (he:st.fr=[]) {s:Shape} {p:nJ R.T s} (hp:Aq.jN R W st s=some p):(unpack R s p).fr=[]:=by
 unfold Aq.jN at hp
 rw[WR he] at hp
 obtain⟨sl,ob⟩:=s
 cases ob with
 |nil=>
  have hp':oJ R st.fr sl=some p:=hp
  rw[he] at hp'
  have:=WS hp'
  subst this;rfl
 |cons o os=>
  unfold Aq.pack at hp
  rw[he] at hp
  cases hu:oJ R [] sl with
  |none=>simp only[hu] at hp;cases hp
  |some x=>
   have:=WS hu
   subst this;rfl
theorem aH.jN {W:List Nat} (h:aH ρ b st fr σ) {s:Shape} {p:nJ R.T s} (hp:Aq.jN R W st s=some p):∃ρ' S',aH ρ' b (unpack R s p) fr σ∧Kp nr W st fr σ ρ S' fr σ ρ'∧(st.fr=[]→(unpack R s p).fr=[])∧∀i,aP i W=false→RO st i→look (unpack R s p).ob i=none:=by
 obtain⟨ρ',h1,h2⟩:=CY (W:=W) s.sl st ρ h
 exact⟨ρ',_,h1.pack hR hp,h2,fun he=>agk he hp,fun i hi hr=>agd hp ((h2.ob i hi).ro hr).1⟩
theorem zL {β:Type} {W:List Nat} (h:aH ρ b st fr σ) {e:Ex}:∀{l:List (Ex×Shape)} {o:Out R.T l},pO R W e st l=some o→∃ρ' S' st',aH ρ' b st' fr σ∧Kp nr W st fr σ ρ S' fr σ ρ'∧(st.fr=[]→st'.fr=[])∧(∀i,aP i W=false→RO st i→look st'.ob i=none)∧∀(k:Ex→MS R.T→Option β) (bs:MS R.T),ru R bs k l o=k e (bs.over st')
 | [],o,hp=>by cases hp
 | [(x,s)],o,hp=>by
   have hp':(bif wM e x then Aq.jN R W st s else none)=some o:=hp
   cases hb:wM e x
   ·rw[hb] at hp';cases hp'
   ·rw[hb,cond_true] at hp'
    have:=WH hb;subst this
    obtain⟨ρ',S',h1,h2,h0,h3⟩:=h.jN hR hp'
    exact⟨ρ',S',_,h1,h2,h0,h3,fun k bs=>rfl⟩
 | (x,s)::q::l,o,hp=>by
   unfold pO at hp
   cases hb:wM e x
   ·rw[hb,cond_false] at hp
    cases hu:pO R W e st (q::l) with
    |none=>simp only[hu] at hp;cases hp
    |some y=>
     simp only[hu] at hp
     obtain rfl:=Option.some.inj hp
     obtain⟨ρ',S',st',h1,h3,h0,h4,h2⟩:=zL (β:=β) h hu
     exact⟨ρ',S',st',h1,h3,h0,h4,fun k bs=>h2 k bs⟩
   ·rw[hb,cond_true] at hp
    have:=WH hb;subst this
    cases hu:Aq.jN R W st s with
    |none=>simp only[hu] at hp;cases hp
    |some y=>
     simp only[hu] at hp
     obtain rfl:=Option.some.inj hp
     obtain⟨ρ',S',h1,h2,h0,h3⟩:=h.jN hR hu
     exact⟨ρ',S',_,h1,h2,h0,h3,fun k bs=>rfl⟩
end
end
end
end Aq
end
section
namespace Aq
open Go
set_option linter.unusedSectionVars false
set_option linter.unusedVariables false
section
variable {R:fU} {E:Env}
variable {ρ:aL} {b:Nat} {st:MS R.T} {fr:Fr} {σ:ah}
def qJ (E:Env) (fr:Fr) (o:Oper):Bool:=match o.op with
 |.call c=>match c.callee with
  |.value f=>jR E fr o f
  |_=>false
 |_=>false
def j4 (E:Env) (fr:Fr) (σ:ah) (aD:Nat) (o:Oper) (x:V) (σ':ah):Prop:=
 (qJ E fr o=false→∀all os Q,dL all fr o=some true→OW E all (aD+1) os (fr.put o.dst x) σ' Q→OW E all aD (o::os) fr σ Q)∧
 (qJ E fr o=false→∀ms all os fs Q,dL all fr o=some true→dN E ms all (aD+1) os (fr.put o.dst x) σ' (fs++[eP E all fr o true]) Q→dN E ms all aD (o::os) fr σ fs Q)
theorem j4.of {aD:Nat} {o:Oper} {x:V} {σ':ah} (h:∀S,opC E S fr σ aD o=some (x,fr,σ')):j4 E fr σ aD o x σ':=
 ⟨fun _ _ _ _ hw h'=>OW.op hw h h',fun _ _ _ _ _ _ hw h'=>dN.op hw h h'⟩
theorem agl {S:iK} {aD:Nat} {o:Oper} {x:V} {σ':ah} (h:aX E fr σ aD o=some (x,σ')):opC E S fr σ aD o=some (x,fr,σ'):=by
 unfold opC
 split
 ·rename_i c hc;unfold aX at h;rw[hc] at h;cases h
 ·rename_i c hc;unfold aX at h;rw[hc] at h;cases h
 ·rw[h];rfl
theorem WT {o:Oper} {c:Call} {f:Operand} {g:FuncId} {a b:List V} (ho:o.op= .call c) (eU:c.callee= .value f) (hf:fr.ev E f= .fn (.func g) a b) (h:qJ E fr o=false):∀d,o.dst=some d→E.own g d=false:=by
 intro d hd
 unfold qJ at h
 rw[ho] at h
 dsimp only at h
 rw[eU] at h
 dsimp only at h
 unfold jR at h
 rw[hf,hd] at h
 exact h
theorem j4.gL {aD:Nat} {o:Oper} {x:V} {σ':ah} (h:aX E fr σ aD o=some (x,σ')):j4 E fr σ aD o x σ':=.of fun S=>agl h
def pY (E:Env) (st:MS R.T) (ρ:aL) (aD:Nat) (fr:Fr) (σ:ah) (o:Oper):dG R→Prop
 |.t v=> ∃x,j4 E fr σ aD o x σ∧Rl R ρ σ.top v x
 |.c c v=>c=true→∃x,j4 E fr σ aD o x σ∧Rl R ρ σ.top v x
 |.w v st'=> ∃x σ' ρ',j4 E fr σ aD o x σ'∧aH ρ' (aD+1) st' fr σ'∧σ'.next=σ.next∧Rl R ρ' σ'.top v x∧∀p,o.dst≠some p→aV true p st ρ σ st' ρ' σ'
 |.wc c v st'=>c=true→∃x σ' ρ',j4 E fr σ aD o x σ'∧aH ρ' (aD+1) st' fr σ'∧σ'.next=σ.next∧Rl R ρ' σ'.top v x∧∀p,o.dst≠some p→aV true p st ρ σ st' ρ' σ'
 |.p _ _ o' f=> ∀a,o'=some a→∃x,j4 E fr σ aD o x σ∧Rl R ρ σ.top (f a) x
theorem rF {top:Nat→Nat} {x:TV R.T} {v:V} (hg:uU x=true) (h:Rl R ρ top x v):aB R ρ top x.cells v.cells∧dn v=true:=by
 cases x with
 |agg cs=>obtain⟨l,rfl,hl⟩:=h.jA;exact⟨hl,rfl⟩
 |int k n=>rw[h.fq];exact⟨.cons' (by unfold Rl;rfl) rfl,rfl⟩
 |bool b=>rw[h.oM];exact⟨.cons' (by unfold Rl;rfl) rfl,rfl⟩
 |fH b=>rw[h.qI];exact⟨.cons' (by unfold Rl;rfl) rfl,rfl⟩
 |str b=>rw[h.kX];exact⟨.cons' (by unfold Rl;rfl) rfl,rfl⟩
 |dW=>rw[h.nQ];exact⟨.cons' (by unfold Rl;rfl) rfl,rfl⟩
 |bA cs=>obtain⟨l,rfl,hl⟩:=h.Iz;exact⟨.cons' h rfl,rfl⟩
 |aj c t l=>obtain⟨c',rfl,hl⟩:=h.jO;exact⟨.cons' h rfl,rfl⟩
 |ref o off=>obtain⟨s,hs,rfl⟩:=h.mR;exact⟨.cons' h rfl,rfl⟩
 |aI o off=>obtain⟨s,rfl,hs⟩:=h.rE;exact⟨.cons' h rfl,rfl⟩
 |bN o=>obtain⟨s,hs,rfl⟩:=h.sQ;exact⟨.cons' h rfl,rfl⟩
 |cK k e m=>have:=h.zC;subst this;exact⟨.cons' h rfl,rfl⟩
 |fn f a b=>obtain⟨a',b',rfl,_⟩:=h.l5;exact⟨.cons' h rfl,rfl⟩
 |undef=>have:=h.V8;subst this;exact⟨.cons' h rfl,rfl⟩
 |vw o t=>rcases h.zD with ⟨s,_,rfl⟩| ⟨_,rfl|rfl⟩<;>exact⟨.cons' h rfl,rfl⟩
 |jk o t i off=>obtain⟨s,_,_,rfl⟩:=h.wV;exact⟨.cons' h rfl,rfl⟩
 |sv o off k n lo hi=>obtain⟨s,_,_,rfl⟩:=h.vo;exact⟨.cons' h rfl,rfl⟩
 |sel o off k n i m=>obtain⟨s,_,_,_,rfl⟩:=h.CS;exact⟨.cons' h rfl,rfl⟩
 |oz k n y i=>obtain⟨_,_,rfl⟩:=h.IB;exact⟨.cons' h rfl,rfl⟩
 |sg _=>cases hg
 |eu=>have h':=h;unfold Rl at h';subst h';exact⟨.cons' h rfl,rfl⟩
 |dU=>have h':=h;unfold Rl at h';subst h';exact⟨.cons' h rfl,rfl⟩
 |dP=>have h':=h;unfold Rl at h';subst h';exact⟨.cons' h rfl,rfl⟩
 |fB=>have h':=h;unfold Rl at h';subst h';exact⟨.cons' h rfl,rfl⟩
 |opt j w y=>cases hg
 |gone=>cases hg
theorem agm {top:Nat→Nat} {x:TV R.T} {v:V} (hg:N9 x=true) (h:Rl R ρ top x v):oneCell v=true:=by
 cases x with
 |agg cs=>cases hg
 |int k n=>rw[h.fq];rfl
 |bool b=>rw[h.oM];rfl
 |fH b=>rw[h.qI];rfl
 |str b=>rw[h.kX];rfl
 |dW=>rw[h.nQ];rfl
 |bA cs=>cases hg
 |aj c t l=>obtain⟨c',rfl,hl⟩:=h.jO;rfl
 |ref o off=>obtain⟨s,hs,rfl⟩:=h.mR;rfl
 |aI o off=>obtain⟨s,rfl,hs⟩:=h.rE;rfl
 |bN o=>obtain⟨s,hs,rfl⟩:=h.sQ;rfl
 |cK k e m=>have:=h.zC;subst this;rfl
 |fn f a b=>obtain⟨a',b',rfl,_⟩:=h.l5;rfl
 |undef=>cases hg
 |vw o t=>rcases h.zD with ⟨s,_,rfl⟩| ⟨_,rfl|rfl⟩<;>rfl
 |jk o t i off=>obtain⟨s,_,_,rfl⟩:=h.wV;rfl
 |sv o off k n lo hi=>obtain⟨s,_,_,rfl⟩:=h.vo;rfl
 |sel o off k n i m=>obtain⟨s,_,_,_,rfl⟩:=h.CS;rfl
 |oz k n y i=>obtain⟨_,_,rfl⟩:=h.IB;rfl
 |sg _=>cases hg
 |eu=>unfold Rl at h;subst h;rfl
 |dU=>unfold Rl at h;subst h;rfl
 |dP=>unfold Rl at h;subst h;rfl
 |fB=>unfold Rl at h;subst h;rfl
 |opt j w y=>cases hg
 |gone=>cases hg
theorem CZ {top:Nat→Nat}:∀{x:List (TV R.T)} {v:List V},uT x=true→aB R ρ top x v→bf v=true
 | [],v,_,h=>by rw[h.eH];rfl
 |x::xs,v,hg,h=>by
  obtain⟨y,ys,rfl,h1,h2⟩:=h.dH
  unfold uT at hg
  rw[Bool.and_eq_true] at hg
  rw[VF,agm hg.1 h1,CZ hg.2 h2];rfl
theorem agn {top:Nat→Nat} {ag:Bool} {n off:Nat} {cs:List (TV R.T)} {l:List V} {x:TV R.T} (h:aB R ρ top cs l) (hp:H7 ag n cs off=some x):∃v,lM ag n l off=some v∧Rl R ρ top x v:=by
 cases ag with
 |true=>
  have hp':(bif Nat.ble (off+n) cs.length then some (TV.agg ((cs.drop off).take n)) else none)=some x:=hp
  cases hb:Nat.ble (off+n) cs.length
  ·rw[hb] at hp';cases hp'
  ·rw[hb] at hp';cases hp'
   have hle:=Nat.le_of_ble_eq_true hb
   refine⟨.agg ((l.drop off).take n), ?_,by unfold Rl;exact⟨_,rfl,(h.drop off).take n⟩⟩
   unfold lM;rw[if_pos rfl,if_pos (by rw[h.length];exact hle)]
 |false=>
  obtain⟨v,h1,h2⟩:=h.get (show cs[off]? =some x from hp)
  exact⟨v,by unfold lM;simpa using h1,h2⟩
theorem tq {top:Nat→Nat} {t:TypeId} {off:Nat} {cs:List (TV R.T)} {l:List V} {x:TV R.T} (h:aB R ρ top cs l) (hp:jD E t cs off=some x):∃v,dJ E.P t l off=some v∧Rl R ρ top x v:=by
 unfold jD at hp
 cases h1:fP E.P t with
 |none=>simp only[h1] at hp;cases hp
 |some a=>
  cases h2:bJ E.P t with
  |none=>simp only[h1,h2] at hp;cases hp
  |some n=>
   simp only[h1,h2] at hp
   unfold dJ;rw[h1,h2];exact agn h hp
theorem O5 {top:Nat→Nat} {cs vs:List (TV R.T)} {l k:List V} (off:Nat) (h:aB R ρ top cs l) (h':aB R ρ top vs k):aB R ρ top (yZ cs off vs) (dZ l off k):=by
 unfold yZ dZ
 rw[h'.length]
 exact((h.take off).append h').append (h.drop _)
theorem zM {top:Nat→Nat} {t:TypeId} {z:TV R.T} (h:sK E t=some z):∃v,fF E.P t=some v∧Rl R ρ top z v:=by
 unfold sK at h
 unfold fF
 cases h1:E.P.info? t with
 |none=>simp only[h1] at h;cases h
 |some i=>
  cases h2:i.zero with
  |none=>simp only[h1,h2] at h;cases h
  |some z'=>
   simp only[h1,h2] at h
   obtain⟨v,hv,hr⟩:=Wz (ρ:=ρ) (top:=top) h
   exact⟨v,by simp[h2,hv],hr⟩
theorem WU {top:Nat→Nat} (place:Nat→Option (Nat×Nat)):∀{ps:List (Nat×TV R.T)} {qs:List (Nat×V)} {cs:List (TV R.T)} {l:List V} {cs':List (TV R.T)},ps.map (·.1)=qs.map (·.1)→aB R ρ top (ps.map (·.2)) (qs.map (·.2))→
 aB R ρ top cs l→H8 place cs ps=some cs'→∃l',nk place l qs=some l'∧aB R ρ top cs' l'
 | [],[],cs,l,cs',_,_,h,hf=>by cases hf;exact⟨l,rfl,h⟩
 | [],_::_,_,_,_,h,_,_,_=>by simp at h
 |_::_,[],_,_,_,h,_,_,_=>by simp at h
 | (i,v)::ps,(j,w)::qs,cs,l,cs',hi,hr,h,hf=>by
   simp only[List.map_cons,List.cons.injEq] at hi
   obtain⟨rfl,hi⟩:=hi
   obtain⟨y,ys,e,h1,h2⟩:=hr.dH
   simp only[List.map_cons,List.cons.injEq] at e
   obtain⟨rfl,rfl⟩:=e
   unfold H8 at hf
   unfold nk
   cases hp:place i with
   |none=>simp only[hp] at hf;cases hf
   |some q=>
    obtain⟨off,size⟩:=q
    simp only[hp] at hf⊢
    cases hb:(Nat.beq v.cells.length size&& Nat.ble (off+size) cs.length&& uU v)
    ·rw[hb] at hf;cases hf
    ·rw[hb,cond_true] at hf
     simp only[Bool.and_eq_true] at hb
     obtain⟨⟨b1,b2⟩,b3⟩:=hb
     obtain⟨hc,hn⟩:=rF b3 h1
     rw[if_pos ⟨by rw[hc.length];exact dI b1,by rw[h.length];exact Nat.le_of_ble_eq_true b2,hn⟩]
     exact WU place hi h2 (O5 off h hc) hf
theorem WV {top:Nat→Nat} {x:TV R.T} {v:V} {a:Bool} (h:bM x=some a) (hr:Rl R ρ top x v):v= .bool a:=by
 cases x<;>cases h
 ·exact hr.oM
 ·exact hr.qI
theorem WW {top:Nat→Nat} {x y:TV R.T} {v w:V} {r:Bool} (h:H9 x y=some r) (hx:Rl R ρ top x v) (hy:Rl R ρ top y w):∃a b,v= .bool a∧w= .bool b∧r=(a==b):=by
 unfold H9 at h
 cases h1:bM x with
 |none=>simp only[h1] at h;cases h
 |some a=>
  cases h2:bM y with
  |none=>simp only[h1,h2] at h;cases h
  |some b=>simp only[h1,h2] at h;cases h;exact⟨a,b,WV h1 hx,WV h2 hy,rfl⟩
theorem O6 {top:Nat→Nat} {tu:TypeId→TV R.T→TV R.T→Option Bool} {eqv:TypeId→V→V→Option Bool} (he:∀t x y v w r,tu t x y=some r→Rl R ρ top x v→Rl R ρ top y w→eqv t v w=some r)
 {xs ys:List (TV R.T)} {vs ws:List V} (hx:aB R ρ top xs vs) (hy:aB R ρ top ys ws):∀{fs:List Field} {r:Bool},y5 E tu xs ys fs=some r→vW E.P eqv vs ws fs=some r
 | [],r,h=>by cases h;rfl
 |f::fs,r,h=>by
  unfold y5 at h
  unfold vW
  split at h
  ·rename_i hn;rw[if_pos hn];exact O6 he hx hy h
  ·rename_i hn
   rw[if_neg hn]
   cases h1:jD E f.type xs f.offset with
   |none=>simp only[h1] at h;cases h
   |some a=>
    cases h2:jD E f.type ys f.offset with
    |none=>simp only[h1,h2] at h;cases h
    |some c=>
     cases h3:tu f.type a c with
     |none=>simp only[h1,h2,h3] at h;cases h
     |some r1=>
      cases h4:y5 E tu xs ys fs with
      |none=>simp only[h1,h2,h3,h4] at h;cases h
      |some q=>
       simp only[h1,h2,h3,h4] at h;cases h
       obtain⟨v1,e1,g1⟩:=tq hx h1
       obtain⟨v2,e2,g2⟩:=tq hy h2
       simp[e1,e2,he _ _ _ _ _ _ h3 g1 g2,O6 he hx hy h4]
theorem WX {top:Nat→Nat} {tu:TypeId→TV R.T→TV R.T→Option Bool} {eqv:TypeId→V→V→Option Bool} (he:∀t x y v w r,tu t x y=some r→Rl R ρ top x v→Rl R ρ top y w→eqv t v w=some r)
 {e:TypeId} {sz:Nat} {xs ys:List (TV R.T)} {vs ws:List V} (hx:aB R ρ top xs vs) (hy:aB R ρ top ys ws):∀{is:List Nat} {r:Bool},Cw E tu e sz xs ys is=some r→xS E.P eqv e sz vs ws is=some r
 | [],r,h=>by cases h;rfl
 |i::is,r,h=>by
  unfold Cw at h
  unfold xS
  cases h1:jD E e xs (i*sz) with
  |none=>simp only[h1] at h;cases h
  |some a=>
   cases h2:jD E e ys (i*sz) with
   |none=>simp only[h1,h2] at h;cases h
   |some c=>
    cases h3:tu e a c with
    |none=>simp only[h1,h2,h3] at h;cases h
    |some r1=>
     cases h4:Cw E tu e sz xs ys is with
     |none=>simp only[h1,h2,h3,h4] at h;cases h
     |some q=>
      simp only[h1,h2,h3,h4] at h;cases h
      obtain⟨v1,e1,g1⟩:=tq hx h1
      obtain⟨v2,e2,g2⟩:=tq hy h2
      simp[e1,e2,he _ _ _ _ _ _ h3 g1 g2,WX he hx hy h4]
theorem IK {top:Nat→Nat}:∀(d:Nat) (t:TypeId) (x y:TV R.T) (v w:V) (r:Bool),y7 E d t x y=some r→Rl R ρ top x v→Rl R ρ top y w→uo E.P d t v w=some r
 |0,_,_,_,_,_,_,h,_,_=>by cases h
 |d+1,t,x,y,v,w,r,h,hx,hy=>by
  unfold y7 at h
  unfold uo
  split at h
  ·rename_i fs xs ys hu
   obtain⟨l,rfl,h1⟩:=hx.jA
   obtain⟨k,rfl,h2⟩:=hy.jA
   rw[hu];dsimp only
   split at h
   ·cases h
   ·rename_i hs;rw[if_neg hs];exact O6 (IK d) h1 h2 h
  ·rename_i n e xs ys hu
   obtain⟨l,rfl,h1⟩:=hx.jA
   obtain⟨k,rfl,h2⟩:=hy.jA
   rw[hu];dsimp only
   cases hs:bJ E.P e with
   |none=>simp only[hs] at h;cases h
   |some sz=>simp only[hs] at h;simp only[Option.bind_some];exact WX (IK d) h1 h2 h
  ·cases h
  ·cases h
  ·rename_i hu
   obtain⟨a,c,rfl,rfl,rfl⟩:=WW h hx hy
   rw[hu]
  ·rename_i k a k' c hu
   rw[hx.fq,hy.fq,hu];exact h
  ·rename_i a c hu
   rw[hx.kX,hy.kX,hu];exact h
  ·cases h
theorem WY {top:Nat→Nat} {t:TypeId} {x y:TV R.T} {v w:V} {r:Bool} (h:Ia E t x y=some r) (hx:Rl R ρ top x v) (hy:Rl R ρ top y w):nu E.P t v w=some r:=by
 unfold Ia at h
 unfold nu
 split at h
 ·rename_i fs xs ys hu
  split at h
  ·cases h
  ·rename_i hs
   have:=IK 8 t _ _ v w r h hx hy
   obtain⟨l,rfl,h1⟩:=hx.jA
   obtain⟨k,rfl,h2⟩:=hy.jA
   rw[hu];dsimp only;rw[if_neg hs];exact this
 ·rename_i fs xs ys hu
  split at h
  ·cases h
  ·rename_i hs
   have:=IK 8 t _ _ v w r h hx hy
   obtain⟨l,rfl,h1⟩:=hx.jA
   obtain⟨k,rfl,h2⟩:=hy.jA
   rw[hu];dsimp only;rw[if_neg hs];exact this
 ·rename_i hu;cases h;unfold Rl at hx hy;subst hx;subst hy;rw[hu]
 ·rename_i hu;cases h;obtain⟨a,b,rfl,_⟩:=hy.l5;unfold Rl at hx;subst hx;rw[hu]
 ·rename_i hu;cases h;obtain⟨a,b,rfl,_⟩:=hx.l5;unfold Rl at hy;subst hy;rw[hu]
 ·rename_i hu;obtain⟨a,c,rfl,rfl,rfl⟩:=WW h hx hy;rw[hu]
 ·cases h
end
end Aq
end
