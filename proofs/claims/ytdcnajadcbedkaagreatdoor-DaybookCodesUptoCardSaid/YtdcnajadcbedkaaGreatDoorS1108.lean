/- Part of the proof of a law. -/
import Derived.Test.YtdcnajadcbedkaaGreatDoorS1107
set_option linter.all false
set_option linter.unusedSimpArgs false
set_option linter.unusedSectionVars false
section
namespace Aq
open Go
set_option linter.unusedSectionVars false
set_option linter.unusedVariables false
theorem dG {a b:Nat} (h:Nat.beq a b=true):a=b:=Nat.eq_of_beq_eq_true h
theorem I9 {a b:Nat} (h:Nat.beq a b=false):a≠b:=fun e=>by rw[e,Nat.beq_refl] at h;cases h
theorem Ja {a b:Nat} (h:a≠b):Nat.beq a b=false:=Bool.eq_false_iff.2 fun e=>h (dG e)
section look
variable {α:Type}
theorem rU (f:α→α):∀(l:List (Nat×α)) (i:Nat),look (kK f l) i=(look l i).map f
 | [],_=>rfl
 | (j,x)::l,i=>by
   show (bif Nat.beq j i then some (f x) else look (kK f l) i)=Option.map f (bif Nat.beq j i then some x else look l i)
   cases Nat.beq j i
   ·exact rU f l i
   ·rfl
theorem oG {i j:Nat} (h:j≠i):∀(l:List (Nat×α)),look (gN i l) j=look l j
 | []=>rfl
 | (k,x)::l=>by
   show look (bif Nat.beq k i then gN i l else (k,x)::gN i l) j=bif Nat.beq k j then some x else look l j
   cases hk:Nat.beq k i
   ·show (bif Nat.beq k j then some x else look (gN i l) j)=_
    rw[oG h l]
   ·have:=dG hk
    subst this
    rw[Ja (Ne.symm h)]
    exact oG h l
theorem iY (l:List (Nat×α)) (i:Nat) (x:α):look ((i,x)::l) i=some x:=by
 show (bif Nat.beq i i then some x else look l i)=_;rw[Nat.beq_refl];rfl
theorem fP (l:List (Nat×α)) {i j:Nat} (x:α) (h:j≠i):look ((i,x)::l) j=look l j:=by
 show (bif Nat.beq i j then some x else look l j)=_;rw[Ja (Ne.symm h)];rfl
end look
section
variable {R:gM} {E:Env}
theorem UA {ρ ρ':aL} {top top':Nat→Nat}:∀(t:Ty) (x:Den R.T t) (v:V),Rl R ρ top (wB R .any t x) v→Rl R ρ' top' (wB R .any t x) v
 |.int _,_,_,h=>h
 |.bool,_,_,h=>h
 |.str,_,_,h=>h
 |.slice _,_,_,h=>h
 |.st _,_,_,h=>h
theorem wR {ρ ρ':aL} {top top':Nat→Nat}:∀(l:List Ty) (p:lY R.T l) (vs:List V),aC R ρ top (ji R .any l p) vs→aC R ρ' top' (ji R .any l p) vs
 | [],_,_,h=>h
 | [t],x,vs,h=>by
   obtain⟨v,l,rfl,h1,h2⟩:=h.dB
   rw[h2.eT]
   exact .cons' (UA t x v h1) rfl
 |t::u::l,p,vs,h=>by
  obtain⟨v,ws,rfl,h1,h2⟩:=h.dB
  exact .cons' (UA t p.1 v h1) (wR (u::l) p.2 ws h2)
theorem aee {ρ ρ':aL} {top top':Nat→Nat} {t:Ty} {x:Den R.T t} {vs:List V} (h:aC R ρ top (eZ R .any t x).cells vs):aC R ρ' top' (eZ R .any t x).cells vs:=by
 cases t with
 |st n=>exact wR _ _ _ h
 |int k=>exact wR [.int k] x vs h
 |bool=>exact wR [.bool] x vs h
 |str=>exact wR [.str] x vs h
 |slice t=>exact wR [.slice t] x vs h
theorem aC.split {ρ:aL} {top:Nat→Nat}:∀{ts ts':List (TV R.T)} {vs:List V},aC R ρ top (ts++ts') vs→∃a b,vs=a++b∧aC R ρ top ts a∧aC R ρ top ts' b
 | [],_,vs,h=>⟨[],vs,rfl,rfl,h⟩
 |t::ts,ts',vs,h=>by
  obtain⟨v,ws,rfl,h1,h2⟩:=aC.dB (ts:=ts++ts') h
  obtain⟨a,b,rfl,h3,h4⟩:=aC.split h2
  exact⟨v::a,b,rfl,.cons' h1 h3,h4⟩
theorem vk {ρ ρ':aL} {top top':Nat→Nat} {t:Ty}:∀(l:List (Den R.T t)) (vs:List V),aC R ρ top (l.flatMap fun x=>(eZ R .any t x).cells) vs→aC R ρ' top' (l.flatMap fun x=>(eZ R .any t x).cells) vs
 | [],vs,h=>h
 |x::l,vs,h=>by
  rw[List.flatMap_cons] at h⊢
  obtain⟨a,b,rfl,h1,h2⟩:=h.split
  exact(aee h1).append (vk l b h2)
def gQ (fr:Fr) (ρ:aL) (top:Nat→Nat):TV R.T→V→Prop
 |.opt j w y,v=>(fr.tm j= .bool w→Rl R ρ top y v)∧(fr.tm j= .bool (!w)∨fr.tm j=aD→v=aD)
 |x,v=>Rl R ρ top x v
theorem gQ.of {fr:Fr} {ρ:aL} {top:Nat→Nat} {x:TV R.T} {v:V} (h:Rl R ρ top x v):gQ fr ρ top x v:=by
 cases x<;>first|exact h|exact h.Uu.elim
def dO (ρ:aL) (σ:ah) (o:Nat):Ob R.T→Prop
 |.cells cs=> ∃s l,ρ.ob o=some s∧σ.bK (ρ.om.lc o) s=some l∧aC R ρ σ.top cs l
 |.map k e m=> ∃s,ρ.ob o=some s∧σ.eX (ρ.om.lc o) s=some (m.map fun p=>aG R k p.1,m.map fun p=>aG R e p.2)
 |.smap ks vs=> ∃s k l,ρ.ob o=some s∧σ.eX (ρ.om.lc o) s=some (k,l)∧aC R ρ σ.top ks k∧aC R ρ σ.top vs l
 |.arr t l=>l.length=ρ.ln o∧((l=[]∧ρ.ob o=none)∨∃s cs,ρ.ob o=some s∧σ.bK (ρ.om.lc o) s=some cs∧aC R ρ σ.top (l.flatMap fun x=>(eZ R .any t x).cells) cs)
 |.sg ss=> ∃s,ρ.ob o=some s∧σ.bK (ρ.om.lc o) s=some (bB ss)
 |.gone=>True
 |.ro b=>dO ρ σ o b
theorem dO.strip {ρ:aL} {σ:ah} {o:Nat}:∀{x:Ob R.T},dO ρ σ o x→dO ρ σ o (NG x)
 |.cells _,h=>h
 |.map _ _ _,h=>h
 |.smap _ _,h=>h
 |.arr _ _,h=>h
 |.sg _,h=>h
 |.gone,h=>h
 |.ro b,h=>dO.strip (x:=b) h
structure aH (ρ:aL) (b:Nat) (st:MS R.T) (fr:Fr) (σ:ah):Prop where
 d:fr.d=ρ.om.dp
 om:fr.om=ρ.om.om
 fr:∀i v,look st.fr i=some v→gQ fr ρ σ.top v (fr.tm i)
 ob:∀o x,look st.ob o=some x→dO ρ σ o x
 inj:∀t u s,ρ.tk t=some s→ρ.tk u=some s→t=u
 lt:∀t s,ρ.tk t=some s→s<b
 ge:∀t s,ρ.tk t=some s→ρ.om.lo≤s
 nx:ρ.om.lo≤b
variable {ρ:aL} {b:Nat} {st:MS R.T} {fr:Fr} {σ:ah}
theorem aH.le {b':Nat} (h:aH ρ b st fr σ) (hb:b≤b'):aH ρ b' st fr σ:={h with lt:=fun t s ht=>Nat.lt_of_lt_of_le (h.lt t s ht) hb,nx:=Nat.le_trans h.nx hb}
theorem dO.bump {o k:Nat}:∀{x:Ob R.T},dO ρ σ o x→dO ρ (σ.bump k) o x
 |.cells _,h=>h
 |.map _ _ _,h=>h
 |.smap _ _,h=>h
 |.arr _ _,h=>h
 |.sg _,h=>h
 |.gone,h=>h
 |.ro b,h=>dO.bump (x:=b) h
theorem aH.next (h:aH ρ b st fr σ) (k:Nat):aH ρ b st fr (σ.bump k):={h with fr:=h.fr,ob:=fun o x hx=>(h.ob o x hx).bump}
theorem aH.rd (h:aH ρ b st fr σ) {o:Nat} {x:Ob R.T} (hx:lH st o=some x):dO ρ σ o x:=by
 unfold lH at hx
 split at hx
 ·rename_i y hy;cases hx;exact(h.ob _ _ hy).strip
 ·cases hx
theorem aef {ρ:aL} {top:Nat→Nat} {x:TV R.T} {u v:V} {i:Nat} (h:gQ fr ρ top x v):gQ (fr.set i u) ρ top (NC i x) v:=by
 cases x with
 |opt j w y=>
  show gQ _ _ _ (bif Nat.beq j i then .gone else .opt j w y) v
  cases hj:Nat.beq j i
  ·have hs:(fr.set i u).tm j=fr.tm j:=DV _ _ (by simpa using I9 hj)
   exact⟨fun hc=>h.1 (by rw[←hs];exact hc),fun hc=>h.2 (by rw[←hs];exact hc)⟩
  ·exact gQ.of (x:=.gone) (by unfold Rl;trivial)
 |_=>exact h
theorem aH.put (h:aH ρ b st fr σ) (i:Nat) {x:TV R.T} {v:V} (hx:gQ (fr.set i v) ρ σ.top x v):aH ρ b (st.put i x) (fr.set i v) σ where
 d:=h.d
 om:=h.om
 ob:=h.ob
 inj:=h.inj
 lt:=h.lt
 ge:=h.ge
 nx:=h.nx
 fr:=fun j y hy=>by
  by_cases e:j=i
  ·subst e
   have hy':some x=some y:=by rw[←hy];exact(iY _ _ _).symm
   cases hy'
   rw[Ig]
   exact hx
  ·have hy':look (kK (NC i) (gN i st.fr)) j=some y:=by rw[←hy];exact(fP _ _ e).symm
   rw[rU,oG e,Option.map_eq_some_iff] at hy'
   obtain⟨z,hz,rfl⟩:=hy'
   rw[DV _ _ (by simpa using e)]
   exact aef (h.fr j z hz)
theorem aH.dY (h:aH ρ b st fr σ) (d:Option Nat) {x:TV R.T} {v:V} (hx:Rl R ρ σ.top x v):aH ρ b (st.dY d x) (fr.put d v) σ:=by
 cases d with
 |none=>exact h
 |some i=>exact h.put i (.of hx)
theorem aeg {ρ:aL} {top:Nat→Nat} {x:TV R.T} {v:V} {i:Nat} {c:Bool} (hi:fr.tm i= .bool c) (h:gQ fr ρ top x v):gQ fr ρ top (ND i c x) v:=by
 cases x with
 |opt j w y=>
  show gQ _ _ _ (bif Nat.beq j i then (bif (c==w) then y else .undef) else .opt j w y) v
  cases hj:Nat.beq j i
  ·exact h
  ·have:=dG hj
   subst this
   by_cases e:c=w
   ·subst e
    rw[beq_self_eq_true]
    exact gQ.of (h.1 hi)
   ·rw[show (c==w)=false by simpa using e]
    have e':c= !w:=by cases c<;>cases w<;>first|rfl|exact absurd rfl e
    have h':=h.2 (.inl (by rw[hi,e']))
    subst h';exact gQ.of (x:=.undef) (by unfold Rl;rfl)
 |_=>exact h
theorem aH.learn (h:aH ρ b st fr σ) {i:Nat} {c:Bool} (hc:fr.tm i= .bool c):aH ρ b (st.learn i c) fr σ where
 d:=h.d
 om:=h.om
 ob:=h.ob
 inj:=h.inj
 lt:=h.lt
 ge:=h.ge
 nx:=h.nx
 fr:=fun j y hy=>by
  by_cases e:j=i
  ·subst e
   have hy':some (TV.gy c)=some y:=by rw[←hy];exact(iY _ _ _).symm
   cases hy'
   exact gQ.of (x:=.gy c) (by unfold Rl;exact hc)
  ·have hy':look (kK (ND i c) (gN i st.fr)) j=some y:=by rw[←hy];exact(fP _ _ e).symm
   rw[rU,oG e,Option.map_eq_some_iff] at hy'
   obtain⟨z,hz,rfl⟩:=hy'
   exact aeg hc (h.fr j z hz)
def aL.kN (ρ:aL) (o s:Nat):aL:={ρ with ob:=upd ρ.ob o (some s)}
def aL.fH (ρ:aL) (t s:Nat):aL:={ρ with tk:=upd ρ.tk t (some s)}
theorem UC {ρ':aL} {top:Nat→Nat} {o:Nat} {x:TV R.T} {v:V} (ho:∀p,p≠o→ρ'.ob p=ρ.ob p∧ρ'.ln p=ρ.ln p) (ht:ρ'.tk=ρ.tk) (hx:ρ'.om=ρ.om) (h:gQ fr ρ top x v):gQ fr ρ' top (D5 o x) v:=by
 unfold D5
 cases hm:kJ o x
 ·cases x with
  |opt j w y=>exact⟨fun hc=>Rl.kill o ho ht hx y v hm (h.1 hc),h.2⟩
  |_=>exact gQ.of (Rl.kill o ho ht hx _ v hm h)
 ·exact gQ.of (x:=.gone) (by unfold Rl;trivial)
theorem Ot (c:Cx) {o p:Nat} (h:p≠o):oV (c.lc p) (c.lc o)=false:=by
 cases e:oV (c.lc p) (c.lc o)
 ·rfl
 ·unfold oV at e
  rw[Bool.and_eq_true,beq_iff_eq,beq_iff_eq] at e
  exact absurd (Prod.ext e.2 e.1) (c.Us h)
theorem wS {c:Cx} {o p:Nat} (σ:ah) (s s':Nat) (x:fV) (h:p≠o):(σ.setObj (c.lc o) s' x).bK (c.lc p) s=σ.bK (c.lc p) s:=TM σ s s' x (Ot c h)
theorem Bp {c:Cx} {o p:Nat} (σ:ah) (s s':Nat) (x:fV) (h:p≠o):(σ.setObj (c.lc o) s' x).eX (c.lc p) s=σ.eX (c.lc p) s:=TN σ s s' x (Ot c h)
theorem UD {ρ':aL} {o p s':Nat} {a:fV} (hp:p≠o) (ho:∀p,p≠o→ρ'.ob p=ρ.ob p∧ρ'.ln p=ρ.ln p) (ht:ρ'.tk=ρ.tk) (hx:ρ'.om=ρ.om):∀{x:Ob R.T},Ob.kJ o x=false→dO ρ σ p x→dO ρ' (σ.setObj (ρ.om.lc o) s' a) p x
 |.cells cs,hm,h=>by
  obtain⟨s,l,h1,h2,h3⟩:=h
  exact⟨s,l,((ho p hp).1.trans h1),by rw[hx,wS _ _ _ _ hp];exact h2,aC.kill o ho ht hx _ _ hm h3⟩
 |.map k e m,_,h=>by
  obtain⟨s,h1,h2⟩:=h
  exact⟨s,((ho p hp).1.trans h1),by rw[hx,Bp _ _ _ _ hp];exact h2⟩
 |.smap ks vs,hm,h=>by
  obtain⟨s,k,l,h1,h2,h3,h4⟩:=h
  have hm':(lG o ks||lG o vs)=false:=hm
  rw[Bool.or_eq_false_iff] at hm'
  exact⟨s,k,l,((ho p hp).1.trans h1),by rw[hx,Bp _ _ _ _ hp];exact h2,aC.kill o ho ht hx _ _ hm'.1 h3,aC.kill o ho ht hx _ _ hm'.2 h4⟩
 |.arr t l,hm,h=>by
  refine⟨h.1.trans (ho p hp).2.symm, ?_⟩
  rcases h.2 with h| ⟨s,cs,h1,h2,h3⟩
  ·exact .inl ⟨h.1,(ho p hp).1.trans h.2⟩
  ·exact .inr ⟨s,cs,((ho p hp).1.trans h1),by rw[hx,wS _ _ _ _ hp];exact h2,vk l cs h3⟩
 |.sg ss,_,h=>by
  obtain⟨s,h1,h2⟩:=h
  exact⟨s,((ho p hp).1.trans h1),by rw[hx,wS _ _ _ _ hp];exact h2⟩
 |.gone,_,_=>trivial
 |.ro b,hm,h=>UD hp ho ht hx (x:=b) hm h
theorem aeh {ρ':aL} {o p s':Nat} {a:fV} {x:Ob R.T} (hp:p≠o) (ho:∀p,p≠o→ρ'.ob p=ρ.ob p∧ρ'.ln p=ρ.ln p) (ht:ρ'.tk=ρ.tk) (hx:ρ'.om=ρ.om) (h:dO ρ σ p x):dO ρ' (σ.setObj (ρ.om.lc o) s' a) p (Ob.kill o x):=by
 unfold Ob.kill
 cases hm:Ob.kJ o x
 ·exact UD hp ho ht hx hm h
 ·trivial
theorem UE {o p s:Nat} {a:fV} (hp:p≠o):∀{x:Ob R.T},dO ρ σ p x→dO ρ (σ.setObj (ρ.om.lc o) s a) p x
 |.cells cs,h=>by obtain⟨s,l,h1,h2,h3⟩:=h;exact⟨s,l,h1,by rw[wS _ _ _ _ hp];exact h2,h3⟩
 |.map k e m,h=>by obtain⟨s,h1,h2⟩:=h;exact⟨s,h1,by rw[Bp _ _ _ _ hp];exact h2⟩
 |.smap ks vs,h=>by obtain⟨s,k,l,h1,h2,h3⟩:=h;exact⟨s,k,l,h1,by rw[Bp _ _ _ _ hp];exact h2,h3⟩
 |.arr t l,h=>by
  refine⟨h.1, ?_⟩
  rcases h.2 with h| ⟨s,cs,h1,h2,h3⟩
  ·exact .inl h
  ·exact .inr ⟨s,cs,h1,by rw[wS _ _ _ _ hp];exact h2,h3⟩
 |.sg ss,h=>by obtain⟨s,h1,h2⟩:=h;exact⟨s,h1,by rw[wS _ _ _ _ hp];exact h2⟩
 |.gone,_=>trivial
 |.ro b,h=>UE hp (x:=b) h
theorem UF {o t s n:Nat} (key:∀u s',u≠t→ρ.tk u=some s'→(ρ.fH t s).tk u=some s'∧(σ.bJ s n).top s'=σ.top s'):∀{x:Ob R.T},dO ρ σ o x→dO (ρ.fH t s) (σ.bJ s n) o (Ob.wk t x)
 |.cells cs,h=>by obtain⟨s',l,h1,h2,h3⟩:=h;exact⟨s',l,h1,h2,aC.wk (ρ:=ρ) (ρ':=ρ.fH t s) (top:=σ.top) (top':=(σ.bJ s n).top) t ⟨rfl,rfl,rfl⟩ key _ _ h3⟩
 |.map k e m,h=>h
 |.smap ks vs,h=>by obtain⟨s',k,l,h1,h2,h3,h4⟩:=h;exact⟨s',k,l,h1,h2,aC.wk (ρ:=ρ) (ρ':=ρ.fH t s) (top:=σ.top) (top':=(σ.bJ s n).top) t ⟨rfl,rfl,rfl⟩ key _ _ h3,aC.wk (ρ:=ρ) (ρ':=ρ.fH t s) (top:=σ.top) (top':=(σ.bJ s n).top) t ⟨rfl,rfl,rfl⟩ key _ _ h4⟩
 |.arr ty l,h=>by
  refine⟨h.1, ?_⟩
  rcases h.2 with h| ⟨s,cs,h1,h2,h3⟩
  ·exact .inl h
  ·exact .inr ⟨s,cs,h1,h2,vk l cs h3⟩
 |.sg ss,h=>h
 |.gone,_=>trivial
 |.ro b,h=>UF key (x:=b) h
theorem Bq {o s:Nat}:∀p,p≠o→(ρ.kN o s).ob p=ρ.ob p∧(ρ.kN o s).ln p=ρ.ln p:=fun p h=>⟨by simp[aL.kN,upd,h],rfl⟩
def aL.yw (ρ:aL) (o n:Nat):aL:={ρ with ln:=upd ρ.ln o n}
theorem UG {o n:Nat}:∀p,p≠o→(ρ.yw o n).ob p=ρ.ob p∧(ρ.yw o n).ln p=ρ.ln p:=fun p h=>⟨rfl,by simp[aL.yw,upd,h]⟩
def aL.gh (ρ:aL) (o:Nat):aL:={ρ.yw o 0 with ob:=upd ρ.ob o none}
theorem Br {o:Nat}:∀p,p≠o→(ρ.gh o).ob p=ρ.ob p∧(ρ.gh o).ln p=ρ.ln p:=fun p h=>⟨by simp[aL.gh,upd,h],(UG (ρ:=ρ) (n:=0) p h).2⟩
theorem Er {o n:Nat}:(ρ.yw o n).ln o=n:=by simp[aL.yw,upd]
def aL.yx (ρ:aL) (o s n:Nat):aL:=(ρ.kN o s).yw o n
theorem Ou {o s n:Nat}:∀p,p≠o→(ρ.yx o s n).ob p=ρ.ob p∧(ρ.yx o s n).ln p=ρ.ln p:=fun p h=>⟨(Bq p h).1,(UG p h).2⟩
theorem rV {o s:Nat}:(ρ.kN o s).ob o=some s:=by simp[aL.kN,upd]
theorem aH.new' {ρ':aL} (h:aH ρ b st fr σ) (o s:Nat) {x:Ob R.T} {a:fV} (Bq:∀p,p≠o→ρ'.ob p=ρ.ob p∧ρ'.ln p=ρ.ln p) (ht:ρ'.tk=ρ.tk) (aX:ρ'.om=ρ.om) (hx:dO ρ' (σ.setObj (ρ.om.lc o) s a) o x):aH ρ' b (st.new o x) fr (σ.setObj (ρ.om.lc o) s a) where
 d:=by rw[aX];exact h.d
 om:=by rw[aX];exact h.om
 fr:=fun j y hy=>by
  have hy':look (kK (D5 o) st.fr) j=some y:=hy
  rw[rU,Option.map_eq_some_iff] at hy'
  obtain⟨z,hz,rfl⟩:=hy'
  exact UC Bq ht aX (h.fr j z hz)
 ob:=fun p y hy=>by
  by_cases e:p=o
  ·subst e
   have hy':some x=some y:=by rw[←hy];exact(iY _ _ _).symm
   cases hy'
   exact hx
  ·have hy':look (kK (Ob.kill o) (gN o st.ob)) p=some y:=by rw[←hy];exact(fP _ _ e).symm
   rw[rU,oG e,Option.map_eq_some_iff] at hy'
   obtain⟨z,hz,rfl⟩:=hy'
   exact aeh e Bq ht aX (h.ob p z hz)
 inj:=by rw[ht];exact h.inj
 lt:=by rw[ht];exact h.lt
 ge:=by rw[ht,aX];exact h.ge
 nx:=by rw[aX];exact h.nx
theorem aH.new (h:aH ρ b st fr σ) (o s:Nat) {x:Ob R.T} {a:fV} (hx:dO (ρ.kN o s) (σ.setObj (ρ.om.lc o) s a) o x):aH (ρ.kN o s) b (st.new o x) fr (σ.setObj (ρ.om.lc o) s a):=h.new' o s Bq rfl rfl hx
theorem aH.Ov (h:aH ρ b st fr σ) (o s n:Nat) {x:Ob R.T} {a:fV} (hx:dO (ρ.yx o s n) (σ.setObj (ρ.om.lc o) s a) o x):aH (ρ.yx o s n) b (st.new o x) fr (σ.setObj (ρ.om.lc o) s a):=h.new' o s Ou rfl rfl hx
theorem UH {ρ':aL} {o p:Nat} (hp:p≠o) (ho:∀p,p≠o→ρ'.ob p=ρ.ob p∧ρ'.ln p=ρ.ln p) (ht:ρ'.tk=ρ.tk) (hx:ρ'.om=ρ.om):∀{x:Ob R.T},Ob.kJ o x=false→dO ρ σ p x→dO ρ' σ p x
 |.cells cs,hm,h=>by
  obtain⟨s,l,h1,h2,h3⟩:=h
  exact⟨s,l,((ho p hp).1.trans h1),by rw[hx];exact h2,aC.kill o ho ht hx _ _ hm h3⟩
 |.map k e m,_,h=>by
  obtain⟨s,h1,h2⟩:=h
  exact⟨s,((ho p hp).1.trans h1),by rw[hx];exact h2⟩
 |.smap ks vs,hm,h=>by
  obtain⟨s,k,l,h1,h2,h3,h4⟩:=h
  have hm':(lG o ks||lG o vs)=false:=hm
  rw[Bool.or_eq_false_iff] at hm'
  exact⟨s,k,l,((ho p hp).1.trans h1),by rw[hx];exact h2,aC.kill o ho ht hx _ _ hm'.1 h3,aC.kill o ho ht hx _ _ hm'.2 h4⟩
 |.arr t l,hm,h=>by
  refine⟨h.1.trans (ho p hp).2.symm, ?_⟩
  rcases h.2 with h| ⟨s,cs,h1,h2,h3⟩
  ·exact .inl ⟨h.1,(ho p hp).1.trans h.2⟩
  ·exact .inr ⟨s,cs,((ho p hp).1.trans h1),by rw[hx];exact h2,vk l cs h3⟩
 |.sg ss,_,h=>by
  obtain⟨s,h1,h2⟩:=h
  exact⟨s,((ho p hp).1.trans h1),by rw[hx];exact h2⟩
 |.gone,_,_=>trivial
 |.ro b,hm,h=>UH hp ho ht hx (x:=b) hm h
theorem aH.ghost (h:aH ρ b st fr σ) (o:Nat) (t:Ty):aH (ρ.gh o) b (st.new o (.arr t [])) fr σ where
 d:=h.d
 om:=h.om
 fr:=fun j y hy=>by
  have hy':look (kK (D5 o) st.fr) j=some y:=hy
  rw[rU,Option.map_eq_some_iff] at hy'
  obtain⟨z,hz,rfl⟩:=hy'
  exact UC Br rfl rfl (h.fr j z hz)
 ob:=fun p y hy=>by
  by_cases e:p=o
  ·subst e
   have hy':some (Ob.arr t ([]:List (Den R.T t)))=some y:=by rw[←hy];exact(iY _ _ _).symm
   cases hy'
   exact⟨(Er (ρ:=ρ) (n:=0)).symm,.inl ⟨rfl,by simp[aL.gh,upd]⟩⟩
  ·have hy':look (kK (Ob.kill o) (gN o st.ob)) p=some y:=by rw[←hy];exact(fP _ _ e).symm
   rw[rU,oG e,Option.map_eq_some_iff] at hy'
   obtain⟨z,hz,rfl⟩:=hy'
   unfold Ob.kill
   cases hm:Ob.kJ o z
   ·exact UH e Br rfl rfl hm (h.ob p z hz)
   ·trivial
 inj:=h.inj
 lt:=h.lt
 ge:=h.ge
 nx:=h.nx
theorem UJ {c:Cx} {o p:Nat} (σ:ah) (h:p≠o):(σ.j5 (c.lc o)).obj (c.lc p)=σ.obj (c.lc p):=by
 unfold ah.j5 upd
 dsimp only
 rw[if_neg (c.Us h)]
theorem UK {σ':ah} {p:Nat} (hp:σ'.obj (ρ.om.lc p)=σ.obj (ρ.om.lc p)) (ht:σ'.top=σ.top):∀{x:Ob R.T},dO ρ σ p x→dO ρ σ' p x
 |.cells cs,h=>by
  obtain⟨s,l,h1,h2,h3⟩:=h
  exact⟨s,l,h1,by unfold ah.bK at h2⊢;rw[hp];exact h2,by rw[ht];exact h3⟩
 |.map k e m,h=>by
  obtain⟨s,h1,h2⟩:=h
  exact⟨s,h1,by unfold ah.eX at h2⊢;rw[hp];exact h2⟩
 |.smap ks vs,h=>by
  obtain⟨s,k,l,h1,h2,h3,h4⟩:=h
  exact⟨s,k,l,h1,by unfold ah.eX at h2⊢;rw[hp];exact h2,by rw[ht];exact h3,by rw[ht];exact h4⟩
 |.arr t l,h=>by
  refine⟨h.1, ?_⟩
  rcases h.2 with h| ⟨s,cs,h1,h2,h3⟩
  ·exact .inl h
  ·exact .inr ⟨s,cs,h1,by unfold ah.bK at h2⊢;rw[hp];exact h2,vk l cs h3⟩
 |.sg ss,h=>by
  obtain⟨s,h1,h2⟩:=h
  exact⟨s,h1,by unfold ah.bK at h2⊢;rw[hp];exact h2⟩
 |.gone,_=>trivial
 |.ro b,h=>UK hp ht (x:=b) h
theorem aH.del (h:aH ρ b st fr σ) (o:Nat):aH ρ b (st.del o) fr (σ.j5 (ρ.om.lc o)) where
 d:=h.d
 om:=h.om
 fr:=h.fr
 ob:=fun p y hy=>by
  by_cases e:p=o
  ·subst e
   have:look (gN p st.ob) p=some y:=hy
   have key:∀l:List (Nat×Ob R.T),look (gN p l) p=none:=by
    intro l
    induction l with
    |nil=>rfl
    |cons q l ih=>
     obtain⟨j,x⟩:=q
     unfold gN
     cases hj:Nat.beq j p
     ·show (bif Nat.beq j p then some x else look (gN p l) p)=none
      rw[hj];exact ih
     ·exact ih
   rw[key] at this;cases this
  ·have hy':look (gN o st.ob) p=some y:=hy
   rw[oG e] at hy'
   exact UK (UJ σ e) rfl (h.ob p y hy')
 inj:=h.inj
 lt:=h.lt
 ge:=h.ge
 nx:=h.nx
theorem aH.set (h:aH ρ b st fr σ) (o s:Nat) {x:Ob R.T} {a:fV} (hx:dO ρ (σ.setObj (ρ.om.lc o) s a) o x):aH ρ b (st.set o x) fr (σ.setObj (ρ.om.lc o) s a) where
 d:=h.d
 om:=h.om
 fr:=h.fr
 ob:=fun p y hy=>by
  by_cases e:p=o
  ·subst e
   have hy':some x=some y:=by rw[←hy];exact(iY _ _ _).symm
   cases hy'
   exact hx
  ·have hy':look (gN o st.ob) p=some y:=by rw[←hy];exact(fP _ _ e).symm
   rw[oG e] at hy'
   exact UE e (h.ob p y hy')
 inj:=h.inj
 lt:=h.lt
 ge:=h.ge
 nx:=h.nx
theorem aH.wk (h:aH ρ b st fr σ) (t s n:Nat) {b':Nat} (hb:b≤b') (hs:s<b') (hl:ρ.om.lo≤s) (hf:∀u,u≠t→ρ.tk u≠some s):aH (ρ.fH t s) b' (st.wk t) fr (σ.bJ s n) where
 d:=h.d
 om:=h.om
 fr:=fun j y hy=>by
  have hy':look (kK (Aq.wk t) st.fr) j=some y:=hy
  rw[rU,Option.map_eq_some_iff] at hy'
  obtain⟨z,hz,rfl⟩:=hy'
  have hz':=h.fr j z hz
  have key:∀u s',u≠t→ρ.tk u=some s'→(ρ.fH t s).tk u=some s'∧(σ.bJ s n).top s'=σ.top s':=fun u s' hu hs'=>
   ⟨by simp[aL.fH,upd,hu,hs'],DW _ _ fun e=>hf u hu (by rw[hs',e])⟩
  cases z with
  |opt j' w y=>exact⟨fun hc=>Rl.wk (ρ:=ρ) (ρ':=ρ.fH t s) (top:=σ.top) (top':=(σ.bJ s n).top) t ⟨rfl,rfl,rfl⟩ key y _ (hz'.1 hc),hz'.2⟩
  |_=>exact gQ.of (Rl.wk (ρ:=ρ) (ρ':=ρ.fH t s) (top:=σ.top) (top':=(σ.bJ s n).top) t ⟨rfl,rfl,rfl⟩ key _ _ hz')
 ob:=fun p y hy=>by
  have hy':look (kK (Ob.wk t) st.ob) p=some y:=hy
  rw[rU,Option.map_eq_some_iff] at hy'
  obtain⟨z,hz,rfl⟩:=hy'
  have hz':=h.ob p z hz
  have key:∀u s',u≠t→ρ.tk u=some s'→(ρ.fH t s).tk u=some s'∧(σ.bJ s n).top s'=σ.top s':=fun u s' hu hs'=>
   ⟨by simp[aL.fH,upd,hu,hs'],DW _ _ fun e=>hf u hu (by rw[hs',e])⟩
  exact UF key hz'
 inj:=fun u v s' hu hv=>by
  by_cases e1:u=t<;>by_cases e2:v=t
  ·rw[e1,e2]
  ·simp[aL.fH,upd,e1] at hu;simp[aL.fH,upd,e2] at hv;exact absurd (hu▸hv) (hf v e2)
  ·simp[aL.fH,upd,e1] at hu;simp[aL.fH,upd,e2] at hv;exact absurd (hv▸hu) (hf u e1)
  ·simp[aL.fH,upd,e1] at hu;simp[aL.fH,upd,e2] at hv;exact h.inj u v s' hu hv
 lt:=fun u s' hu=>by
  by_cases e1:u=t
  ·simp[aL.fH,upd,e1] at hu;omega
  ·simp[aL.fH,upd,e1] at hu;exact Nat.lt_of_lt_of_le (h.lt u s' hu) hb
 ge:=fun u s' hu=>by
  by_cases e1:u=t
  ·simp[aL.fH,upd,e1] at hu;rw[←hu];exact hl
  ·simp[aL.fH,upd,e1] at hu;exact h.ge u s' hu
 nx:=Nat.le_trans h.nx hb
theorem UL {top:Nat→Nat} {x:TV R.T} {v:Value} (h:xU v=some x):∃y,iU v=some y∧Rl R ρ top x y:=by
 unfold xU at h
 split at h<;>cases h<;>exact⟨_,rfl,by unfold Rl;rfl⟩
theorem UM {top:Nat→Nat}:∀{vs:List Value} {l:List (TV R.T)},Am vs=some l→∃y,vs.mapM iU=some y∧aC R ρ top l y
 | [],l,h=>by cases h;exact⟨[],rfl,rfl⟩
 |v::vs,l,h=>by
  unfold Am at h
  cases h1:(xU v:Option (TV R.T)) with
  |none=>simp only[h1] at h;cases h
  |some a=>
   cases h2:(Am vs:Option (List (TV R.T))) with
   |none=>simp only[h1,h2] at h;cases h
   |some as=>
    simp only[h1,h2] at h;cases h
    obtain⟨y,hy,hr⟩:=UL (ρ:=ρ) (top:=top) h1
    obtain⟨ys,hys,hrs⟩:=UM h2
    exact⟨y::ys,by simp[hy,hys],.cons' hr hrs⟩
theorem UN {top:Nat→Nat} {x:TV R.T} {v:Value} (h:Ao v=some x):∃y,ofValue v=some y∧Rl R ρ top x y:=by
 unfold Ao at h
 split at h
 ·rename_i cs
  cases h2:(Am cs.toList:Option (List (TV R.T))) with
  |none=>simp only[h2] at h;cases h
  |some l=>
   simp only[h2] at h;cases h
   obtain⟨ys,hys,hrs⟩:=UM (ρ:=ρ) (top:=top) h2
   exact⟨.agg ys,by simp[ofValue,hys],by unfold Rl;exact⟨_,rfl,hrs⟩⟩
 ·obtain⟨y,hy,hr⟩:=UL (ρ:=ρ) (top:=top) h
  refine⟨y, ?_,hr⟩
  unfold xU at h
  split at h<;>first|exact hy|cases h
def nM (fr:Fr) (g:List (Nat×Bool)):Prop:=∀j u,look g j=some u→fr.tm j= .bool u
theorem nM.nil:nM fr []:=fun _ _ h=>by cases h
theorem nM.cons {g:List (Nat×Bool)} {j:Nat} {u:Bool} (h:fr.tm j= .bool u) (hg:nM fr g):nM fr ((j,u)::g):=fun i v hi=>by
 by_cases e:i=j
 ·subst e;rw[iY] at hi;cases hi;exact h
 ·rw[fP _ _ e] at hi;exact hg i v hi
theorem aei {fr:Fr} {top:Nat→Nat} {g:List (Nat×Bool)} (hg:nM fr g) {y x:TV R.T} {v:V} (hy:gQ fr ρ top y v) (he:Io g y=some x):Rl R ρ top x v:=by
 cases y with
 |opt j w z=>
  unfold Io at he
  dsimp only at he
  split at he
  ·rename_i u hu
   cases he
   have:=hg j u hu
   by_cases e:u=w
   ·subst e;rw[beq_self_eq_true];exact hy.1 this
   ·rw[show (u==w)=false by simpa using e]
    have e':u= !w:=by cases u<;>cases w<;>first|rfl|exact absurd rfl e
    unfold Rl;exact hy.2 (.inl (by rw[this,e']))
  ·cases he
 |_=>cases he;exact hy
theorem aV (h:aH ρ b st fr σ) {g:List (Nat×Bool)} (hg:nM fr g) {o:Operand} {x:TV R.T} (he:aZ g st o=some x):Rl R ρ σ.top x (fr.ev E o):=by
 cases o with
 |tmp t=>
  rw[Ac]
  unfold aZ at he
  dsimp only at he
  split at he
  ·rename_i v hv;exact aei hg (h.fr _ _ hv) he
  ·cases he
 |const v=>
  rw[TJ]
  obtain⟨y,hy,hr⟩:=UN (ρ:=ρ) (top:=σ.top) (show Ao v=some x from he)
  rw[hy];exact hr
 |func f=>cases he;rw[TK];unfold Rl;exact⟨[],[],rfl,rfl,rfl⟩
 |global i=>cases he
theorem uo (h:aH ρ b st fr σ) {g:List (Nat×Bool)} (hg:nM fr g):∀{l:List Operand} {xs:List (TV R.T)},l5 g st l=some xs→aC R ρ σ.top xs (l.map (fr.ev E))
 | [],xs,he=>by cases he;rfl
 |o::l,xs,he=>by
  unfold l5 at he
  cases h1:aZ g st o with
  |none=>simp only[h1] at he;cases he
  |some a=>
   cases h2:l5 g st l with
   |none=>simp only[h1,h2] at he;cases he
   |some as=>simp only[h1,h2] at he;cases he;exact .cons' (aV h hg h1) (uo h hg h2)
theorem Ow (h:aH ρ b st fr σ) {g:List (Nat×Bool)} (hg:nM fr g):∀{l:List (Nat×Operand)} {xs:List (Nat×TV R.T)},Ap g st l=some xs→xs.map (·.1)=l.map (·.1)∧aC R ρ σ.top (xs.map (·.2)) (l.map fun p=>fr.ev E p.2)
 | [],xs,he=>by cases he;exact⟨rfl,rfl⟩
 | (i,o)::l,xs,he=>by
   unfold Ap at he
   cases h1:aZ g st o with
   |none=>simp only[h1] at he;cases he
   |some a=>
    cases h2:Ap g st l with
    |none=>simp only[h1,h2] at he;cases he
    |some as=>
     simp only[h1,h2] at he;cases he
     obtain⟨e1,e2⟩:=Ow h hg h2
     exact⟨by simp[e1],.cons' (aV h hg h1) e2⟩
end
end Aq
end
section
namespace Aq
open Go
set_option linter.unusedSectionVars false
set_option linter.unusedVariables false
theorem aej {n m:Nat} {v:Vec n} {w:Vec m} (h:Ij v=some w):n=m∧HEq v w:=by
 unfold Ij at h
 split at h
 ·rename_i e;subst e;cases h;exact⟨rfl,HEq.rfl⟩
 ·cases h
theorem UO:∀{k:iX} {s:Sg} {x:Ai k},Aj k s=some x→DZ k x=s
 |.i k,.i k' y,x,h=>by
  have h':(if k'=k then some y else none)=some (x:Int):=h
  by_cases e:k'=k
  ·subst e;rw[if_pos rfl] at h';cases h';rfl
  ·rw[if_neg e] at h';cases h'
 |.a k n,.a k' n' v,x,h=>by
  have h':(if k'=k then Ij (m:=n) v else none)=some (x:Vec n):=h
  by_cases e:k'=k
  ·subst e;rw[if_pos rfl] at h'
   obtain⟨e1,e2⟩:=aej h'
   subst e1;cases e2;rfl
  ·rw[if_neg e] at h';cases h'
 |.i k,.a _ _ _,x,h=>by cases h
 |.a k n,.i _ _,x,h=>by cases h
theorem Jb:∀{l:List iX} {ss:List Sg} {x:xQ l},uV l ss=some x→sO l x=ss
 | [],ss,x,h=>by
   cases ss with
   |nil=>rfl
   |cons s ss=>cases h
 | [k],ss,x,h=>by
   cases ss with
   |nil=>cases h
   |cons s ss=>
    cases ss with
    |nil=>
     show [DZ k x]=[s]
     rw[UO (show Aj k s=some x from h)]
    |cons s' ss=>cases h
 |k::k'::l,ss,x,h=>by
  cases ss with
  |nil=>cases h
  |cons s ss=>
   have h':(match Aj k s with
    |some x=>match uV (k'::l) ss with
     |some p=>some (x,p)
     |none=>none
    |none=>none)=some x:=h
   cases hu:Aj k s with
   |none=>simp only[hu] at h';cases h'
   |some y=>
    cases hs:uV (k'::l) ss with
    |none=>simp only[hu,hs] at h';cases h'
    |some q=>
     simp only[hu,hs] at h'
     obtain rfl:=Option.some.inj h'
     show DZ k y::sO (k'::l) q=s::ss
     rw[UO hu,Jb hs]
section
variable {R:gM} (hR:mQ R)
variable {ρ:aL} {top:Nat→Nat} {b:Nat} {st:MS R.T} {fr:Fr} {σ:ah}
include hR
theorem yA {t:Ty} {x:Den R.T t} {tv:TV R.T} {v:V} (h:ou R t tv=some x) (hr:Rl R ρ top tv v):Rl R ρ top (wB R .any t x) v:=by
 cases t with
 |int k=>rw[Oi h hr];unfold Rl;rfl
 |bool=>rw[Oj h hr];unfold Rl;rfl
 |str=>rw[Ol h hr];unfold Rl;rfl
 |slice t=>obtain⟨c,hv⟩:=Uy h hr;rw[hv];unfold Rl;exact⟨c,rfl,trivial⟩
 |st n=>cases h
theorem UQ:∀(l:List Ty) (p:lY R.T l) (cs:List (TV R.T)) (vs:List V),wC R l cs=some p→aC R ρ top cs vs→aC R ρ top (ji R .any l p) vs
 | [],p,cs,vs,h,hr=>by
   cases cs with
   |nil=>rw[hr.eT];rfl
   |cons c cs=>cases h
 | [t],p,cs,vs,h,hr=>by
   have h':ou R t (hd1 R cs)=some p:=h
   cases cs with
   |nil=>cases t<;>cases h'
   |cons c cs=>
    cases cs with
    |nil=>
     obtain⟨v,l,rfl,h1,h2⟩:=hr.dB
     rw[h2.eT]
     exact .cons' (yA hR h' h1) rfl
    |cons c' cs=>cases t<;>cases h'
 |t::u::l,p,cs,vs,h,hr=>by
  cases cs with
  |nil=>cases h
  |cons c cs=>
   obtain⟨v,vs,rfl,h1,h2⟩:=hr.dB
   unfold wC at h
   cases hu:ou R t c with
   |none=>simp only[hu] at h;cases h
   |some y=>
    cases hs:wC R (u::l) cs with
    |none=>simp only[hu,hs] at h;cases h
    |some q=>
     simp only[hu,hs] at h
     obtain rfl:=Option.some.inj h
     exact .cons' (yA hR hu h1) (UQ (u::l) q cs vs hs h2)
theorem Es {t:Ty} {x:Den R.T t} {tv:TV R.T} {v:V} (h:nD R t tv=some x) (hr:Rl R ρ top tv v):Rl R ρ top (eZ R .any t x) v:=by
 cases t with
 |st n=>
  change xS R n tv=some x at h
  unfold xS at h
  split at h
  ·rename_i cs
   split at h
   ·rename_i p hp
    obtain rfl:=Option.some.inj h
    obtain⟨l,hv,hl⟩:=hr.jN
    subst hv
    show Rl R ρ top (.agg (ji R .any (R.lf n) (R.of n (R.to n p)))) _
    rw[hR.En]
    unfold Rl;exact⟨l,rfl,UQ hR _ _ _ _ hp hl⟩
   ·cases h
  ·cases h
 |int k=>exact yA hR (t:=.int k) h hr
 |bool=>exact yA hR (t:=.bool) h hr
 |str=>exact yA hR (t:=.str) h hr
 |slice t=>exact yA hR (t:=.slice t) h hr
omit hR in
theorem UR {sz n:Nat} {c c':Cp} {x:Cap} (h:Av c c'=true) (hx:Bh ρ top sz n c x):Bh ρ top sz n c' x:=by
 cases c<;>cases c'<;>simp only[Av,Bool.false_eq_true] at h<;>first|trivial|exact hx|exact .inl hx|exact .inr (.inl hx)| (rw[←dG h];exact hx)
omit hR in
theorem Ox {k e k' e':Ty} {m:List (Den R.T k'×Den R.T e')} {x:List (Den R.T k×Den R.T e)} (h:Aw R m=some x):k'=k∧e'=e∧HEq m x:=by
 unfold Aw at h
 split at h
 ·rename_i e;obtain⟨rfl,rfl⟩:=e;cases h;exact⟨rfl,rfl,HEq.rfl⟩
 ·cases h
omit hR in
theorem UU {c:Cp} {t:Ty} {x:List (Den R.T t)} {tv:TV R.T} {v:V} (h:Ir R c t tv=some x) (hr:Rl R ρ top tv v):Rl R ρ top (.aj c t x) v:=by
 unfold Ir at h
 split at h
 ·rename_i c' t' l
  cases hc:Av c' c
  ·rw[hc] at h;cases h
  ·rw[hc,cond_true] at h
   obtain⟨e,e2⟩:=pO h;subst e;cases e2
   obtain⟨c'',hv,hcc⟩:=hr.jO
   unfold Rl;exact⟨c'',hv,UR hc hcc⟩
 ·cases hc:Av .nil c
  ·rw[hc] at h;cases h
  ·rw[hc,cond_true] at h;cases h
   unfold Rl;exact⟨.nil,hr.nK,UR hc rfl⟩
 ·cases h
mutual
theorem Oy:∀(k:Sk) (x:pE R.T k) (tv:TV R.T) (v:V),pk R k tv=some x→Rl R ρ top tv v→Rl R ρ top (up R .any k x) v
 |.d t,x,tv,v,h,hr=>Es hR (by unfold pk at h;exact h) hr
 |.l c t,x,tv,v,h,hr=>UU (by unfold pk at h;exact h) hr
 |.agg l,x,tv,v,h,hr=>by
  cases tv<;>first| (exact absurd (show none=some x from h) (by simp))|skip
  rename_i cs
  obtain⟨vs,rfl,hl⟩:=hr.jN
  show Rl R ρ top (.agg (iC R .any l x)) _
  unfold Rl;exact⟨vs,rfl,yB l x cs vs h hl⟩
 |.ref o off,x,tv,v,h,hr=>by
  cases tv<;>first| (exact absurd (show none=some x from h) (by simp))|skip
  rename_i p off'
  have h':(bif Nat.beq p o&& Nat.beq off' off then some () else none)=some x:=h
  cases hb:(Nat.beq p o&& Nat.beq off' off)
  ·rw[hb] at h';cases h'
  ·rw[Bool.and_eq_true] at hb
   rw[dG hb.1,dG hb.2] at hr
   exact hr
 |.aK l off,x,tv,v,h,hr=>by
  cases tv<;>first| (exact absurd (show none=some x from h) (by simp))|skip
  rename_i cs off'
  have h':(bif Nat.beq off' off then fF R l cs else none)=some x:=h
  cases hb:Nat.beq off' off
  ·rw[hb] at h';cases h'
  ·rw[hb,cond_true] at h'
   rw[dG hb] at hr
   obtain⟨vs,rfl,hl⟩:=hr.sW
   show Rl R ρ top (.aK (iC R .any l x) off) _
   unfold Rl;exact⟨vs,rfl,yB l x _ vs h' hl⟩
 |.bD o,x,tv,v,h,hr=>by
  cases tv<;>first| (exact absurd (show none=some x from h) (by simp))|skip
  rename_i p
  have h':(bif Nat.beq p o then some () else none)=some x:=h
  cases hb:Nat.beq p o
  ·rw[hb] at h';cases h'
  ·rw[dG hb] at hr
   exact hr
 |.bV k e,x,tv,v,h,hr=>by
  cases tv<;>first| (exact absurd (show none=some x from h) (by simp))|skip
  rename_i k' e' m
  obtain⟨e1,e2,e3⟩:=Ox (show Aw R m=some x from h)
  subst e1;subst e2;cases e3
  exact hr
 |.fn f a b,x,tv,v,h,hr=>by
  cases tv<;>first| (exact absurd (show none=some x from h) (by simp))|skip
  rename_i f' a' b'
  have h':(bif Nat.beq f' f then (match fF R a a' with
   |some x=>match fF R b b' with
    |some y=>some (x,y)
    |none=>none
   |none=>none) else none)=some x:=h
  cases hb:Nat.beq f' f
  ·rw[hb] at h';cases h'
  ·rw[hb,cond_true] at h'
   rw[dG hb] at hr
   obtain⟨va,vb,rfl,ha,hbb⟩:=hr.lN
   cases h1:fF R a a' with
   |none=>simp only[h1] at h';cases h'
   |some y=>
    cases h2:fF R b b' with
    |none=>simp only[h1,h2] at h';cases h'
    |some z=>
     simp only[h1,h2] at h';cases h'
     show Rl R ρ top (.fn f (iC R .any a y) (iC R .any b z)) _
     unfold Rl;exact⟨va,vb,rfl,yB a y _ va h1 ha,yB b z _ vb h2 hbb⟩
 |.dN,x,tv,v,h,hr=>by
  cases tv<;>first| (exact absurd (show none=some x from h) (by simp))|skip
  exact hr
 |.vw o t,x,tv,v,h,hr=>by
  cases tv<;>first| (exact absurd (show none=some x from h) (by simp))|skip
  rename_i p t'
  have h':(bif Nat.beq p o then (if t'=t then some () else none) else none)=some x:=h
  cases hb:Nat.beq p o
  ·rw[hb] at h';cases h'
  ·rw[hb,cond_true] at h'
   split at h'
   ·rename_i e
    rw[dG hb,e] at hr
    exact hr
   ·cases h'
 |.sg l,x,tv,v,h,hr=>by
  cases tv<;>first| (exact absurd (show none=some x from h) (by simp))|skip
  rename_i ss
  show Rl R ρ top (.sg (sO l x)) v
  rw[Jb (show uV l ss=some x from h)]
  exact hr
 |.undef,x,tv,v,h,hr=>by
  cases tv<;>first| (exact absurd (show none=some x from h) (by simp))|skip
  exact hr
theorem yB:∀(l:List Sk) (x:aJ R.T l) (cs:List (TV R.T)) (vs:List V),fF R l cs=some x→aC R ρ top cs vs→aC R ρ top (iC R .any l x) vs
 | [],x,cs,vs,h,hr=>by
   cases cs with
   |nil=>rw[hr.eT];rfl
   |cons c cs=>exact absurd (show none=some x from h) (by simp)
 | [k],x,cs,vs,h,hr=>by
   cases cs with
   |nil=>exact absurd (show none=some x from h) (by simp)
   |cons c cs=>
    cases cs with
    |nil=>
     obtain⟨v,l,rfl,h1,h2⟩:=hr.dB
     rw[h2.eT]
     show aC R ρ top [up R .any k x] _
     exact .cons' (Oy k x _ v h h1) rfl
    |cons c' cs=>exact absurd (show none=some x from h) (by simp)
 |k::k'::l,x,cs,vs,h,hr=>by
  cases cs with
  |nil=>exact absurd (show none=some x from h) (by simp)
  |cons c cs=>
   have h':(match pk R k c with
    |some x=>match fF R (k'::l) cs with
     |some p=>some (x,p)
     |none=>none
    |none=>none)=some x:=h
   obtain⟨v,vs,rfl,h1,h2⟩:=hr.dB
   cases hu:pk R k c with
   |none=>simp only[hu] at h';cases h'
   |some y=>
    cases hs:fF R (k'::l) cs with
    |none=>simp only[hu,hs] at h';cases h'
    |some q=>
     simp only[hu,hs] at h'
     obtain rfl:=Option.some.inj h'
     show aC R ρ top (up R .any k y::iC R .any (k'::l) q) _
     exact .cons' (Oy k y _ v hu h1) (yB (k'::l) q _ vs hs h2)
end
omit hR in
theorem aek {k:Sk} {j:Nat} {w:Bool} {y:TV R.T} {x:pE R.T k} (h:pk R k (.opt j w y)=some x):False:=by
 cases k with
 |d t=>cases t<;>(unfold pk at h;cases h)
 |_=>unfold pk at h;cases h
theorem gQ.pk {k:Sk} {x:pE R.T k} {tv:TV R.T} {v:V} (h:pk R k tv=some x) (hr:gQ fr ρ top tv v):Rl R ρ top (up R .any k x) v:=by
 cases tv<;>first|exact Oy hR _ _ _ _ h hr|exact(aek h).elim
theorem Oz (h:aH ρ b st fr σ):∀(l:List (Nat×Sk)) (x:xR R.T l),pI R st.fr l=some x→∀i v,look (D8 R l x) i=some v→Rl R ρ σ.top v (fr.tm i)
 | [],x,hx,i,v,hv=>by cases hv
 | [(j,k)],x,hx,i,v,hv=>by
   unfold pI at hx
   split at hx
   ·rename_i y hy
    by_cases e:i=j
    ·subst e
     have hv':look [(i,up R .any k x)] i=some v:=hv
     rw[iY] at hv';cases hv'
     exact gQ.pk hR hx (h.fr _ _ hy)
    ·have hv':look [(j,up R .any k x)] i=some v:=hv
     rw[fP _ _ e] at hv';cases hv'
   ·cases hx
 | (j,k)::q::l,x,hx,i,v,hv=>by
   unfold pI at hx
   split at hx
   ·rename_i y hy
    cases hu:pk R k y with
    |none=>simp only[hu] at hx;cases hx
    |some z=>
     cases hs:pI R st.fr (q::l) with
     |none=>simp only[hu,hs] at hx;cases hx
     |some p=>
      simp only[hu,hs] at hx
      obtain rfl:=Option.some.inj hx
      have hv':look ((j,up R .any k z)::D8 R (q::l) p) i=some v:=hv
      by_cases e:i=j
      ·subst e
       rw[iY] at hv';cases hv'
       exact gQ.pk hR hu (h.fr _ _ hy)
      ·rw[fP _ _ e] at hv'
       exact Oz h (q::l) p hs i v hv'
   ·cases hx
theorem OA {o:Nat} {k:jY} {x:wz R.T k} {y:Ob R.T} (hx:wH R k y=some x) (hy:dO ρ σ o y):dO ρ σ o (ku R k x):=by
 cases k with
 |cells l=>
  cases y with
  |cells cs=>
   obtain⟨s,vs,h1,h2,h3⟩:=hy
   exact⟨s,vs,h1,h2,yB hR l x _ vs hx h3⟩
  |map k e m=>cases hx
  |smap _ _=>cases hx
  |arr _ _=>cases hx
  |sg _=>cases hx
  |gone=>cases hx
  |ro b=>cases hx
 |st n=>
  cases y with
  |cells cs=>
   obtain⟨s,vs,h1,h2,h3⟩:=hy
   obtain⟨l,e,hl⟩:=(Es hR (t:=.st n) (show nD R (.st n) (.agg cs)=some x from hx) (v:=.agg vs) ⟨vs,rfl,h3⟩).jN
   cases e
   exact⟨s,vs,h1,h2,hl⟩
  |map k e m=>cases hx
  |smap _ _=>cases hx
  |arr _ _=>cases hx
  |sg _=>cases hx
  |gone=>cases hx
  |ro b=>cases hx
 |arr t=>
  cases y with
  |arr t' l=>
   obtain⟨e,e2⟩:=pO hx
   subst e;cases e2
   exact hy
  |cells cs=>cases hx
  |map _ _ _=>cases hx
  |smap _ _=>cases hx
  |sg _=>cases hx
  |gone=>cases hx
  |ro b=>cases hx
 |sg l=>
  cases y with
  |sg ss=>
   show dO ρ σ o (.sg (sO l x))
   rw[Jb (show uV l ss=some x from hx)]
   exact hy
  |cells cs=>cases hx
  |map _ _ _=>cases hx
  |smap _ _=>cases hx
  |arr _ _=>cases hx
  |gone=>cases hx
  |ro b=>cases hx
 |map k e=>
  cases y with
  |map k' e' m=>
   obtain⟨e1,e2,e3⟩:=Ox hx
   subst e1;subst e2;cases e3
   exact hy
  |cells cs=>cases hx
  |smap _ _=>cases hx
  |arr _ _=>cases hx
  |sg _=>cases hx
  |gone=>cases hx
  |ro b=>cases hx
theorem UW (h:aH ρ b st fr σ):∀(l:List (Nat×jY)) (x:nC R.T l),lJ R st.ob l=some x→∀i v,look (kC R l x) i=some v→dO ρ σ i v
 | [],x,hx,i,v,hv=>by cases hv
 | [(j,k)],x,hx,i,v,hv=>by
   unfold lJ at hx
   split at hx
   ·rename_i y hy
    by_cases e:i=j
    ·subst e
     have hv':look [(i,ku R k x)] i=some v:=hv
     rw[iY] at hv';cases hv'
     exact OA hR hx (h.ob _ _ hy)
    ·have hv':look [(j,ku R k x)] i=some v:=hv
     rw[fP _ _ e] at hv';cases hv'
   ·cases hx
 | (j,k)::q::l,x,hx,i,v,hv=>by
   unfold lJ at hx
   split at hx
   ·rename_i y hy
    cases hu:wH R k y with
    |none=>simp only[hu] at hx;cases hx
    |some z=>
     cases hs:lJ R st.ob (q::l) with
     |none=>simp only[hu,hs] at hx;cases hx
     |some p=>
      simp only[hu,hs] at hx
      obtain rfl:=Option.some.inj hx
      have hv':look ((j,ku R k z)::kC R (q::l) p) i=some v:=hv
      by_cases e:i=j
      ·subst e
       rw[iY] at hv';cases hv'
       exact OA hR hu (h.ob _ _ hy)
      ·rw[fP _ _ e] at hv'
       exact UW h (q::l) p hs i v hv'
   ·cases hx
theorem aH.pack (h:aH ρ b st fr σ) {s:Shape} {p:oq R.T s} (hp:pack R st s=some p):aH ρ b (unpack R s p) fr σ:=by
 obtain⟨sl,ob⟩:=s
 cases ob with
 |nil=>
  have hp':pI R st.fr sl=some p:=hp
  exact {h with fr:=fun i v hv=>.of (Oz hR h sl p hp' i v hv),ob:=fun i v hv=>by cases hv}
 |cons o os=>
  unfold Aq.pack at hp
  cases hu:pI R st.fr sl with
  |none=>simp only[hu] at hp;cases hp
  |some x=>
   cases hs:lJ R st.ob (o::os) with
   |none=>simp only[hu,hs] at hp;cases hp
   |some y=>
    simp only[hu,hs] at hp
    obtain rfl:=Option.some.inj hp
    exact {h with fr:=fun i v hv=>.of (Oz hR h sl x hu i v hv),ob:=fun i v hv=>UW hR h (o::os) y hs i v hv}
omit hR in
theorem UY {e x:Ex} (h:xW e x=true):e=x:=by
 cases e<;>cases x<;>simp only[xW,Bool.false_eq_true] at h<;>first|rfl|rw[dG h]
omit hR in
def RO (st:MS R.T) (o:Nat):Prop:=∀x,look st.ob o=some x→nE x=true
omit hR in
theorem OB {k:jY} {x:wz R.T k} {y:Ob R.T} (hx:wH R k y=some x) (hy:nE y=true):False:=by
 cases y with
 |cells _=>cases hy
 |map _ _ _=>cases hy
 |smap _ _=>cases hy
 |arr _ _=>cases hy
 |sg _=>cases hy
 |gone=>cases k<;>cases hx
 |ro b=>cases k<;>cases hx
omit hR in
theorem UZ {i:Nat} (hr:RO st i):∀(l:List (Nat×jY)) (x:nC R.T l),lJ R st.ob l=some x→look (kC R l x) i=none
 | [],x,hx=>rfl
 | [(j,k)],x,hx=>by
   unfold lJ at hx
   split at hx
   ·rename_i y hy
    by_cases e:i=j
    ·subst e;exact(OB hx (hr _ hy)).elim
    ·show look [(j,ku R k x)] i=none
     rw[fP _ _ e];rfl
   ·cases hx
 | (j,k)::q::l,x,hx=>by
   unfold lJ at hx
   split at hx
   ·rename_i y hy
    cases hu:wH R k y with
    |none=>simp only[hu] at hx;cases hx
    |some z=>
     cases hs:lJ R st.ob (q::l) with
     |none=>simp only[hu,hs] at hx;cases hx
     |some p=>
      simp only[hu,hs] at hx
      obtain rfl:=Option.some.inj hx
      show look ((j,ku R k z)::kC R (q::l) p) i=none
      by_cases e:i=j
      ·subst e;exact(OB hu (hr _ hy)).elim
      ·rw[fP _ _ e];exact UZ hr (q::l) p hs
   ·cases hx
omit hR in
theorem ael {s:Shape} {p:oq R.T s} {i:Nat} (hp:Aq.pack R st s=some p) (hr:RO st i):look (unpack R s p).ob i=none:=by
 obtain⟨sl,ob⟩:=s
 cases ob with
 |nil=>rfl
 |cons o os=>
  unfold Aq.pack at hp
  cases hu:pI R st.fr sl with
  |none=>simp only[hu] at hp;cases hp
  |some x=>
   cases hs:lJ R st.ob (o::os) with
   |none=>simp only[hu,hs] at hp;cases hp
   |some y=>
    simp only[hu,hs] at hp
    obtain rfl:=Option.some.inj hp
    exact UZ hr (o::os) y hs
omit hR
theorem vo {α:Type}:∀(l m:List (Nat×α)) (i:Nat),look (l++m) i=match look l i with|some x=>some x|none=>look m i
 | [],m,i=>rfl
 | (j,x)::l,m,i=>by
   show (bif Nat.beq j i then some x else look (l++m) i)=match (bif Nat.beq j i then some x else look l i) with|some x=>some x|none=>look m i
   cases Nat.beq j i
   ·exact vo l m i
   ·rfl
theorem aH.over {st':MS R.T} (h:aH ρ b st fr σ) (h':aH ρ b st' fr σ):aH ρ b (st.over st') fr σ:={h with
 fr:=fun i v hv=>by
  have hv':look (st.fr++st'.fr) i=some v:=hv
  rw[vo] at hv'
  split at hv'
  ·rename_i x hx;cases hv';exact h.fr _ _ hx
  ·exact h'.fr _ _ hv'
 ob:=fun i v hv=>by
  have hv':look (st.ob++st'.ob) i=some v:=hv
  rw[vo] at hv'
  split at hv'
  ·rename_i x hx;cases hv';exact h.ob _ _ hx
  ·exact h'.ob _ _ hv'}
theorem vB {α:Type} {p:Nat→α→Bool} {f:α→α} {l:List (Nat×α)}:∀{is:List Nat} {i:Nat} {y:α},look (lZ p f l is) i=some y→∃x,look l i=some x∧p i x=true∧y=f x
 | [],i,y,h=>by cases h
 |j::is,i,y,h=>by
  unfold lZ at h
  split at h
  ·rename_i x hx
   cases hp:p j x
   ·rw[hp] at h;exact vB h
   ·rw[hp,cond_true] at h
    by_cases e:i=j
    ·subst e;rw[iY] at h;cases h;exact⟨x,hx,hp,rfl⟩
    ·rw[fP _ _ e] at h;exact vB h
  ·exact vB h
mutual
theorem Rl.solid {ρ':aL} {top':Nat→Nat} {W:List Nat} (ho:∀o,aP o W=false→ρ'.ob o=ρ.ob o∧ρ'.ln o=ρ.ln o) (hx:ρ'.om=ρ.om):∀(x:TV R.T) (v:V),Aq.solid W x=true→Rl R ρ top x v→Rl R ρ' top' x v
 |.aj c t l,v,hs,h=>by
  obtain⟨c',hv,hc⟩:=h
  refine⟨c',hv, ?_⟩
  cases c<;>first|exact hc| (simp[Aq.solid] at hs;done)
 |.ref o off,v,hs,h=>by
  obtain⟨s,h1,h2⟩:=h
  unfold Aq.solid at hs
  exact⟨s,by rw[(ho o (by simpa using hs)).1];exact h1,by rw[hx];exact h2⟩
 |.bD o,v,hs,h=>by
  obtain⟨s,h1,h2⟩:=h
  unfold Aq.solid at hs
  exact⟨s,by rw[(ho o (by simpa using hs)).1];exact h1,by rw[hx];exact h2⟩
 |.vw o t,v,hs,h=>by
  unfold Aq.solid at hs
  obtain⟨k1,k2⟩:=ho o (by simpa using hs)
  rcases h with ⟨s,h1,h2⟩| ⟨h1,h2⟩
  ·exact .inl ⟨s,by rw[k1];exact h1,by rw[k2,hx];exact h2⟩
  ·exact .inr ⟨by rw[k2];exact h1,h2⟩
 |.jB o t i off,v,hs,h=>by
  obtain⟨s,h1,h2⟩:=h
  unfold Aq.solid at hs
  exact⟨s,by rw[(ho o (by simpa using hs)).1];exact h1,by rw[hx];exact h2⟩
 |.sv o _ _ _ _ _,v,hs,h=>by
  obtain⟨s,h1,h2⟩:=h
  unfold Aq.solid at hs
  exact⟨s,by rw[(ho o (by simpa using hs)).1];exact h1,by rw[hx];exact h2⟩
 |.sel o _ _ _ _ _,v,hs,h=>by
  obtain⟨s,h1,h2⟩:=h
  unfold Aq.solid at hs
  exact⟨s,by rw[(ho o (by simpa using hs)).1];exact h1,by rw[hx];exact h2⟩
 |.sg _,_,_,h=>h
 |.pz _ _ _ _,_,_,h=>h
 |.agg cs,v,hs,h=>by obtain⟨l,hv,hl⟩:=h;exact⟨l,hv,aC.solid ho hx cs l (by unfold Aq.solid at hs;exact hs) hl⟩
 |.bg cs,v,hs,h=>by obtain⟨l,hv,hl⟩:=h;exact⟨l,hv,aC.solid ho hx cs l (by unfold Aq.solid at hs;exact hs) hl⟩
 |.aK cs off,v,hs,h=>by obtain⟨l,hv,hl⟩:=h;exact⟨l,hv,aC.solid ho hx cs l (by unfold Aq.solid at hs;exact hs) hl⟩
 |.fn f a b,v,hs,h=>by
  obtain⟨a',b',hv,ha,hb⟩:=h
  unfold Aq.solid at hs
  rw[Bool.and_eq_true] at hs
  exact⟨a',b',hv,aC.solid ho hx a a' hs.1 ha,aC.solid ho hx b b' hs.2 hb⟩
 |.opt _ _ _,_,_,h=>h.elim
 |.int _ _,_,_,h=>h
 |.bool _,_,_,h=>h
 |.gy _,_,_,h=>h
 |.str _,_,_,h=>h
 |.eH,_,_,h=>h
 |.eB,_,_,h=>h
 |.dU,_,_,h=>h
 |.fM,_,_,h=>h
 |.dN,_,_,h=>h
 |.bV _ _ _,_,_,h=>h
 |.undef,_,_,h=>h
 |.gone,_,_,h=>trivial
theorem aC.solid {ρ':aL} {top':Nat→Nat} {W:List Nat} (ho:∀o,aP o W=false→ρ'.ob o=ρ.ob o∧ρ'.ln o=ρ.ln o) (hx:ρ'.om=ρ.om):∀(x:List (TV R.T)) (v:List V),pG W x=true→aC R ρ top x v→aC R ρ' top' x v
 | [],_,_,h=>h
 |x::xs,_,hs,⟨v,vs,e,h1,h2⟩=>by
  unfold pG at hs
  rw[Bool.and_eq_true] at hs
  exact⟨v,vs,e,Rl.solid ho hx x v hs.1 h1,aC.solid ho hx xs vs hs.2 h2⟩
end
theorem aem {x:TV R.T} {v:V} (h:gQ fr ρ top x v):gQ fr ρ top (NH x) v:=by
 cases x with
 |aj c t l=>
  cases c with
  |own u=>obtain⟨c',hv,_⟩:=Rl.jO (show Rl R ρ top (.aj (.own u) t l) v from h);exact .of (x:=.aj .any t l) (by unfold Rl;exact⟨c',hv,trivial⟩)
  |_=>exact h
 |_=>exact h
theorem aen {W:List Nat} {x:TV R.T} {v:V} (hs:Aq.solid W x=true) (h:gQ fr ρ top x v):Rl R ρ top x v:=by
 cases x<;>first|exact h| (simp[Aq.solid] at hs;done)
structure aT (nr:Bool) (o:Nat) (st:MS R.T) (ρ:aL) (σ:ah) (st':MS R.T) (ρ':aL) (σ':ah):Prop where
 ob:ρ'.ob o=ρ.ob o
 ln:ρ'.ln o=ρ.ln o
 om:ρ'.om=ρ.om
 nx:σ.next≤σ'.next
 lp:(∀l,l<σ.next→σ'.loops l=σ.loops l)∧∀s,s<ρ.om.lo→σ'.top s=σ.top s
 dp:∀L,nr=true∨L.1≤ρ.om.dp→ρ.om.out L→σ'.obj L=σ.obj L
 ro:RO st o→RO st' o∧∀s,σ'.bK (ρ.om.lc o) s=σ.bK (ρ.om.lc o) s∧σ'.eX (ρ.om.lc o) s=σ.eX (ρ.om.lc o) s
structure Kp (nr:Bool) (W:List Nat) (st:MS R.T) (fr:Fr) (σ:ah) (ρ:aL) (st':MS R.T) (fr':Fr) (σ':ah) (ρ':aL):Prop where
 fr:∀i,aP i W=false→fr'.tm i=fr.tm i
 ob:∀o,aP o W=false→aT nr o st ρ σ st' ρ' σ'
section
variable {nr:Bool}
theorem OC {c:Cx} {o s:Nat} {x:fV} {L:Loc} (h:c.out L):(σ.setObj (c.lc o) s x).obj L=σ.obj L:=by
 unfold ah.setObj upd
 dsimp only
 rw[if_neg (h o)]
theorem aeo {c:Cx} {o:Nat} {L:Loc} (h:c.out L):(σ.j5 (c.lc o)).obj L=σ.obj L:=by
 unfold ah.j5 upd
 dsimp only
 rw[if_neg (h o)]
theorem Cx.U0 (c:Cx) {L:Loc} (h:c.dp<L.1):c.out L:=fun o e=>by
 have:=c.Bg o
 rw[←e] at this
 omega
theorem aT.refl {o:Nat}:aT nr o st ρ σ st ρ σ:=⟨rfl,rfl,rfl,Nat.le_refl _,⟨fun _ _=>rfl,fun _ _=>rfl⟩,fun _ _ _=>rfl,fun h=>⟨h,fun _=>⟨rfl,rfl⟩⟩⟩
theorem aT.trans {o:Nat} {st' fI:MS R.T} {ρ' nN:aL} {σ' j4:ah} (h:aT nr o st ρ σ st' ρ' σ') (g:aT nr o st' ρ' σ' fI nN j4):aT nr o st ρ σ fI nN j4:=
 ⟨g.ob.trans h.ob,g.ln.trans h.ln,g.om.trans h.om,Nat.le_trans h.nx g.nx,⟨fun l hl=>(g.lp.1 l (Nat.lt_of_lt_of_le hl h.nx)).trans (h.lp.1 l hl),fun s hs=>(g.lp.2 s (by rw[h.om];exact hs)).trans (h.lp.2 s hs)⟩,fun L hn hL=>(g.dp L (by rw[h.om];exact hn) (by rw[h.om];exact hL)).trans (h.dp L hn hL),fun hr=>by
   have g':=fun hr=>g.ro hr
   rw[h.om] at g'
   exact⟨(g' (h.ro hr).1).1,fun s=>⟨((g' (h.ro hr).1).2 s).1.trans ((h.ro hr).2 s).1,((g' (h.ro hr).1).2 s).2.trans ((h.ro hr).2 s).2⟩⟩⟩
theorem Kp.refl {W:List Nat}:Kp nr W st fr σ ρ st fr σ ρ:=⟨fun _ _=>rfl,fun _ _=>.refl⟩
theorem Kp.trans {W:List Nat} {st' fI:MS R.T} {fr' vC:Fr} {ρ' nN:aL} {σ' j4:ah} (h:Kp nr W st fr σ ρ st' fr' σ' ρ') (g:Kp nr W st' fr' σ' ρ' fI vC j4 nN):Kp nr W st fr σ ρ fI vC j4 nN:=
 ⟨fun i hi=>(g.fr i hi).trans (h.fr i hi),fun o ho=>(h.ob o ho).trans (g.ob o ho)⟩
theorem Kp.mono {W W':List Nat} {st':MS R.T} {fr':Fr} {ρ':aL} {σ':ah} (h:Kp nr W st fr σ ρ st' fr' σ' ρ') (hw:∀i,aP i W'=false→aP i W=false):Kp nr W' st fr σ ρ st' fr' σ' ρ':=
 ⟨fun i hi=>h.fr i (hw i hi),fun o ho=>h.ob o (hw o ho)⟩
theorem Et:∀(i:Nat) (l m:List Nat),aP i (l++m)=(aP i l||aP i m)
 |i,[],m=>rfl
 |i,j::l,m=>by show (Nat.beq i j||aP i (l++m))=_;rw[Et i l m,←Bool.or_assoc];rfl
theorem U1 {o:Nat} {ρ':aL} {σ':ah} {W:List Nat} (ho:∀o,aP o W=false→ρ'.ob o=ρ.ob o∧ρ'.ln o=ρ.ln o) (hx:ρ'.om=ρ.om) (hm:aP o W=false) (hc:∀s,σ'.bK (ρ.om.lc o) s=σ.bK (ρ.om.lc o) s∧σ'.eX (ρ.om.lc o) s=σ.eX (ρ.om.lc o) s):∀{x:Ob R.T},lI W x=true→dO ρ σ o x→dO ρ' σ' o x
 |.cells cs,hs,h=>by
  obtain⟨s,l,h1,h2,h3⟩:=h
  exact⟨s,l,by rw[(ho o hm).1];exact h1,by rw[hx,(hc s).1];exact h2,aC.solid ho hx cs l hs h3⟩
 |.map k e m,_,h=>by obtain⟨s,h1,h2⟩:=h;exact⟨s,by rw[(ho o hm).1];exact h1,by rw[hx,(hc s).2];exact h2⟩
 |.smap ks vs,hs,h=>by
  obtain⟨s,k,l,h1,h2,h3,h4⟩:=h
  have hs':(pG W ks&& pG W vs)=true:=hs
  rw[Bool.and_eq_true] at hs'
  exact⟨s,k,l,by rw[(ho o hm).1];exact h1,by rw[hx,(hc s).2];exact h2,aC.solid ho hx ks k hs'.1 h3,aC.solid ho hx vs l hs'.2 h4⟩
 |.arr t l,_,h=>by
  refine⟨h.1.trans (ho o hm).2.symm, ?_⟩
  rcases h.2 with h| ⟨s,cs,h1,h2,h3⟩
  ·exact .inl ⟨h.1,(ho o hm).1.trans h.2⟩
  ·exact .inr ⟨s,cs,by rw[(ho o hm).1];exact h1,by rw[hx,(hc s).1];exact h2,vk l cs h3⟩
 |.sg ss,_,h=>by obtain⟨s,h1,h2⟩:=h;exact⟨s,by rw[(ho o hm).1];exact h1,by rw[hx,(hc s).1];exact h2⟩
 |.gone,_,_=>trivial
 |.ro b,hs,h=>U1 ho hx hm hc (x:=b) hs h
theorem Bt:∀W:List Nat,∃n,∀m,n≤m→aP m W=false
 | []=>⟨0,fun _ _=>rfl⟩
 |i::W=>by
  obtain⟨n,hn⟩:=Bt W
  refine⟨n+i+1,fun m hm=> ?_⟩
  show (Nat.beq m i||aP m W)=false
  rw[Ja (by omega),hn m (by omega)];rfl
theorem Kp.om {W:List Nat} {st':MS R.T} {fr':Fr} {ρ':aL} {σ':ah} (h:Kp nr W st fr σ ρ st' fr' σ' ρ'):ρ'.om=ρ.om:=by
 obtain⟨n,hn⟩:=Bt W
 exact(h.ob n (hn n (Nat.le_refl _))).om
theorem aH.base {W K O:List Nat} {mark:Ob R.T→Ob R.T} (hmark:∀ρ σ o x,dO ρ σ o x→dO (R:=R) ρ σ o (mark x)) {st0 st' fI:MS R.T} {fr':Fr} {ρ':aL} {σ':ah} {b':Nat} (h:aH ρ b st fr σ) (hk:Kp nr W st0 fr σ ρ st' fr' σ' ρ') (h':aH ρ' b' fI fr' σ')
 (hro:∀o x,look st.ob o=some x→aP o W=false→aP o O=true→lI W x=true→RO st0 o):aH ρ' b' (Aq.base W K O mark st) fr' σ':={h' with
 fr:=fun i v hv=>by
  obtain⟨x,h1,h2,rfl⟩:=vB hv
  rw[Bool.and_eq_true,Bool.not_eq_true'] at h2
  have:=aen h2.2 (aem (h.fr _ _ h1))
  rw[hk.fr i h2.1]
  exact .of (Rl.solid (fun o ho=>⟨(hk.ob o ho).ob,(hk.ob o ho).ln⟩) hk.om _ _ h2.2 this)
 ob:=fun o y hy=>by
  have hO:aP o O=true:=by
   have:∀{is:List Nat} {y:Ob R.T},look (lZ (fun o b=> !(aP o W)&& lI W b) mark st.ob is) o=some y→aP o is=true:=by
    intro is
    induction is with
    |nil=>intro y h;cases h
    |cons j is ih=>
     intro y h
     show (Nat.beq o j||aP o is)=true
     unfold lZ at h
     by_cases e:o=j
     ·subst e;rw[Nat.beq_refl];rfl
     ·split at h
      ·rename_i x hx
       cases hp:(!(aP j W)&& lI W x)
       ·rw[hp] at h;rw[ih h,Bool.or_true]
       ·rw[hp,cond_true,fP _ _ e] at h;rw[ih h,Bool.or_true]
      ·rw[ih h,Bool.or_true]
   exact this hy
  obtain⟨x,h1,h2,rfl⟩:=vB hy
  rw[Bool.and_eq_true,Bool.not_eq_true'] at h2
  have hc:=((hk.ob o h2.1).ro (hro o x h1 h2.1 hO h2.2)).2
  exact hmark _ _ _ _ (U1 (fun o ho=>⟨(hk.ob o ho).ob,(hk.ob o ho).ln⟩) hk.om h2.1 hc h2.2 (h.ob _ _ h1))}
theorem OD {W K O:List Nat} {st':MS R.T} {o:Nat} {x:Ob R.T} (h1:look st.ob o=some x) (h2:aP o W=false) (h3:aP o O=true) (h4:lI W x=true):RO ((Aq.base W K O .ro st).over st') o:=by
 intro y hy
 have hl:∃z,look (lZ (fun o b=> !(aP o W)&& lI W b) Ob.ro st.ob O) o=some (.ro z):=by
  have:∀is:List Nat,aP o is=true→∃z,look (lZ (fun o b=> !(aP o W)&& lI W b) Ob.ro st.ob is) o=some (.ro z):=by
   intro is
   induction is with
   |nil=>intro h;cases h
   |cons j is ih=>
    intro h
    by_cases e:o=j
    ·subst e
     unfold lZ
     rw[h1]
     dsimp only
     rw[h2,h4]
     exact⟨x,iY _ _ _⟩
    ·have h':(Nat.beq o j||aP o is)=true:=h
     rw[Ja e,Bool.false_or] at h'
     obtain⟨z,hz⟩:=ih h'
     refine⟨z, ?_⟩
     unfold lZ
     split
     ·rename_i w hw
      cases (!(aP j W)&& lI W w)
      ·exact hz
      ·rw[cond_true,fP _ _ e];exact hz
     ·exact hz
  exact this O h3
 obtain⟨z,hz⟩:=hl
 have hy':look (lZ (fun o b=> !(aP o W)&& lI W b) Ob.ro st.ob O++st'.ob) o=some y:=hy
 rw[vo,hz] at hy'
 cases hy';rfl
theorem aep {t:Nat}:∀{x:Ob R.T},nE x=true→nE (Ob.wk t x)=true
 |.ro _,_=>rfl
 |.gone,_=>rfl
 |.cells _,h=>by cases h
 |.map _ _ _,h=>by cases h
 |.smap _ _,h=>by cases h
 |.arr _ _,h=>by cases h
theorem U2 {t:Nat} {x:Ob R.T} (h:nE x=true):nE (Ob.kill t x)=true:=by
 unfold Ob.kill
 cases Ob.kJ t x
 ·exact h
 ·rfl
theorem aT.wk {p t s n:Nat} (hl:ρ.om.lo≤s):aT nr p st ρ σ (st.wk t) (ρ.fH t s) (σ.bJ s n):=⟨rfl,rfl,rfl,Nat.le_refl _,⟨fun _ _=>rfl,fun s' hs'=>DW _ _ (by omega)⟩,fun _ _ _=>rfl,fun hr=>⟨fun x hx=>by
 have hx':look (kK (Ob.wk t) st.ob) p=some x:=hx
 rw[rU,Option.map_eq_some_iff] at hx'
 obtain⟨z,hz,rfl⟩:=hx'
 exact aep (hr z hz),fun _=>⟨rfl,rfl⟩⟩⟩
theorem aT.set {o q s:Nat} {x y:Ob R.T} {a:fV} (hl:look st.ob o=some y) (hy:nE y=false):aT nr q st ρ σ (st.set o x) ρ (σ.setObj (ρ.om.lc o) s a):=⟨rfl,rfl,rfl,Nat.le_refl _,⟨fun _ _=>rfl,fun _ _=>rfl⟩,fun _ _ hL=>OC hL,fun hr=>by
 have hne:q≠o:=by rintro rfl;rw[hr y hl] at hy;cases hy
 refine⟨fun z hz=> ?_,fun s'=>⟨wS _ _ _ _ hne,Bp _ _ _ _ hne⟩⟩
 have hz':look ((o,x)::gN o st.ob) q=some z:=hz
 rw[fP _ _ hne,oG hne] at hz'
 exact hr z hz'⟩
theorem aT.new {o q s:Nat} {x:Ob R.T} {a:fV} (hne:q≠o):aT nr q st ρ σ (st.new o x) (ρ.kN o s) (σ.setObj (ρ.om.lc o) s a):=⟨by simp[aL.kN,upd,hne],rfl,rfl,Nat.le_refl _,⟨fun _ _=>rfl,fun _ _=>rfl⟩,fun _ _ hL=>OC hL,fun hr=>by
 refine⟨fun z hz=> ?_,fun s'=>⟨wS _ _ _ _ hne,Bp _ _ _ _ hne⟩⟩
 have hz':look ((o,x)::kK (Ob.kill o) (gN o st.ob)) q=some z:=hz
 rw[fP _ _ hne,rU,oG hne,Option.map_eq_some_iff] at hz'
 obtain⟨w,hw,rfl⟩:=hz'
 exact U2 (hr w hw)⟩
theorem kY {d:Option Nat} {v:TV R.T}:(st.dY d v).ob=st.ob:=by cases d<;>rfl
theorem aT.same {st':MS R.T} {o:Nat} (h:st'.ob=st.ob):aT nr o st ρ σ st' ρ σ:=⟨rfl,rfl,rfl,Nat.le_refl _,⟨fun _ _=>rfl,fun _ _=>rfl⟩,fun _ _ _=>rfl,fun hr=>⟨fun x hx=>hr x (by rw[←h];exact hx),fun _=>⟨rfl,rfl⟩⟩⟩
theorem aT.congr {st' fI:MS R.T} {ρ':aL} {σ':ah} {o:Nat} (h:aT nr o st ρ σ st' ρ' σ') (e:fI.ob=st'.ob):aT nr o st ρ σ fI ρ' σ':=⟨h.ob,h.ln,h.om,h.nx,h.lp,h.dp,fun hr=>⟨fun x hx=>(h.ro hr).1 x (by rw[←e];exact hx),(h.ro hr).2⟩⟩
theorem aT.from {st' fI:MS R.T} {ρ':aL} {σ':ah} {o:Nat} (h:aT nr o st ρ σ st' ρ' σ') (e:st.ob=fI.ob):aT nr o fI ρ σ st' ρ' σ':=⟨h.ob,h.ln,h.om,h.nx,h.lp,h.dp,fun hr=>h.ro fun x hx=>hr x (by rw[←e];exact hx)⟩
theorem Kp.op {d:Option Nat} {W:List Nat} {y:V} {st':MS R.T} {ρ':aL} {σ':ah} (hd:∀p,aP p W=false→d≠some p) (h:∀p,d≠some p→aT nr p st ρ σ st' ρ' σ'):Kp nr W st fr σ ρ st' (fr.put d y) σ' ρ':=
 ⟨fun i hi=>by
   cases d with
   |none=>rfl
   |some j=>exact DV _ _ (by have:=hd i hi;simp at this;simpa using fun e=>this e.symm),fun p hp=>h p (hd p hp)⟩
theorem U3 {W K O:List Nat} {st':MS R.T} {o:Nat} (h:look st'.ob o=none):RO ((Aq.base W K O .ro st).over st') o:=by
 intro y hy
 have hy':look (lZ (fun o b=> !(aP o W)&& lI W b) Ob.ro st.ob O++st'.ob) o=some y:=hy
 rw[vo] at hy'
 split at hy'
 ·rename_i x hx
  cases hy'
  obtain⟨z,_,_,rfl⟩:=vB hx
  rfl
 ·rw[h] at hy';cases hy'
theorem Jc {st':MS R.T} {o:Nat} (h1:RO st o) (h2:RO st' o):RO (st.over st') o:=by
 intro y hy
 have hy':look (st.ob++st'.ob) o=some y:=hy
 rw[vo] at hy'
 split at hy'
 ·rename_i x hx;cases hy';exact h1 _ hx
 ·exact h2 _ hy'
theorem U4 {W K O:List Nat} {mark:Ob R.T→Ob R.T} {o:Nat} (hm:∀x,nE x=true→nE (mark x)=true) (h:RO st o):RO (Aq.base W K O mark st) o:=by
 intro y hy
 obtain⟨x,h1,_,rfl⟩:=vB hy
 exact hm _ (h _ h1)
theorem finish {W K O:List Nat} {H S' fI:MS R.T} {fr':Fr} {ρ':aL} {σ':ah} {b':Nat} (hi:aH ρ b st fr σ) (hH:∀o,aP o W=false→RO st o→RO H o) (hro:∀o x,look st.ob o=some x→aP o W=false→aP o O=true→lI W x=true→RO H o)
 (hk:Kp nr W H fr σ ρ S' fr' σ' ρ') (hi':aH ρ' b' fI fr' σ') (hn:∀o,aP o W=false→RO H o→look fI.ob o=none):
 aH ρ' b' ((Aq.base W K O (fun b=>b) st).over fI) fr' σ'∧Kp nr W st fr σ ρ ((Aq.base W K O (fun b=>b) st).over fI) fr' σ' ρ':=by
 have hk2:Kp nr W H fr σ ρ fI fr' σ' ρ':=⟨hk.fr,fun o ho=>⟨(hk.ob o ho).ob,(hk.ob o ho).ln,(hk.ob o ho).om,(hk.ob o ho).nx,(hk.ob o ho).lp,(hk.ob o ho).dp,fun hr=>⟨fun x hx=>(by rw[hn o ho hr] at hx;cases hx),((hk.ob o ho).ro hr).2⟩⟩⟩
 refine⟨(hi.base (fun _ _ _ _ h=>h) hk2 hi' hro).over hi',hk.fr,fun o ho=>⟨(hk.ob o ho).ob,(hk.ob o ho).ln,(hk.ob o ho).om,(hk.ob o ho).nx,(hk.ob o ho).lp,(hk.ob o ho).dp,fun hr=>⟨?_,((hk.ob o ho).ro (hH o ho hr)).2⟩⟩⟩
 exact Jc (U4 (fun _ h=>h) hr) fun x hx=>(by rw[hn o ho (hH o ho hr)] at hx;cases hx)
theorem U5 {x:TV R.T} {v:V} (hx:Ay x=true) (h:gQ fr ρ top x v):v= .aj .nil []∨v= .aj .full []:=by
 cases x<;>first| (cases hx;done)|skip
 ·exact .inl (Rl.nK (R:=R) (show Rl R ρ top .dN v from h))
 ·rename_i c t l
  obtain⟨c',hv,hc⟩:=Rl.jO (R:=R) (show Rl R ρ top (.aj c t l) v from h)
  cases c<;>first| (cases hx;done)|skip
  ·have:l=[]:=by simpa [Ay] using hx
   subst this
   have hc':c'= .nil:=hc
   rw[hc'] at hv;exact .inl hv
  ·have:l=[]:=by simpa [Ay] using hx
   subst this
   have hc':c'= .full:=hc
   rw[hc'] at hv;exact .inr hv
theorem Eu {W:List Nat}:∀(l:List (Nat×Sk)) (st:MS R.T) (ρ:aL),aH ρ b st fr σ→∃ρ',aH ρ' b (oz W l st) fr σ∧Kp nr W st fr σ ρ (oz W l st) fr σ ρ'
 | [],st,ρ,h=>⟨ρ,h,.refl⟩
 | (i,k)::l,st,ρ,h=>by
   have other:oz W ((i,k)::l) st=oz W l st→∃ρ',aH ρ' b (oz W ((i,k)::l) st) fr σ∧Kp nr W st fr σ ρ (oz W ((i,k)::l) st) fr σ ρ':=fun e=>by
    rw[e];exact Eu l st ρ h
   cases k<;>first|exact other rfl|skip
   rename_i o t
   unfold oz
   split
   ·rename_i v hv
    cases hb:(Ay v&& aP o W)
    ·exact Eu l st ρ h
    ·rw[cond_true]
     rw[Bool.and_eq_true] at hb
     have hg:=h.ghost o t
     have hE:=U5 hb.1 (h.fr _ _ hv)
     have OE:aH (ρ.gh o) b (⟨(i,.vw o t)::(st.new o (.arr t [])).fr,(st.new o (.arr t [])).ob⟩:MS R.T) fr σ:={hg with
      fr:=fun j y hy=>by
       by_cases e:j=i
       ·subst e
        have hy':look ((j,TV.vw o t)::(st.new o (.arr t [])).fr) j=some y:=hy
        rw[iY] at hy';cases hy'
        exact .of (by unfold Rl;exact .inr ⟨Er (ρ:=ρ) (n:=0),hE⟩)
       ·have hy':look ((i,TV.vw o t)::(st.new o (.arr t [])).fr) j=some y:=hy
        rw[fP _ _ e] at hy'
        exact hg.fr j y hy'
      ob:=hg.ob}
     obtain⟨ρ',h1,h2⟩:=Eu (W:=W) l _ _ OE
     refine⟨ρ',h1,Kp.trans ⟨fun _ _=>rfl,fun p hp=> ?_⟩ h2⟩
     have hne:p≠o:=by rintro rfl;rw[hb.2] at hp;cases hp
     refine⟨(Br p hne).1,(Br p hne).2,rfl,Nat.le_refl _,⟨fun _ _=>rfl,fun _ _=>rfl⟩,fun _ _ _=>rfl,fun hr=>⟨fun x hx=> ?_,fun _=>⟨rfl,rfl⟩⟩⟩
     have hx':look ((o,Ob.arr t [])::kK (Ob.kill o) (gN o st.ob)) p=some x:=hx
     rw[fP _ _ hne,rU,oG hne,Option.map_eq_some_iff] at hx'
     obtain⟨w,hw,rfl⟩:=hx'
     exact U2 (hr w hw)
   ·exact Eu l st ρ h
section
variable (hR:mQ R)
include hR
omit hR in
theorem U6 {W:List Nat}:∀{l:List (Nat×Sk)},st.fr=[]→oz W l st=st
 | [],_=>rfl
 | (i,k)::l,h=>by
   have:=U6 (W:=W) (l:=l) h
   cases k<;>first|exact this|skip
   unfold oz
   rw[h];exact this
omit hR in
theorem U7:∀{l:List (Nat×Sk)} {p:xR R.T l},pI R [] l=some p→l=[]
 | [],_,_=>rfl
 | [(i,k)],p,h=>by cases h
 | (i,k)::q::l,p,h=>by cases h
omit hR in
theorem aer {W:List Nat} (he:st.fr=[]) {s:Shape} {p:oq R.T s} (hp:Aq.kD R W st s=some p):(unpack R s p).fr=[]:=by
 unfold Aq.kD at hp
 rw[U6 he] at hp
 obtain⟨sl,ob⟩:=s
 cases ob with
 |nil=>
  have hp':pI R st.fr sl=some p:=hp
  rw[he] at hp'
  have:=U7 hp'
  subst this;rfl
 |cons o os=>
  unfold Aq.pack at hp
  rw[he] at hp
  cases hu:pI R [] sl with
  |none=>simp only[hu] at hp;cases hp
  |some x=>
   have:=U7 hu
   subst this;rfl
theorem aH.kD {W:List Nat} (h:aH ρ b st fr σ) {s:Shape} {p:oq R.T s} (hp:Aq.kD R W st s=some p):∃ρ' S',aH ρ' b (unpack R s p) fr σ∧Kp nr W st fr σ ρ S' fr σ ρ'∧(st.fr=[]→(unpack R s p).fr=[])∧∀i,aP i W=false→RO st i→look (unpack R s p).ob i=none:=by
 obtain⟨ρ',h1,h2⟩:=Eu (W:=W) s.sl st ρ h
 exact⟨ρ',_,h1.pack hR hp,h2,fun he=>aer he hp,fun i hi hr=>ael hp ((h2.ob i hi).ro hr).1⟩
theorem Bu {β:Type} {W:List Nat} (h:aH ρ b st fr σ) {e:Ex}:∀{l:List (Ex×Shape)} {o:Out R.T l},rO R W e st l=some o→∃ρ' S' st',aH ρ' b st' fr σ∧Kp nr W st fr σ ρ S' fr σ ρ'∧(st.fr=[]→st'.fr=[])∧(∀i,aP i W=false→RO st i→look st'.ob i=none)∧∀(k:Ex→MS R.T→Option β) (bs:MS R.T),ug R bs k l o=k e (bs.over st')
 | [],o,hp=>by cases hp
 | [(x,s)],o,hp=>by
   have hp':(bif xW e x then Aq.kD R W st s else none)=some o:=hp
   cases hb:xW e x
   ·rw[hb] at hp';cases hp'
   ·rw[hb,cond_true] at hp'
    have:=UY hb;subst this
    obtain⟨ρ',S',h1,h2,h0,h3⟩:=h.kD hR hp'
    exact⟨ρ',S',_,h1,h2,h0,h3,fun k bs=>rfl⟩
 | (x,s)::q::l,o,hp=>by
   unfold rO at hp
   cases hb:xW e x
   ·rw[hb,cond_false] at hp
    cases hu:rO R W e st (q::l) with
    |none=>simp only[hu] at hp;cases hp
    |some y=>
     simp only[hu] at hp
     obtain rfl:=Option.some.inj hp
     obtain⟨ρ',S',st',h1,h3,h0,h4,h2⟩:=Bu (β:=β) h hu
     exact⟨ρ',S',st',h1,h3,h0,h4,fun k bs=>h2 k bs⟩
   ·rw[hb,cond_true] at hp
    have:=UY hb;subst this
    cases hu:Aq.kD R W st s with
    |none=>simp only[hu] at hp;cases hp
    |some y=>
     simp only[hu] at hp
     obtain rfl:=Option.some.inj hp
     obtain⟨ρ',S',h1,h2,h0,h3⟩:=h.kD hR hu
     exact⟨ρ',S',_,h1,h2,h0,h3,fun k bs=>rfl⟩
end
end
end
end Aq
end
section
namespace Aq
open Go
set_option linter.unusedSectionVars false
set_option linter.unusedVariables false
section
variable {R:gM} {E:Env}
variable {ρ:aL} {b:Nat} {st:MS R.T} {fr:Fr} {σ:ah}
def sZ (E:Env) (fr:Fr) (o:Oper):Bool:=match o.op with
 |.call c=>match c.callee with
  |.value f=>jo E fr o f
  |_=>false
 |_=>false
def kP (E:Env) (fr:Fr) (σ:ah) (aB:Nat) (o:Oper) (x:V) (σ':ah):Prop:=
 (sZ E fr o=false→∀all os Q,dJ all fr o=some true→OW E all (aB+1) os (fr.put o.dst x) σ' Q→OW E all aB (o::os) fr σ Q)∧
 (sZ E fr o=false→∀ms all os fs Q,dJ all fr o=some true→cK E ms all (aB+1) os (fr.put o.dst x) σ' (fs++[dV E all fr o true]) Q→cK E ms all aB (o::os) fr σ fs Q)
theorem kP.of {aB:Nat} {o:Oper} {x:V} {σ':ah} (h:∀S,opC E S fr σ aB o=some (x,fr,σ')):kP E fr σ aB o x σ':=
 ⟨fun _ _ _ _ hw h'=>OW.op hw h h',fun _ _ _ _ _ _ hw h'=>cK.op hw h h'⟩
theorem aes {S:jc} {aB:Nat} {o:Oper} {x:V} {σ':ah} (h:aW E fr σ aB o=some (x,σ')):opC E S fr σ aB o=some (x,fr,σ'):=by
 unfold opC
 split
 ·rename_i c hc;unfold aW at h;rw[hc] at h;cases h
 ·rename_i c hc;unfold aW at h;rw[hc] at h;cases h
 ·rw[h];rfl
theorem U8 {o:Oper} {c:Call} {f:Operand} {g:FuncId} {a b:List V} (ho:o.op= .call c) (dX:c.callee= .value f) (hf:fr.ev E f= .fn (.func g) a b) (h:sZ E fr o=false):∀d,o.dst=some d→E.own g d=false:=by
 intro d hd
 unfold sZ at h
 rw[ho] at h
 dsimp only at h
 rw[dX] at h
 dsimp only at h
 unfold jo at h
 rw[hf,hd] at h
 exact h
theorem kP.iq {aB:Nat} {o:Oper} {x:V} {σ':ah} (h:aW E fr σ aB o=some (x,σ')):kP E fr σ aB o x σ':=.of fun S=>aes h
def rW (E:Env) (st:MS R.T) (ρ:aL) (aB:Nat) (fr:Fr) (σ:ah) (o:Oper):dA R→Prop
 |.t v=> ∃x,kP E fr σ aB o x σ∧Rl R ρ σ.top v x
 |.c c v=>c=true→∃x,kP E fr σ aB o x σ∧Rl R ρ σ.top v x
 |.w v st'=> ∃x σ' ρ',kP E fr σ aB o x σ'∧aH ρ' (aB+1) st' fr σ'∧σ'.next=σ.next∧Rl R ρ' σ'.top v x∧∀p,o.dst≠some p→aT true p st ρ σ st' ρ' σ'
 |.wc c v st'=>c=true→∃x σ' ρ',kP E fr σ aB o x σ'∧aH ρ' (aB+1) st' fr σ'∧σ'.next=σ.next∧Rl R ρ' σ'.top v x∧∀p,o.dst≠some p→aT true p st ρ σ st' ρ' σ'
 |.p _ _ o' f=> ∀a,o'=some a→∃x,kP E fr σ aB o x σ∧Rl R ρ σ.top (f a) x
theorem uq {top:Nat→Nat} {x:TV R.T} {v:V} (hg:wF x=true) (h:Rl R ρ top x v):aC R ρ top x.cells v.cells∧cu v=true:=by
 cases x with
 |agg cs=>obtain⟨l,rfl,hl⟩:=h.jN;exact⟨hl,rfl⟩
 |int k n=>rw[h.fG];exact⟨.cons' (by unfold Rl;rfl) rfl,rfl⟩
 |bool b=>rw[h.pK];exact⟨.cons' (by unfold Rl;rfl) rfl,rfl⟩
 |gy b=>rw[h.sV];exact⟨.cons' (by unfold Rl;rfl) rfl,rfl⟩
 |str b=>rw[h.lM];exact⟨.cons' (by unfold Rl;rfl) rfl,rfl⟩
 |dN=>rw[h.nK];exact⟨.cons' (by unfold Rl;rfl) rfl,rfl⟩
 |bg cs=>obtain⟨l,rfl,hl⟩:=h.I6;exact⟨.cons' h rfl,rfl⟩
 |aj c t l=>obtain⟨c',rfl,hl⟩:=h.jO;exact⟨.cons' h rfl,rfl⟩
 |ref o off=>obtain⟨s,hs,rfl⟩:=h.nL;exact⟨.cons' h rfl,rfl⟩
 |aK o off=>obtain⟨s,rfl,hs⟩:=h.sW;exact⟨.cons' h rfl,rfl⟩
 |bD o=>obtain⟨s,hs,rfl⟩:=h.vg;exact⟨.cons' h rfl,rfl⟩
 |bV k e m=>have:=h.Bj;subst this;exact⟨.cons' h rfl,rfl⟩
 |fn f a b=>obtain⟨a',b',rfl,_⟩:=h.lN;exact⟨.cons' h rfl,rfl⟩
 |undef=>have:=h.Ut;subst this;exact⟨.cons' h rfl,rfl⟩
 |vw o t=>rcases h.Bl with ⟨s,_,rfl⟩| ⟨_,rfl|rfl⟩<;>exact⟨.cons' h rfl,rfl⟩
 |jB o t i off=>obtain⟨s,_,_,rfl⟩:=h.yu;exact⟨.cons' h rfl,rfl⟩
 |sv o off k n lo hi=>obtain⟨s,_,_,rfl⟩:=h.wQ;exact⟨.cons' h rfl,rfl⟩
 |sel o off k n i m=>obtain⟨s,_,_,_,rfl⟩:=h.Ep;exact⟨.cons' h rfl,rfl⟩
 |pz k n y i=>obtain⟨_,_,rfl⟩:=h.I7;exact⟨.cons' h rfl,rfl⟩
 |sg _=>cases hg
 |eH=>have h':=h;unfold Rl at h';subst h';exact⟨.cons' h rfl,rfl⟩
 |eB=>have h':=h;unfold Rl at h';subst h';exact⟨.cons' h rfl,rfl⟩
 |dU=>have h':=h;unfold Rl at h';subst h';exact⟨.cons' h rfl,rfl⟩
 |fM=>have h':=h;unfold Rl at h';subst h';exact⟨.cons' h rfl,rfl⟩
 |opt j w y=>cases hg
 |gone=>cases hg
theorem aeu {top:Nat→Nat} {x:TV R.T} {v:V} (hg:NI x=true) (h:Rl R ρ top x v):oneCell v=true:=by
 cases x with
 |agg cs=>cases hg
 |int k n=>rw[h.fG];rfl
 |bool b=>rw[h.pK];rfl
 |gy b=>rw[h.sV];rfl
 |str b=>rw[h.lM];rfl
 |dN=>rw[h.nK];rfl
 |bg cs=>cases hg
 |aj c t l=>obtain⟨c',rfl,hl⟩:=h.jO;rfl
 |ref o off=>obtain⟨s,hs,rfl⟩:=h.nL;rfl
 |aK o off=>obtain⟨s,rfl,hs⟩:=h.sW;rfl
 |bD o=>obtain⟨s,hs,rfl⟩:=h.vg;rfl
 |bV k e m=>have:=h.Bj;subst this;rfl
 |fn f a b=>obtain⟨a',b',rfl,_⟩:=h.lN;rfl
 |undef=>cases hg
 |vw o t=>rcases h.Bl with ⟨s,_,rfl⟩| ⟨_,rfl|rfl⟩<;>rfl
 |jB o t i off=>obtain⟨s,_,_,rfl⟩:=h.yu;rfl
 |sv o off k n lo hi=>obtain⟨s,_,_,rfl⟩:=h.wQ;rfl
 |sel o off k n i m=>obtain⟨s,_,_,_,rfl⟩:=h.Ep;rfl
 |pz k n y i=>obtain⟨_,_,rfl⟩:=h.I7;rfl
 |sg _=>cases hg
 |eH=>unfold Rl at h;subst h;rfl
 |eB=>unfold Rl at h;subst h;rfl
 |dU=>unfold Rl at h;subst h;rfl
 |fM=>unfold Rl at h;subst h;rfl
 |opt j w y=>cases hg
 |gone=>cases hg
theorem Ev {top:Nat→Nat}:∀{x:List (TV R.T)} {v:List V},wE x=true→aC R ρ top x v→bf v=true
 | [],v,_,h=>by rw[h.eT];rfl
 |x::xs,v,hg,h=>by
  obtain⟨y,ys,rfl,h1,h2⟩:=h.dB
  unfold wE at hg
  rw[Bool.and_eq_true] at hg
  rw[TS,aeu hg.1 h1,Ev hg.2 h2];rfl
theorem aev {top:Nat→Nat} {ag:Bool} {n off:Nat} {cs:List (TV R.T)} {l:List V} {x:TV R.T} (h:aC R ρ top cs l) (hp:Iu ag n cs off=some x):∃v,mq ag n l off=some v∧Rl R ρ top x v:=by
 cases ag with
 |true=>
  have hp':(bif Nat.ble (off+n) cs.length then some (TV.agg ((cs.drop off).take n)) else none)=some x:=hp
  cases hb:Nat.ble (off+n) cs.length
  ·rw[hb] at hp';cases hp'
  ·rw[hb] at hp';cases hp'
   have hle:=Nat.le_of_ble_eq_true hb
   refine⟨.agg ((l.drop off).take n), ?_,by unfold Rl;exact⟨_,rfl,(h.drop off).take n⟩⟩
   unfold mq;rw[if_pos rfl,if_pos (by rw[h.length];exact hle)]
 |false=>
  obtain⟨v,h1,h2⟩:=h.get (show cs[off]? =some x from hp)
  exact⟨v,by unfold mq;simpa using h1,h2⟩
theorem vD {top:Nat→Nat} {t:TypeId} {off:Nat} {cs:List (TV R.T)} {l:List V} {x:TV R.T} (h:aC R ρ top cs l) (hp:jZ E t cs off=some x):∃v,dI E.P t l off=some v∧Rl R ρ top x v:=by
 unfold jZ at hp
 cases h1:gH E.P t with
 |none=>simp only[h1] at hp;cases hp
 |some a=>
  cases h2:bC E.P t with
  |none=>simp only[h1,h2] at hp;cases hp
  |some n=>
   simp only[h1,h2] at hp
   unfold dI;rw[h1,h2];exact aev h hp
theorem OG {top:Nat→Nat} {cs vs:List (TV R.T)} {l k:List V} (off:Nat) (h:aC R ρ top cs l) (h':aC R ρ top vs k):aC R ρ top (Az cs off vs) (eO l off k):=by
 unfold Az eO
 rw[h'.length]
 exact((h.take off).append h').append (h.drop _)
theorem Bv {top:Nat→Nat} {t:TypeId} {z:TV R.T} (h:uX E t=some z):∃v,fZ E.P t=some v∧Rl R ρ top z v:=by
 unfold uX at h
 unfold fZ
 cases h1:E.P.info? t with
 |none=>simp only[h1] at h;cases h
 |some i=>
  cases h2:i.zero with
  |none=>simp only[h1,h2] at h;cases h
  |some z'=>
   simp only[h1,h2] at h
   obtain⟨v,hv,hr⟩:=UN (ρ:=ρ) (top:=top) h
   exact⟨v,by simp[h2,hv],hr⟩
theorem U9 {top:Nat→Nat} (place:Nat→Option (Nat×Nat)):∀{ps:List (Nat×TV R.T)} {qs:List (Nat×V)} {cs:List (TV R.T)} {l:List V} {cs':List (TV R.T)},ps.map (·.1)=qs.map (·.1)→aC R ρ top (ps.map (·.2)) (qs.map (·.2))→
 aC R ρ top cs l→Iw place cs ps=some cs'→∃l',nV place l qs=some l'∧aC R ρ top cs' l'
 | [],[],cs,l,cs',_,_,h,hf=>by cases hf;exact⟨l,rfl,h⟩
 | [],_::_,_,_,_,h,_,_,_=>by simp at h
 |_::_,[],_,_,_,h,_,_,_=>by simp at h
 | (i,v)::ps,(j,w)::qs,cs,l,cs',hi,hr,h,hf=>by
   simp only[List.map_cons,List.cons.injEq] at hi
   obtain⟨rfl,hi⟩:=hi
   obtain⟨y,ys,e,h1,h2⟩:=hr.dB
   simp only[List.map_cons,List.cons.injEq] at e
   obtain⟨rfl,rfl⟩:=e
   unfold Iw at hf
   unfold nV
   cases hp:place i with
   |none=>simp only[hp] at hf;cases hf
   |some q=>
    obtain⟨off,size⟩:=q
    simp only[hp] at hf⊢
    cases hb:(Nat.beq v.cells.length size&& Nat.ble (off+size) cs.length&& wF v)
    ·rw[hb] at hf;cases hf
    ·rw[hb,cond_true] at hf
     simp only[Bool.and_eq_true] at hb
     obtain⟨⟨b1,b2⟩,b3⟩:=hb
     obtain⟨hc,hn⟩:=uq b3 h1
     rw[if_pos ⟨by rw[hc.length];exact dG b1,by rw[h.length];exact Nat.le_of_ble_eq_true b2,hn⟩]
     exact U9 place hi h2 (OG off h hc) hf
theorem Va {top:Nat→Nat} {x:TV R.T} {v:V} {a:Bool} (h:bM x=some a) (hr:Rl R ρ top x v):v= .bool a:=by
 cases x<;>cases h
 ·exact hr.pK
 ·exact hr.sV
theorem Vb {top:Nat→Nat} {x y:TV R.T} {v w:V} {r:Bool} (h:Iy x y=some r) (hx:Rl R ρ top x v) (hy:Rl R ρ top y w):∃a b,v= .bool a∧w= .bool b∧r=(a==b):=by
 unfold Iy at h
 cases h1:bM x with
 |none=>simp only[h1] at h;cases h
 |some a=>
  cases h2:bM y with
  |none=>simp only[h1,h2] at h;cases h
  |some b=>simp only[h1,h2] at h;cases h;exact⟨a,b,Va h1 hx,Va h2 hy,rfl⟩
theorem OH {top:Nat→Nat} {vE:TypeId→TV R.T→TV R.T→Option Bool} {eqv:TypeId→V→V→Option Bool} (he:∀t x y v w r,vE t x y=some r→Rl R ρ top x v→Rl R ρ top y w→eqv t v w=some r)
 {xs ys:List (TV R.T)} {vs ws:List V} (hx:aC R ρ top xs vs) (hy:aC R ρ top ys ws):∀{fs:List Field} {r:Bool},AA E vE xs ys fs=some r→xB E.P eqv vs ws fs=some r
 | [],r,h=>by cases h;rfl
 |f::fs,r,h=>by
  unfold AA at h
  unfold xB
  split at h
  ·rename_i hn;rw[if_pos hn];exact OH he hx hy h
  ·rename_i hn
   rw[if_neg hn]
   cases h1:jZ E f.type xs f.offset with
   |none=>simp only[h1] at h;cases h
   |some a=>
    cases h2:jZ E f.type ys f.offset with
    |none=>simp only[h1,h2] at h;cases h
    |some c=>
     cases h3:vE f.type a c with
     |none=>simp only[h1,h2,h3] at h;cases h
     |some r1=>
      cases h4:AA E vE xs ys fs with
      |none=>simp only[h1,h2,h3,h4] at h;cases h
      |some q=>
       simp only[h1,h2,h3,h4] at h;cases h
       obtain⟨v1,e1,g1⟩:=vD hx h1
       obtain⟨v2,e2,g2⟩:=vD hy h2
       simp[e1,e2,he _ _ _ _ _ _ h3 g1 g2,OH he hx hy h4]
theorem Vd {top:Nat→Nat} {vE:TypeId→TV R.T→TV R.T→Option Bool} {eqv:TypeId→V→V→Option Bool} (he:∀t x y v w r,vE t x y=some r→Rl R ρ top x v→Rl R ρ top y w→eqv t v w=some r)
 {e:TypeId} {sz:Nat} {xs ys:List (TV R.T)} {vs ws:List V} (hx:aC R ρ top xs vs) (hy:aC R ρ top ys ws):∀{is:List Nat} {r:Bool},D9 E vE e sz xs ys is=some r→zD E.P eqv e sz vs ws is=some r
 | [],r,h=>by cases h;rfl
 |i::is,r,h=>by
  unfold D9 at h
  unfold zD
  cases h1:jZ E e xs (i*sz) with
  |none=>simp only[h1] at h;cases h
  |some a=>
   cases h2:jZ E e ys (i*sz) with
   |none=>simp only[h1,h2] at h;cases h
   |some c=>
    cases h3:vE e a c with
    |none=>simp only[h1,h2,h3] at h;cases h
    |some r1=>
     cases h4:D9 E vE e sz xs ys is with
     |none=>simp only[h1,h2,h3,h4] at h;cases h
     |some q=>
      simp only[h1,h2,h3,h4] at h;cases h
      obtain⟨v1,e1,g1⟩:=vD hx h1
      obtain⟨v2,e2,g2⟩:=vD hy h2
      simp[e1,e2,he _ _ _ _ _ _ h3 g1 g2,Vd he hx hy h4]
theorem Jd {top:Nat→Nat}:∀(d:Nat) (t:TypeId) (x y:TV R.T) (v w:V) (r:Bool),AB E d t x y=some r→Rl R ρ top x v→Rl R ρ top y w→vO E.P d t v w=some r
 |0,_,_,_,_,_,_,h,_,_=>by cases h
 |d+1,t,x,y,v,w,r,h,hx,hy=>by
  unfold AB at h
  unfold vO
  split at h
  ·rename_i fs xs ys hu
   obtain⟨l,rfl,h1⟩:=hx.jN
   obtain⟨k,rfl,h2⟩:=hy.jN
   rw[hu];dsimp only
   split at h
   ·cases h
   ·rename_i hs;rw[if_neg hs];exact OH (Jd d) h1 h2 h
  ·rename_i n e xs ys hu
   obtain⟨l,rfl,h1⟩:=hx.jN
   obtain⟨k,rfl,h2⟩:=hy.jN
   rw[hu];dsimp only
   cases hs:bC E.P e with
   |none=>simp only[hs] at h;cases h
   |some sz=>simp only[hs] at h;simp only[Option.bind_some];exact Vd (Jd d) h1 h2 h
  ·cases h
  ·cases h
  ·rename_i hu
   obtain⟨a,c,rfl,rfl,rfl⟩:=Vb h hx hy
   rw[hu]
  ·rename_i k a k' c hu
   rw[hx.fG,hy.fG,hu];exact h
  ·rename_i a c hu
   rw[hx.lM,hy.lM,hu];exact h
  ·cases h
theorem Ve {top:Nat→Nat} {t:TypeId} {x y:TV R.T} {v w:V} {r:Bool} (h:Iz E t x y=some r) (hx:Rl R ρ top x v) (hy:Rl R ρ top y w):nW E.P t v w=some r:=by
 unfold Iz at h
 unfold nW
 split at h
 ·rename_i fs xs ys hu
  split at h
  ·cases h
  ·rename_i hs
   have:=Jd 8 t _ _ v w r h hx hy
   obtain⟨l,rfl,h1⟩:=hx.jN
   obtain⟨k,rfl,h2⟩:=hy.jN
   rw[hu];dsimp only;rw[if_neg hs];exact this
 ·rename_i fs xs ys hu
  split at h
  ·cases h
  ·rename_i hs
   have:=Jd 8 t _ _ v w r h hx hy
   obtain⟨l,rfl,h1⟩:=hx.jN
   obtain⟨k,rfl,h2⟩:=hy.jN
   rw[hu];dsimp only;rw[if_neg hs];exact this
 ·rename_i hu;cases h;unfold Rl at hx hy;subst hx;subst hy;rw[hu]
 ·rename_i hu;cases h;obtain⟨a,b,rfl,_⟩:=hy.lN;unfold Rl at hx;subst hx;rw[hu]
 ·rename_i hu;cases h;obtain⟨a,b,rfl,_⟩:=hx.lN;unfold Rl at hy;subst hy;rw[hu]
 ·rename_i hu;obtain⟨a,c,rfl,rfl,rfl⟩:=Vb h hx hy;rw[hu]
 ·cases h
end
end Aq
end
