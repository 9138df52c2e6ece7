/- Part of the proof of a law. -/
import Derived.Test.YtdcnajadcbedkaaGreatDoorS607
set_option linter.all false
set_option linter.unusedSimpArgs false
set_option linter.unusedSectionVars false
section
namespace Aq
open Go
set_option linter.unusedSectionVars false
set_option linter.unusedVariables false
theorem dK {a b:Nat} (h:Nat.beq a b=true):a=b:=Nat.eq_of_beq_eq_true h
theorem JE {a b:Nat} (h:Nat.beq a b=false):a≠b:=fun e=>by rw[e,Nat.beq_refl] at h;cases h
theorem JF {a b:Nat} (h:a≠b):Nat.beq a b=false:=Bool.eq_false_iff.2 fun e=>h (dK e)
section look
variable {α:Type}
theorem qd (f:α→α):∀(l:List (Nat×α)) (i:Nat),look (j6 f l) i=(look l i).map f
 | [],_=>rfl
 | (j,x)::l,i=>by
   show (bif Nat.beq j i then some (f x) else look (j6 f l) i)=Option.map f (bif Nat.beq j i then some x else look l i)
   cases Nat.beq j i
   ·exact qd f l i
   ·rfl
theorem nW {i j:Nat} (h:j≠i):∀(l:List (Nat×α)),look (gD i l) j=look l j
 | []=>rfl
 | (k,x)::l=>by
   show look (bif Nat.beq k i then gD i l else (k,x)::gD i l) j=bif Nat.beq k j then some x else look l j
   cases hk:Nat.beq k i
   ·show (bif Nat.beq k j then some x else look (gD i l) j)=_
    rw[nW h l]
   ·have:=dK hk
    subst this
    rw[JF (Ne.symm h)]
    exact nW h l
theorem iM (l:List (Nat×α)) (i:Nat) (x:α):look ((i,x)::l) i=some x:=by
 show (bif Nat.beq i i then some x else look l i)=_;rw[Nat.beq_refl];rfl
theorem fI (l:List (Nat×α)) {i j:Nat} (x:α) (h:j≠i):look ((i,x)::l) j=look l j:=by
 show (bif Nat.beq i j then some x else look l j)=_;rw[JF (Ne.symm h)];rfl
end look
section
variable {R:gB} {E:Env}
theorem Ws {ρ ρ':aL} {top top':Nat→Nat}:∀(t:Ty) (x:Den R.T t) (v:V),Rl R ρ top (vC R .any t x) v→Rl R ρ' top' (vC R .any t x) v
 |.int _,_,_,h=>h
 |.bool,_,_,h=>h
 |.str,_,_,h=>h
 |.slice _,_,_,h=>h
 |.st _,_,_,h=>h
theorem vQ {ρ ρ':aL} {top top':Nat→Nat}:∀(l:List Ty) (p:lK R.T l) (vs:List V),aA R ρ top (iY R .any l p) vs→aA R ρ' top' (iY R .any l p) vs
 | [],_,_,h=>h
 | [t],x,vs,h=>by
   obtain⟨v,l,rfl,h1,h2⟩:=h.dJ
   rw[h2.eT]
   exact .cons' (Ws t x v h1) rfl
 |t::u::l,p,vs,h=>by
  obtain⟨v,ws,rfl,h1,h2⟩:=h.dJ
  exact .cons' (Ws t p.1 v h1) (vQ (u::l) p.2 ws h2)
theorem agb {ρ ρ':aL} {top top':Nat→Nat} {t:Ty} {x:Den R.T t} {vs:List V} (h:aA R ρ top (eO R .any t x).cells vs):aA R ρ' top' (eO R .any t x).cells vs:=by
 cases t with
 |st n=>exact vQ _ _ _ h
 |int k=>exact vQ [.int k] x vs h
 |bool=>exact vQ [.bool] x vs h
 |str=>exact vQ [.str] x vs h
 |slice t=>exact vQ [.slice t] x vs h
theorem aA.split {ρ:aL} {top:Nat→Nat}:∀{ts ts':List (TV R.T)} {vs:List V},aA R ρ top (ts++ts') vs→∃a b,vs=a++b∧aA R ρ top ts a∧aA R ρ top ts' b
 | [],_,vs,h=>⟨[],vs,rfl,rfl,h⟩
 |t::ts,ts',vs,h=>by
  obtain⟨v,ws,rfl,h1,h2⟩:=aA.dJ (ts:=ts++ts') h
  obtain⟨a,b,rfl,h3,h4⟩:=aA.split h2
  exact⟨v::a,b,rfl,.cons' h1 h3,h4⟩
theorem tT {ρ ρ':aL} {top top':Nat→Nat} {t:Ty}:∀(l:List (Den R.T t)) (vs:List V),aA R ρ top (l.flatMap fun x=>(eO R .any t x).cells) vs→aA R ρ' top' (l.flatMap fun x=>(eO R .any t x).cells) vs
 | [],vs,h=>h
 |x::l,vs,h=>by
  rw[List.flatMap_cons] at h⊢
  obtain⟨a,b,rfl,h1,h2⟩:=h.split
  exact(agb h1).append (tT l b h2)
def gG (fr:Fr) (ρ:aL) (top:Nat→Nat):TV R.T→V→Prop
 |.opt j w y,v=>(fr.tm j= .bool w→Rl R ρ top y v)∧(fr.tm j= .bool (!w)∨fr.tm j=aC→v=aC)
 |x,v=>Rl R ρ top x v
theorem gG.of {fr:Fr} {ρ:aL} {top:Nat→Nat} {x:TV R.T} {v:V} (h:Rl R ρ top x v):gG fr ρ top x v:=by
 cases x<;>first|exact h|exact h.Wj.elim
def dQ (ρ:aL) (σ:ah) (o:Nat):Ob R.T→Prop
 |.cells cs=> ∃s l,ρ.ob o=some s∧σ.bO (ρ.om.lc o) s=some l∧aA R ρ σ.top cs l
 |.map k e m=> ∃s,ρ.ob o=some s∧σ.eG (ρ.om.lc o) s=some (m.map fun p=>aG R k p.1,m.map fun p=>aG R e p.2)
 |.smap ks vs=> ∃s k l,ρ.ob o=some s∧σ.eG (ρ.om.lc o) s=some (k,l)∧aA R ρ σ.top ks k∧aA R ρ σ.top vs l
 |.arr t l=>l.length=ρ.ln o∧((l=[]∧ρ.ob o=none)∨∃s cs,ρ.ob o=some s∧σ.bO (ρ.om.lc o) s=some cs∧aA R ρ σ.top (l.flatMap fun x=>(eO R .any t x).cells) cs)
 |.sg ss=> ∃s,ρ.ob o=some s∧σ.bO (ρ.om.lc o) s=some (bE ss)
 |.gone=>True
 |.ro b=>dQ ρ σ o b
theorem dQ.strip {ρ:aL} {σ:ah} {o:Nat}:∀{x:Ob R.T},dQ ρ σ o x→dQ ρ σ o (O9 x)
 |.cells _,h=>h
 |.map _ _ _,h=>h
 |.smap _ _,h=>h
 |.arr _ _,h=>h
 |.sg _,h=>h
 |.gone,h=>h
 |.ro b,h=>dQ.strip (x:=b) h
structure aH (ρ:aL) (b:Nat) (st:MS R.T) (fr:Fr) (σ:ah):Prop where
 d:fr.d=ρ.om.dp
 om:fr.om=ρ.om.om
 fr:∀i v,look st.fr i=some v→gG fr ρ σ.top v (fr.tm i)
 ob:∀o x,look st.ob o=some x→dQ ρ σ o x
 inj:∀t u s,ρ.tk t=some s→ρ.tk u=some s→t=u
 lt:∀t s,ρ.tk t=some s→s<b
 ge:∀t s,ρ.tk t=some s→ρ.om.lo≤s
 nx:ρ.om.lo≤b
variable {ρ:aL} {b:Nat} {st:MS R.T} {fr:Fr} {σ:ah}
theorem aH.le {b':Nat} (h:aH ρ b st fr σ) (hb:b≤b'):aH ρ b' st fr σ:={h with lt:=fun t s ht=>Nat.lt_of_lt_of_le (h.lt t s ht) hb,nx:=Nat.le_trans h.nx hb}
theorem dQ.bump {o k:Nat}:∀{x:Ob R.T},dQ ρ σ o x→dQ ρ (σ.bump k) o x
 |.cells _,h=>h
 |.map _ _ _,h=>h
 |.smap _ _,h=>h
 |.arr _ _,h=>h
 |.sg _,h=>h
 |.gone,h=>h
 |.ro b,h=>dQ.bump (x:=b) h
theorem aH.next (h:aH ρ b st fr σ) (k:Nat):aH ρ b st fr (σ.bump k):={h with fr:=h.fr,ob:=fun o x hx=>(h.ob o x hx).bump}
theorem aH.rd (h:aH ρ b st fr σ) {o:Nat} {x:Ob R.T} (hx:kY st o=some x):dQ ρ σ o x:=by
 unfold kY at hx
 split at hx
 ·rename_i y hy;cases hx;exact(h.ob _ _ hy).strip
 ·cases hx
theorem agc {ρ:aL} {top:Nat→Nat} {x:TV R.T} {u v:V} {i:Nat} (h:gG fr ρ top x v):gG (fr.set i u) ρ top (O7 i x) v:=by
 cases x with
 |opt j w y=>
  show gG _ _ _ (bif Nat.beq j i then .gone else .opt j w y) v
  cases hj:Nat.beq j i
  ·have hs:(fr.set i u).tm j=fr.tm j:=Du _ _ (by simpa using JE hj)
   exact⟨fun hc=>h.1 (by rw[←hs];exact hc),fun hc=>h.2 (by rw[←hs];exact hc)⟩
  ·exact gG.of (x:=.gone) (by unfold Rl;trivial)
 |_=>exact h
theorem aH.put (h:aH ρ b st fr σ) (i:Nat) {x:TV R.T} {v:V} (hx:gG (fr.set i v) ρ σ.top x v):aH ρ b (st.put i x) (fr.set i v) σ where
 d:=h.d
 om:=h.om
 ob:=h.ob
 inj:=h.inj
 lt:=h.lt
 ge:=h.ge
 nx:=h.nx
 fr:=fun j y hy=>by
  by_cases e:j=i
  ·subst e
   have hy':some x=some y:=by rw[←hy];exact(iM _ _ _).symm
   cases hy'
   rw[IY]
   exact hx
  ·have hy':look (j6 (O7 i) (gD i st.fr)) j=some y:=by rw[←hy];exact(fI _ _ e).symm
   rw[qd,nW e,Option.map_eq_some_iff] at hy'
   obtain⟨z,hz,rfl⟩:=hy'
   rw[Du _ _ (by simpa using e)]
   exact agc (h.fr j z hz)
theorem aH.dU (h:aH ρ b st fr σ) (d:Option Nat) {x:TV R.T} {v:V} (hx:Rl R ρ σ.top x v):aH ρ b (st.dU d x) (fr.put d v) σ:=by
 cases d with
 |none=>exact h
 |some i=>exact h.put i (.of hx)
theorem agd {ρ:aL} {top:Nat→Nat} {x:TV R.T} {v:V} {i:Nat} {c:Bool} (hi:fr.tm i= .bool c) (h:gG fr ρ top x v):gG fr ρ top (O8 i c x) v:=by
 cases x with
 |opt j w y=>
  show gG _ _ _ (bif Nat.beq j i then (bif (c==w) then y else .undef) else .opt j w y) v
  cases hj:Nat.beq j i
  ·exact h
  ·have:=dK hj
   subst this
   by_cases e:c=w
   ·subst e
    rw[beq_self_eq_true]
    exact gG.of (h.1 hi)
   ·rw[show (c==w)=false by simpa using e]
    have e':c= !w:=by cases c<;>cases w<;>first|rfl|exact absurd rfl e
    have h':=h.2 (.inl (by rw[hi,e']))
    subst h';exact gG.of (x:=.undef) (by unfold Rl;rfl)
 |_=>exact h
theorem aH.learn (h:aH ρ b st fr σ) {i:Nat} {c:Bool} (hc:fr.tm i= .bool c):aH ρ b (st.learn i c) fr σ where
 d:=h.d
 om:=h.om
 ob:=h.ob
 inj:=h.inj
 lt:=h.lt
 ge:=h.ge
 nx:=h.nx
 fr:=fun j y hy=>by
  by_cases e:j=i
  ·subst e
   have hy':some (TV.fT c)=some y:=by rw[←hy];exact(iM _ _ _).symm
   cases hy'
   exact gG.of (x:=.fT c) (by unfold Rl;exact hc)
  ·have hy':look (j6 (O8 i c) (gD i st.fr)) j=some y:=by rw[←hy];exact(fI _ _ e).symm
   rw[qd,nW e,Option.map_eq_some_iff] at hy'
   obtain⟨z,hz,rfl⟩:=hy'
   exact agd hc (h.fr j z hz)
def aL.ku (ρ:aL) (o s:Nat):aL:={ρ with ob:=upd ρ.ob o (some s)}
def aL.fU (ρ:aL) (t s:Nat):aL:={ρ with tk:=upd ρ.tk t (some s)}
theorem Wt {ρ':aL} {top:Nat→Nat} {o:Nat} {x:TV R.T} {v:V} (ho:∀p,p≠o→ρ'.ob p=ρ.ob p∧ρ'.ln p=ρ.ln p) (ht:ρ'.tk=ρ.tk) (hx:ρ'.om=ρ.om) (h:gG fr ρ top x v):gG fr ρ' top (DC o x) v:=by
 unfold DC
 cases hm:j5 o x
 ·cases x with
  |opt j w y=>exact⟨fun hc=>Rl.kill o ho ht hx y v hm (h.1 hc),h.2⟩
  |_=>exact gG.of (Rl.kill o ho ht hx _ v hm h)
 ·exact gG.of (x:=.gone) (by unfold Rl;trivial)
theorem PX (c:Cx) {o p:Nat} (h:p≠o):ow (c.lc p) (c.lc o)=false:=by
 cases e:ow (c.lc p) (c.lc o)
 ·rfl
 ·unfold ow at e
  rw[Bool.and_eq_true,beq_iff_eq,beq_iff_eq] at e
  exact absurd (Prod.ext e.2 e.1) (c.Wh h)
theorem vR {c:Cx} {o p:Nat} (σ:ah) (s s':Nat) (x:fO) (h:p≠o):(σ.setObj (c.lc o) s' x).bO (c.lc p) s=σ.bO (c.lc p) s:=VE σ s s' x (PX c h)
theorem Ak {c:Cx} {o p:Nat} (σ:ah) (s s':Nat) (x:fO) (h:p≠o):(σ.setObj (c.lc o) s' x).eG (c.lc p) s=σ.eG (c.lc p) s:=VF σ s s' x (PX c h)
theorem Wu {ρ':aL} {o p s':Nat} {a:fO} (hp:p≠o) (ho:∀p,p≠o→ρ'.ob p=ρ.ob p∧ρ'.ln p=ρ.ln p) (ht:ρ'.tk=ρ.tk) (hx:ρ'.om=ρ.om):∀{x:Ob R.T},Ob.j5 o x=false→dQ ρ σ p x→dQ ρ' (σ.setObj (ρ.om.lc o) s' a) p x
 |.cells cs,hm,h=>by
  obtain⟨s,l,h1,h2,h3⟩:=h
  exact⟨s,l,((ho p hp).1.trans h1),by rw[hx,vR _ _ _ _ hp];exact h2,aA.kill o ho ht hx _ _ hm h3⟩
 |.map k e m,_,h=>by
  obtain⟨s,h1,h2⟩:=h
  exact⟨s,((ho p hp).1.trans h1),by rw[hx,Ak _ _ _ _ hp];exact h2⟩
 |.smap ks vs,hm,h=>by
  obtain⟨s,k,l,h1,h2,h3,h4⟩:=h
  have hm':(kX o ks||kX o vs)=false:=hm
  rw[Bool.or_eq_false_iff] at hm'
  exact⟨s,k,l,((ho p hp).1.trans h1),by rw[hx,Ak _ _ _ _ hp];exact h2,aA.kill o ho ht hx _ _ hm'.1 h3,aA.kill o ho ht hx _ _ hm'.2 h4⟩
 |.arr t l,hm,h=>by
  refine⟨h.1.trans (ho p hp).2.symm, ?_⟩
  rcases h.2 with h| ⟨s,cs,h1,h2,h3⟩
  ·exact .inl ⟨h.1,(ho p hp).1.trans h.2⟩
  ·exact .inr ⟨s,cs,((ho p hp).1.trans h1),by rw[hx,vR _ _ _ _ hp];exact h2,tT l cs h3⟩
 |.sg ss,_,h=>by
  obtain⟨s,h1,h2⟩:=h
  exact⟨s,((ho p hp).1.trans h1),by rw[hx,vR _ _ _ _ hp];exact h2⟩
 |.gone,_,_=>trivial
 |.ro b,hm,h=>Wu hp ho ht hx (x:=b) hm h
theorem agf {ρ':aL} {o p s':Nat} {a:fO} {x:Ob R.T} (hp:p≠o) (ho:∀p,p≠o→ρ'.ob p=ρ.ob p∧ρ'.ln p=ρ.ln p) (ht:ρ'.tk=ρ.tk) (hx:ρ'.om=ρ.om) (h:dQ ρ σ p x):dQ ρ' (σ.setObj (ρ.om.lc o) s' a) p (Ob.kill o x):=by
 unfold Ob.kill
 cases hm:Ob.j5 o x
 ·exact Wu hp ho ht hx hm h
 ·trivial
theorem Wv {o p s:Nat} {a:fO} (hp:p≠o):∀{x:Ob R.T},dQ ρ σ p x→dQ ρ (σ.setObj (ρ.om.lc o) s a) p x
 |.cells cs,h=>by obtain⟨s,l,h1,h2,h3⟩:=h;exact⟨s,l,h1,by rw[vR _ _ _ _ hp];exact h2,h3⟩
 |.map k e m,h=>by obtain⟨s,h1,h2⟩:=h;exact⟨s,h1,by rw[Ak _ _ _ _ hp];exact h2⟩
 |.smap ks vs,h=>by obtain⟨s,k,l,h1,h2,h3⟩:=h;exact⟨s,k,l,h1,by rw[Ak _ _ _ _ hp];exact h2,h3⟩
 |.arr t l,h=>by
  refine⟨h.1, ?_⟩
  rcases h.2 with h| ⟨s,cs,h1,h2,h3⟩
  ·exact .inl h
  ·exact .inr ⟨s,cs,h1,by rw[vR _ _ _ _ hp];exact h2,h3⟩
 |.sg ss,h=>by obtain⟨s,h1,h2⟩:=h;exact⟨s,h1,by rw[vR _ _ _ _ hp];exact h2⟩
 |.gone,_=>trivial
 |.ro b,h=>Wv hp (x:=b) h
theorem Ww {o t s n:Nat} (key:∀u s',u≠t→ρ.tk u=some s'→(ρ.fU t s).tk u=some s'∧(σ.bZ s n).top s'=σ.top s'):∀{x:Ob R.T},dQ ρ σ o x→dQ (ρ.fU t s) (σ.bZ s n) o (Ob.wk t x)
 |.cells cs,h=>by obtain⟨s',l,h1,h2,h3⟩:=h;exact⟨s',l,h1,h2,aA.wk (ρ:=ρ) (ρ':=ρ.fU t s) (top:=σ.top) (top':=(σ.bZ s n).top) t ⟨rfl,rfl,rfl⟩ key _ _ h3⟩
 |.map k e m,h=>h
 |.smap ks vs,h=>by obtain⟨s',k,l,h1,h2,h3,h4⟩:=h;exact⟨s',k,l,h1,h2,aA.wk (ρ:=ρ) (ρ':=ρ.fU t s) (top:=σ.top) (top':=(σ.bZ s n).top) t ⟨rfl,rfl,rfl⟩ key _ _ h3,aA.wk (ρ:=ρ) (ρ':=ρ.fU t s) (top:=σ.top) (top':=(σ.bZ s n).top) t ⟨rfl,rfl,rfl⟩ key _ _ h4⟩
 |.arr ty l,h=>by
  refine⟨h.1, ?_⟩
  rcases h.2 with h| ⟨s,cs,h1,h2,h3⟩
  ·exact .inl h
  ·exact .inr ⟨s,cs,h1,h2,tT l cs h3⟩
 |.sg ss,h=>h
 |.gone,_=>trivial
 |.ro b,h=>Ww key (x:=b) h
theorem Al {o s:Nat}:∀p,p≠o→(ρ.ku o s).ob p=ρ.ob p∧(ρ.ku o s).ln p=ρ.ln p:=fun p h=>⟨by simp[aL.ku,upd,h],rfl⟩
def aL.xH (ρ:aL) (o n:Nat):aL:={ρ with ln:=upd ρ.ln o n}
theorem Wx {o n:Nat}:∀p,p≠o→(ρ.xH o n).ob p=ρ.ob p∧(ρ.xH o n).ln p=ρ.ln p:=fun p h=>⟨rfl,by simp[aL.xH,upd,h]⟩
def aL.gh (ρ:aL) (o:Nat):aL:={ρ.xH o 0 with ob:=upd ρ.ob o none}
theorem Am {o:Nat}:∀p,p≠o→(ρ.gh o).ob p=ρ.ob p∧(ρ.gh o).ln p=ρ.ln p:=fun p h=>⟨by simp[aL.gh,upd,h],(Wx (ρ:=ρ) (n:=0) p h).2⟩
theorem D6 {o n:Nat}:(ρ.xH o n).ln o=n:=by simp[aL.xH,upd]
def aL.xI (ρ:aL) (o s n:Nat):aL:=(ρ.ku o s).xH o n
theorem PY {o s n:Nat}:∀p,p≠o→(ρ.xI o s n).ob p=ρ.ob p∧(ρ.xI o s n).ln p=ρ.ln p:=fun p h=>⟨(Al p h).1,(Wx p h).2⟩
theorem qg {o s:Nat}:(ρ.ku o s).ob o=some s:=by simp[aL.ku,upd]
theorem aH.new' {ρ':aL} (h:aH ρ b st fr σ) (o s:Nat) {x:Ob R.T} {a:fO} (Al:∀p,p≠o→ρ'.ob p=ρ.ob p∧ρ'.ln p=ρ.ln p) (ht:ρ'.tk=ρ.tk) (bn:ρ'.om=ρ.om) (hx:dQ ρ' (σ.setObj (ρ.om.lc o) s a) o x):aH ρ' b (st.new o x) fr (σ.setObj (ρ.om.lc o) s a) where
 d:=by rw[bn];exact h.d
 om:=by rw[bn];exact h.om
 fr:=fun j y hy=>by
  have hy':look (j6 (DC o) st.fr) j=some y:=hy
  rw[qd,Option.map_eq_some_iff] at hy'
  obtain⟨z,hz,rfl⟩:=hy'
  exact Wt Al ht bn (h.fr j z hz)
 ob:=fun p y hy=>by
  by_cases e:p=o
  ·subst e
   have hy':some x=some y:=by rw[←hy];exact(iM _ _ _).symm
   cases hy'
   exact hx
  ·have hy':look (j6 (Ob.kill o) (gD o st.ob)) p=some y:=by rw[←hy];exact(fI _ _ e).symm
   rw[qd,nW e,Option.map_eq_some_iff] at hy'
   obtain⟨z,hz,rfl⟩:=hy'
   exact agf e Al ht bn (h.ob p z hz)
 inj:=by rw[ht];exact h.inj
 lt:=by rw[ht];exact h.lt
 ge:=by rw[ht,bn];exact h.ge
 nx:=by rw[bn];exact h.nx
theorem aH.new (h:aH ρ b st fr σ) (o s:Nat) {x:Ob R.T} {a:fO} (hx:dQ (ρ.ku o s) (σ.setObj (ρ.om.lc o) s a) o x):aH (ρ.ku o s) b (st.new o x) fr (σ.setObj (ρ.om.lc o) s a):=h.new' o s Al rfl rfl hx
theorem aH.PZ (h:aH ρ b st fr σ) (o s n:Nat) {x:Ob R.T} {a:fO} (hx:dQ (ρ.xI o s n) (σ.setObj (ρ.om.lc o) s a) o x):aH (ρ.xI o s n) b (st.new o x) fr (σ.setObj (ρ.om.lc o) s a):=h.new' o s PY rfl rfl hx
theorem Wy {ρ':aL} {o p:Nat} (hp:p≠o) (ho:∀p,p≠o→ρ'.ob p=ρ.ob p∧ρ'.ln p=ρ.ln p) (ht:ρ'.tk=ρ.tk) (hx:ρ'.om=ρ.om):∀{x:Ob R.T},Ob.j5 o x=false→dQ ρ σ p x→dQ ρ' σ p x
 |.cells cs,hm,h=>by
  obtain⟨s,l,h1,h2,h3⟩:=h
  exact⟨s,l,((ho p hp).1.trans h1),by rw[hx];exact h2,aA.kill o ho ht hx _ _ hm h3⟩
 |.map k e m,_,h=>by
  obtain⟨s,h1,h2⟩:=h
  exact⟨s,((ho p hp).1.trans h1),by rw[hx];exact h2⟩
 |.smap ks vs,hm,h=>by
  obtain⟨s,k,l,h1,h2,h3,h4⟩:=h
  have hm':(kX o ks||kX o vs)=false:=hm
  rw[Bool.or_eq_false_iff] at hm'
  exact⟨s,k,l,((ho p hp).1.trans h1),by rw[hx];exact h2,aA.kill o ho ht hx _ _ hm'.1 h3,aA.kill o ho ht hx _ _ hm'.2 h4⟩
 |.arr t l,hm,h=>by
  refine⟨h.1.trans (ho p hp).2.symm, ?_⟩
  rcases h.2 with h| ⟨s,cs,h1,h2,h3⟩
  ·exact .inl ⟨h.1,(ho p hp).1.trans h.2⟩
  ·exact .inr ⟨s,cs,((ho p hp).1.trans h1),by rw[hx];exact h2,tT l cs h3⟩
 |.sg ss,_,h=>by
  obtain⟨s,h1,h2⟩:=h
  exact⟨s,((ho p hp).1.trans h1),by rw[hx];exact h2⟩
 |.gone,_,_=>trivial
 |.ro b,hm,h=>Wy hp ho ht hx (x:=b) hm h
theorem aH.ghost (h:aH ρ b st fr σ) (o:Nat) (t:Ty):aH (ρ.gh o) b (st.new o (.arr t [])) fr σ where
 d:=h.d
 om:=h.om
 fr:=fun j y hy=>by
  have hy':look (j6 (DC o) st.fr) j=some y:=hy
  rw[qd,Option.map_eq_some_iff] at hy'
  obtain⟨z,hz,rfl⟩:=hy'
  exact Wt Am rfl rfl (h.fr j z hz)
 ob:=fun p y hy=>by
  by_cases e:p=o
  ·subst e
   have hy':some (Ob.arr t ([]:List (Den R.T t)))=some y:=by rw[←hy];exact(iM _ _ _).symm
   cases hy'
   exact⟨(D6 (ρ:=ρ) (n:=0)).symm,.inl ⟨rfl,by simp[aL.gh,upd]⟩⟩
  ·have hy':look (j6 (Ob.kill o) (gD o st.ob)) p=some y:=by rw[←hy];exact(fI _ _ e).symm
   rw[qd,nW e,Option.map_eq_some_iff] at hy'
   obtain⟨z,hz,rfl⟩:=hy'
   unfold Ob.kill
   cases hm:Ob.j5 o z
   ·exact Wy e Am rfl rfl hm (h.ob p z hz)
   ·trivial
 inj:=h.inj
 lt:=h.lt
 ge:=h.ge
 nx:=h.nx
theorem Wz {c:Cx} {o p:Nat} (σ:ah) (h:p≠o):(σ.jN (c.lc o)).obj (c.lc p)=σ.obj (c.lc p):=by
 unfold ah.jN upd
 dsimp only
 rw[if_neg (c.Wh h)]
theorem WA {σ':ah} {p:Nat} (hp:σ'.obj (ρ.om.lc p)=σ.obj (ρ.om.lc p)) (ht:σ'.top=σ.top):∀{x:Ob R.T},dQ ρ σ p x→dQ ρ σ' p x
 |.cells cs,h=>by
  obtain⟨s,l,h1,h2,h3⟩:=h
  exact⟨s,l,h1,by unfold ah.bO at h2⊢;rw[hp];exact h2,by rw[ht];exact h3⟩
 |.map k e m,h=>by
  obtain⟨s,h1,h2⟩:=h
  exact⟨s,h1,by unfold ah.eG at h2⊢;rw[hp];exact h2⟩
 |.smap ks vs,h=>by
  obtain⟨s,k,l,h1,h2,h3,h4⟩:=h
  exact⟨s,k,l,h1,by unfold ah.eG at h2⊢;rw[hp];exact h2,by rw[ht];exact h3,by rw[ht];exact h4⟩
 |.arr t l,h=>by
  refine⟨h.1, ?_⟩
  rcases h.2 with h| ⟨s,cs,h1,h2,h3⟩
  ·exact .inl h
  ·exact .inr ⟨s,cs,h1,by unfold ah.bO at h2⊢;rw[hp];exact h2,tT l cs h3⟩
 |.sg ss,h=>by
  obtain⟨s,h1,h2⟩:=h
  exact⟨s,h1,by unfold ah.bO at h2⊢;rw[hp];exact h2⟩
 |.gone,_=>trivial
 |.ro b,h=>WA hp ht (x:=b) h
theorem aH.del (h:aH ρ b st fr σ) (o:Nat):aH ρ b (st.del o) fr (σ.jN (ρ.om.lc o)) where
 d:=h.d
 om:=h.om
 fr:=h.fr
 ob:=fun p y hy=>by
  by_cases e:p=o
  ·subst e
   have:look (gD p st.ob) p=some y:=hy
   have key:∀l:List (Nat×Ob R.T),look (gD p l) p=none:=by
    intro l
    induction l with
    |nil=>rfl
    |cons q l ih=>
     obtain⟨j,x⟩:=q
     unfold gD
     cases hj:Nat.beq j p
     ·show (bif Nat.beq j p then some x else look (gD p l) p)=none
      rw[hj];exact ih
     ·exact ih
   rw[key] at this;cases this
  ·have hy':look (gD o st.ob) p=some y:=hy
   rw[nW e] at hy'
   exact WA (Wz σ e) rfl (h.ob p y hy')
 inj:=h.inj
 lt:=h.lt
 ge:=h.ge
 nx:=h.nx
theorem aH.set (h:aH ρ b st fr σ) (o s:Nat) {x:Ob R.T} {a:fO} (hx:dQ ρ (σ.setObj (ρ.om.lc o) s a) o x):aH ρ b (st.set o x) fr (σ.setObj (ρ.om.lc o) s a) where
 d:=h.d
 om:=h.om
 fr:=h.fr
 ob:=fun p y hy=>by
  by_cases e:p=o
  ·subst e
   have hy':some x=some y:=by rw[←hy];exact(iM _ _ _).symm
   cases hy'
   exact hx
  ·have hy':look (gD o st.ob) p=some y:=by rw[←hy];exact(fI _ _ e).symm
   rw[nW e] at hy'
   exact Wv e (h.ob p y hy')
 inj:=h.inj
 lt:=h.lt
 ge:=h.ge
 nx:=h.nx
theorem aH.wk (h:aH ρ b st fr σ) (t s n:Nat) {b':Nat} (hb:b≤b') (hs:s<b') (hl:ρ.om.lo≤s) (hf:∀u,u≠t→ρ.tk u≠some s):aH (ρ.fU t s) b' (st.wk t) fr (σ.bZ s n) where
 d:=h.d
 om:=h.om
 fr:=fun j y hy=>by
  have hy':look (j6 (Aq.wk t) st.fr) j=some y:=hy
  rw[qd,Option.map_eq_some_iff] at hy'
  obtain⟨z,hz,rfl⟩:=hy'
  have hz':=h.fr j z hz
  have key:∀u s',u≠t→ρ.tk u=some s'→(ρ.fU t s).tk u=some s'∧(σ.bZ s n).top s'=σ.top s':=fun u s' hu hs'=>
   ⟨by simp[aL.fU,upd,hu,hs'],Dw _ _ fun e=>hf u hu (by rw[hs',e])⟩
  cases z with
  |opt j' w y=>exact⟨fun hc=>Rl.wk (ρ:=ρ) (ρ':=ρ.fU t s) (top:=σ.top) (top':=(σ.bZ s n).top) t ⟨rfl,rfl,rfl⟩ key y _ (hz'.1 hc),hz'.2⟩
  |_=>exact gG.of (Rl.wk (ρ:=ρ) (ρ':=ρ.fU t s) (top:=σ.top) (top':=(σ.bZ s n).top) t ⟨rfl,rfl,rfl⟩ key _ _ hz')
 ob:=fun p y hy=>by
  have hy':look (j6 (Ob.wk t) st.ob) p=some y:=hy
  rw[qd,Option.map_eq_some_iff] at hy'
  obtain⟨z,hz,rfl⟩:=hy'
  have hz':=h.ob p z hz
  have key:∀u s',u≠t→ρ.tk u=some s'→(ρ.fU t s).tk u=some s'∧(σ.bZ s n).top s'=σ.top s':=fun u s' hu hs'=>
   ⟨by simp[aL.fU,upd,hu,hs'],Dw _ _ fun e=>hf u hu (by rw[hs',e])⟩
  exact Ww key hz'
 inj:=fun u v s' hu hv=>by
  by_cases e1:u=t<;>by_cases e2:v=t
  ·rw[e1,e2]
  ·simp[aL.fU,upd,e1] at hu;simp[aL.fU,upd,e2] at hv;exact absurd (hu▸hv) (hf v e2)
  ·simp[aL.fU,upd,e1] at hu;simp[aL.fU,upd,e2] at hv;exact absurd (hv▸hu) (hf u e1)
  ·simp[aL.fU,upd,e1] at hu;simp[aL.fU,upd,e2] at hv;exact h.inj u v s' hu hv
 lt:=fun u s' hu=>by
  by_cases e1:u=t
  ·simp[aL.fU,upd,e1] at hu;omega
  ·simp[aL.fU,upd,e1] at hu;exact Nat.lt_of_lt_of_le (h.lt u s' hu) hb
 ge:=fun u s' hu=>by
  by_cases e1:u=t
  ·simp[aL.fU,upd,e1] at hu;rw[←hu];exact hl
  ·simp[aL.fU,upd,e1] at hu;exact h.ge u s' hu
 nx:=Nat.le_trans h.nx hb
theorem WB {top:Nat→Nat} {x:TV R.T} {v:Value} (h:wZ v=some x):∃y,iI v=some y∧Rl R ρ top x y:=by
 unfold wZ at h
 split at h<;>cases h<;>exact⟨_,rfl,by unfold Rl;rfl⟩
theorem WC {top:Nat→Nat}:∀{vs:List Value} {l:List (TV R.T)},zB vs=some l→∃y,vs.mapM iI=some y∧aA R ρ top l y
 | [],l,h=>by cases h;exact⟨[],rfl,rfl⟩
 |v::vs,l,h=>by
  unfold zB at h
  cases h1:(wZ v:Option (TV R.T)) with
  |none=>simp only[h1] at h;cases h
  |some a=>
   cases h2:(zB vs:Option (List (TV R.T))) with
   |none=>simp only[h1,h2] at h;cases h
   |some as=>
    simp only[h1,h2] at h;cases h
    obtain⟨y,hy,hr⟩:=WB (ρ:=ρ) (top:=top) h1
    obtain⟨ys,hys,hrs⟩:=WC h2
    exact⟨y::ys,by simp[hy,hys],.cons' hr hrs⟩
theorem WE {top:Nat→Nat} {x:TV R.T} {v:Value} (h:zC v=some x):∃y,ofValue v=some y∧Rl R ρ top x y:=by
 unfold zC at h
 split at h
 ·rename_i cs
  cases h2:(zB cs.toList:Option (List (TV R.T))) with
  |none=>simp only[h2] at h;cases h
  |some l=>
   simp only[h2] at h;cases h
   obtain⟨ys,hys,hrs⟩:=WC (ρ:=ρ) (top:=top) h2
   exact⟨.agg ys,by simp[ofValue,hys],by unfold Rl;exact⟨_,rfl,hrs⟩⟩
 ·obtain⟨y,hy,hr⟩:=WB (ρ:=ρ) (top:=top) h
  refine⟨y, ?_,hr⟩
  unfold wZ at h
  split at h<;>first|exact hy|cases h
def ni (fr:Fr) (g:List (Nat×Bool)):Prop:=∀j u,look g j=some u→fr.tm j= .bool u
theorem ni.nil:ni fr []:=fun _ _ h=>by cases h
theorem ni.cons {g:List (Nat×Bool)} {j:Nat} {u:Bool} (h:fr.tm j= .bool u) (hg:ni fr g):ni fr ((j,u)::g):=fun i v hi=>by
 by_cases e:i=j
 ·subst e;rw[iM] at hi;cases hi;exact h
 ·rw[fI _ _ e] at hi;exact hg i v hi
theorem agh {fr:Fr} {top:Nat→Nat} {g:List (Nat×Bool)} (hg:ni fr g) {y x:TV R.T} {v:V} (hy:gG fr ρ top y v) (he:Ja g y=some x):Rl R ρ top x v:=by
 cases y with
 |opt j w z=>
  unfold Ja at he
  dsimp only at he
  split at he
  ·rename_i u hu
   cases he
   have:=hg j u hu
   by_cases e:u=w
   ·subst e;rw[beq_self_eq_true];exact hy.1 this
   ·rw[show (u==w)=false by simpa using e]
    have e':u= !w:=by cases u<;>cases w<;>first|rfl|exact absurd rfl e
    unfold Rl;exact hy.2 (.inl (by rw[this,e']))
  ·cases he
 |_=>cases he;exact hy
theorem aX (h:aH ρ b st fr σ) {g:List (Nat×Bool)} (hg:ni fr g) {o:Operand} {x:TV R.T} (he:bf g st o=some x):Rl R ρ σ.top x (fr.ev E o):=by
 cases o with
 |tmp t=>
  rw[zo]
  unfold bf at he
  dsimp only at he
  split at he
  ·rename_i v hv;exact agh hg (h.fr _ _ hv) he
  ·cases he
 |const v=>
  rw[VA]
  obtain⟨y,hy,hr⟩:=WE (ρ:=ρ) (top:=σ.top) (show zC v=some x from he)
  rw[hy];exact hr
 |func f=>cases he;rw[VB];unfold Rl;exact⟨[],[],rfl,rfl,rfl⟩
 |global i=>cases he
theorem tV (h:aH ρ b st fr σ) {g:List (Nat×Bool)} (hg:ni fr g):∀{l:List Operand} {xs:List (TV R.T)},lN g st l=some xs→aA R ρ σ.top xs (l.map (fr.ev E))
 | [],xs,he=>by cases he;rfl
 |o::l,xs,he=>by
  unfold lN at he
  cases h1:bf g st o with
  |none=>simp only[h1] at he;cases he
  |some a=>
   cases h2:lN g st l with
   |none=>simp only[h1,h2] at he;cases he
   |some as=>simp only[h1,h2] at he;cases he;exact .cons' (aX h hg h1) (tV h hg h2)
theorem P5 (h:aH ρ b st fr σ) {g:List (Nat×Bool)} (hg:ni fr g):∀{l:List (Nat×Operand)} {xs:List (Nat×TV R.T)},zD g st l=some xs→xs.map (·.1)=l.map (·.1)∧aA R ρ σ.top (xs.map (·.2)) (l.map fun p=>fr.ev E p.2)
 | [],xs,he=>by cases he;exact⟨rfl,rfl⟩
 | (i,o)::l,xs,he=>by
   unfold zD at he
   cases h1:bf g st o with
   |none=>simp only[h1] at he;cases he
   |some a=>
    cases h2:zD g st l with
    |none=>simp only[h1,h2] at he;cases he
    |some as=>
     simp only[h1,h2] at he;cases he
     obtain⟨e1,e2⟩:=P5 h hg h2
     exact⟨by simp[e1],.cons' (aX h hg h1) e2⟩
end
end Aq
end
section
namespace Aq
open Go
set_option linter.unusedSectionVars false
set_option linter.unusedVariables false
theorem agi {n m:Nat} {v:Vec n} {w:Vec m} (h:I6 v=some w):n=m∧HEq v w:=by
 unfold I6 at h
 split at h
 ·rename_i e;subst e;cases h;exact⟨rfl,HEq.rfl⟩
 ·cases h
theorem WG:∀{k:iL} {s:Sg} {x:zw k},zx k s=some x→Dz k x=s
 |.i k,.i k' y,x,h=>by
  have h':(if k'=k then some y else none)=some (x:Int):=h
  by_cases e:k'=k
  ·subst e;rw[if_pos rfl] at h';cases h';rfl
  ·rw[if_neg e] at h';cases h'
 |.a k n,.a k' n' v,x,h=>by
  have h':(if k'=k then I6 (m:=n) v else none)=some (x:Vec n):=h
  by_cases e:k'=k
  ·subst e;rw[if_pos rfl] at h'
   obtain⟨e1,e2⟩:=agi h'
   subst e1;cases e2;rfl
  ·rw[if_neg e] at h';cases h'
 |.i k,.a _ _ _,x,h=>by cases h
 |.a k n,.i _ _,x,h=>by cases h
theorem JG:∀{l:List iL} {ss:List Sg} {x:wV l},tH l ss=some x→qK l x=ss
 | [],ss,x,h=>by
   cases ss with
   |nil=>rfl
   |cons s ss=>cases h
 | [k],ss,x,h=>by
   cases ss with
   |nil=>cases h
   |cons s ss=>
    cases ss with
    |nil=>
     show [Dz k x]=[s]
     rw[WG (show zx k s=some x from h)]
    |cons s' ss=>cases h
 |k::k'::l,ss,x,h=>by
  cases ss with
  |nil=>cases h
  |cons s ss=>
   have h':(match zx k s with
    |some x=>match tH (k'::l) ss with
     |some p=>some (x,p)
     |none=>none
    |none=>none)=some x:=h
   cases hu:zx k s with
   |none=>simp only[hu] at h';cases h'
   |some y=>
    cases hs:tH (k'::l) ss with
    |none=>simp only[hu,hs] at h';cases h'
    |some q=>
     simp only[hu,hs] at h'
     obtain rfl:=Option.some.inj h'
     show Dz k y::qK (k'::l) q=s::ss
     rw[WG hu,JG hs]
section
variable {R:gB} (hR:mh R)
variable {ρ:aL} {top:Nat→Nat} {b:Nat} {st:MS R.T} {fr:Fr} {σ:ah}
include hR
theorem xJ {t:Ty} {x:Den R.T t} {tv:TV R.T} {v:V} (h:nP R t tv=some x) (hr:Rl R ρ top tv v):Rl R ρ top (vC R .any t x) v:=by
 cases t with
 |int k=>rw[PN h hr];unfold Rl;rfl
 |bool=>rw[PO h hr];unfold Rl;rfl
 |str=>rw[PS h hr];unfold Rl;rfl
 |slice t=>obtain⟨c,hv⟩:=Wp h hr;rw[hv];unfold Rl;exact⟨c,rfl,trivial⟩
 |st n=>cases h
theorem WH:∀(l:List Ty) (p:lK R.T l) (cs:List (TV R.T)) (vs:List V),vD R l cs=some p→aA R ρ top cs vs→aA R ρ top (iY R .any l p) vs
 | [],p,cs,vs,h,hr=>by
   cases cs with
   |nil=>rw[hr.eT];rfl
   |cons c cs=>cases h
 | [t],p,cs,vs,h,hr=>by
   have h':nP R t (hd1 R cs)=some p:=h
   cases cs with
   |nil=>cases t<;>cases h'
   |cons c cs=>
    cases cs with
    |nil=>
     obtain⟨v,l,rfl,h1,h2⟩:=hr.dJ
     rw[h2.eT]
     exact .cons' (xJ hR h' h1) rfl
    |cons c' cs=>cases t<;>cases h'
 |t::u::l,p,cs,vs,h,hr=>by
  cases cs with
  |nil=>cases h
  |cons c cs=>
   obtain⟨v,vs,rfl,h1,h2⟩:=hr.dJ
   unfold vD at h
   cases hu:nP R t c with
   |none=>simp only[hu] at h;cases h
   |some y=>
    cases hs:vD R (u::l) cs with
    |none=>simp only[hu,hs] at h;cases h
    |some q=>
     simp only[hu,hs] at h
     obtain rfl:=Option.some.inj h
     exact .cons' (xJ hR hu h1) (WH (u::l) q cs vs hs h2)
theorem D7 {t:Ty} {x:Den R.T t} {tv:TV R.T} {v:V} (h:mR R t tv=some x) (hr:Rl R ρ top tv v):Rl R ρ top (eO R .any t x) v:=by
 cases t with
 |st n=>
  change wY R n tv=some x at h
  unfold wY at h
  split at h
  ·rename_i cs
   split at h
   ·rename_i p hp
    obtain rfl:=Option.some.inj h
    obtain⟨l,hv,hl⟩:=hr.jH
    subst hv
    show Rl R ρ top (.agg (iY R .any (R.lf n) (R.of n (R.to n p)))) _
    rw[hR.DY]
    unfold Rl;exact⟨l,rfl,WH hR _ _ _ _ hp hl⟩
   ·cases h
  ·cases h
 |int k=>exact xJ hR (t:=.int k) h hr
 |bool=>exact xJ hR (t:=.bool) h hr
 |str=>exact xJ hR (t:=.str) h hr
 |slice t=>exact xJ hR (t:=.slice t) h hr
omit hR in
theorem WI {sz n:Nat} {c c':Cp} {x:Cap} (h:zH c c'=true) (hx:Ae ρ top sz n c x):Ae ρ top sz n c' x:=by
 cases c<;>cases c'<;>simp only[zH,Bool.false_eq_true] at h<;>first|trivial|exact hx|exact .inl hx|exact .inr (.inl hx)| (rw[←dK h];exact hx)
omit hR in
theorem P6 {k e k' e':Ty} {m:List (Den R.T k'×Den R.T e')} {x:List (Den R.T k×Den R.T e)} (h:zI R m=some x):k'=k∧e'=e∧HEq m x:=by
 unfold zI at h
 split at h
 ·rename_i e;obtain⟨rfl,rfl⟩:=e;cases h;exact⟨rfl,rfl,HEq.rfl⟩
 ·cases h
omit hR in
theorem WJ {c:Cp} {t:Ty} {x:List (Den R.T t)} {tv:TV R.T} {v:V} (h:Jd R c t tv=some x) (hr:Rl R ρ top tv v):Rl R ρ top (.aj c t x) v:=by
 unfold Jd at h
 split at h
 ·rename_i c' t' l
  cases hc:zH c' c
  ·rw[hc] at h;cases h
  ·rw[hc,cond_true] at h
   obtain⟨e,e2⟩:=qc h;subst e;cases e2
   obtain⟨c'',hv,hcc⟩:=hr.jU
   unfold Rl;exact⟨c'',hv,WI hc hcc⟩
 ·cases hc:zH .nil c
  ·rw[hc] at h;cases h
  ·rw[hc,cond_true] at h;cases h
   unfold Rl;exact⟨.nil,hr.nV,WI hc rfl⟩
 ·cases h
mutual
theorem P7:∀(k:Sk) (x:oM R.T k) (tv:TV R.T) (v:V),pk R k tv=some x→Rl R ρ top tv v→Rl R ρ top (up R .any k x) v
 |.d t,x,tv,v,h,hr=>D7 hR (by unfold pk at h;exact h) hr
 |.l c t,x,tv,v,h,hr=>WJ (by unfold pk at h;exact h) hr
 |.agg l,x,tv,v,h,hr=>by
  cases tv<;>first| (exact absurd (show none=some x from h) (by simp))|skip
  rename_i cs
  obtain⟨vs,rfl,hl⟩:=hr.jH
  show Rl R ρ top (.agg (iG R .any l x)) _
  unfold Rl;exact⟨vs,rfl,xK l x cs vs h hl⟩
 |.ref o off,x,tv,v,h,hr=>by
  cases tv<;>first| (exact absurd (show none=some x from h) (by simp))|skip
  rename_i p off'
  have h':(bif Nat.beq p o&& Nat.beq off' off then some () else none)=some x:=h
  cases hb:(Nat.beq p o&& Nat.beq off' off)
  ·rw[hb] at h';cases h'
  ·rw[Bool.and_eq_true] at hb
   rw[dK hb.1,dK hb.2] at hr
   exact hr
 |.aJ l off,x,tv,v,h,hr=>by
  cases tv<;>first| (exact absurd (show none=some x from h) (by simp))|skip
  rename_i cs off'
  have h':(bif Nat.beq off' off then fA R l cs else none)=some x:=h
  cases hb:Nat.beq off' off
  ·rw[hb] at h';cases h'
  ·rw[hb,cond_true] at h'
   rw[dK hb] at hr
   obtain⟨vs,rfl,hl⟩:=hr.rP
   show Rl R ρ top (.aJ (iG R .any l x) off) _
   unfold Rl;exact⟨vs,rfl,xK l x _ vs h' hl⟩
 |.bK o,x,tv,v,h,hr=>by
  cases tv<;>first| (exact absurd (show none=some x from h) (by simp))|skip
  rename_i p
  have h':(bif Nat.beq p o then some () else none)=some x:=h
  cases hb:Nat.beq p o
  ·rw[hb] at h';cases h'
  ·rw[dK hb] at hr
   exact hr
 |.dn k e,x,tv,v,h,hr=>by
  cases tv<;>first| (exact absurd (show none=some x from h) (by simp))|skip
  rename_i k' e' m
  obtain⟨e1,e2,e3⟩:=P6 (show zI R m=some x from h)
  subst e1;subst e2;cases e3
  exact hr
 |.fn f a b,x,tv,v,h,hr=>by
  cases tv<;>first| (exact absurd (show none=some x from h) (by simp))|skip
  rename_i f' a' b'
  have h':(bif Nat.beq f' f then (match fA R a a' with
   |some x=>match fA R b b' with
    |some y=>some (x,y)
    |none=>none
   |none=>none) else none)=some x:=h
  cases hb:Nat.beq f' f
  ·rw[hb] at h';cases h'
  ·rw[hb,cond_true] at h'
   rw[dK hb] at hr
   obtain⟨va,vb,rfl,ha,hbb⟩:=hr.mo
   cases h1:fA R a a' with
   |none=>simp only[h1] at h';cases h'
   |some y=>
    cases h2:fA R b b' with
    |none=>simp only[h1,h2] at h';cases h'
    |some z=>
     simp only[h1,h2] at h';cases h'
     show Rl R ρ top (.fn f (iG R .any a y) (iG R .any b z)) _
     unfold Rl;exact⟨va,vb,rfl,xK a y _ va h1 ha,xK b z _ vb h2 hbb⟩
 |.dZ,x,tv,v,h,hr=>by
  cases tv<;>first| (exact absurd (show none=some x from h) (by simp))|skip
  exact hr
 |.vw o t,x,tv,v,h,hr=>by
  cases tv<;>first| (exact absurd (show none=some x from h) (by simp))|skip
  rename_i p t'
  have h':(bif Nat.beq p o then (if t'=t then some () else none) else none)=some x:=h
  cases hb:Nat.beq p o
  ·rw[hb] at h';cases h'
  ·rw[hb,cond_true] at h'
   split at h'
   ·rename_i e
    rw[dK hb,e] at hr
    exact hr
   ·cases h'
 |.sg l,x,tv,v,h,hr=>by
  cases tv<;>first| (exact absurd (show none=some x from h) (by simp))|skip
  rename_i ss
  show Rl R ρ top (.sg (qK l x)) v
  rw[JG (show tH l ss=some x from h)]
  exact hr
 |.undef,x,tv,v,h,hr=>by
  cases tv<;>first| (exact absurd (show none=some x from h) (by simp))|skip
  exact hr
theorem xK:∀(l:List Sk) (x:aB R.T l) (cs:List (TV R.T)) (vs:List V),fA R l cs=some x→aA R ρ top cs vs→aA R ρ top (iG R .any l x) vs
 | [],x,cs,vs,h,hr=>by
   cases cs with
   |nil=>rw[hr.eT];rfl
   |cons c cs=>exact absurd (show none=some x from h) (by simp)
 | [k],x,cs,vs,h,hr=>by
   cases cs with
   |nil=>exact absurd (show none=some x from h) (by simp)
   |cons c cs=>
    cases cs with
    |nil=>
     obtain⟨v,l,rfl,h1,h2⟩:=hr.dJ
     rw[h2.eT]
     show aA R ρ top [up R .any k x] _
     exact .cons' (P7 k x _ v h h1) rfl
    |cons c' cs=>exact absurd (show none=some x from h) (by simp)
 |k::k'::l,x,cs,vs,h,hr=>by
  cases cs with
  |nil=>exact absurd (show none=some x from h) (by simp)
  |cons c cs=>
   have h':(match pk R k c with
    |some x=>match fA R (k'::l) cs with
     |some p=>some (x,p)
     |none=>none
    |none=>none)=some x:=h
   obtain⟨v,vs,rfl,h1,h2⟩:=hr.dJ
   cases hu:pk R k c with
   |none=>simp only[hu] at h';cases h'
   |some y=>
    cases hs:fA R (k'::l) cs with
    |none=>simp only[hu,hs] at h';cases h'
    |some q=>
     simp only[hu,hs] at h'
     obtain rfl:=Option.some.inj h'
     show aA R ρ top (up R .any k y::iG R .any (k'::l) q) _
     exact .cons' (P7 k y _ v hu h1) (xK (k'::l) q _ vs hs h2)
end
omit hR in
theorem agj {k:Sk} {j:Nat} {w:Bool} {y:TV R.T} {x:oM R.T k} (h:pk R k (.opt j w y)=some x):False:=by
 cases k with
 |d t=>cases t<;>(unfold pk at h;cases h)
 |_=>unfold pk at h;cases h
theorem gG.pk {k:Sk} {x:oM R.T k} {tv:TV R.T} {v:V} (h:pk R k tv=some x) (hr:gG fr ρ top tv v):Rl R ρ top (up R .any k x) v:=by
 cases tv<;>first|exact P7 hR _ _ _ _ h hr|exact(agj h).elim
theorem P8 (h:aH ρ b st fr σ):∀(l:List (Nat×Sk)) (x:wW R.T l),oP R st.fr l=some x→∀i v,look (DJ R l x) i=some v→Rl R ρ σ.top v (fr.tm i)
 | [],x,hx,i,v,hv=>by cases hv
 | [(j,k)],x,hx,i,v,hv=>by
   unfold oP at hx
   split at hx
   ·rename_i y hy
    by_cases e:i=j
    ·subst e
     have hv':look [(i,up R .any k x)] i=some v:=hv
     rw[iM] at hv';cases hv'
     exact gG.pk hR hx (h.fr _ _ hy)
    ·have hv':look [(j,up R .any k x)] i=some v:=hv
     rw[fI _ _ e] at hv';cases hv'
   ·cases hx
 | (j,k)::q::l,x,hx,i,v,hv=>by
   unfold oP at hx
   split at hx
   ·rename_i y hy
    cases hu:pk R k y with
    |none=>simp only[hu] at hx;cases hx
    |some z=>
     cases hs:oP R st.fr (q::l) with
     |none=>simp only[hu,hs] at hx;cases hx
     |some p=>
      simp only[hu,hs] at hx
      obtain rfl:=Option.some.inj hx
      have hv':look ((j,up R .any k z)::DJ R (q::l) p) i=some v:=hv
      by_cases e:i=j
      ·subst e
       rw[iM] at hv';cases hv'
       exact gG.pk hR hu (h.fr _ _ hy)
      ·rw[fI _ _ e] at hv'
       exact P8 h (q::l) p hs i v hv'
   ·cases hx
theorem P9 {o:Nat} {k:jJ} {x:vB R.T k} {y:Ob R.T} (hx:vH R k y=some x) (hy:dQ ρ σ o y):dQ ρ σ o (jR R k x):=by
 cases k with
 |cells l=>
  cases y with
  |cells cs=>
   obtain⟨s,vs,h1,h2,h3⟩:=hy
   exact⟨s,vs,h1,h2,xK hR l x _ vs hx h3⟩
  |map k e m=>cases hx
  |smap _ _=>cases hx
  |arr _ _=>cases hx
  |sg _=>cases hx
  |gone=>cases hx
  |ro b=>cases hx
 |st n=>
  cases y with
  |cells cs=>
   obtain⟨s,vs,h1,h2,h3⟩:=hy
   obtain⟨l,e,hl⟩:=(D7 hR (t:=.st n) (show mR R (.st n) (.agg cs)=some x from hx) (v:=.agg vs) ⟨vs,rfl,h3⟩).jH
   cases e
   exact⟨s,vs,h1,h2,hl⟩
  |map k e m=>cases hx
  |smap _ _=>cases hx
  |arr _ _=>cases hx
  |sg _=>cases hx
  |gone=>cases hx
  |ro b=>cases hx
 |arr t=>
  cases y with
  |arr t' l=>
   obtain⟨e,e2⟩:=qc hx
   subst e;cases e2
   exact hy
  |cells cs=>cases hx
  |map _ _ _=>cases hx
  |smap _ _=>cases hx
  |sg _=>cases hx
  |gone=>cases hx
  |ro b=>cases hx
 |sg l=>
  cases y with
  |sg ss=>
   show dQ ρ σ o (.sg (qK l x))
   rw[JG (show tH l ss=some x from hx)]
   exact hy
  |cells cs=>cases hx
  |map _ _ _=>cases hx
  |smap _ _=>cases hx
  |arr _ _=>cases hx
  |gone=>cases hx
  |ro b=>cases hx
 |map k e=>
  cases y with
  |map k' e' m=>
   obtain⟨e1,e2,e3⟩:=P6 hx
   subst e1;subst e2;cases e3
   exact hy
  |cells cs=>cases hx
  |smap _ _=>cases hx
  |arr _ _=>cases hx
  |sg _=>cases hx
  |gone=>cases hx
  |ro b=>cases hx
theorem WK (h:aH ρ b st fr σ):∀(l:List (Nat×jJ)) (x:mQ R.T l),lg R st.ob l=some x→∀i v,look (jS R l x) i=some v→dQ ρ σ i v
 | [],x,hx,i,v,hv=>by cases hv
 | [(j,k)],x,hx,i,v,hv=>by
   unfold lg at hx
   split at hx
   ·rename_i y hy
    by_cases e:i=j
    ·subst e
     have hv':look [(i,jR R k x)] i=some v:=hv
     rw[iM] at hv';cases hv'
     exact P9 hR hx (h.ob _ _ hy)
    ·have hv':look [(j,jR R k x)] i=some v:=hv
     rw[fI _ _ e] at hv';cases hv'
   ·cases hx
 | (j,k)::q::l,x,hx,i,v,hv=>by
   unfold lg at hx
   split at hx
   ·rename_i y hy
    cases hu:vH R k y with
    |none=>simp only[hu] at hx;cases hx
    |some z=>
     cases hs:lg R st.ob (q::l) with
     |none=>simp only[hu,hs] at hx;cases hx
     |some p=>
      simp only[hu,hs] at hx
      obtain rfl:=Option.some.inj hx
      have hv':look ((j,jR R k z)::jS R (q::l) p) i=some v:=hv
      by_cases e:i=j
      ·subst e
       rw[iM] at hv';cases hv'
       exact P9 hR hu (h.ob _ _ hy)
      ·rw[fI _ _ e] at hv'
       exact WK h (q::l) p hs i v hv'
   ·cases hx
theorem aH.pack (h:aH ρ b st fr σ) {s:Shape} {p:nO R.T s} (hp:pack R st s=some p):aH ρ b (unpack R s p) fr σ:=by
 obtain⟨sl,ob⟩:=s
 cases ob with
 |nil=>
  have hp':oP R st.fr sl=some p:=hp
  exact {h with fr:=fun i v hv=>.of (P8 hR h sl p hp' i v hv),ob:=fun i v hv=>by cases hv}
 |cons o os=>
  unfold Aq.pack at hp
  cases hu:oP R st.fr sl with
  |none=>simp only[hu] at hp;cases hp
  |some x=>
   cases hs:lg R st.ob (o::os) with
   |none=>simp only[hu,hs] at hp;cases hp
   |some y=>
    simp only[hu,hs] at hp
    obtain rfl:=Option.some.inj hp
    exact {h with fr:=fun i v hv=>.of (P8 hR h sl x hu i v hv),ob:=fun i v hv=>WK hR h (o::os) y hs i v hv}
omit hR in
theorem WL {e x:Ex} (h:xk e x=true):e=x:=by
 cases e<;>cases x<;>simp only[xk,Bool.false_eq_true] at h<;>first|rfl|rw[dK h]
omit hR in
def RO (st:MS R.T) (o:Nat):Prop:=∀x,look st.ob o=some x→mU x=true
omit hR in
theorem Qa {k:jJ} {x:vB R.T k} {y:Ob R.T} (hx:vH R k y=some x) (hy:mU y=true):False:=by
 cases y with
 |cells _=>cases hy
 |map _ _ _=>cases hy
 |smap _ _=>cases hy
 |arr _ _=>cases hy
 |sg _=>cases hy
 |gone=>cases k<;>cases hx
 |ro b=>cases k<;>cases hx
omit hR in
theorem WM {i:Nat} (hr:RO st i):∀(l:List (Nat×jJ)) (x:mQ R.T l),lg R st.ob l=some x→look (jS R l x) i=none
 | [],x,hx=>rfl
 | [(j,k)],x,hx=>by
   unfold lg at hx
   split at hx
   ·rename_i y hy
    by_cases e:i=j
    ·subst e;exact(Qa hx (hr _ hy)).elim
    ·show look [(j,jR R k x)] i=none
     rw[fI _ _ e];rfl
   ·cases hx
 | (j,k)::q::l,x,hx=>by
   unfold lg at hx
   split at hx
   ·rename_i y hy
    cases hu:vH R k y with
    |none=>simp only[hu] at hx;cases hx
    |some z=>
     cases hs:lg R st.ob (q::l) with
     |none=>simp only[hu,hs] at hx;cases hx
     |some p=>
      simp only[hu,hs] at hx
      obtain rfl:=Option.some.inj hx
      show look ((j,jR R k z)::jS R (q::l) p) i=none
      by_cases e:i=j
      ·subst e;exact(Qa hu (hr _ hy)).elim
      ·rw[fI _ _ e];exact WM hr (q::l) p hs
   ·cases hx
omit hR in
theorem agk {s:Shape} {p:nO R.T s} {i:Nat} (hp:Aq.pack R st s=some p) (hr:RO st i):look (unpack R s p).ob i=none:=by
 obtain⟨sl,ob⟩:=s
 cases ob with
 |nil=>rfl
 |cons o os=>
  unfold Aq.pack at hp
  cases hu:oP R st.fr sl with
  |none=>simp only[hu] at hp;cases hp
  |some x=>
   cases hs:lg R st.ob (o::os) with
   |none=>simp only[hu,hs] at hp;cases hp
   |some y=>
    simp only[hu,hs] at hp
    obtain rfl:=Option.some.inj hp
    exact WM hr (o::os) y hs
omit hR
theorem tX {α:Type}:∀(l m:List (Nat×α)) (i:Nat),look (l++m) i=match look l i with|some x=>some x|none=>look m i
 | [],m,i=>rfl
 | (j,x)::l,m,i=>by
   show (bif Nat.beq j i then some x else look (l++m) i)=match (bif Nat.beq j i then some x else look l i) with|some x=>some x|none=>look m i
   cases Nat.beq j i
   ·exact tX l m i
   ·rfl
theorem aH.over {st':MS R.T} (h:aH ρ b st fr σ) (h':aH ρ b st' fr σ):aH ρ b (st.over st') fr σ:={h with
 fr:=fun i v hv=>by
  have hv':look (st.fr++st'.fr) i=some v:=hv
  rw[tX] at hv'
  split at hv'
  ·rename_i x hx;cases hv';exact h.fr _ _ hx
  ·exact h'.fr _ _ hv'
 ob:=fun i v hv=>by
  have hv':look (st.ob++st'.ob) i=some v:=hv
  rw[tX] at hv'
  split at hv'
  ·rename_i x hx;cases hv';exact h.ob _ _ hx
  ·exact h'.ob _ _ hv'}
theorem tY {α:Type} {p:Nat→α→Bool} {f:α→α} {l:List (Nat×α)}:∀{is:List Nat} {i:Nat} {y:α},look (lM p f l is) i=some y→∃x,look l i=some x∧p i x=true∧y=f x
 | [],i,y,h=>by cases h
 |j::is,i,y,h=>by
  unfold lM at h
  split at h
  ·rename_i x hx
   cases hp:p j x
   ·rw[hp] at h;exact tY h
   ·rw[hp,cond_true] at h
    by_cases e:i=j
    ·subst e;rw[iM] at h;cases h;exact⟨x,hx,hp,rfl⟩
    ·rw[fI _ _ e] at h;exact tY h
  ·exact tY h
mutual
theorem Rl.solid {ρ':aL} {top':Nat→Nat} {W:List Nat} (ho:∀o,aP o W=false→ρ'.ob o=ρ.ob o∧ρ'.ln o=ρ.ln o) (hx:ρ'.om=ρ.om):∀(x:TV R.T) (v:V),Aq.solid W x=true→Rl R ρ top x v→Rl R ρ' top' x v
 |.aj c t l,v,hs,h=>by
  obtain⟨c',hv,hc⟩:=h
  refine⟨c',hv, ?_⟩
  cases c<;>first|exact hc| (simp[Aq.solid] at hs;done)
 |.ref o off,v,hs,h=>by
  obtain⟨s,h1,h2⟩:=h
  unfold Aq.solid at hs
  exact⟨s,by rw[(ho o (by simpa using hs)).1];exact h1,by rw[hx];exact h2⟩
 |.bK o,v,hs,h=>by
  obtain⟨s,h1,h2⟩:=h
  unfold Aq.solid at hs
  exact⟨s,by rw[(ho o (by simpa using hs)).1];exact h1,by rw[hx];exact h2⟩
 |.vw o t,v,hs,h=>by
  unfold Aq.solid at hs
  obtain⟨k1,k2⟩:=ho o (by simpa using hs)
  rcases h with ⟨s,h1,h2⟩| ⟨h1,h2⟩
  ·exact .inl ⟨s,by rw[k1];exact h1,by rw[k2,hx];exact h2⟩
  ·exact .inr ⟨by rw[k2];exact h1,h2⟩
 |.jq o t i off,v,hs,h=>by
  obtain⟨s,h1,h2⟩:=h
  unfold Aq.solid at hs
  exact⟨s,by rw[(ho o (by simpa using hs)).1];exact h1,by rw[hx];exact h2⟩
 |.sv o _ _ _ _ _,v,hs,h=>by
  obtain⟨s,h1,h2⟩:=h
  unfold Aq.solid at hs
  exact⟨s,by rw[(ho o (by simpa using hs)).1];exact h1,by rw[hx];exact h2⟩
 |.sel o _ _ _ _ _,v,hs,h=>by
  obtain⟨s,h1,h2⟩:=h
  unfold Aq.solid at hs
  exact⟨s,by rw[(ho o (by simpa using hs)).1];exact h1,by rw[hx];exact h2⟩
 |.sg _,_,_,h=>h
 |.oL _ _ _ _,_,_,h=>h
 |.agg cs,v,hs,h=>by obtain⟨l,hv,hl⟩:=h;exact⟨l,hv,aA.solid ho hx cs l (by unfold Aq.solid at hs;exact hs) hl⟩
 |.bB cs,v,hs,h=>by obtain⟨l,hv,hl⟩:=h;exact⟨l,hv,aA.solid ho hx cs l (by unfold Aq.solid at hs;exact hs) hl⟩
 |.aJ cs off,v,hs,h=>by obtain⟨l,hv,hl⟩:=h;exact⟨l,hv,aA.solid ho hx cs l (by unfold Aq.solid at hs;exact hs) hl⟩
 |.fn f a b,v,hs,h=>by
  obtain⟨a',b',hv,ha,hb⟩:=h
  unfold Aq.solid at hs
  rw[Bool.and_eq_true] at hs
  exact⟨a',b',hv,aA.solid ho hx a a' hs.1 ha,aA.solid ho hx b b' hs.2 hb⟩
 |.opt _ _ _,_,_,h=>h.elim
 |.int _ _,_,_,h=>h
 |.bool _,_,_,h=>h
 |.fT _,_,_,h=>h
 |.str _,_,_,h=>h
 |.eD,_,_,h=>h
 |.dX,_,_,h=>h
 |.dS,_,_,h=>h
 |.fH,_,_,h=>h
 |.dZ,_,_,h=>h
 |.dn _ _ _,_,_,h=>h
 |.undef,_,_,h=>h
 |.gone,_,_,h=>trivial
theorem aA.solid {ρ':aL} {top':Nat→Nat} {W:List Nat} (ho:∀o,aP o W=false→ρ'.ob o=ρ.ob o∧ρ'.ln o=ρ.ln o) (hx:ρ'.om=ρ.om):∀(x:List (TV R.T)) (v:List V),oO W x=true→aA R ρ top x v→aA R ρ' top' x v
 | [],_,_,h=>h
 |x::xs,_,hs,⟨v,vs,e,h1,h2⟩=>by
  unfold oO at hs
  rw[Bool.and_eq_true] at hs
  exact⟨v,vs,e,Rl.solid ho hx x v hs.1 h1,aA.solid ho hx xs vs hs.2 h2⟩
end
theorem agl {x:TV R.T} {v:V} (h:gG fr ρ top x v):gG fr ρ top (Pb x) v:=by
 cases x with
 |aj c t l=>
  cases c with
  |own u=>obtain⟨c',hv,_⟩:=Rl.jU (show Rl R ρ top (.aj (.own u) t l) v from h);exact .of (x:=.aj .any t l) (by unfold Rl;exact⟨c',hv,trivial⟩)
  |_=>exact h
 |_=>exact h
theorem agm {W:List Nat} {x:TV R.T} {v:V} (hs:Aq.solid W x=true) (h:gG fr ρ top x v):Rl R ρ top x v:=by
 cases x<;>first|exact h| (simp[Aq.solid] at hs;done)
structure aV (nr:Bool) (o:Nat) (st:MS R.T) (ρ:aL) (σ:ah) (st':MS R.T) (ρ':aL) (σ':ah):Prop where
 ob:ρ'.ob o=ρ.ob o
 ln:ρ'.ln o=ρ.ln o
 om:ρ'.om=ρ.om
 nx:σ.next≤σ'.next
 lp:(∀l,l<σ.next→σ'.loops l=σ.loops l)∧∀s,s<ρ.om.lo→σ'.top s=σ.top s
 dp:∀L,nr=true∨L.1≤ρ.om.dp→ρ.om.out L→σ'.obj L=σ.obj L
 ro:RO st o→RO st' o∧∀s,σ'.bO (ρ.om.lc o) s=σ.bO (ρ.om.lc o) s∧σ'.eG (ρ.om.lc o) s=σ.eG (ρ.om.lc o) s
structure Kp (nr:Bool) (W:List Nat) (st:MS R.T) (fr:Fr) (σ:ah) (ρ:aL) (st':MS R.T) (fr':Fr) (σ':ah) (ρ':aL):Prop where
 fr:∀i,aP i W=false→fr'.tm i=fr.tm i
 ob:∀o,aP o W=false→aV nr o st ρ σ st' ρ' σ'
section
variable {nr:Bool}
theorem Qb {c:Cx} {o s:Nat} {x:fO} {L:Loc} (h:c.out L):(σ.setObj (c.lc o) s x).obj L=σ.obj L:=by
 unfold ah.setObj upd
 dsimp only
 rw[if_neg (h o)]
theorem agn {c:Cx} {o:Nat} {L:Loc} (h:c.out L):(σ.jN (c.lc o)).obj L=σ.obj L:=by
 unfold ah.jN upd
 dsimp only
 rw[if_neg (h o)]
theorem Cx.WO (c:Cx) {L:Loc} (h:c.dp<L.1):c.out L:=fun o e=>by
 have:=c.Ad o
 rw[←e] at this
 omega
theorem aV.refl {o:Nat}:aV nr o st ρ σ st ρ σ:=⟨rfl,rfl,rfl,Nat.le_refl _,⟨fun _ _=>rfl,fun _ _=>rfl⟩,fun _ _ _=>rfl,fun h=>⟨h,fun _=>⟨rfl,rfl⟩⟩⟩
theorem aV.trans {o:Nat} {st' fD:MS R.T} {ρ' nk:aL} {σ' jL:ah} (h:aV nr o st ρ σ st' ρ' σ') (g:aV nr o st' ρ' σ' fD nk jL):aV nr o st ρ σ fD nk jL:=
 ⟨g.ob.trans h.ob,g.ln.trans h.ln,g.om.trans h.om,Nat.le_trans h.nx g.nx,⟨fun l hl=>(g.lp.1 l (Nat.lt_of_lt_of_le hl h.nx)).trans (h.lp.1 l hl),fun s hs=>(g.lp.2 s (by rw[h.om];exact hs)).trans (h.lp.2 s hs)⟩,fun L hn hL=>(g.dp L (by rw[h.om];exact hn) (by rw[h.om];exact hL)).trans (h.dp L hn hL),fun hr=>by
   have g':=fun hr=>g.ro hr
   rw[h.om] at g'
   exact⟨(g' (h.ro hr).1).1,fun s=>⟨((g' (h.ro hr).1).2 s).1.trans ((h.ro hr).2 s).1,((g' (h.ro hr).1).2 s).2.trans ((h.ro hr).2 s).2⟩⟩⟩
theorem Kp.refl {W:List Nat}:Kp nr W st fr σ ρ st fr σ ρ:=⟨fun _ _=>rfl,fun _ _=>.refl⟩
theorem Kp.trans {W:List Nat} {st' fD:MS R.T} {fr' tZ:Fr} {ρ' nk:aL} {σ' jL:ah} (h:Kp nr W st fr σ ρ st' fr' σ' ρ') (g:Kp nr W st' fr' σ' ρ' fD tZ jL nk):Kp nr W st fr σ ρ fD tZ jL nk:=
 ⟨fun i hi=>(g.fr i hi).trans (h.fr i hi),fun o ho=>(h.ob o ho).trans (g.ob o ho)⟩
theorem Kp.mono {W W':List Nat} {st':MS R.T} {fr':Fr} {ρ':aL} {σ':ah} (h:Kp nr W st fr σ ρ st' fr' σ' ρ') (hw:∀i,aP i W'=false→aP i W=false):Kp nr W' st fr σ ρ st' fr' σ' ρ':=
 ⟨fun i hi=>h.fr i (hw i hi),fun o ho=>h.ob o (hw o ho)⟩
theorem D8:∀(i:Nat) (l m:List Nat),aP i (l++m)=(aP i l||aP i m)
 |i,[],m=>rfl
 |i,j::l,m=>by show (Nat.beq i j||aP i (l++m))=_;rw[D8 i l m,←Bool.or_assoc];rfl
theorem WQ {o:Nat} {ρ':aL} {σ':ah} {W:List Nat} (ho:∀o,aP o W=false→ρ'.ob o=ρ.ob o∧ρ'.ln o=ρ.ln o) (hx:ρ'.om=ρ.om) (hm:aP o W=false) (hc:∀s,σ'.bO (ρ.om.lc o) s=σ.bO (ρ.om.lc o) s∧σ'.eG (ρ.om.lc o) s=σ.eG (ρ.om.lc o) s):∀{x:Ob R.T},kZ W x=true→dQ ρ σ o x→dQ ρ' σ' o x
 |.cells cs,hs,h=>by
  obtain⟨s,l,h1,h2,h3⟩:=h
  exact⟨s,l,by rw[(ho o hm).1];exact h1,by rw[hx,(hc s).1];exact h2,aA.solid ho hx cs l hs h3⟩
 |.map k e m,_,h=>by obtain⟨s,h1,h2⟩:=h;exact⟨s,by rw[(ho o hm).1];exact h1,by rw[hx,(hc s).2];exact h2⟩
 |.smap ks vs,hs,h=>by
  obtain⟨s,k,l,h1,h2,h3,h4⟩:=h
  have hs':(oO W ks&& oO W vs)=true:=hs
  rw[Bool.and_eq_true] at hs'
  exact⟨s,k,l,by rw[(ho o hm).1];exact h1,by rw[hx,(hc s).2];exact h2,aA.solid ho hx ks k hs'.1 h3,aA.solid ho hx vs l hs'.2 h4⟩
 |.arr t l,_,h=>by
  refine⟨h.1.trans (ho o hm).2.symm, ?_⟩
  rcases h.2 with h| ⟨s,cs,h1,h2,h3⟩
  ·exact .inl ⟨h.1,(ho o hm).1.trans h.2⟩
  ·exact .inr ⟨s,cs,by rw[(ho o hm).1];exact h1,by rw[hx,(hc s).1];exact h2,tT l cs h3⟩
 |.sg ss,_,h=>by obtain⟨s,h1,h2⟩:=h;exact⟨s,by rw[(ho o hm).1];exact h1,by rw[hx,(hc s).1];exact h2⟩
 |.gone,_,_=>trivial
 |.ro b,hs,h=>WQ ho hx hm hc (x:=b) hs h
theorem Ao:∀W:List Nat,∃n,∀m,n≤m→aP m W=false
 | []=>⟨0,fun _ _=>rfl⟩
 |i::W=>by
  obtain⟨n,hn⟩:=Ao W
  refine⟨n+i+1,fun m hm=> ?_⟩
  show (Nat.beq m i||aP m W)=false
  rw[JF (by omega),hn m (by omega)];rfl
theorem Kp.om {W:List Nat} {st':MS R.T} {fr':Fr} {ρ':aL} {σ':ah} (h:Kp nr W st fr σ ρ st' fr' σ' ρ'):ρ'.om=ρ.om:=by
 obtain⟨n,hn⟩:=Ao W
 exact(h.ob n (hn n (Nat.le_refl _))).om
theorem aH.base {W K O:List Nat} {mark:Ob R.T→Ob R.T} (hmark:∀ρ σ o x,dQ ρ σ o x→dQ (R:=R) ρ σ o (mark x)) {st0 st' fD:MS R.T} {fr':Fr} {ρ':aL} {σ':ah} {b':Nat} (h:aH ρ b st fr σ) (hk:Kp nr W st0 fr σ ρ st' fr' σ' ρ') (h':aH ρ' b' fD fr' σ')
 (hro:∀o x,look st.ob o=some x→aP o W=false→aP o O=true→kZ W x=true→RO st0 o):aH ρ' b' (Aq.base W K O mark st) fr' σ':={h' with
 fr:=fun i v hv=>by
  obtain⟨x,h1,h2,rfl⟩:=tY hv
  rw[Bool.and_eq_true,Bool.not_eq_true'] at h2
  have:=agm h2.2 (agl (h.fr _ _ h1))
  rw[hk.fr i h2.1]
  exact .of (Rl.solid (fun o ho=>⟨(hk.ob o ho).ob,(hk.ob o ho).ln⟩) hk.om _ _ h2.2 this)
 ob:=fun o y hy=>by
  have hO:aP o O=true:=by
   have:∀{is:List Nat} {y:Ob R.T},look (lM (fun o b=> !(aP o W)&& kZ W b) mark st.ob is) o=some y→aP o is=true:=by
    intro is
    induction is with
    |nil=>intro y h;cases h
    |cons j is ih=>
     intro y h
     show (Nat.beq o j||aP o is)=true
     unfold lM at h
     by_cases e:o=j
     ·subst e;rw[Nat.beq_refl];rfl
     ·split at h
      ·rename_i x hx
       cases hp:(!(aP j W)&& kZ W x)
       ·rw[hp] at h;rw[ih h,Bool.or_true]
       ·rw[hp,cond_true,fI _ _ e] at h;rw[ih h,Bool.or_true]
      ·rw[ih h,Bool.or_true]
   exact this hy
  obtain⟨x,h1,h2,rfl⟩:=tY hy
  rw[Bool.and_eq_true,Bool.not_eq_true'] at h2
  have hc:=((hk.ob o h2.1).ro (hro o x h1 h2.1 hO h2.2)).2
  exact hmark _ _ _ _ (WQ (fun o ho=>⟨(hk.ob o ho).ob,(hk.ob o ho).ln⟩) hk.om h2.1 hc h2.2 (h.ob _ _ h1))}
theorem Qc {W K O:List Nat} {st':MS R.T} {o:Nat} {x:Ob R.T} (h1:look st.ob o=some x) (h2:aP o W=false) (h3:aP o O=true) (h4:kZ W x=true):RO ((Aq.base W K O .ro st).over st') o:=by
 intro y hy
 have hl:∃z,look (lM (fun o b=> !(aP o W)&& kZ W b) Ob.ro st.ob O) o=some (.ro z):=by
  have:∀is:List Nat,aP o is=true→∃z,look (lM (fun o b=> !(aP o W)&& kZ W b) Ob.ro st.ob is) o=some (.ro z):=by
   intro is
   induction is with
   |nil=>intro h;cases h
   |cons j is ih=>
    intro h
    by_cases e:o=j
    ·subst e
     unfold lM
     rw[h1]
     dsimp only
     rw[h2,h4]
     exact⟨x,iM _ _ _⟩
    ·have h':(Nat.beq o j||aP o is)=true:=h
     rw[JF e,Bool.false_or] at h'
     obtain⟨z,hz⟩:=ih h'
     refine⟨z, ?_⟩
     unfold lM
     split
     ·rename_i w hw
      cases (!(aP j W)&& kZ W w)
      ·exact hz
      ·rw[cond_true,fI _ _ e];exact hz
     ·exact hz
  exact this O h3
 obtain⟨z,hz⟩:=hl
 have hy':look (lM (fun o b=> !(aP o W)&& kZ W b) Ob.ro st.ob O++st'.ob) o=some y:=hy
 rw[tX,hz] at hy'
 cases hy';rfl
theorem agp {t:Nat}:∀{x:Ob R.T},mU x=true→mU (Ob.wk t x)=true
 |.ro _,_=>rfl
 |.gone,_=>rfl
 |.cells _,h=>by cases h
 |.map _ _ _,h=>by cases h
 |.smap _ _,h=>by cases h
 |.arr _ _,h=>by cases h
theorem WR {t:Nat} {x:Ob R.T} (h:mU x=true):mU (Ob.kill t x)=true:=by
 unfold Ob.kill
 cases Ob.j5 t x
 ·exact h
 ·rfl
theorem aV.wk {p t s n:Nat} (hl:ρ.om.lo≤s):aV nr p st ρ σ (st.wk t) (ρ.fU t s) (σ.bZ s n):=⟨rfl,rfl,rfl,Nat.le_refl _,⟨fun _ _=>rfl,fun s' hs'=>Dw _ _ (by omega)⟩,fun _ _ _=>rfl,fun hr=>⟨fun x hx=>by
 have hx':look (j6 (Ob.wk t) st.ob) p=some x:=hx
 rw[qd,Option.map_eq_some_iff] at hx'
 obtain⟨z,hz,rfl⟩:=hx'
 exact agp (hr z hz),fun _=>⟨rfl,rfl⟩⟩⟩
theorem aV.set {o q s:Nat} {x y:Ob R.T} {a:fO} (hl:look st.ob o=some y) (hy:mU y=false):aV nr q st ρ σ (st.set o x) ρ (σ.setObj (ρ.om.lc o) s a):=⟨rfl,rfl,rfl,Nat.le_refl _,⟨fun _ _=>rfl,fun _ _=>rfl⟩,fun _ _ hL=>Qb hL,fun hr=>by
 have hne:q≠o:=by rintro rfl;rw[hr y hl] at hy;cases hy
 refine⟨fun z hz=> ?_,fun s'=>⟨vR _ _ _ _ hne,Ak _ _ _ _ hne⟩⟩
 have hz':look ((o,x)::gD o st.ob) q=some z:=hz
 rw[fI _ _ hne,nW hne] at hz'
 exact hr z hz'⟩
theorem aV.new {o q s:Nat} {x:Ob R.T} {a:fO} (hne:q≠o):aV nr q st ρ σ (st.new o x) (ρ.ku o s) (σ.setObj (ρ.om.lc o) s a):=⟨by simp[aL.ku,upd,hne],rfl,rfl,Nat.le_refl _,⟨fun _ _=>rfl,fun _ _=>rfl⟩,fun _ _ hL=>Qb hL,fun hr=>by
 refine⟨fun z hz=> ?_,fun s'=>⟨vR _ _ _ _ hne,Ak _ _ _ _ hne⟩⟩
 have hz':look ((o,x)::j6 (Ob.kill o) (gD o st.ob)) q=some z:=hz
 rw[fI _ _ hne,qd,nW hne,Option.map_eq_some_iff] at hz'
 obtain⟨w,hw,rfl⟩:=hz'
 exact WR (hr w hw)⟩
theorem kP {d:Option Nat} {v:TV R.T}:(st.dU d v).ob=st.ob:=by cases d<;>rfl
theorem aV.same {st':MS R.T} {o:Nat} (h:st'.ob=st.ob):aV nr o st ρ σ st' ρ σ:=⟨rfl,rfl,rfl,Nat.le_refl _,⟨fun _ _=>rfl,fun _ _=>rfl⟩,fun _ _ _=>rfl,fun hr=>⟨fun x hx=>hr x (by rw[←h];exact hx),fun _=>⟨rfl,rfl⟩⟩⟩
theorem aV.congr {st' fD:MS R.T} {ρ':aL} {σ':ah} {o:Nat} (h:aV nr o st ρ σ st' ρ' σ') (e:fD.ob=st'.ob):aV nr o st ρ σ fD ρ' σ':=⟨h.ob,h.ln,h.om,h.nx,h.lp,h.dp,fun hr=>⟨fun x hx=>(h.ro hr).1 x (by rw[←e];exact hx),(h.ro hr).2⟩⟩
theorem aV.from {st' fD:MS R.T} {ρ':aL} {σ':ah} {o:Nat} (h:aV nr o st ρ σ st' ρ' σ') (e:st.ob=fD.ob):aV nr o fD ρ σ st' ρ' σ':=⟨h.ob,h.ln,h.om,h.nx,h.lp,h.dp,fun hr=>h.ro fun x hx=>hr x (by rw[←e];exact hx)⟩
theorem Kp.op {d:Option Nat} {W:List Nat} {y:V} {st':MS R.T} {ρ':aL} {σ':ah} (hd:∀p,aP p W=false→d≠some p) (h:∀p,d≠some p→aV nr p st ρ σ st' ρ' σ'):Kp nr W st fr σ ρ st' (fr.put d y) σ' ρ':=
 ⟨fun i hi=>by
   cases d with
   |none=>rfl
   |some j=>exact Du _ _ (by have:=hd i hi;simp at this;simpa using fun e=>this e.symm),fun p hp=>h p (hd p hp)⟩
theorem WS {W K O:List Nat} {st':MS R.T} {o:Nat} (h:look st'.ob o=none):RO ((Aq.base W K O .ro st).over st') o:=by
 intro y hy
 have hy':look (lM (fun o b=> !(aP o W)&& kZ W b) Ob.ro st.ob O++st'.ob) o=some y:=hy
 rw[tX] at hy'
 split at hy'
 ·rename_i x hx
  cases hy'
  obtain⟨z,_,_,rfl⟩:=tY hx
  rfl
 ·rw[h] at hy';cases hy'
theorem JH {st':MS R.T} {o:Nat} (h1:RO st o) (h2:RO st' o):RO (st.over st') o:=by
 intro y hy
 have hy':look (st.ob++st'.ob) o=some y:=hy
 rw[tX] at hy'
 split at hy'
 ·rename_i x hx;cases hy';exact h1 _ hx
 ·exact h2 _ hy'
theorem WT {W K O:List Nat} {mark:Ob R.T→Ob R.T} {o:Nat} (hm:∀x,mU x=true→mU (mark x)=true) (h:RO st o):RO (Aq.base W K O mark st) o:=by
 intro y hy
 obtain⟨x,h1,_,rfl⟩:=tY hy
 exact hm _ (h _ h1)
theorem finish {W K O:List Nat} {H S' fD:MS R.T} {fr':Fr} {ρ':aL} {σ':ah} {b':Nat} (hi:aH ρ b st fr σ) (hH:∀o,aP o W=false→RO st o→RO H o) (hro:∀o x,look st.ob o=some x→aP o W=false→aP o O=true→kZ W x=true→RO H o)
 (hk:Kp nr W H fr σ ρ S' fr' σ' ρ') (hi':aH ρ' b' fD fr' σ') (hn:∀o,aP o W=false→RO H o→look fD.ob o=none):
 aH ρ' b' ((Aq.base W K O (fun b=>b) st).over fD) fr' σ'∧Kp nr W st fr σ ρ ((Aq.base W K O (fun b=>b) st).over fD) fr' σ' ρ':=by
 have hk2:Kp nr W H fr σ ρ fD fr' σ' ρ':=⟨hk.fr,fun o ho=>⟨(hk.ob o ho).ob,(hk.ob o ho).ln,(hk.ob o ho).om,(hk.ob o ho).nx,(hk.ob o ho).lp,(hk.ob o ho).dp,fun hr=>⟨fun x hx=>(by rw[hn o ho hr] at hx;cases hx),((hk.ob o ho).ro hr).2⟩⟩⟩
 refine⟨(hi.base (fun _ _ _ _ h=>h) hk2 hi' hro).over hi',hk.fr,fun o ho=>⟨(hk.ob o ho).ob,(hk.ob o ho).ln,(hk.ob o ho).om,(hk.ob o ho).nx,(hk.ob o ho).lp,(hk.ob o ho).dp,fun hr=>⟨?_,((hk.ob o ho).ro (hH o ho hr)).2⟩⟩⟩
 exact JH (WT (fun _ h=>h) hr) fun x hx=>(by rw[hn o ho (hH o ho hr)] at hx;cases hx)
theorem WU {x:TV R.T} {v:V} (hx:zJ x=true) (h:gG fr ρ top x v):v= .aj .nil []∨v= .aj .full []:=by
 cases x<;>first| (cases hx;done)|skip
 ·exact .inl (Rl.nV (R:=R) (show Rl R ρ top .dZ v from h))
 ·rename_i c t l
  obtain⟨c',hv,hc⟩:=Rl.jU (R:=R) (show Rl R ρ top (.aj c t l) v from h)
  cases c<;>first| (cases hx;done)|skip
  ·have:l=[]:=by simpa [zJ] using hx
   subst this
   have hc':c'= .nil:=hc
   rw[hc'] at hv;exact .inl hv
  ·have:l=[]:=by simpa [zJ] using hx
   subst this
   have hc':c'= .full:=hc
   rw[hc'] at hv;exact .inr hv
theorem D9 {W:List Nat}:∀(l:List (Nat×Sk)) (st:MS R.T) (ρ:aL),aH ρ b st fr σ→∃ρ',aH ρ' b (nR W l st) fr σ∧Kp nr W st fr σ ρ (nR W l st) fr σ ρ'
 | [],st,ρ,h=>⟨ρ,h,.refl⟩
 | (i,k)::l,st,ρ,h=>by
   have other:nR W ((i,k)::l) st=nR W l st→∃ρ',aH ρ' b (nR W ((i,k)::l) st) fr σ∧Kp nr W st fr σ ρ (nR W ((i,k)::l) st) fr σ ρ':=fun e=>by
    rw[e];exact D9 l st ρ h
   cases k<;>first|exact other rfl|skip
   rename_i o t
   unfold nR
   split
   ·rename_i v hv
    cases hb:(zJ v&& aP o W)
    ·exact D9 l st ρ h
    ·rw[cond_true]
     rw[Bool.and_eq_true] at hb
     have hg:=h.ghost o t
     have hE:=WU hb.1 (h.fr _ _ hv)
     have Qd:aH (ρ.gh o) b (⟨(i,.vw o t)::(st.new o (.arr t [])).fr,(st.new o (.arr t [])).ob⟩:MS R.T) fr σ:={hg with
      fr:=fun j y hy=>by
       by_cases e:j=i
       ·subst e
        have hy':look ((j,TV.vw o t)::(st.new o (.arr t [])).fr) j=some y:=hy
        rw[iM] at hy';cases hy'
        exact .of (by unfold Rl;exact .inr ⟨D6 (ρ:=ρ) (n:=0),hE⟩)
       ·have hy':look ((i,TV.vw o t)::(st.new o (.arr t [])).fr) j=some y:=hy
        rw[fI _ _ e] at hy'
        exact hg.fr j y hy'
      ob:=hg.ob}
     obtain⟨ρ',h1,h2⟩:=D9 (W:=W) l _ _ Qd
     refine⟨ρ',h1,Kp.trans ⟨fun _ _=>rfl,fun p hp=> ?_⟩ h2⟩
     have hne:p≠o:=by rintro rfl;rw[hb.2] at hp;cases hp
     refine⟨(Am p hne).1,(Am p hne).2,rfl,Nat.le_refl _,⟨fun _ _=>rfl,fun _ _=>rfl⟩,fun _ _ _=>rfl,fun hr=>⟨fun x hx=> ?_,fun _=>⟨rfl,rfl⟩⟩⟩
     have hx':look ((o,Ob.arr t [])::j6 (Ob.kill o) (gD o st.ob)) p=some x:=hx
     rw[fI _ _ hne,qd,nW hne,Option.map_eq_some_iff] at hx'
     obtain⟨w,hw,rfl⟩:=hx'
     exact WR (hr w hw)
   ·exact D9 l st ρ h
section
variable (hR:mh R)
include hR
omit hR in
theorem WV {W:List Nat}:∀{l:List (Nat×Sk)},st.fr=[]→nR W l st=st
 | [],_=>rfl
 | (i,k)::l,h=>by
   have:=WV (W:=W) (l:=l) h
   cases k<;>first|exact this|skip
   unfold nR
   rw[h];exact this
omit hR in
theorem WW:∀{l:List (Nat×Sk)} {p:wW R.T l},oP R [] l=some p→l=[]
 | [],_,_=>rfl
 | [(i,k)],p,h=>by cases h
 | (i,k)::q::l,p,h=>by cases h
omit hR in
theorem agq {W:List Nat} (he:st.fr=[]) {s:Shape} {p:nO R.T s} (hp:Aq.jT R W st s=some p):(unpack R s p).fr=[]:=by
 unfold Aq.jT at hp
 rw[WV he] at hp
 obtain⟨sl,ob⟩:=s
 cases ob with
 |nil=>
  have hp':oP R st.fr sl=some p:=hp
  rw[he] at hp'
  have:=WW hp'
  subst this;rfl
 |cons o os=>
  unfold Aq.pack at hp
  rw[he] at hp
  cases hu:oP R [] sl with
  |none=>simp only[hu] at hp;cases hp
  |some x=>
   have:=WW hu
   subst this;rfl
theorem aH.jT {W:List Nat} (h:aH ρ b st fr σ) {s:Shape} {p:nO R.T s} (hp:Aq.jT R W st s=some p):∃ρ' S',aH ρ' b (unpack R s p) fr σ∧Kp nr W st fr σ ρ S' fr σ ρ'∧(st.fr=[]→(unpack R s p).fr=[])∧∀i,aP i W=false→RO st i→look (unpack R s p).ob i=none:=by
 obtain⟨ρ',h1,h2⟩:=D9 (W:=W) s.sl st ρ h
 exact⟨ρ',_,h1.pack hR hp,h2,fun he=>agq he hp,fun i hi hr=>agk hp ((h2.ob i hi).ro hr).1⟩
theorem Ap {β:Type} {W:List Nat} (h:aH ρ b st fr σ) {e:Ex}:∀{l:List (Ex×Shape)} {o:Out R.T l},pY R W e st l=some o→∃ρ' S' st',aH ρ' b st' fr σ∧Kp nr W st fr σ ρ S' fr σ ρ'∧(st.fr=[]→st'.fr=[])∧(∀i,aP i W=false→RO st i→look st'.ob i=none)∧∀(k:Ex→MS R.T→Option β) (bs:MS R.T),rH R bs k l o=k e (bs.over st')
 | [],o,hp=>by cases hp
 | [(x,s)],o,hp=>by
   have hp':(bif xk e x then Aq.jT R W st s else none)=some o:=hp
   cases hb:xk e x
   ·rw[hb] at hp';cases hp'
   ·rw[hb,cond_true] at hp'
    have:=WL hb;subst this
    obtain⟨ρ',S',h1,h2,h0,h3⟩:=h.jT hR hp'
    exact⟨ρ',S',_,h1,h2,h0,h3,fun k bs=>rfl⟩
 | (x,s)::q::l,o,hp=>by
   unfold pY at hp
   cases hb:xk e x
   ·rw[hb,cond_false] at hp
    cases hu:pY R W e st (q::l) with
    |none=>simp only[hu] at hp;cases hp
    |some y=>
     simp only[hu] at hp
     obtain rfl:=Option.some.inj hp
     obtain⟨ρ',S',st',h1,h3,h0,h4,h2⟩:=Ap (β:=β) h hu
     exact⟨ρ',S',st',h1,h3,h0,h4,fun k bs=>h2 k bs⟩
   ·rw[hb,cond_true] at hp
    have:=WL hb;subst this
    cases hu:Aq.jT R W st s with
    |none=>simp only[hu] at hp;cases hp
    |some y=>
     simp only[hu] at hp
     obtain rfl:=Option.some.inj hp
     obtain⟨ρ',S',h1,h2,h0,h3⟩:=h.jT hR hu
     exact⟨ρ',S',_,h1,h2,h0,h3,fun k bs=>rfl⟩
end
end
end
end Aq
end
section
namespace Aq
open Go
set_option linter.unusedSectionVars false
set_option linter.unusedVariables false
section
variable {R:gB} {E:Env}
variable {ρ:aL} {b:Nat} {st:MS R.T} {fr:Fr} {σ:ah}
def qO (E:Env) (fr:Fr) (o:Oper):Bool:=match o.op with
 |.call c=>match c.callee with
  |.value f=>jX E fr o f
  |_=>false
 |_=>false
def kC (E:Env) (fr:Fr) (σ:ah) (aD:Nat) (o:Oper) (x:V) (σ':ah):Prop:=
 (qO E fr o=false→∀all os Q,dN all fr o=some true→OW E all (aD+1) os (fr.put o.dst x) σ' Q→OW E all aD (o::os) fr σ Q)∧
 (qO E fr o=false→∀ms all os fs Q,dN all fr o=some true→dP E ms all (aD+1) os (fr.put o.dst x) σ' (fs++[eX E all fr o true]) Q→dP E ms all aD (o::os) fr σ fs Q)
theorem kC.of {aD:Nat} {o:Oper} {x:V} {σ':ah} (h:∀S,opC E S fr σ aD o=some (x,fr,σ')):kC E fr σ aD o x σ':=
 ⟨fun _ _ _ _ hw h'=>OW.op hw h h',fun _ _ _ _ _ _ hw h'=>dP.op hw h h'⟩
theorem agr {S:iN} {aD:Nat} {o:Oper} {x:V} {σ':ah} (h:aW E fr σ aD o=some (x,σ')):opC E S fr σ aD o=some (x,fr,σ'):=by
 unfold opC
 split
 ·rename_i c hc;unfold aW at h;rw[hc] at h;cases h
 ·rename_i c hc;unfold aW at h;rw[hc] at h;cases h
 ·rw[h];rfl
theorem WX {o:Oper} {c:Call} {f:Operand} {g:FuncId} {a b:List V} (ho:o.op= .call c) (fu:c.callee= .value f) (hf:fr.ev E f= .fn (.func g) a b) (h:qO E fr o=false):∀d,o.dst=some d→E.own g d=false:=by
 intro d hd
 unfold qO at h
 rw[ho] at h
 dsimp only at h
 rw[fu] at h
 dsimp only at h
 unfold jX at h
 rw[hf,hd] at h
 exact h
theorem kC.gW {aD:Nat} {o:Oper} {x:V} {σ':ah} (h:aW E fr σ aD o=some (x,σ')):kC E fr σ aD o x σ':=.of fun S=>agr h
def qh (E:Env) (st:MS R.T) (ρ:aL) (aD:Nat) (fr:Fr) (σ:ah) (o:Oper):dI R→Prop
 |.t v=> ∃x,kC E fr σ aD o x σ∧Rl R ρ σ.top v x
 |.c c v=>c=true→∃x,kC E fr σ aD o x σ∧Rl R ρ σ.top v x
 |.w v st'=> ∃x σ' ρ',kC E fr σ aD o x σ'∧aH ρ' (aD+1) st' fr σ'∧σ'.next=σ.next∧Rl R ρ' σ'.top v x∧∀p,o.dst≠some p→aV true p st ρ σ st' ρ' σ'
 |.wc c v st'=>c=true→∃x σ' ρ',kC E fr σ aD o x σ'∧aH ρ' (aD+1) st' fr σ'∧σ'.next=σ.next∧Rl R ρ' σ'.top v x∧∀p,o.dst≠some p→aV true p st ρ σ st' ρ' σ'
 |.p _ _ o' f=> ∀a,o'=some a→∃x,kC E fr σ aD o x σ∧Rl R ρ σ.top (f a) x
theorem rQ {top:Nat→Nat} {x:TV R.T} {v:V} (hg:vF x=true) (h:Rl R ρ top x v):aA R ρ top x.cells v.cells∧dx v=true:=by
 cases x with
 |agg cs=>obtain⟨l,rfl,hl⟩:=h.jH;exact⟨hl,rfl⟩
 |int k n=>rw[h.fC];exact⟨.cons' (by unfold Rl;rfl) rfl,rfl⟩
 |bool b=>rw[h.oW];exact⟨.cons' (by unfold Rl;rfl) rfl,rfl⟩
 |fT b=>rw[h.qN];exact⟨.cons' (by unfold Rl;rfl) rfl,rfl⟩
 |str b=>rw[h.lq];exact⟨.cons' (by unfold Rl;rfl) rfl,rfl⟩
 |dZ=>rw[h.nV];exact⟨.cons' (by unfold Rl;rfl) rfl,rfl⟩
 |bB cs=>obtain⟨l,rfl,hl⟩:=h.JB;exact⟨.cons' h rfl,rfl⟩
 |aj c t l=>obtain⟨c',rfl,hl⟩:=h.jU;exact⟨.cons' h rfl,rfl⟩
 |ref o off=>obtain⟨s,hs,rfl⟩:=h.mZ;exact⟨.cons' h rfl,rfl⟩
 |aJ o off=>obtain⟨s,rfl,hs⟩:=h.rP;exact⟨.cons' h rfl,rfl⟩
 |bK o=>obtain⟨s,hs,rfl⟩:=h.tQ;exact⟨.cons' h rfl,rfl⟩
 |dn k e m=>have:=h.Af;subst this;exact⟨.cons' h rfl,rfl⟩
 |fn f a b=>obtain⟨a',b',rfl,_⟩:=h.mo;exact⟨.cons' h rfl,rfl⟩
 |undef=>have:=h.Wi;subst this;exact⟨.cons' h rfl,rfl⟩
 |vw o t=>rcases h.Ah with ⟨s,_,rfl⟩| ⟨_,rfl|rfl⟩<;>exact⟨.cons' h rfl,rfl⟩
 |jq o t i off=>obtain⟨s,_,_,rfl⟩:=h.xG;exact⟨.cons' h rfl,rfl⟩
 |sv o off k n lo hi=>obtain⟨s,_,_,rfl⟩:=h.vP;exact⟨.cons' h rfl,rfl⟩
 |sel o off k n i m=>obtain⟨s,_,_,_,rfl⟩:=h.D5;exact⟨.cons' h rfl,rfl⟩
 |oL k n y i=>obtain⟨_,_,rfl⟩:=h.JC;exact⟨.cons' h rfl,rfl⟩
 |sg _=>cases hg
 |eD=>have h':=h;unfold Rl at h';subst h';exact⟨.cons' h rfl,rfl⟩
 |dX=>have h':=h;unfold Rl at h';subst h';exact⟨.cons' h rfl,rfl⟩
 |dS=>have h':=h;unfold Rl at h';subst h';exact⟨.cons' h rfl,rfl⟩
 |fH=>have h':=h;unfold Rl at h';subst h';exact⟨.cons' h rfl,rfl⟩
 |opt j w y=>cases hg
 |gone=>cases hg
theorem ags {top:Nat→Nat} {x:TV R.T} {v:V} (hg:Pd x=true) (h:Rl R ρ top x v):oneCell v=true:=by
 cases x with
 |agg cs=>cases hg
 |int k n=>rw[h.fC];rfl
 |bool b=>rw[h.oW];rfl
 |fT b=>rw[h.qN];rfl
 |str b=>rw[h.lq];rfl
 |dZ=>rw[h.nV];rfl
 |bB cs=>cases hg
 |aj c t l=>obtain⟨c',rfl,hl⟩:=h.jU;rfl
 |ref o off=>obtain⟨s,hs,rfl⟩:=h.mZ;rfl
 |aJ o off=>obtain⟨s,rfl,hs⟩:=h.rP;rfl
 |bK o=>obtain⟨s,hs,rfl⟩:=h.tQ;rfl
 |dn k e m=>have:=h.Af;subst this;rfl
 |fn f a b=>obtain⟨a',b',rfl,_⟩:=h.mo;rfl
 |undef=>cases hg
 |vw o t=>rcases h.Ah with ⟨s,_,rfl⟩| ⟨_,rfl|rfl⟩<;>rfl
 |jq o t i off=>obtain⟨s,_,_,rfl⟩:=h.xG;rfl
 |sv o off k n lo hi=>obtain⟨s,_,_,rfl⟩:=h.vP;rfl
 |sel o off k n i m=>obtain⟨s,_,_,_,rfl⟩:=h.D5;rfl
 |oL k n y i=>obtain⟨_,_,rfl⟩:=h.JC;rfl
 |sg _=>cases hg
 |eD=>unfold Rl at h;subst h;rfl
 |dX=>unfold Rl at h;subst h;rfl
 |dS=>unfold Rl at h;subst h;rfl
 |fH=>unfold Rl at h;subst h;rfl
 |opt j w y=>cases hg
 |gone=>cases hg
theorem Ea {top:Nat→Nat}:∀{x:List (TV R.T)} {v:List V},vE x=true→aA R ρ top x v→bg v=true
 | [],v,_,h=>by rw[h.eT];rfl
 |x::xs,v,hg,h=>by
  obtain⟨y,ys,rfl,h1,h2⟩:=h.dJ
  unfold vE at hg
  rw[Bool.and_eq_true] at hg
  rw[VJ,ags hg.1 h1,Ea hg.2 h2];rfl
theorem agt {top:Nat→Nat} {ag:Bool} {n off:Nat} {cs:List (TV R.T)} {l:List V} {x:TV R.T} (h:aA R ρ top cs l) (hp:Je ag n cs off=some x):∃v,lW ag n l off=some v∧Rl R ρ top x v:=by
 cases ag with
 |true=>
  have hp':(bif Nat.ble (off+n) cs.length then some (TV.agg ((cs.drop off).take n)) else none)=some x:=hp
  cases hb:Nat.ble (off+n) cs.length
  ·rw[hb] at hp';cases hp'
  ·rw[hb] at hp';cases hp'
   have hle:=Nat.le_of_ble_eq_true hb
   refine⟨.agg ((l.drop off).take n), ?_,by unfold Rl;exact⟨_,rfl,(h.drop off).take n⟩⟩
   unfold lW;rw[if_pos rfl,if_pos (by rw[h.length];exact hle)]
 |false=>
  obtain⟨v,h1,h2⟩:=h.get (show cs[off]? =some x from hp)
  exact⟨v,by unfold lW;simpa using h1,h2⟩
theorem uf {top:Nat→Nat} {t:TypeId} {off:Nat} {cs:List (TV R.T)} {l:List V} {x:TV R.T} (h:aA R ρ top cs l) (hp:jK E t cs off=some x):∃v,dM E.P t l off=some v∧Rl R ρ top x v:=by
 unfold jK at hp
 cases h1:gq E.P t with
 |none=>simp only[h1] at hp;cases hp
 |some a=>
  cases h2:bG E.P t with
  |none=>simp only[h1,h2] at hp;cases hp
  |some n=>
   simp only[h1,h2] at hp
   unfold dM;rw[h1,h2];exact agt h hp
theorem Qe {top:Nat→Nat} {cs vs:List (TV R.T)} {l k:List V} (off:Nat) (h:aA R ρ top cs l) (h':aA R ρ top vs k):aA R ρ top (zK cs off vs) (eu l off k):=by
 unfold zK eu
 rw[h'.length]
 exact((h.take off).append h').append (h.drop _)
theorem Ar {top:Nat→Nat} {t:TypeId} {z:TV R.T} (h:tJ E t=some z):∃v,fP E.P t=some v∧Rl R ρ top z v:=by
 unfold tJ at h
 unfold fP
 cases h1:E.P.info? t with
 |none=>simp only[h1] at h;cases h
 |some i=>
  cases h2:i.zero with
  |none=>simp only[h1,h2] at h;cases h
  |some z'=>
   simp only[h1,h2] at h
   obtain⟨v,hv,hr⟩:=WE (ρ:=ρ) (top:=top) h
   exact⟨v,by simp[h2,hv],hr⟩
theorem WY {top:Nat→Nat} (place:Nat→Option (Nat×Nat)):∀{ps:List (Nat×TV R.T)} {qs:List (Nat×V)} {cs:List (TV R.T)} {l:List V} {cs':List (TV R.T)},ps.map (·.1)=qs.map (·.1)→aA R ρ top (ps.map (·.2)) (qs.map (·.2))→
 aA R ρ top cs l→Jf place cs ps=some cs'→∃l',nD place l qs=some l'∧aA R ρ top cs' l'
 | [],[],cs,l,cs',_,_,h,hf=>by cases hf;exact⟨l,rfl,h⟩
 | [],_::_,_,_,_,h,_,_,_=>by simp at h
 |_::_,[],_,_,_,h,_,_,_=>by simp at h
 | (i,v)::ps,(j,w)::qs,cs,l,cs',hi,hr,h,hf=>by
   simp only[List.map_cons,List.cons.injEq] at hi
   obtain⟨rfl,hi⟩:=hi
   obtain⟨y,ys,e,h1,h2⟩:=hr.dJ
   simp only[List.map_cons,List.cons.injEq] at e
   obtain⟨rfl,rfl⟩:=e
   unfold Jf at hf
   unfold nD
   cases hp:place i with
   |none=>simp only[hp] at hf;cases hf
   |some q=>
    obtain⟨off,size⟩:=q
    simp only[hp] at hf⊢
    cases hb:(Nat.beq v.cells.length size&& Nat.ble (off+size) cs.length&& vF v)
    ·rw[hb] at hf;cases hf
    ·rw[hb,cond_true] at hf
     simp only[Bool.and_eq_true] at hb
     obtain⟨⟨b1,b2⟩,b3⟩:=hb
     obtain⟨hc,hn⟩:=rQ b3 h1
     rw[if_pos ⟨by rw[hc.length];exact dK b1,by rw[h.length];exact Nat.le_of_ble_eq_true b2,hn⟩]
     exact WY place hi h2 (Qe off h hc) hf
theorem WZ {top:Nat→Nat} {x:TV R.T} {v:V} {a:Bool} (h:bM x=some a) (hr:Rl R ρ top x v):v= .bool a:=by
 cases x<;>cases h
 ·exact hr.oW
 ·exact hr.qN
theorem W9 {top:Nat→Nat} {x y:TV R.T} {v w:V} {r:Bool} (h:Jg x y=some r) (hx:Rl R ρ top x v) (hy:Rl R ρ top y w):∃a b,v= .bool a∧w= .bool b∧r=(a==b):=by
 unfold Jg at h
 cases h1:bM x with
 |none=>simp only[h1] at h;cases h
 |some a=>
  cases h2:bM y with
  |none=>simp only[h1,h2] at h;cases h
  |some b=>simp only[h1,h2] at h;cases h;exact⟨a,b,WZ h1 hx,WZ h2 hy,rfl⟩
theorem Qf {top:Nat→Nat} {ug:TypeId→TV R.T→TV R.T→Option Bool} {eqv:TypeId→V→V→Option Bool} (he:∀t x y v w r,ug t x y=some r→Rl R ρ top x v→Rl R ρ top y w→eqv t v w=some r)
 {xs ys:List (TV R.T)} {vs ws:List V} (hx:aA R ρ top xs vs) (hy:aA R ρ top ys ws):∀{fs:List Field} {r:Bool},zL E ug xs ys fs=some r→wI E.P eqv vs ws fs=some r
 | [],r,h=>by cases h;rfl
 |f::fs,r,h=>by
  unfold zL at h
  unfold wI
  split at h
  ·rename_i hn;rw[if_pos hn];exact Qf he hx hy h
  ·rename_i hn
   rw[if_neg hn]
   cases h1:jK E f.type xs f.offset with
   |none=>simp only[h1] at h;cases h
   |some a=>
    cases h2:jK E f.type ys f.offset with
    |none=>simp only[h1,h2] at h;cases h
    |some c=>
     cases h3:ug f.type a c with
     |none=>simp only[h1,h2,h3] at h;cases h
     |some r1=>
      cases h4:zL E ug xs ys fs with
      |none=>simp only[h1,h2,h3,h4] at h;cases h
      |some q=>
       simp only[h1,h2,h3,h4] at h;cases h
       obtain⟨v1,e1,g1⟩:=uf hx h1
       obtain⟨v2,e2,g2⟩:=uf hy h2
       simp[e1,e2,he _ _ _ _ _ _ h3 g1 g2,Qf he hx hy h4]
theorem Xa {top:Nat→Nat} {ug:TypeId→TV R.T→TV R.T→Option Bool} {eqv:TypeId→V→V→Option Bool} (he:∀t x y v w r,ug t x y=some r→Rl R ρ top x v→Rl R ρ top y w→eqv t v w=some r)
 {e:TypeId} {sz:Nat} {xs ys:List (TV R.T)} {vs ws:List V} (hx:aA R ρ top xs vs) (hy:aA R ρ top ys ws):∀{is:List Nat} {r:Bool},DK E ug e sz xs ys is=some r→yP E.P eqv e sz vs ws is=some r
 | [],r,h=>by cases h;rfl
 |i::is,r,h=>by
  unfold DK at h
  unfold yP
  cases h1:jK E e xs (i*sz) with
  |none=>simp only[h1] at h;cases h
  |some a=>
   cases h2:jK E e ys (i*sz) with
   |none=>simp only[h1,h2] at h;cases h
   |some c=>
    cases h3:ug e a c with
    |none=>simp only[h1,h2,h3] at h;cases h
    |some r1=>
     cases h4:DK E ug e sz xs ys is with
     |none=>simp only[h1,h2,h3,h4] at h;cases h
     |some q=>
      simp only[h1,h2,h3,h4] at h;cases h
      obtain⟨v1,e1,g1⟩:=uf hx h1
      obtain⟨v2,e2,g2⟩:=uf hy h2
      simp[e1,e2,he _ _ _ _ _ _ h3 g1 g2,Xa he hx hy h4]
theorem JI {top:Nat→Nat}:∀(d:Nat) (t:TypeId) (x y:TV R.T) (v w:V) (r:Bool),zM E d t x y=some r→Rl R ρ top x v→Rl R ρ top y w→uO E.P d t v w=some r
 |0,_,_,_,_,_,_,h,_,_=>by cases h
 |d+1,t,x,y,v,w,r,h,hx,hy=>by
  unfold zM at h
  unfold uO
  split at h
  ·rename_i fs xs ys hu
   obtain⟨l,rfl,h1⟩:=hx.jH
   obtain⟨k,rfl,h2⟩:=hy.jH
   rw[hu];dsimp only
   split at h
   ·cases h
   ·rename_i hs;rw[if_neg hs];exact Qf (JI d) h1 h2 h
  ·rename_i n e xs ys hu
   obtain⟨l,rfl,h1⟩:=hx.jH
   obtain⟨k,rfl,h2⟩:=hy.jH
   rw[hu];dsimp only
   cases hs:bG E.P e with
   |none=>simp only[hs] at h;cases h
   |some sz=>simp only[hs] at h;simp only[Option.bind_some];exact Xa (JI d) h1 h2 h
  ·cases h
  ·cases h
  ·rename_i hu
   obtain⟨a,c,rfl,rfl,rfl⟩:=W9 h hx hy
   rw[hu]
  ·rename_i k a k' c hu
   rw[hx.fC,hy.fC,hu];exact h
  ·rename_i a c hu
   rw[hx.lq,hy.lq,hu];exact h
  ·cases h
theorem Xb {top:Nat→Nat} {t:TypeId} {x y:TV R.T} {v w:V} {r:Bool} (h:Jh E t x y=some r) (hx:Rl R ρ top x v) (hy:Rl R ρ top y w):nE E.P t v w=some r:=by
 unfold Jh at h
 unfold nE
 split at h
 ·rename_i fs xs ys hu
  split at h
  ·cases h
  ·rename_i hs
   have:=JI 8 t _ _ v w r h hx hy
   obtain⟨l,rfl,h1⟩:=hx.jH
   obtain⟨k,rfl,h2⟩:=hy.jH
   rw[hu];dsimp only;rw[if_neg hs];exact this
 ·rename_i fs xs ys hu
  split at h
  ·cases h
  ·rename_i hs
   have:=JI 8 t _ _ v w r h hx hy
   obtain⟨l,rfl,h1⟩:=hx.jH
   obtain⟨k,rfl,h2⟩:=hy.jH
   rw[hu];dsimp only;rw[if_neg hs];exact this
 ·rename_i hu;cases h;unfold Rl at hx hy;subst hx;subst hy;rw[hu]
 ·rename_i hu;cases h;obtain⟨a,b,rfl,_⟩:=hy.mo;unfold Rl at hx;subst hx;rw[hu]
 ·rename_i hu;cases h;obtain⟨a,b,rfl,_⟩:=hx.mo;unfold Rl at hy;subst hy;rw[hu]
 ·rename_i hu;obtain⟨a,c,rfl,rfl,rfl⟩:=W9 h hx hy;rw[hu]
 ·cases h
end
end Aq
end
