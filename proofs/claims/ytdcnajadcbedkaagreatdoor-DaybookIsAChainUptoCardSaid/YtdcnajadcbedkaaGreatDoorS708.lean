/- Part of the proof of a law. -/
import Derived.Test.YtdcnajadcbedkaaGreatDoorS707
set_option linter.all false
set_option linter.unusedSimpArgs false
set_option linter.unusedSectionVars false
section
namespace Aq
open Go
set_option linter.unusedSectionVars false
set_option linter.unusedVariables false
theorem dB {a b:Nat} (h:Nat.beq a b=true):a=b:=Nat.eq_of_beq_eq_true h
theorem H7 {a b:Nat} (h:Nat.beq a b=false):a≠b:=fun e=>by rw[e,Nat.beq_refl] at h;cases h
theorem H8 {a b:Nat} (h:a≠b):Nat.beq a b=false:=Bool.eq_false_iff.2 fun e=>h (dB e)
section look
variable {α:Type}
theorem p9 (f:α→α):∀(l:List (Nat×α)) (i:Nat),look (jY f l) i=(look l i).map f
 | [],_=>rfl
 | (j,x)::l,i=>by
   show (bif Nat.beq j i then some (f x) else look (jY f l) i)=Option.map f (bif Nat.beq j i then some x else look l i)
   cases Nat.beq j i
   ·exact p9 f l i
   ·rfl
theorem nZ {i j:Nat} (h:j≠i):∀(l:List (Nat×α)),look (gB i l) j=look l j
 | []=>rfl
 | (k,x)::l=>by
   show look (bif Nat.beq k i then gB i l else (k,x)::gB i l) j=bif Nat.beq k j then some x else look l j
   cases hk:Nat.beq k i
   ·show (bif Nat.beq k j then some x else look (gB i l) j)=_
    rw[nZ h l]
   ·have:=dB hk
    subst this
    rw[H8 (Ne.symm h)]
    exact nZ h l
theorem iK (l:List (Nat×α)) (i:Nat) (x:α):look ((i,x)::l) i=some x:=by
 show (bif Nat.beq i i then some x else look l i)=_;rw[Nat.beq_refl];rfl
theorem fH (l:List (Nat×α)) {i j:Nat} (x:α) (h:j≠i):look ((i,x)::l) j=look l j:=by
 show (bif Nat.beq i j then some x else look l j)=_;rw[H8 (Ne.symm h)];rfl
end look
section
variable {R:gy} {E:Env}
theorem TP {ρ ρ':aK} {top top':Nat→Nat}:∀(t:Ty) (x:Den R.T t) (v:V),Rl R ρ top (uW R .any t x) v→Rl R ρ' top' (uW R .any t x) v
 |.int _,_,_,h=>h
 |.bool,_,_,h=>h
 |.str,_,_,h=>h
 |.slice _,_,_,h=>h
 |.st _,_,_,h=>h
theorem vG {ρ ρ':aK} {top top':Nat→Nat}:∀(l:List Ty) (p:lK R.T l) (vs:List V),au R ρ top (iU R .any l p) vs→au R ρ' top' (iU R .any l p) vs
 | [],_,_,h=>h
 | [t],x,vs,h=>by
   obtain⟨v,l,rfl,h1,h2⟩:=h.dA
   rw[h2.eX]
   exact .cons' (TP t x v h1) rfl
 |t::u::l,p,vs,h=>by
  obtain⟨v,ws,rfl,h1,h2⟩:=h.dA
  exact .cons' (TP t p.1 v h1) (vG (u::l) p.2 ws h2)
theorem adv {ρ ρ':aK} {top top':Nat→Nat} {t:Ty} {x:Den R.T t} {vs:List V} (h:au R ρ top (eU R .any t x).cells vs):au R ρ' top' (eU R .any t x).cells vs:=by
 cases t with
 |st n=>exact vG _ _ _ h
 |int k=>exact vG [.int k] x vs h
 |bool=>exact vG [.bool] x vs h
 |str=>exact vG [.str] x vs h
 |slice t=>exact vG [.slice t] x vs h
theorem au.split {ρ:aK} {top:Nat→Nat}:∀{ts ts':List (TV R.T)} {vs:List V},au R ρ top (ts++ts') vs→∃a b,vs=a++b∧au R ρ top ts a∧au R ρ top ts' b
 | [],_,vs,h=>⟨[],vs,rfl,rfl,h⟩
 |t::ts,ts',vs,h=>by
  obtain⟨v,ws,rfl,h1,h2⟩:=au.dA (ts:=ts++ts') h
  obtain⟨a,b,rfl,h3,h4⟩:=au.split h2
  exact⟨v::a,b,rfl,.cons' h1 h3,h4⟩
theorem tJ {ρ ρ':aK} {top top':Nat→Nat} {t:Ty}:∀(l:List (Den R.T t)) (vs:List V),au R ρ top (l.flatMap fun x=>(eU R .any t x).cells) vs→au R ρ' top' (l.flatMap fun x=>(eU R .any t x).cells) vs
 | [],vs,h=>h
 |x::l,vs,h=>by
  rw[List.flatMap_cons] at h⊢
  obtain⟨a,b,rfl,h1,h2⟩:=h.split
  exact(adv h1).append (tJ l b h2)
def gF (fr:Fr) (ρ:aK) (top:Nat→Nat):TV R.T→V→Prop
 |.opt j w y,v=>(fr.tm j= .bool w→Rl R ρ top y v)∧(fr.tm j= .bool (!w)∨fr.tm j=aA→v=aA)
 |x,v=>Rl R ρ top x v
theorem gF.of {fr:Fr} {ρ:aK} {top:Nat→Nat} {x:TV R.T} {v:V} (h:Rl R ρ top x v):gF fr ρ top x v:=by
 cases x<;>first|exact h|exact h.TI.elim
def dL (ρ:aK) (σ:ah) (o:Nat):Ob R.T→Prop
 |.cells cs=> ∃s l,ρ.ob o=some s∧σ.bC (ρ.om.lc o) s=some l∧au R ρ σ.top cs l
 |.map k e m=> ∃s,ρ.ob o=some s∧σ.eP (ρ.om.lc o) s=some (m.map fun p=>aF R k p.1,m.map fun p=>aF R e p.2)
 |.smap ks vs=> ∃s k l,ρ.ob o=some s∧σ.eP (ρ.om.lc o) s=some (k,l)∧au R ρ σ.top ks k∧au R ρ σ.top vs l
 |.arr t l=>l.length=ρ.ln o∧((l=[]∧ρ.ob o=none)∨∃s cs,ρ.ob o=some s∧σ.bC (ρ.om.lc o) s=some cs∧au R ρ σ.top (l.flatMap fun x=>(eU R .any t x).cells) cs)
 |.sg ss=> ∃s,ρ.ob o=some s∧σ.bC (ρ.om.lc o) s=some (bn ss)
 |.gone=>True
 |.ro b=>dL ρ σ o b
theorem dL.strip {ρ:aK} {σ:ah} {o:Nat}:∀{x:Ob R.T},dL ρ σ o x→dL ρ σ o (Mw x)
 |.cells _,h=>h
 |.map _ _ _,h=>h
 |.smap _ _,h=>h
 |.arr _ _,h=>h
 |.sg _,h=>h
 |.gone,h=>h
 |.ro b,h=>dL.strip (x:=b) h
structure aG (ρ:aK) (b:Nat) (st:MS R.T) (fr:Fr) (σ:ah):Prop where
 d:fr.d=ρ.om.dp
 om:fr.om=ρ.om.om
 fr:∀i v,look st.fr i=some v→gF fr ρ σ.top v (fr.tm i)
 ob:∀o x,look st.ob o=some x→dL ρ σ o x
 inj:∀t u s,ρ.tk t=some s→ρ.tk u=some s→t=u
 lt:∀t s,ρ.tk t=some s→s<b
 ge:∀t s,ρ.tk t=some s→ρ.om.lo≤s
 nx:ρ.om.lo≤b
variable {ρ:aK} {b:Nat} {st:MS R.T} {fr:Fr} {σ:ah}
theorem aG.le {b':Nat} (h:aG ρ b st fr σ) (hb:b≤b'):aG ρ b' st fr σ:={h with lt:=fun t s ht=>Nat.lt_of_lt_of_le (h.lt t s ht) hb,nx:=Nat.le_trans h.nx hb}
theorem dL.bump {o k:Nat}:∀{x:Ob R.T},dL ρ σ o x→dL ρ (σ.bump k) o x
 |.cells _,h=>h
 |.map _ _ _,h=>h
 |.smap _ _,h=>h
 |.arr _ _,h=>h
 |.sg _,h=>h
 |.gone,h=>h
 |.ro b,h=>dL.bump (x:=b) h
theorem aG.next (h:aG ρ b st fr σ) (k:Nat):aG ρ b st fr (σ.bump k):={h with fr:=h.fr,ob:=fun o x hx=>(h.ob o x hx).bump}
theorem aG.rd (h:aG ρ b st fr σ) {o:Nat} {x:Ob R.T} (hx:kX st o=some x):dL ρ σ o x:=by
 unfold kX at hx
 split at hx
 ·rename_i y hy;cases hx;exact(h.ob _ _ hy).strip
 ·cases hx
theorem adw {ρ:aK} {top:Nat→Nat} {x:TV R.T} {u v:V} {i:Nat} (h:gF fr ρ top x v):gF (fr.set i u) ρ top (Mt i x) v:=by
 cases x with
 |opt j w y=>
  show gF _ _ _ (bif Nat.beq j i then .gone else .opt j w y) v
  cases hj:Nat.beq j i
  ·have hs:(fr.set i u).tm j=fr.tm j:=Cz _ _ (by simpa using H7 hj)
   exact⟨fun hc=>h.1 (by rw[←hs];exact hc),fun hc=>h.2 (by rw[←hs];exact hc)⟩
  ·exact gF.of (x:=.gone) (by unfold Rl;trivial)
 |_=>exact h
theorem aG.put (h:aG ρ b st fr σ) (i:Nat) {x:TV R.T} {v:V} (hx:gF (fr.set i v) ρ σ.top x v):aG ρ b (st.put i x) (fr.set i v) σ where
 d:=h.d
 om:=h.om
 ob:=h.ob
 inj:=h.inj
 lt:=h.lt
 ge:=h.ge
 nx:=h.nx
 fr:=fun j y hy=>by
  by_cases e:j=i
  ·subst e
   have hy':some x=some y:=by rw[←hy];exact(iK _ _ _).symm
   cases hy'
   rw[GD]
   exact hx
  ·have hy':look (jY (Mt i) (gB i st.fr)) j=some y:=by rw[←hy];exact(fH _ _ e).symm
   rw[p9,nZ e,Option.map_eq_some_iff] at hy'
   obtain⟨z,hz,rfl⟩:=hy'
   rw[Cz _ _ (by simpa using e)]
   exact adw (h.fr j z hz)
theorem aG.dR (h:aG ρ b st fr σ) (d:Option Nat) {x:TV R.T} {v:V} (hx:Rl R ρ σ.top x v):aG ρ b (st.dR d x) (fr.put d v) σ:=by
 cases d with
 |none=>exact h
 |some i=>exact h.put i (.of hx)
theorem adx {ρ:aK} {top:Nat→Nat} {x:TV R.T} {v:V} {i:Nat} {c:Bool} (hi:fr.tm i= .bool c) (h:gF fr ρ top x v):gF fr ρ top (Mv i c x) v:=by
 cases x with
 |opt j w y=>
  show gF _ _ _ (bif Nat.beq j i then (bif (c==w) then y else .undef) else .opt j w y) v
  cases hj:Nat.beq j i
  ·exact h
  ·have:=dB hj
   subst this
   by_cases e:c=w
   ·subst e
    rw[beq_self_eq_true]
    exact gF.of (h.1 hi)
   ·rw[show (c==w)=false by simpa using e]
    have e':c= !w:=by cases c<;>cases w<;>first|rfl|exact absurd rfl e
    have h':=h.2 (.inl (by rw[hi,e']))
    subst h';exact gF.of (x:=.undef) (by unfold Rl;rfl)
 |_=>exact h
theorem aG.learn (h:aG ρ b st fr σ) {i:Nat} {c:Bool} (hc:fr.tm i= .bool c):aG ρ b (st.learn i c) fr σ where
 d:=h.d
 om:=h.om
 ob:=h.ob
 inj:=h.inj
 lt:=h.lt
 ge:=h.ge
 nx:=h.nx
 fr:=fun j y hy=>by
  by_cases e:j=i
  ·subst e
   have hy':some (TV.fO c)=some y:=by rw[←hy];exact(iK _ _ _).symm
   cases hy'
   exact gF.of (x:=.fO c) (by unfold Rl;exact hc)
  ·have hy':look (jY (Mv i c) (gB i st.fr)) j=some y:=by rw[←hy];exact(fH _ _ e).symm
   rw[p9,nZ e,Option.map_eq_some_iff] at hy'
   obtain⟨z,hz,rfl⟩:=hy'
   exact adx hc (h.fr j z hz)
def aK.j5 (ρ:aK) (o s:Nat):aK:={ρ with ob:=upd ρ.ob o (some s)}
def aK.fP (ρ:aK) (t s:Nat):aK:={ρ with tk:=upd ρ.tk t (some s)}
theorem TQ {ρ':aK} {top:Nat→Nat} {o:Nat} {x:TV R.T} {v:V} (ho:∀p,p≠o→ρ'.ob p=ρ.ob p∧ρ'.ln p=ρ.ln p) (ht:ρ'.tk=ρ.tk) (hx:ρ'.om=ρ.om) (h:gF fr ρ top x v):gF fr ρ' top (CO o x) v:=by
 unfold CO
 cases hm:jX o x
 ·cases x with
  |opt j w y=>exact⟨fun hc=>Rl.kill o ho ht hx y v hm (h.1 hc),h.2⟩
  |_=>exact gF.of (Rl.kill o ho ht hx _ v hm h)
 ·exact gF.of (x:=.gone) (by unfold Rl;trivial)
theorem Ng (c:Cx) {o p:Nat} (h:p≠o):oG (c.lc p) (c.lc o)=false:=by
 cases e:oG (c.lc p) (c.lc o)
 ·rfl
 ·unfold oG at e
  rw[Bool.and_eq_true,beq_iff_eq,beq_iff_eq] at e
  exact absurd (Prod.ext e.2 e.1) (c.TG h)
theorem vH {c:Cx} {o p:Nat} (σ:ah) (s s':Nat) (x:fJ) (h:p≠o):(σ.setObj (c.lc o) s' x).bC (c.lc p) s=σ.bC (c.lc p) s:=SQ σ s s' x (Ng c h)
theorem Aa {c:Cx} {o p:Nat} (σ:ah) (s s':Nat) (x:fJ) (h:p≠o):(σ.setObj (c.lc o) s' x).eP (c.lc p) s=σ.eP (c.lc p) s:=SS σ s s' x (Ng c h)
theorem TR {ρ':aK} {o p s':Nat} {a:fJ} (hp:p≠o) (ho:∀p,p≠o→ρ'.ob p=ρ.ob p∧ρ'.ln p=ρ.ln p) (ht:ρ'.tk=ρ.tk) (hx:ρ'.om=ρ.om):∀{x:Ob R.T},Ob.jX o x=false→dL ρ σ p x→dL ρ' (σ.setObj (ρ.om.lc o) s' a) p x
 |.cells cs,hm,h=>by
  obtain⟨s,l,h1,h2,h3⟩:=h
  exact⟨s,l,((ho p hp).1.trans h1),by rw[hx,vH _ _ _ _ hp];exact h2,au.kill o ho ht hx _ _ hm h3⟩
 |.map k e m,_,h=>by
  obtain⟨s,h1,h2⟩:=h
  exact⟨s,((ho p hp).1.trans h1),by rw[hx,Aa _ _ _ _ hp];exact h2⟩
 |.smap ks vs,hm,h=>by
  obtain⟨s,k,l,h1,h2,h3,h4⟩:=h
  have hm':(kV o ks||kV o vs)=false:=hm
  rw[Bool.or_eq_false_iff] at hm'
  exact⟨s,k,l,((ho p hp).1.trans h1),by rw[hx,Aa _ _ _ _ hp];exact h2,au.kill o ho ht hx _ _ hm'.1 h3,au.kill o ho ht hx _ _ hm'.2 h4⟩
 |.arr t l,hm,h=>by
  refine⟨h.1.trans (ho p hp).2.symm, ?_⟩
  rcases h.2 with h| ⟨s,cs,h1,h2,h3⟩
  ·exact .inl ⟨h.1,(ho p hp).1.trans h.2⟩
  ·exact .inr ⟨s,cs,((ho p hp).1.trans h1),by rw[hx,vH _ _ _ _ hp];exact h2,tJ l cs h3⟩
 |.sg ss,_,h=>by
  obtain⟨s,h1,h2⟩:=h
  exact⟨s,((ho p hp).1.trans h1),by rw[hx,vH _ _ _ _ hp];exact h2⟩
 |.gone,_,_=>trivial
 |.ro b,hm,h=>TR hp ho ht hx (x:=b) hm h
theorem ady {ρ':aK} {o p s':Nat} {a:fJ} {x:Ob R.T} (hp:p≠o) (ho:∀p,p≠o→ρ'.ob p=ρ.ob p∧ρ'.ln p=ρ.ln p) (ht:ρ'.tk=ρ.tk) (hx:ρ'.om=ρ.om) (h:dL ρ σ p x):dL ρ' (σ.setObj (ρ.om.lc o) s' a) p (Ob.kill o x):=by
 unfold Ob.kill
 cases hm:Ob.jX o x
 ·exact TR hp ho ht hx hm h
 ·trivial
theorem TS {o p s:Nat} {a:fJ} (hp:p≠o):∀{x:Ob R.T},dL ρ σ p x→dL ρ (σ.setObj (ρ.om.lc o) s a) p x
 |.cells cs,h=>by obtain⟨s,l,h1,h2,h3⟩:=h;exact⟨s,l,h1,by rw[vH _ _ _ _ hp];exact h2,h3⟩
 |.map k e m,h=>by obtain⟨s,h1,h2⟩:=h;exact⟨s,h1,by rw[Aa _ _ _ _ hp];exact h2⟩
 |.smap ks vs,h=>by obtain⟨s,k,l,h1,h2,h3⟩:=h;exact⟨s,k,l,h1,by rw[Aa _ _ _ _ hp];exact h2,h3⟩
 |.arr t l,h=>by
  refine⟨h.1, ?_⟩
  rcases h.2 with h| ⟨s,cs,h1,h2,h3⟩
  ·exact .inl h
  ·exact .inr ⟨s,cs,h1,by rw[vH _ _ _ _ hp];exact h2,h3⟩
 |.sg ss,h=>by obtain⟨s,h1,h2⟩:=h;exact⟨s,h1,by rw[vH _ _ _ _ hp];exact h2⟩
 |.gone,_=>trivial
 |.ro b,h=>TS hp (x:=b) h
theorem TT {o t s n:Nat} (key:∀u s',u≠t→ρ.tk u=some s'→(ρ.fP t s).tk u=some s'∧(σ.bK s n).top s'=σ.top s'):∀{x:Ob R.T},dL ρ σ o x→dL (ρ.fP t s) (σ.bK s n) o (Ob.wk t x)
 |.cells cs,h=>by obtain⟨s',l,h1,h2,h3⟩:=h;exact⟨s',l,h1,h2,au.wk (ρ:=ρ) (ρ':=ρ.fP t s) (top:=σ.top) (top':=(σ.bK s n).top) t ⟨rfl,rfl,rfl⟩ key _ _ h3⟩
 |.map k e m,h=>h
 |.smap ks vs,h=>by obtain⟨s',k,l,h1,h2,h3,h4⟩:=h;exact⟨s',k,l,h1,h2,au.wk (ρ:=ρ) (ρ':=ρ.fP t s) (top:=σ.top) (top':=(σ.bK s n).top) t ⟨rfl,rfl,rfl⟩ key _ _ h3,au.wk (ρ:=ρ) (ρ':=ρ.fP t s) (top:=σ.top) (top':=(σ.bK s n).top) t ⟨rfl,rfl,rfl⟩ key _ _ h4⟩
 |.arr ty l,h=>by
  refine⟨h.1, ?_⟩
  rcases h.2 with h| ⟨s,cs,h1,h2,h3⟩
  ·exact .inl h
  ·exact .inr ⟨s,cs,h1,h2,tJ l cs h3⟩
 |.sg ss,h=>h
 |.gone,_=>trivial
 |.ro b,h=>TT key (x:=b) h
theorem Ab {o s:Nat}:∀p,p≠o→(ρ.j5 o s).ob p=ρ.ob p∧(ρ.j5 o s).ln p=ρ.ln p:=fun p h=>⟨by simp[aK.j5,upd,h],rfl⟩
def aK.xB (ρ:aK) (o n:Nat):aK:={ρ with ln:=upd ρ.ln o n}
theorem TU {o n:Nat}:∀p,p≠o→(ρ.xB o n).ob p=ρ.ob p∧(ρ.xB o n).ln p=ρ.ln p:=fun p h=>⟨rfl,by simp[aK.xB,upd,h]⟩
def aK.gh (ρ:aK) (o:Nat):aK:={ρ.xB o 0 with ob:=upd ρ.ob o none}
theorem Ac {o:Nat}:∀p,p≠o→(ρ.gh o).ob p=ρ.ob p∧(ρ.gh o).ln p=ρ.ln p:=fun p h=>⟨by simp[aK.gh,upd,h],(TU (ρ:=ρ) (n:=0) p h).2⟩
theorem Di {o n:Nat}:(ρ.xB o n).ln o=n:=by simp[aK.xB,upd]
def aK.xC (ρ:aK) (o s n:Nat):aK:=(ρ.j5 o s).xB o n
theorem Nh {o s n:Nat}:∀p,p≠o→(ρ.xC o s n).ob p=ρ.ob p∧(ρ.xC o s n).ln p=ρ.ln p:=fun p h=>⟨(Ab p h).1,(TU p h).2⟩
theorem qb {o s:Nat}:(ρ.j5 o s).ob o=some s:=by simp[aK.j5,upd]
theorem aG.new' {ρ':aK} (h:aG ρ b st fr σ) (o s:Nat) {x:Ob R.T} {a:fJ} (Ab:∀p,p≠o→ρ'.ob p=ρ.ob p∧ρ'.ln p=ρ.ln p) (ht:ρ'.tk=ρ.tk) (aX:ρ'.om=ρ.om) (hx:dL ρ' (σ.setObj (ρ.om.lc o) s a) o x):aG ρ' b (st.new o x) fr (σ.setObj (ρ.om.lc o) s a) where
 d:=by rw[aX];exact h.d
 om:=by rw[aX];exact h.om
 fr:=fun j y hy=>by
  have hy':look (jY (CO o) st.fr) j=some y:=hy
  rw[p9,Option.map_eq_some_iff] at hy'
  obtain⟨z,hz,rfl⟩:=hy'
  exact TQ Ab ht aX (h.fr j z hz)
 ob:=fun p y hy=>by
  by_cases e:p=o
  ·subst e
   have hy':some x=some y:=by rw[←hy];exact(iK _ _ _).symm
   cases hy'
   exact hx
  ·have hy':look (jY (Ob.kill o) (gB o st.ob)) p=some y:=by rw[←hy];exact(fH _ _ e).symm
   rw[p9,nZ e,Option.map_eq_some_iff] at hy'
   obtain⟨z,hz,rfl⟩:=hy'
   exact ady e Ab ht aX (h.ob p z hz)
 inj:=by rw[ht];exact h.inj
 lt:=by rw[ht];exact h.lt
 ge:=by rw[ht,aX];exact h.ge
 nx:=by rw[aX];exact h.nx
theorem aG.new (h:aG ρ b st fr σ) (o s:Nat) {x:Ob R.T} {a:fJ} (hx:dL (ρ.j5 o s) (σ.setObj (ρ.om.lc o) s a) o x):aG (ρ.j5 o s) b (st.new o x) fr (σ.setObj (ρ.om.lc o) s a):=h.new' o s Ab rfl rfl hx
theorem aG.Ni (h:aG ρ b st fr σ) (o s n:Nat) {x:Ob R.T} {a:fJ} (hx:dL (ρ.xC o s n) (σ.setObj (ρ.om.lc o) s a) o x):aG (ρ.xC o s n) b (st.new o x) fr (σ.setObj (ρ.om.lc o) s a):=h.new' o s Nh rfl rfl hx
theorem TW {ρ':aK} {o p:Nat} (hp:p≠o) (ho:∀p,p≠o→ρ'.ob p=ρ.ob p∧ρ'.ln p=ρ.ln p) (ht:ρ'.tk=ρ.tk) (hx:ρ'.om=ρ.om):∀{x:Ob R.T},Ob.jX o x=false→dL ρ σ p x→dL ρ' σ p x
 |.cells cs,hm,h=>by
  obtain⟨s,l,h1,h2,h3⟩:=h
  exact⟨s,l,((ho p hp).1.trans h1),by rw[hx];exact h2,au.kill o ho ht hx _ _ hm h3⟩
 |.map k e m,_,h=>by
  obtain⟨s,h1,h2⟩:=h
  exact⟨s,((ho p hp).1.trans h1),by rw[hx];exact h2⟩
 |.smap ks vs,hm,h=>by
  obtain⟨s,k,l,h1,h2,h3,h4⟩:=h
  have hm':(kV o ks||kV o vs)=false:=hm
  rw[Bool.or_eq_false_iff] at hm'
  exact⟨s,k,l,((ho p hp).1.trans h1),by rw[hx];exact h2,au.kill o ho ht hx _ _ hm'.1 h3,au.kill o ho ht hx _ _ hm'.2 h4⟩
 |.arr t l,hm,h=>by
  refine⟨h.1.trans (ho p hp).2.symm, ?_⟩
  rcases h.2 with h| ⟨s,cs,h1,h2,h3⟩
  ·exact .inl ⟨h.1,(ho p hp).1.trans h.2⟩
  ·exact .inr ⟨s,cs,((ho p hp).1.trans h1),by rw[hx];exact h2,tJ l cs h3⟩
 |.sg ss,_,h=>by
  obtain⟨s,h1,h2⟩:=h
  exact⟨s,((ho p hp).1.trans h1),by rw[hx];exact h2⟩
 |.gone,_,_=>trivial
 |.ro b,hm,h=>TW hp ho ht hx (x:=b) hm h
theorem aG.ghost (h:aG ρ b st fr σ) (o:Nat) (t:Ty):aG (ρ.gh o) b (st.new o (.arr t [])) fr σ where
 d:=h.d
 om:=h.om
 fr:=fun j y hy=>by
  have hy':look (jY (CO o) st.fr) j=some y:=hy
  rw[p9,Option.map_eq_some_iff] at hy'
  obtain⟨z,hz,rfl⟩:=hy'
  exact TQ Ac rfl rfl (h.fr j z hz)
 ob:=fun p y hy=>by
  by_cases e:p=o
  ·subst e
   have hy':some (Ob.arr t ([]:List (Den R.T t)))=some y:=by rw[←hy];exact(iK _ _ _).symm
   cases hy'
   exact⟨(Di (ρ:=ρ) (n:=0)).symm,.inl ⟨rfl,by simp[aK.gh,upd]⟩⟩
  ·have hy':look (jY (Ob.kill o) (gB o st.ob)) p=some y:=by rw[←hy];exact(fH _ _ e).symm
   rw[p9,nZ e,Option.map_eq_some_iff] at hy'
   obtain⟨z,hz,rfl⟩:=hy'
   unfold Ob.kill
   cases hm:Ob.jX o z
   ·exact TW e Ac rfl rfl hm (h.ob p z hz)
   ·trivial
 inj:=h.inj
 lt:=h.lt
 ge:=h.ge
 nx:=h.nx
theorem TY {c:Cx} {o p:Nat} (σ:ah) (h:p≠o):(σ.jJ (c.lc o)).obj (c.lc p)=σ.obj (c.lc p):=by
 unfold ah.jJ upd
 dsimp only
 rw[if_neg (c.TG h)]
theorem T9 {σ':ah} {p:Nat} (hp:σ'.obj (ρ.om.lc p)=σ.obj (ρ.om.lc p)) (ht:σ'.top=σ.top):∀{x:Ob R.T},dL ρ σ p x→dL ρ σ' p x
 |.cells cs,h=>by
  obtain⟨s,l,h1,h2,h3⟩:=h
  exact⟨s,l,h1,by unfold ah.bC at h2⊢;rw[hp];exact h2,by rw[ht];exact h3⟩
 |.map k e m,h=>by
  obtain⟨s,h1,h2⟩:=h
  exact⟨s,h1,by unfold ah.eP at h2⊢;rw[hp];exact h2⟩
 |.smap ks vs,h=>by
  obtain⟨s,k,l,h1,h2,h3,h4⟩:=h
  exact⟨s,k,l,h1,by unfold ah.eP at h2⊢;rw[hp];exact h2,by rw[ht];exact h3,by rw[ht];exact h4⟩
 |.arr t l,h=>by
  refine⟨h.1, ?_⟩
  rcases h.2 with h| ⟨s,cs,h1,h2,h3⟩
  ·exact .inl h
  ·exact .inr ⟨s,cs,h1,by unfold ah.bC at h2⊢;rw[hp];exact h2,tJ l cs h3⟩
 |.sg ss,h=>by
  obtain⟨s,h1,h2⟩:=h
  exact⟨s,h1,by unfold ah.bC at h2⊢;rw[hp];exact h2⟩
 |.gone,_=>trivial
 |.ro b,h=>T9 hp ht (x:=b) h
theorem aG.del (h:aG ρ b st fr σ) (o:Nat):aG ρ b (st.del o) fr (σ.jJ (ρ.om.lc o)) where
 d:=h.d
 om:=h.om
 fr:=h.fr
 ob:=fun p y hy=>by
  by_cases e:p=o
  ·subst e
   have:look (gB p st.ob) p=some y:=hy
   have key:∀l:List (Nat×Ob R.T),look (gB p l) p=none:=by
    intro l
    induction l with
    |nil=>rfl
    |cons q l ih=>
     obtain⟨j,x⟩:=q
     unfold gB
     cases hj:Nat.beq j p
     ·show (bif Nat.beq j p then some x else look (gB p l) p)=none
      rw[hj];exact ih
     ·exact ih
   rw[key] at this;cases this
  ·have hy':look (gB o st.ob) p=some y:=hy
   rw[nZ e] at hy'
   exact T9 (TY σ e) rfl (h.ob p y hy')
 inj:=h.inj
 lt:=h.lt
 ge:=h.ge
 nx:=h.nx
theorem aG.set (h:aG ρ b st fr σ) (o s:Nat) {x:Ob R.T} {a:fJ} (hx:dL ρ (σ.setObj (ρ.om.lc o) s a) o x):aG ρ b (st.set o x) fr (σ.setObj (ρ.om.lc o) s a) where
 d:=h.d
 om:=h.om
 fr:=h.fr
 ob:=fun p y hy=>by
  by_cases e:p=o
  ·subst e
   have hy':some x=some y:=by rw[←hy];exact(iK _ _ _).symm
   cases hy'
   exact hx
  ·have hy':look (gB o st.ob) p=some y:=by rw[←hy];exact(fH _ _ e).symm
   rw[nZ e] at hy'
   exact TS e (h.ob p y hy')
 inj:=h.inj
 lt:=h.lt
 ge:=h.ge
 nx:=h.nx
theorem aG.wk (h:aG ρ b st fr σ) (t s n:Nat) {b':Nat} (hb:b≤b') (hs:s<b') (hl:ρ.om.lo≤s) (hf:∀u,u≠t→ρ.tk u≠some s):aG (ρ.fP t s) b' (st.wk t) fr (σ.bK s n) where
 d:=h.d
 om:=h.om
 fr:=fun j y hy=>by
  have hy':look (jY (Aq.wk t) st.fr) j=some y:=hy
  rw[p9,Option.map_eq_some_iff] at hy'
  obtain⟨z,hz,rfl⟩:=hy'
  have hz':=h.fr j z hz
  have key:∀u s',u≠t→ρ.tk u=some s'→(ρ.fP t s).tk u=some s'∧(σ.bK s n).top s'=σ.top s':=fun u s' hu hs'=>
   ⟨by simp[aK.fP,upd,hu,hs'],CF _ _ fun e=>hf u hu (by rw[hs',e])⟩
  cases z with
  |opt j' w y=>exact⟨fun hc=>Rl.wk (ρ:=ρ) (ρ':=ρ.fP t s) (top:=σ.top) (top':=(σ.bK s n).top) t ⟨rfl,rfl,rfl⟩ key y _ (hz'.1 hc),hz'.2⟩
  |_=>exact gF.of (Rl.wk (ρ:=ρ) (ρ':=ρ.fP t s) (top:=σ.top) (top':=(σ.bK s n).top) t ⟨rfl,rfl,rfl⟩ key _ _ hz')
 ob:=fun p y hy=>by
  have hy':look (jY (Ob.wk t) st.ob) p=some y:=hy
  rw[p9,Option.map_eq_some_iff] at hy'
  obtain⟨z,hz,rfl⟩:=hy'
  have hz':=h.ob p z hz
  have key:∀u s',u≠t→ρ.tk u=some s'→(ρ.fP t s).tk u=some s'∧(σ.bK s n).top s'=σ.top s':=fun u s' hu hs'=>
   ⟨by simp[aK.fP,upd,hu,hs'],CF _ _ fun e=>hf u hu (by rw[hs',e])⟩
  exact TT key hz'
 inj:=fun u v s' hu hv=>by
  by_cases e1:u=t<;>by_cases e2:v=t
  ·rw[e1,e2]
  ·simp[aK.fP,upd,e1] at hu;simp[aK.fP,upd,e2] at hv;exact absurd (hu▸hv) (hf v e2)
  ·simp[aK.fP,upd,e1] at hu;simp[aK.fP,upd,e2] at hv;exact absurd (hv▸hu) (hf u e1)
  ·simp[aK.fP,upd,e1] at hu;simp[aK.fP,upd,e2] at hv;exact h.inj u v s' hu hv
 lt:=fun u s' hu=>by
  by_cases e1:u=t
  ·simp[aK.fP,upd,e1] at hu;omega
  ·simp[aK.fP,upd,e1] at hu;exact Nat.lt_of_lt_of_le (h.lt u s' hu) hb
 ge:=fun u s' hu=>by
  by_cases e1:u=t
  ·simp[aK.fP,upd,e1] at hu;rw[←hu];exact hl
  ·simp[aK.fP,upd,e1] at hu;exact h.ge u s' hu
 nx:=Nat.le_trans h.nx hb
theorem Ua {top:Nat→Nat} {x:TV R.T} {v:Value} (h:wU v=some x):∃y,iF v=some y∧Rl R ρ top x y:=by
 unfold wU at h
 split at h<;>cases h<;>exact⟨_,rfl,by unfold Rl;rfl⟩
theorem Ub {top:Nat→Nat}:∀{vs:List Value} {l:List (TV R.T)},zm vs=some l→∃y,vs.mapM iF=some y∧au R ρ top l y
 | [],l,h=>by cases h;exact⟨[],rfl,rfl⟩
 |v::vs,l,h=>by
  unfold zm at h
  cases h1:(wU v:Option (TV R.T)) with
  |none=>simp only[h1] at h;cases h
  |some a=>
   cases h2:(zm vs:Option (List (TV R.T))) with
   |none=>simp only[h1,h2] at h;cases h
   |some as=>
    simp only[h1,h2] at h;cases h
    obtain⟨y,hy,hr⟩:=Ua (ρ:=ρ) (top:=top) h1
    obtain⟨ys,hys,hrs⟩:=Ub h2
    exact⟨y::ys,by simp[hy,hys],.cons' hr hrs⟩
theorem Uc {top:Nat→Nat} {x:TV R.T} {v:Value} (h:zn v=some x):∃y,ofValue v=some y∧Rl R ρ top x y:=by
 unfold zn at h
 split at h
 ·rename_i cs
  cases h2:(zm cs.toList:Option (List (TV R.T))) with
  |none=>simp only[h2] at h;cases h
  |some l=>
   simp only[h2] at h;cases h
   obtain⟨ys,hys,hrs⟩:=Ub (ρ:=ρ) (top:=top) h2
   exact⟨.agg ys,by simp[ofValue,hys],by unfold Rl;exact⟨_,rfl,hrs⟩⟩
 ·obtain⟨y,hy,hr⟩:=Ua (ρ:=ρ) (top:=top) h
  refine⟨y, ?_,hr⟩
  unfold wU at h
  split at h<;>first|exact hy|cases h
def ny (fr:Fr) (g:List (Nat×Bool)):Prop:=∀j u,look g j=some u→fr.tm j= .bool u
theorem ny.nil:ny fr []:=fun _ _ h=>by cases h
theorem ny.cons {g:List (Nat×Bool)} {j:Nat} {u:Bool} (h:fr.tm j= .bool u) (hg:ny fr g):ny fr ((j,u)::g):=fun i v hi=>by
 by_cases e:i=j
 ·subst e;rw[iK] at hi;cases hi;exact h
 ·rw[fH _ _ e] at hi;exact hg i v hi
theorem adz {fr:Fr} {top:Nat→Nat} {g:List (Nat×Bool)} (hg:ny fr g) {y x:TV R.T} {v:V} (hy:gF fr ρ top y v) (he:GR g y=some x):Rl R ρ top x v:=by
 cases y with
 |opt j w z=>
  unfold GR at he
  dsimp only at he
  split at he
  ·rename_i u hu
   cases he
   have:=hg j u hu
   by_cases e:u=w
   ·subst e;rw[beq_self_eq_true];exact hy.1 this
   ·rw[show (u==w)=false by simpa using e]
    have e':u= !w:=by cases u<;>cases w<;>first|rfl|exact absurd rfl e
    unfold Rl;exact hy.2 (.inl (by rw[this,e']))
  ·cases he
 |_=>cases he;exact hy
theorem aU (h:aG ρ b st fr σ) {g:List (Nat×Bool)} (hg:ny fr g) {o:Operand} {x:TV R.T} (he:aV g st o=some x):Rl R ρ σ.top x (fr.ev E o):=by
 cases o with
 |tmp t=>
  rw[za]
  unfold aV at he
  dsimp only at he
  split at he
  ·rename_i v hv;exact adz hg (h.fr _ _ hv) he
  ·cases he
 |const v=>
  rw[SK]
  obtain⟨y,hy,hr⟩:=Uc (ρ:=ρ) (top:=σ.top) (show zn v=some x from he)
  rw[hy];exact hr
 |func f=>cases he;rw[SL];unfold Rl;exact⟨[],[],rfl,rfl,rfl⟩
 |global i=>cases he
theorem tK (h:aG ρ b st fr σ) {g:List (Nat×Bool)} (hg:ny fr g):∀{l:List Operand} {xs:List (TV R.T)},lN g st l=some xs→au R ρ σ.top xs (l.map (fr.ev E))
 | [],xs,he=>by cases he;rfl
 |o::l,xs,he=>by
  unfold lN at he
  cases h1:aV g st o with
  |none=>simp only[h1] at he;cases he
  |some a=>
   cases h2:lN g st l with
   |none=>simp only[h1,h2] at he;cases he
   |some as=>simp only[h1,h2] at he;cases he;exact .cons' (aU h hg h1) (tK h hg h2)
theorem Nj (h:aG ρ b st fr σ) {g:List (Nat×Bool)} (hg:ny fr g):∀{l:List (Nat×Operand)} {xs:List (Nat×TV R.T)},zo g st l=some xs→xs.map (·.1)=l.map (·.1)∧au R ρ σ.top (xs.map (·.2)) (l.map fun p=>fr.ev E p.2)
 | [],xs,he=>by cases he;exact⟨rfl,rfl⟩
 | (i,o)::l,xs,he=>by
   unfold zo at he
   cases h1:aV g st o with
   |none=>simp only[h1] at he;cases he
   |some a=>
    cases h2:zo g st l with
    |none=>simp only[h1,h2] at he;cases he
    |some as=>
     simp only[h1,h2] at he;cases he
     obtain⟨e1,e2⟩:=Nj h hg h2
     exact⟨by simp[e1],.cons' (aU h hg h1) e2⟩
end
end Aq
end
section
namespace Aq
open Go
set_option linter.unusedSectionVars false
set_option linter.unusedVariables false
theorem adA {n m:Nat} {v:Vec n} {w:Vec m} (h:GK v=some w):n=m∧HEq v w:=by
 unfold GK at h
 split at h
 ·rename_i e;subst e;cases h;exact⟨rfl,HEq.rfl⟩
 ·cases h
theorem Ud:∀{k:iJ} {s:Sg} {x:zh k},zi k s=some x→CK k x=s
 |.i k,.i k' y,x,h=>by
  have h':(if k'=k then some y else none)=some (x:Int):=h
  by_cases e:k'=k
  ·subst e;rw[if_pos rfl] at h';cases h';rfl
  ·rw[if_neg e] at h';cases h'
 |.a k n,.a k' n' v,x,h=>by
  have h':(if k'=k then GK (m:=n) v else none)=some (x:Vec n):=h
  by_cases e:k'=k
  ·subst e;rw[if_pos rfl] at h'
   obtain⟨e1,e2⟩:=adA h'
   subst e1;cases e2;rfl
  ·rw[if_neg e] at h';cases h'
 |.i k,.a _ _ _,x,h=>by cases h
 |.a k n,.i _ _,x,h=>by cases h
theorem H9:∀{l:List iJ} {ss:List Sg} {x:wQ l},sV l ss=some x→qK l x=ss
 | [],ss,x,h=>by
   cases ss with
   |nil=>rfl
   |cons s ss=>cases h
 | [k],ss,x,h=>by
   cases ss with
   |nil=>cases h
   |cons s ss=>
    cases ss with
    |nil=>
     show [CK k x]=[s]
     rw[Ud (show zi k s=some x from h)]
    |cons s' ss=>cases h
 |k::k'::l,ss,x,h=>by
  cases ss with
  |nil=>cases h
  |cons s ss=>
   have h':(match zi k s with
    |some x=>match sV (k'::l) ss with
     |some p=>some (x,p)
     |none=>none
    |none=>none)=some x:=h
   cases hu:zi k s with
   |none=>simp only[hu] at h';cases h'
   |some y=>
    cases hs:sV (k'::l) ss with
    |none=>simp only[hu,hs] at h';cases h'
    |some q=>
     simp only[hu,hs] at h'
     obtain rfl:=Option.some.inj h'
     show CK k y::qK (k'::l) q=s::ss
     rw[Ud hu,H9 hs]
section
variable {R:gy} (hR:l9 R)
variable {ρ:aK} {top:Nat→Nat} {b:Nat} {st:MS R.T} {fr:Fr} {σ:ah}
include hR
theorem xD {t:Ty} {x:Den R.T t} {tv:TV R.T} {v:V} (h:nS R t tv=some x) (hr:Rl R ρ top tv v):Rl R ρ top (uW R .any t x) v:=by
 cases t with
 |int k=>rw[M8 h hr];unfold Rl;rfl
 |bool=>rw[M9 h hr];unfold Rl;rfl
 |str=>rw[Na h hr];unfold Rl;rfl
 |slice t=>obtain⟨c,hv⟩:=TM h hr;rw[hv];unfold Rl;exact⟨c,rfl,trivial⟩
 |st n=>cases h
theorem Ue:∀(l:List Ty) (p:lK R.T l) (cs:List (TV R.T)) (vs:List V),uX R l cs=some p→au R ρ top cs vs→au R ρ top (iU R .any l p) vs
 | [],p,cs,vs,h,hr=>by
   cases cs with
   |nil=>rw[hr.eX];rfl
   |cons c cs=>cases h
 | [t],p,cs,vs,h,hr=>by
   have h':nS R t (hd1 R cs)=some p:=h
   cases cs with
   |nil=>cases t<;>cases h'
   |cons c cs=>
    cases cs with
    |nil=>
     obtain⟨v,l,rfl,h1,h2⟩:=hr.dA
     rw[h2.eX]
     exact .cons' (xD hR h' h1) rfl
    |cons c' cs=>cases t<;>cases h'
 |t::u::l,p,cs,vs,h,hr=>by
  cases cs with
  |nil=>cases h
  |cons c cs=>
   obtain⟨v,vs,rfl,h1,h2⟩:=hr.dA
   unfold uX at h
   cases hu:nS R t c with
   |none=>simp only[hu] at h;cases h
   |some y=>
    cases hs:uX R (u::l) cs with
    |none=>simp only[hu,hs] at h;cases h
    |some q=>
     simp only[hu,hs] at h
     obtain rfl:=Option.some.inj h
     exact .cons' (xD hR hu h1) (Ue (u::l) q cs vs hs h2)
theorem Dj {t:Ty} {x:Den R.T t} {tv:TV R.T} {v:V} (h:mW R t tv=some x) (hr:Rl R ρ top tv v):Rl R ρ top (eU R .any t x) v:=by
 cases t with
 |st n=>
  change wT R n tv=some x at h
  unfold wT at h
  split at h
  ·rename_i cs
   split at h
   ·rename_i p hp
    obtain rfl:=Option.some.inj h
    obtain⟨l,hv,hl⟩:=hr.jA
    subst hv
    show Rl R ρ top (.agg (iU R .any (R.lf n) (R.of n (R.to n p)))) _
    rw[hR.Dc]
    unfold Rl;exact⟨l,rfl,Ue hR _ _ _ _ hp hl⟩
   ·cases h
  ·cases h
 |int k=>exact xD hR (t:=.int k) h hr
 |bool=>exact xD hR (t:=.bool) h hr
 |str=>exact xD hR (t:=.str) h hr
 |slice t=>exact xD hR (t:=.slice t) h hr
omit hR in
theorem Uf {sz n:Nat} {c c':Cp} {x:Cap} (h:zw c c'=true) (hx:zW ρ top sz n c x):zW ρ top sz n c' x:=by
 cases c<;>cases c'<;>simp only[zw,Bool.false_eq_true] at h<;>first|trivial|exact hx|exact .inl hx|exact .inr (.inl hx)| (rw[←dB h];exact hx)
omit hR in
theorem Nk {k e k' e':Ty} {m:List (Den R.T k'×Den R.T e')} {x:List (Den R.T k×Den R.T e)} (h:zx R m=some x):k'=k∧e'=e∧HEq m x:=by
 unfold zx at h
 split at h
 ·rename_i e;obtain⟨rfl,rfl⟩:=e;cases h;exact⟨rfl,rfl,HEq.rfl⟩
 ·cases h
omit hR in
theorem Ug {c:Cp} {t:Ty} {x:List (Den R.T t)} {tv:TV R.T} {v:V} (h:GX R c t tv=some x) (hr:Rl R ρ top tv v):Rl R ρ top (.aj c t x) v:=by
 unfold GX at h
 split at h
 ·rename_i c' t' l
  cases hc:zw c' c
  ·rw[hc] at h;cases h
  ·rw[hc,cond_true] at h
   obtain⟨e,e2⟩:=p8 h;subst e;cases e2
   obtain⟨c'',hv,hcc⟩:=hr.jQ
   unfold Rl;exact⟨c'',hv,Uf hc hcc⟩
 ·cases hc:zw .nil c
  ·rw[hc] at h;cases h
  ·rw[hc,cond_true] at h;cases h
   unfold Rl;exact⟨.nil,hr.nY,Uf hc rfl⟩
 ·cases h
mutual
theorem Nl:∀(k:Sk) (x:oO R.T k) (tv:TV R.T) (v:V),pk R k tv=some x→Rl R ρ top tv v→Rl R ρ top (up R .any k x) v
 |.d t,x,tv,v,h,hr=>Dj hR (by unfold pk at h;exact h) hr
 |.l c t,x,tv,v,h,hr=>Ug (by unfold pk at h;exact h) hr
 |.agg l,x,tv,v,h,hr=>by
  cases tv<;>first| (exact absurd (show none=some x from h) (by simp))|skip
  rename_i cs
  obtain⟨vs,rfl,hl⟩:=hr.jA
  show Rl R ρ top (.agg (iC R .any l x)) _
  unfold Rl;exact⟨vs,rfl,xE l x cs vs h hl⟩
 |.ref o off,x,tv,v,h,hr=>by
  cases tv<;>first| (exact absurd (show none=some x from h) (by simp))|skip
  rename_i p off'
  have h':(bif Nat.beq p o&& Nat.beq off' off then some () else none)=some x:=h
  cases hb:(Nat.beq p o&& Nat.beq off' off)
  ·rw[hb] at h';cases h'
  ·rw[Bool.and_eq_true] at hb
   rw[dB hb.1,dB hb.2] at hr
   exact hr
 |.aI l off,x,tv,v,h,hr=>by
  cases tv<;>first| (exact absurd (show none=some x from h) (by simp))|skip
  rename_i cs off'
  have h':(bif Nat.beq off' off then fB R l cs else none)=some x:=h
  cases hb:Nat.beq off' off
  ·rw[hb] at h';cases h'
  ·rw[hb,cond_true] at h'
   rw[dB hb] at hr
   obtain⟨vs,rfl,hl⟩:=hr.rM
   show Rl R ρ top (.aI (iC R .any l x) off) _
   unfold Rl;exact⟨vs,rfl,xE l x _ vs h' hl⟩
 |.bB o,x,tv,v,h,hr=>by
  cases tv<;>first| (exact absurd (show none=some x from h) (by simp))|skip
  rename_i p
  have h':(bif Nat.beq p o then some () else none)=some x:=h
  cases hb:Nat.beq p o
  ·rw[hb] at h';cases h'
  ·rw[dB hb] at hr
   exact hr
 |.bR k e,x,tv,v,h,hr=>by
  cases tv<;>first| (exact absurd (show none=some x from h) (by simp))|skip
  rename_i k' e' m
  obtain⟨e1,e2,e3⟩:=Nk (show zx R m=some x from h)
  subst e1;subst e2;cases e3
  exact hr
 |.fn f a b,x,tv,v,h,hr=>by
  cases tv<;>first| (exact absurd (show none=some x from h) (by simp))|skip
  rename_i f' a' b'
  have h':(bif Nat.beq f' f then (match fB R a a' with
   |some x=>match fB R b b' with
    |some y=>some (x,y)
    |none=>none
   |none=>none) else none)=some x:=h
  cases hb:Nat.beq f' f
  ·rw[hb] at h';cases h'
  ·rw[hb,cond_true] at h'
   rw[dB hb] at hr
   obtain⟨va,vb,rfl,ha,hbb⟩:=hr.mg
   cases h1:fB R a a' with
   |none=>simp only[h1] at h';cases h'
   |some y=>
    cases h2:fB R b b' with
    |none=>simp only[h1,h2] at h';cases h'
    |some z=>
     simp only[h1,h2] at h';cases h'
     show Rl R ρ top (.fn f (iC R .any a y) (iC R .any b z)) _
     unfold Rl;exact⟨va,vb,rfl,xE a y _ va h1 ha,xE b z _ vb h2 hbb⟩
 |.d9,x,tv,v,h,hr=>by
  cases tv<;>first| (exact absurd (show none=some x from h) (by simp))|skip
  exact hr
 |.vw o t,x,tv,v,h,hr=>by
  cases tv<;>first| (exact absurd (show none=some x from h) (by simp))|skip
  rename_i p t'
  have h':(bif Nat.beq p o then (if t'=t then some () else none) else none)=some x:=h
  cases hb:Nat.beq p o
  ·rw[hb] at h';cases h'
  ·rw[hb,cond_true] at h'
   split at h'
   ·rename_i e
    rw[dB hb,e] at hr
    exact hr
   ·cases h'
 |.sg l,x,tv,v,h,hr=>by
  cases tv<;>first| (exact absurd (show none=some x from h) (by simp))|skip
  rename_i ss
  show Rl R ρ top (.sg (qK l x)) v
  rw[H9 (show sV l ss=some x from h)]
  exact hr
 |.undef,x,tv,v,h,hr=>by
  cases tv<;>first| (exact absurd (show none=some x from h) (by simp))|skip
  exact hr
theorem xE:∀(l:List Sk) (x:aH R.T l) (cs:List (TV R.T)) (vs:List V),fB R l cs=some x→au R ρ top cs vs→au R ρ top (iC R .any l x) vs
 | [],x,cs,vs,h,hr=>by
   cases cs with
   |nil=>rw[hr.eX];rfl
   |cons c cs=>exact absurd (show none=some x from h) (by simp)
 | [k],x,cs,vs,h,hr=>by
   cases cs with
   |nil=>exact absurd (show none=some x from h) (by simp)
   |cons c cs=>
    cases cs with
    |nil=>
     obtain⟨v,l,rfl,h1,h2⟩:=hr.dA
     rw[h2.eX]
     show au R ρ top [up R .any k x] _
     exact .cons' (Nl k x _ v h h1) rfl
    |cons c' cs=>exact absurd (show none=some x from h) (by simp)
 |k::k'::l,x,cs,vs,h,hr=>by
  cases cs with
  |nil=>exact absurd (show none=some x from h) (by simp)
  |cons c cs=>
   have h':(match pk R k c with
    |some x=>match fB R (k'::l) cs with
     |some p=>some (x,p)
     |none=>none
    |none=>none)=some x:=h
   obtain⟨v,vs,rfl,h1,h2⟩:=hr.dA
   cases hu:pk R k c with
   |none=>simp only[hu] at h';cases h'
   |some y=>
    cases hs:fB R (k'::l) cs with
    |none=>simp only[hu,hs] at h';cases h'
    |some q=>
     simp only[hu,hs] at h'
     obtain rfl:=Option.some.inj h'
     show au R ρ top (up R .any k y::iC R .any (k'::l) q) _
     exact .cons' (Nl k y _ v hu h1) (xE (k'::l) q _ vs hs h2)
end
omit hR in
theorem adB {k:Sk} {j:Nat} {w:Bool} {y:TV R.T} {x:oO R.T k} (h:pk R k (.opt j w y)=some x):False:=by
 cases k with
 |d t=>cases t<;>(unfold pk at h;cases h)
 |_=>unfold pk at h;cases h
theorem gF.pk {k:Sk} {x:oO R.T k} {tv:TV R.T} {v:V} (h:pk R k tv=some x) (hr:gF fr ρ top tv v):Rl R ρ top (up R .any k x) v:=by
 cases tv<;>first|exact Nl hR _ _ _ _ h hr|exact(adB h).elim
theorem Nn (h:aG ρ b st fr σ):∀(l:List (Nat×Sk)) (x:wR R.T l),oU R st.fr l=some x→∀i v,look (CS R l x) i=some v→Rl R ρ σ.top v (fr.tm i)
 | [],x,hx,i,v,hv=>by cases hv
 | [(j,k)],x,hx,i,v,hv=>by
   unfold oU at hx
   split at hx
   ·rename_i y hy
    by_cases e:i=j
    ·subst e
     have hv':look [(i,up R .any k x)] i=some v:=hv
     rw[iK] at hv';cases hv'
     exact gF.pk hR hx (h.fr _ _ hy)
    ·have hv':look [(j,up R .any k x)] i=some v:=hv
     rw[fH _ _ e] at hv';cases hv'
   ·cases hx
 | (j,k)::q::l,x,hx,i,v,hv=>by
   unfold oU at hx
   split at hx
   ·rename_i y hy
    cases hu:pk R k y with
    |none=>simp only[hu] at hx;cases hx
    |some z=>
     cases hs:oU R st.fr (q::l) with
     |none=>simp only[hu,hs] at hx;cases hx
     |some p=>
      simp only[hu,hs] at hx
      obtain rfl:=Option.some.inj hx
      have hv':look ((j,up R .any k z)::CS R (q::l) p) i=some v:=hv
      by_cases e:i=j
      ·subst e
       rw[iK] at hv';cases hv'
       exact gF.pk hR hu (h.fr _ _ hy)
      ·rw[fH _ _ e] at hv'
       exact Nn h (q::l) p hs i v hv'
   ·cases hx
theorem Np {o:Nat} {k:jF} {x:uV R.T k} {y:Ob R.T} (hx:u7 R k y=some x) (hy:dL ρ σ o y):dL ρ σ o (jN R k x):=by
 cases k with
 |cells l=>
  cases y with
  |cells cs=>
   obtain⟨s,vs,h1,h2,h3⟩:=hy
   exact⟨s,vs,h1,h2,xE hR l x _ vs hx h3⟩
  |map k e m=>cases hx
  |smap _ _=>cases hx
  |arr _ _=>cases hx
  |sg _=>cases hx
  |gone=>cases hx
  |ro b=>cases hx
 |st n=>
  cases y with
  |cells cs=>
   obtain⟨s,vs,h1,h2,h3⟩:=hy
   obtain⟨l,e,hl⟩:=(Dj hR (t:=.st n) (show mW R (.st n) (.agg cs)=some x from hx) (v:=.agg vs) ⟨vs,rfl,h3⟩).jA
   cases e
   exact⟨s,vs,h1,h2,hl⟩
  |map k e m=>cases hx
  |smap _ _=>cases hx
  |arr _ _=>cases hx
  |sg _=>cases hx
  |gone=>cases hx
  |ro b=>cases hx
 |arr t=>
  cases y with
  |arr t' l=>
   obtain⟨e,e2⟩:=p8 hx
   subst e;cases e2
   exact hy
  |cells cs=>cases hx
  |map _ _ _=>cases hx
  |smap _ _=>cases hx
  |sg _=>cases hx
  |gone=>cases hx
  |ro b=>cases hx
 |sg l=>
  cases y with
  |sg ss=>
   show dL ρ σ o (.sg (qK l x))
   rw[H9 (show sV l ss=some x from hx)]
   exact hy
  |cells cs=>cases hx
  |map _ _ _=>cases hx
  |smap _ _=>cases hx
  |arr _ _=>cases hx
  |gone=>cases hx
  |ro b=>cases hx
 |map k e=>
  cases y with
  |map k' e' m=>
   obtain⟨e1,e2,e3⟩:=Nk hx
   subst e1;subst e2;cases e3
   exact hy
  |cells cs=>cases hx
  |smap _ _=>cases hx
  |arr _ _=>cases hx
  |sg _=>cases hx
  |gone=>cases hx
  |ro b=>cases hx
theorem Uh (h:aG ρ b st fr σ):∀(l:List (Nat×jF)) (x:mV R.T l),lg R st.ob l=some x→∀i v,look (jO R l x) i=some v→dL ρ σ i v
 | [],x,hx,i,v,hv=>by cases hv
 | [(j,k)],x,hx,i,v,hv=>by
   unfold lg at hx
   split at hx
   ·rename_i y hy
    by_cases e:i=j
    ·subst e
     have hv':look [(i,jN R k x)] i=some v:=hv
     rw[iK] at hv';cases hv'
     exact Np hR hx (h.ob _ _ hy)
    ·have hv':look [(j,jN R k x)] i=some v:=hv
     rw[fH _ _ e] at hv';cases hv'
   ·cases hx
 | (j,k)::q::l,x,hx,i,v,hv=>by
   unfold lg at hx
   split at hx
   ·rename_i y hy
    cases hu:u7 R k y with
    |none=>simp only[hu] at hx;cases hx
    |some z=>
     cases hs:lg R st.ob (q::l) with
     |none=>simp only[hu,hs] at hx;cases hx
     |some p=>
      simp only[hu,hs] at hx
      obtain rfl:=Option.some.inj hx
      have hv':look ((j,jN R k z)::jO R (q::l) p) i=some v:=hv
      by_cases e:i=j
      ·subst e
       rw[iK] at hv';cases hv'
       exact Np hR hu (h.ob _ _ hy)
      ·rw[fH _ _ e] at hv'
       exact Uh h (q::l) p hs i v hv'
   ·cases hx
theorem aG.pack (h:aG ρ b st fr σ) {s:Shape} {p:nR R.T s} (hp:pack R st s=some p):aG ρ b (unpack R s p) fr σ:=by
 obtain⟨sl,ob⟩:=s
 cases ob with
 |nil=>
  have hp':oU R st.fr sl=some p:=hp
  exact {h with fr:=fun i v hv=>.of (Nn hR h sl p hp' i v hv),ob:=fun i v hv=>by cases hv}
 |cons o os=>
  unfold Aq.pack at hp
  cases hu:oU R st.fr sl with
  |none=>simp only[hu] at hp;cases hp
  |some x=>
   cases hs:lg R st.ob (o::os) with
   |none=>simp only[hu,hs] at hp;cases hp
   |some y=>
    simp only[hu,hs] at hp
    obtain rfl:=Option.some.inj hp
    exact {h with fr:=fun i v hv=>.of (Nn hR h sl x hu i v hv),ob:=fun i v hv=>Uh hR h (o::os) y hs i v hv}
omit hR in
theorem Ui {e x:Ex} (h:wX e x=true):e=x:=by
 cases e<;>cases x<;>simp only[wX,Bool.false_eq_true] at h<;>first|rfl|rw[dB h]
omit hR in
def RO (st:MS R.T) (o:Nat):Prop:=∀x,look st.ob o=some x→mX x=true
omit hR in
theorem Nq {k:jF} {x:uV R.T k} {y:Ob R.T} (hx:u7 R k y=some x) (hy:mX y=true):False:=by
 cases y with
 |cells _=>cases hy
 |map _ _ _=>cases hy
 |smap _ _=>cases hy
 |arr _ _=>cases hy
 |sg _=>cases hy
 |gone=>cases k<;>cases hx
 |ro b=>cases k<;>cases hx
omit hR in
theorem Uj {i:Nat} (hr:RO st i):∀(l:List (Nat×jF)) (x:mV R.T l),lg R st.ob l=some x→look (jO R l x) i=none
 | [],x,hx=>rfl
 | [(j,k)],x,hx=>by
   unfold lg at hx
   split at hx
   ·rename_i y hy
    by_cases e:i=j
    ·subst e;exact(Nq hx (hr _ hy)).elim
    ·show look [(j,jN R k x)] i=none
     rw[fH _ _ e];rfl
   ·cases hx
 | (j,k)::q::l,x,hx=>by
   unfold lg at hx
   split at hx
   ·rename_i y hy
    cases hu:u7 R k y with
    |none=>simp only[hu] at hx;cases hx
    |some z=>
     cases hs:lg R st.ob (q::l) with
     |none=>simp only[hu,hs] at hx;cases hx
     |some p=>
      simp only[hu,hs] at hx
      obtain rfl:=Option.some.inj hx
      show look ((j,jN R k z)::jO R (q::l) p) i=none
      by_cases e:i=j
      ·subst e;exact(Nq hu (hr _ hy)).elim
      ·rw[fH _ _ e];exact Uj hr (q::l) p hs
   ·cases hx
omit hR in
theorem adC {s:Shape} {p:nR R.T s} {i:Nat} (hp:Aq.pack R st s=some p) (hr:RO st i):look (unpack R s p).ob i=none:=by
 obtain⟨sl,ob⟩:=s
 cases ob with
 |nil=>rfl
 |cons o os=>
  unfold Aq.pack at hp
  cases hu:oU R st.fr sl with
  |none=>simp only[hu] at hp;cases hp
  |some x=>
   cases hs:lg R st.ob (o::os) with
   |none=>simp only[hu,hs] at hp;cases hp
   |some y=>
    simp only[hu,hs] at hp
    obtain rfl:=Option.some.inj hp
    exact Uj hr (o::os) y hs
omit hR
theorem tL {α:Type}:∀(l m:List (Nat×α)) (i:Nat),look (l++m) i=match look l i with|some x=>some x|none=>look m i
 | [],m,i=>rfl
 | (j,x)::l,m,i=>by
   show (bif Nat.beq j i then some x else look (l++m) i)=match (bif Nat.beq j i then some x else look l i) with|some x=>some x|none=>look m i
   cases Nat.beq j i
   ·exact tL l m i
   ·rfl
theorem aG.over {st':MS R.T} (h:aG ρ b st fr σ) (h':aG ρ b st' fr σ):aG ρ b (st.over st') fr σ:={h with
 fr:=fun i v hv=>by
  have hv':look (st.fr++st'.fr) i=some v:=hv
  rw[tL] at hv'
  split at hv'
  ·rename_i x hx;cases hv';exact h.fr _ _ hx
  ·exact h'.fr _ _ hv'
 ob:=fun i v hv=>by
  have hv':look (st.ob++st'.ob) i=some v:=hv
  rw[tL] at hv'
  split at hv'
  ·rename_i x hx;cases hv';exact h.ob _ _ hx
  ·exact h'.ob _ _ hv'}
theorem tN {α:Type} {p:Nat→α→Bool} {f:α→α} {l:List (Nat×α)}:∀{is:List Nat} {i:Nat} {y:α},look (lM p f l is) i=some y→∃x,look l i=some x∧p i x=true∧y=f x
 | [],i,y,h=>by cases h
 |j::is,i,y,h=>by
  unfold lM at h
  split at h
  ·rename_i x hx
   cases hp:p j x
   ·rw[hp] at h;exact tN h
   ·rw[hp,cond_true] at h
    by_cases e:i=j
    ·subst e;rw[iK] at h;cases h;exact⟨x,hx,hp,rfl⟩
    ·rw[fH _ _ e] at h;exact tN h
  ·exact tN h
mutual
theorem Rl.solid {ρ':aK} {top':Nat→Nat} {W:List Nat} (ho:∀o,aO o W=false→ρ'.ob o=ρ.ob o∧ρ'.ln o=ρ.ln o) (hx:ρ'.om=ρ.om):∀(x:TV R.T) (v:V),Aq.solid W x=true→Rl R ρ top x v→Rl R ρ' top' x v
 |.aj c t l,v,hs,h=>by
  obtain⟨c',hv,hc⟩:=h
  refine⟨c',hv, ?_⟩
  cases c<;>first|exact hc| (simp[Aq.solid] at hs;done)
 |.ref o off,v,hs,h=>by
  obtain⟨s,h1,h2⟩:=h
  unfold Aq.solid at hs
  exact⟨s,by rw[(ho o (by simpa using hs)).1];exact h1,by rw[hx];exact h2⟩
 |.bB o,v,hs,h=>by
  obtain⟨s,h1,h2⟩:=h
  unfold Aq.solid at hs
  exact⟨s,by rw[(ho o (by simpa using hs)).1];exact h1,by rw[hx];exact h2⟩
 |.vw o t,v,hs,h=>by
  unfold Aq.solid at hs
  obtain⟨k1,k2⟩:=ho o (by simpa using hs)
  rcases h with ⟨s,h1,h2⟩| ⟨h1,h2⟩
  ·exact .inl ⟨s,by rw[k1];exact h1,by rw[k2,hx];exact h2⟩
  ·exact .inr ⟨by rw[k2];exact h1,h2⟩
 |.jk o t i off,v,hs,h=>by
  obtain⟨s,h1,h2⟩:=h
  unfold Aq.solid at hs
  exact⟨s,by rw[(ho o (by simpa using hs)).1];exact h1,by rw[hx];exact h2⟩
 |.sv o _ _ _ _ _,v,hs,h=>by
  obtain⟨s,h1,h2⟩:=h
  unfold Aq.solid at hs
  exact⟨s,by rw[(ho o (by simpa using hs)).1];exact h1,by rw[hx];exact h2⟩
 |.sel o _ _ _ _ _,v,hs,h=>by
  obtain⟨s,h1,h2⟩:=h
  unfold Aq.solid at hs
  exact⟨s,by rw[(ho o (by simpa using hs)).1];exact h1,by rw[hx];exact h2⟩
 |.sg _,_,_,h=>h
 |.oN _ _ _ _,_,_,h=>h
 |.agg cs,v,hs,h=>by obtain⟨l,hv,hl⟩:=h;exact⟨l,hv,au.solid ho hx cs l (by unfold Aq.solid at hs;exact hs) hl⟩
 |.aZ cs,v,hs,h=>by obtain⟨l,hv,hl⟩:=h;exact⟨l,hv,au.solid ho hx cs l (by unfold Aq.solid at hs;exact hs) hl⟩
 |.aI cs off,v,hs,h=>by obtain⟨l,hv,hl⟩:=h;exact⟨l,hv,au.solid ho hx cs l (by unfold Aq.solid at hs;exact hs) hl⟩
 |.fn f a b,v,hs,h=>by
  obtain⟨a',b',hv,ha,hb⟩:=h
  unfold Aq.solid at hs
  rw[Bool.and_eq_true] at hs
  exact⟨a',b',hv,au.solid ho hx a a' hs.1 ha,au.solid ho hx b b' hs.2 hb⟩
 |.opt _ _ _,_,_,h=>h.elim
 |.int _ _,_,_,h=>h
 |.bool _,_,_,h=>h
 |.fO _,_,_,h=>h
 |.str _,_,_,h=>h
 |.eH,_,_,h=>h
 |.dY,_,_,h=>h
 |.dQ,_,_,h=>h
 |.fG,_,_,h=>h
 |.d9,_,_,h=>h
 |.bR _ _ _,_,_,h=>h
 |.undef,_,_,h=>h
 |.gone,_,_,h=>trivial
theorem au.solid {ρ':aK} {top':Nat→Nat} {W:List Nat} (ho:∀o,aO o W=false→ρ'.ob o=ρ.ob o∧ρ'.ln o=ρ.ln o) (hx:ρ'.om=ρ.om):∀(x:List (TV R.T)) (v:List V),oQ W x=true→au R ρ top x v→au R ρ' top' x v
 | [],_,_,h=>h
 |x::xs,_,hs,⟨v,vs,e,h1,h2⟩=>by
  unfold oQ at hs
  rw[Bool.and_eq_true] at hs
  exact⟨v,vs,e,Rl.solid ho hx x v hs.1 h1,au.solid ho hx xs vs hs.2 h2⟩
end
theorem adD {x:TV R.T} {v:V} (h:gF fr ρ top x v):gF fr ρ top (Mx x) v:=by
 cases x with
 |aj c t l=>
  cases c with
  |own u=>obtain⟨c',hv,_⟩:=Rl.jQ (show Rl R ρ top (.aj (.own u) t l) v from h);exact .of (x:=.aj .any t l) (by unfold Rl;exact⟨c',hv,trivial⟩)
  |_=>exact h
 |_=>exact h
theorem adE {W:List Nat} {x:TV R.T} {v:V} (hs:Aq.solid W x=true) (h:gF fr ρ top x v):Rl R ρ top x v:=by
 cases x<;>first|exact h| (simp[Aq.solid] at hs;done)
structure aS (nr:Bool) (o:Nat) (st:MS R.T) (ρ:aK) (σ:ah) (st':MS R.T) (ρ':aK) (σ':ah):Prop where
 ob:ρ'.ob o=ρ.ob o
 ln:ρ'.ln o=ρ.ln o
 om:ρ'.om=ρ.om
 nx:σ.next≤σ'.next
 lp:(∀l,l<σ.next→σ'.loops l=σ.loops l)∧∀s,s<ρ.om.lo→σ'.top s=σ.top s
 dp:∀L,nr=true∨L.1≤ρ.om.dp→ρ.om.out L→σ'.obj L=σ.obj L
 ro:RO st o→RO st' o∧∀s,σ'.bC (ρ.om.lc o) s=σ.bC (ρ.om.lc o) s∧σ'.eP (ρ.om.lc o) s=σ.eP (ρ.om.lc o) s
structure Kp (nr:Bool) (W:List Nat) (st:MS R.T) (fr:Fr) (σ:ah) (ρ:aK) (st':MS R.T) (fr':Fr) (σ':ah) (ρ':aK):Prop where
 fr:∀i,aO i W=false→fr'.tm i=fr.tm i
 ob:∀o,aO o W=false→aS nr o st ρ σ st' ρ' σ'
section
variable {nr:Bool}
theorem Nr {c:Cx} {o s:Nat} {x:fJ} {L:Loc} (h:c.out L):(σ.setObj (c.lc o) s x).obj L=σ.obj L:=by
 unfold ah.setObj upd
 dsimp only
 rw[if_neg (h o)]
theorem adF {c:Cx} {o:Nat} {L:Loc} (h:c.out L):(σ.jJ (c.lc o)).obj L=σ.obj L:=by
 unfold ah.jJ upd
 dsimp only
 rw[if_neg (h o)]
theorem Cx.Uk (c:Cx) {L:Loc} (h:c.dp<L.1):c.out L:=fun o e=>by
 have:=c.zV o
 rw[←e] at this
 omega
theorem aS.refl {o:Nat}:aS nr o st ρ σ st ρ σ:=⟨rfl,rfl,rfl,Nat.le_refl _,⟨fun _ _=>rfl,fun _ _=>rfl⟩,fun _ _ _=>rfl,fun h=>⟨h,fun _=>⟨rfl,rfl⟩⟩⟩
theorem aS.trans {o:Nat} {st' fF:MS R.T} {ρ' nA:aK} {σ' jH:ah} (h:aS nr o st ρ σ st' ρ' σ') (g:aS nr o st' ρ' σ' fF nA jH):aS nr o st ρ σ fF nA jH:=
 ⟨g.ob.trans h.ob,g.ln.trans h.ln,g.om.trans h.om,Nat.le_trans h.nx g.nx,⟨fun l hl=>(g.lp.1 l (Nat.lt_of_lt_of_le hl h.nx)).trans (h.lp.1 l hl),fun s hs=>(g.lp.2 s (by rw[h.om];exact hs)).trans (h.lp.2 s hs)⟩,fun L hn hL=>(g.dp L (by rw[h.om];exact hn) (by rw[h.om];exact hL)).trans (h.dp L hn hL),fun hr=>by
   have g':=fun hr=>g.ro hr
   rw[h.om] at g'
   exact⟨(g' (h.ro hr).1).1,fun s=>⟨((g' (h.ro hr).1).2 s).1.trans ((h.ro hr).2 s).1,((g' (h.ro hr).1).2 s).2.trans ((h.ro hr).2 s).2⟩⟩⟩
theorem Kp.refl {W:List Nat}:Kp nr W st fr σ ρ st fr σ ρ:=⟨fun _ _=>rfl,fun _ _=>.refl⟩
theorem Kp.trans {W:List Nat} {st' fF:MS R.T} {fr' tO:Fr} {ρ' nA:aK} {σ' jH:ah} (h:Kp nr W st fr σ ρ st' fr' σ' ρ') (g:Kp nr W st' fr' σ' ρ' fF tO jH nA):Kp nr W st fr σ ρ fF tO jH nA:=
 ⟨fun i hi=>(g.fr i hi).trans (h.fr i hi),fun o ho=>(h.ob o ho).trans (g.ob o ho)⟩
theorem Kp.mono {W W':List Nat} {st':MS R.T} {fr':Fr} {ρ':aK} {σ':ah} (h:Kp nr W st fr σ ρ st' fr' σ' ρ') (hw:∀i,aO i W'=false→aO i W=false):Kp nr W' st fr σ ρ st' fr' σ' ρ':=
 ⟨fun i hi=>h.fr i (hw i hi),fun o ho=>h.ob o (hw o ho)⟩
theorem Dk:∀(i:Nat) (l m:List Nat),aO i (l++m)=(aO i l||aO i m)
 |i,[],m=>rfl
 |i,j::l,m=>by show (Nat.beq i j||aO i (l++m))=_;rw[Dk i l m,←Bool.or_assoc];rfl
theorem Ul {o:Nat} {ρ':aK} {σ':ah} {W:List Nat} (ho:∀o,aO o W=false→ρ'.ob o=ρ.ob o∧ρ'.ln o=ρ.ln o) (hx:ρ'.om=ρ.om) (hm:aO o W=false) (hc:∀s,σ'.bC (ρ.om.lc o) s=σ.bC (ρ.om.lc o) s∧σ'.eP (ρ.om.lc o) s=σ.eP (ρ.om.lc o) s):∀{x:Ob R.T},kY W x=true→dL ρ σ o x→dL ρ' σ' o x
 |.cells cs,hs,h=>by
  obtain⟨s,l,h1,h2,h3⟩:=h
  exact⟨s,l,by rw[(ho o hm).1];exact h1,by rw[hx,(hc s).1];exact h2,au.solid ho hx cs l hs h3⟩
 |.map k e m,_,h=>by obtain⟨s,h1,h2⟩:=h;exact⟨s,by rw[(ho o hm).1];exact h1,by rw[hx,(hc s).2];exact h2⟩
 |.smap ks vs,hs,h=>by
  obtain⟨s,k,l,h1,h2,h3,h4⟩:=h
  have hs':(oQ W ks&& oQ W vs)=true:=hs
  rw[Bool.and_eq_true] at hs'
  exact⟨s,k,l,by rw[(ho o hm).1];exact h1,by rw[hx,(hc s).2];exact h2,au.solid ho hx ks k hs'.1 h3,au.solid ho hx vs l hs'.2 h4⟩
 |.arr t l,_,h=>by
  refine⟨h.1.trans (ho o hm).2.symm, ?_⟩
  rcases h.2 with h| ⟨s,cs,h1,h2,h3⟩
  ·exact .inl ⟨h.1,(ho o hm).1.trans h.2⟩
  ·exact .inr ⟨s,cs,by rw[(ho o hm).1];exact h1,by rw[hx,(hc s).1];exact h2,tJ l cs h3⟩
 |.sg ss,_,h=>by obtain⟨s,h1,h2⟩:=h;exact⟨s,by rw[(ho o hm).1];exact h1,by rw[hx,(hc s).1];exact h2⟩
 |.gone,_,_=>trivial
 |.ro b,hs,h=>Ul ho hx hm hc (x:=b) hs h
theorem Ad:∀W:List Nat,∃n,∀m,n≤m→aO m W=false
 | []=>⟨0,fun _ _=>rfl⟩
 |i::W=>by
  obtain⟨n,hn⟩:=Ad W
  refine⟨n+i+1,fun m hm=> ?_⟩
  show (Nat.beq m i||aO m W)=false
  rw[H8 (by omega),hn m (by omega)];rfl
theorem Kp.om {W:List Nat} {st':MS R.T} {fr':Fr} {ρ':aK} {σ':ah} (h:Kp nr W st fr σ ρ st' fr' σ' ρ'):ρ'.om=ρ.om:=by
 obtain⟨n,hn⟩:=Ad W
 exact(h.ob n (hn n (Nat.le_refl _))).om
theorem aG.base {W K O:List Nat} {mark:Ob R.T→Ob R.T} (hmark:∀ρ σ o x,dL ρ σ o x→dL (R:=R) ρ σ o (mark x)) {st0 st' fF:MS R.T} {fr':Fr} {ρ':aK} {σ':ah} {b':Nat} (h:aG ρ b st fr σ) (hk:Kp nr W st0 fr σ ρ st' fr' σ' ρ') (h':aG ρ' b' fF fr' σ')
 (hro:∀o x,look st.ob o=some x→aO o W=false→aO o O=true→kY W x=true→RO st0 o):aG ρ' b' (Aq.base W K O mark st) fr' σ':={h' with
 fr:=fun i v hv=>by
  obtain⟨x,h1,h2,rfl⟩:=tN hv
  rw[Bool.and_eq_true,Bool.not_eq_true'] at h2
  have:=adE h2.2 (adD (h.fr _ _ h1))
  rw[hk.fr i h2.1]
  exact .of (Rl.solid (fun o ho=>⟨(hk.ob o ho).ob,(hk.ob o ho).ln⟩) hk.om _ _ h2.2 this)
 ob:=fun o y hy=>by
  have hO:aO o O=true:=by
   have:∀{is:List Nat} {y:Ob R.T},look (lM (fun o b=> !(aO o W)&& kY W b) mark st.ob is) o=some y→aO o is=true:=by
    intro is
    induction is with
    |nil=>intro y h;cases h
    |cons j is ih=>
     intro y h
     show (Nat.beq o j||aO o is)=true
     unfold lM at h
     by_cases e:o=j
     ·subst e;rw[Nat.beq_refl];rfl
     ·split at h
      ·rename_i x hx
       cases hp:(!(aO j W)&& kY W x)
       ·rw[hp] at h;rw[ih h,Bool.or_true]
       ·rw[hp,cond_true,fH _ _ e] at h;rw[ih h,Bool.or_true]
      ·rw[ih h,Bool.or_true]
   exact this hy
  obtain⟨x,h1,h2,rfl⟩:=tN hy
  rw[Bool.and_eq_true,Bool.not_eq_true'] at h2
  have hc:=((hk.ob o h2.1).ro (hro o x h1 h2.1 hO h2.2)).2
  exact hmark _ _ _ _ (Ul (fun o ho=>⟨(hk.ob o ho).ob,(hk.ob o ho).ln⟩) hk.om h2.1 hc h2.2 (h.ob _ _ h1))}
theorem Ns {W K O:List Nat} {st':MS R.T} {o:Nat} {x:Ob R.T} (h1:look st.ob o=some x) (h2:aO o W=false) (h3:aO o O=true) (h4:kY W x=true):RO ((Aq.base W K O .ro st).over st') o:=by
 intro y hy
 have hl:∃z,look (lM (fun o b=> !(aO o W)&& kY W b) Ob.ro st.ob O) o=some (.ro z):=by
  have:∀is:List Nat,aO o is=true→∃z,look (lM (fun o b=> !(aO o W)&& kY W b) Ob.ro st.ob is) o=some (.ro z):=by
   intro is
   induction is with
   |nil=>intro h;cases h
   |cons j is ih=>
    intro h
    by_cases e:o=j
    ·subst e
     unfold lM
     rw[h1]
     dsimp only
     rw[h2,h4]
     exact⟨x,iK _ _ _⟩
    ·have h':(Nat.beq o j||aO o is)=true:=h
     rw[H8 e,Bool.false_or] at h'
     obtain⟨z,hz⟩:=ih h'
     refine⟨z, ?_⟩
     unfold lM
     split
     ·rename_i w hw
      cases (!(aO j W)&& kY W w)
      ·exact hz
      ·rw[cond_true,fH _ _ e];exact hz
     ·exact hz
  exact this O h3
 obtain⟨z,hz⟩:=hl
 have hy':look (lM (fun o b=> !(aO o W)&& kY W b) Ob.ro st.ob O++st'.ob) o=some y:=hy
 rw[tL,hz] at hy'
 cases hy';rfl
theorem adG {t:Nat}:∀{x:Ob R.T},mX x=true→mX (Ob.wk t x)=true
 |.ro _,_=>rfl
 |.gone,_=>rfl
 |.cells _,h=>by cases h
 |.map _ _ _,h=>by cases h
 |.smap _ _,h=>by cases h
 |.arr _ _,h=>by cases h
theorem Um {t:Nat} {x:Ob R.T} (h:mX x=true):mX (Ob.kill t x)=true:=by
 unfold Ob.kill
 cases Ob.jX t x
 ·exact h
 ·rfl
theorem aS.wk {p t s n:Nat} (hl:ρ.om.lo≤s):aS nr p st ρ σ (st.wk t) (ρ.fP t s) (σ.bK s n):=⟨rfl,rfl,rfl,Nat.le_refl _,⟨fun _ _=>rfl,fun s' hs'=>CF _ _ (by omega)⟩,fun _ _ _=>rfl,fun hr=>⟨fun x hx=>by
 have hx':look (jY (Ob.wk t) st.ob) p=some x:=hx
 rw[p9,Option.map_eq_some_iff] at hx'
 obtain⟨z,hz,rfl⟩:=hx'
 exact adG (hr z hz),fun _=>⟨rfl,rfl⟩⟩⟩
theorem aS.set {o q s:Nat} {x y:Ob R.T} {a:fJ} (hl:look st.ob o=some y) (hy:mX y=false):aS nr q st ρ σ (st.set o x) ρ (σ.setObj (ρ.om.lc o) s a):=⟨rfl,rfl,rfl,Nat.le_refl _,⟨fun _ _=>rfl,fun _ _=>rfl⟩,fun _ _ hL=>Nr hL,fun hr=>by
 have hne:q≠o:=by rintro rfl;rw[hr y hl] at hy;cases hy
 refine⟨fun z hz=> ?_,fun s'=>⟨vH _ _ _ _ hne,Aa _ _ _ _ hne⟩⟩
 have hz':look ((o,x)::gB o st.ob) q=some z:=hz
 rw[fH _ _ hne,nZ hne] at hz'
 exact hr z hz'⟩
theorem aS.new {o q s:Nat} {x:Ob R.T} {a:fJ} (hne:q≠o):aS nr q st ρ σ (st.new o x) (ρ.j5 o s) (σ.setObj (ρ.om.lc o) s a):=⟨by simp[aK.j5,upd,hne],rfl,rfl,Nat.le_refl _,⟨fun _ _=>rfl,fun _ _=>rfl⟩,fun _ _ hL=>Nr hL,fun hr=>by
 refine⟨fun z hz=> ?_,fun s'=>⟨vH _ _ _ _ hne,Aa _ _ _ _ hne⟩⟩
 have hz':look ((o,x)::jY (Ob.kill o) (gB o st.ob)) q=some z:=hz
 rw[fH _ _ hne,p9,nZ hne,Option.map_eq_some_iff] at hz'
 obtain⟨w,hw,rfl⟩:=hz'
 exact Um (hr w hw)⟩
theorem kM {d:Option Nat} {v:TV R.T}:(st.dR d v).ob=st.ob:=by cases d<;>rfl
theorem aS.same {st':MS R.T} {o:Nat} (h:st'.ob=st.ob):aS nr o st ρ σ st' ρ σ:=⟨rfl,rfl,rfl,Nat.le_refl _,⟨fun _ _=>rfl,fun _ _=>rfl⟩,fun _ _ _=>rfl,fun hr=>⟨fun x hx=>hr x (by rw[←h];exact hx),fun _=>⟨rfl,rfl⟩⟩⟩
theorem aS.congr {st' fF:MS R.T} {ρ':aK} {σ':ah} {o:Nat} (h:aS nr o st ρ σ st' ρ' σ') (e:fF.ob=st'.ob):aS nr o st ρ σ fF ρ' σ':=⟨h.ob,h.ln,h.om,h.nx,h.lp,h.dp,fun hr=>⟨fun x hx=>(h.ro hr).1 x (by rw[←e];exact hx),(h.ro hr).2⟩⟩
theorem aS.from {st' fF:MS R.T} {ρ':aK} {σ':ah} {o:Nat} (h:aS nr o st ρ σ st' ρ' σ') (e:st.ob=fF.ob):aS nr o fF ρ σ st' ρ' σ':=⟨h.ob,h.ln,h.om,h.nx,h.lp,h.dp,fun hr=>h.ro fun x hx=>hr x (by rw[←e];exact hx)⟩
theorem Kp.op {d:Option Nat} {W:List Nat} {y:V} {st':MS R.T} {ρ':aK} {σ':ah} (hd:∀p,aO p W=false→d≠some p) (h:∀p,d≠some p→aS nr p st ρ σ st' ρ' σ'):Kp nr W st fr σ ρ st' (fr.put d y) σ' ρ':=
 ⟨fun i hi=>by
   cases d with
   |none=>rfl
   |some j=>exact Cz _ _ (by have:=hd i hi;simp at this;simpa using fun e=>this e.symm),fun p hp=>h p (hd p hp)⟩
theorem Un {W K O:List Nat} {st':MS R.T} {o:Nat} (h:look st'.ob o=none):RO ((Aq.base W K O .ro st).over st') o:=by
 intro y hy
 have hy':look (lM (fun o b=> !(aO o W)&& kY W b) Ob.ro st.ob O++st'.ob) o=some y:=hy
 rw[tL] at hy'
 split at hy'
 ·rename_i x hx
  cases hy'
  obtain⟨z,_,_,rfl⟩:=tN hx
  rfl
 ·rw[h] at hy';cases hy'
theorem Ia {st':MS R.T} {o:Nat} (h1:RO st o) (h2:RO st' o):RO (st.over st') o:=by
 intro y hy
 have hy':look (st.ob++st'.ob) o=some y:=hy
 rw[tL] at hy'
 split at hy'
 ·rename_i x hx;cases hy';exact h1 _ hx
 ·exact h2 _ hy'
theorem Uo {W K O:List Nat} {mark:Ob R.T→Ob R.T} {o:Nat} (hm:∀x,mX x=true→mX (mark x)=true) (h:RO st o):RO (Aq.base W K O mark st) o:=by
 intro y hy
 obtain⟨x,h1,_,rfl⟩:=tN hy
 exact hm _ (h _ h1)
theorem finish {W K O:List Nat} {H S' fF:MS R.T} {fr':Fr} {ρ':aK} {σ':ah} {b':Nat} (hi:aG ρ b st fr σ) (hH:∀o,aO o W=false→RO st o→RO H o) (hro:∀o x,look st.ob o=some x→aO o W=false→aO o O=true→kY W x=true→RO H o)
 (hk:Kp nr W H fr σ ρ S' fr' σ' ρ') (hi':aG ρ' b' fF fr' σ') (hn:∀o,aO o W=false→RO H o→look fF.ob o=none):
 aG ρ' b' ((Aq.base W K O (fun b=>b) st).over fF) fr' σ'∧Kp nr W st fr σ ρ ((Aq.base W K O (fun b=>b) st).over fF) fr' σ' ρ':=by
 have hk2:Kp nr W H fr σ ρ fF fr' σ' ρ':=⟨hk.fr,fun o ho=>⟨(hk.ob o ho).ob,(hk.ob o ho).ln,(hk.ob o ho).om,(hk.ob o ho).nx,(hk.ob o ho).lp,(hk.ob o ho).dp,fun hr=>⟨fun x hx=>(by rw[hn o ho hr] at hx;cases hx),((hk.ob o ho).ro hr).2⟩⟩⟩
 refine⟨(hi.base (fun _ _ _ _ h=>h) hk2 hi' hro).over hi',hk.fr,fun o ho=>⟨(hk.ob o ho).ob,(hk.ob o ho).ln,(hk.ob o ho).om,(hk.ob o ho).nx,(hk.ob o ho).lp,(hk.ob o ho).dp,fun hr=>⟨?_,((hk.ob o ho).ro (hH o ho hr)).2⟩⟩⟩
 exact Ia (Uo (fun _ h=>h) hr) fun x hx=>(by rw[hn o ho (hH o ho hr)] at hx;cases hx)
theorem Uq {x:TV R.T} {v:V} (hx:zy x=true) (h:gF fr ρ top x v):v= .aj .nil []∨v= .aj .full []:=by
 cases x<;>first| (cases hx;done)|skip
 ·exact .inl (Rl.nY (R:=R) (show Rl R ρ top .d9 v from h))
 ·rename_i c t l
  obtain⟨c',hv,hc⟩:=Rl.jQ (R:=R) (show Rl R ρ top (.aj c t l) v from h)
  cases c<;>first| (cases hx;done)|skip
  ·have:l=[]:=by simpa [zy] using hx
   subst this
   have hc':c'= .nil:=hc
   rw[hc'] at hv;exact .inl hv
  ·have:l=[]:=by simpa [zy] using hx
   subst this
   have hc':c'= .full:=hc
   rw[hc'] at hv;exact .inr hv
theorem Dl {W:List Nat}:∀(l:List (Nat×Sk)) (st:MS R.T) (ρ:aK),aG ρ b st fr σ→∃ρ',aG ρ' b (nU W l st) fr σ∧Kp nr W st fr σ ρ (nU W l st) fr σ ρ'
 | [],st,ρ,h=>⟨ρ,h,.refl⟩
 | (i,k)::l,st,ρ,h=>by
   have other:nU W ((i,k)::l) st=nU W l st→∃ρ',aG ρ' b (nU W ((i,k)::l) st) fr σ∧Kp nr W st fr σ ρ (nU W ((i,k)::l) st) fr σ ρ':=fun e=>by
    rw[e];exact Dl l st ρ h
   cases k<;>first|exact other rfl|skip
   rename_i o t
   unfold nU
   split
   ·rename_i v hv
    cases hb:(zy v&& aO o W)
    ·exact Dl l st ρ h
    ·rw[cond_true]
     rw[Bool.and_eq_true] at hb
     have hg:=h.ghost o t
     have hE:=Uq hb.1 (h.fr _ _ hv)
     have Nt:aG (ρ.gh o) b (⟨(i,.vw o t)::(st.new o (.arr t [])).fr,(st.new o (.arr t [])).ob⟩:MS R.T) fr σ:={hg with
      fr:=fun j y hy=>by
       by_cases e:j=i
       ·subst e
        have hy':look ((j,TV.vw o t)::(st.new o (.arr t [])).fr) j=some y:=hy
        rw[iK] at hy';cases hy'
        exact .of (by unfold Rl;exact .inr ⟨Di (ρ:=ρ) (n:=0),hE⟩)
       ·have hy':look ((i,TV.vw o t)::(st.new o (.arr t [])).fr) j=some y:=hy
        rw[fH _ _ e] at hy'
        exact hg.fr j y hy'
      ob:=hg.ob}
     obtain⟨ρ',h1,h2⟩:=Dl (W:=W) l _ _ Nt
     refine⟨ρ',h1,Kp.trans ⟨fun _ _=>rfl,fun p hp=> ?_⟩ h2⟩
     have hne:p≠o:=by rintro rfl;rw[hb.2] at hp;cases hp
     refine⟨(Ac p hne).1,(Ac p hne).2,rfl,Nat.le_refl _,⟨fun _ _=>rfl,fun _ _=>rfl⟩,fun _ _ _=>rfl,fun hr=>⟨fun x hx=> ?_,fun _=>⟨rfl,rfl⟩⟩⟩
     have hx':look ((o,Ob.arr t [])::jY (Ob.kill o) (gB o st.ob)) p=some x:=hx
     rw[fH _ _ hne,p9,nZ hne,Option.map_eq_some_iff] at hx'
     obtain⟨w,hw,rfl⟩:=hx'
     exact Um (hr w hw)
   ·exact Dl l st ρ h
section
variable (hR:l9 R)
include hR
omit hR in
theorem Ur {W:List Nat}:∀{l:List (Nat×Sk)},st.fr=[]→nU W l st=st
 | [],_=>rfl
 | (i,k)::l,h=>by
   have:=Ur (W:=W) (l:=l) h
   cases k<;>first|exact this|skip
   unfold nU
   rw[h];exact this
omit hR in
theorem Us:∀{l:List (Nat×Sk)} {p:wR R.T l},oU R [] l=some p→l=[]
 | [],_,_=>rfl
 | [(i,k)],p,h=>by cases h
 | (i,k)::q::l,p,h=>by cases h
omit hR in
theorem adH {W:List Nat} (he:st.fr=[]) {s:Shape} {p:nR R.T s} (hp:Aq.jP R W st s=some p):(unpack R s p).fr=[]:=by
 unfold Aq.jP at hp
 rw[Ur he] at hp
 obtain⟨sl,ob⟩:=s
 cases ob with
 |nil=>
  have hp':oU R st.fr sl=some p:=hp
  rw[he] at hp'
  have:=Us hp'
  subst this;rfl
 |cons o os=>
  unfold Aq.pack at hp
  rw[he] at hp
  cases hu:oU R [] sl with
  |none=>simp only[hu] at hp;cases hp
  |some x=>
   have:=Us hu
   subst this;rfl
theorem aG.jP {W:List Nat} (h:aG ρ b st fr σ) {s:Shape} {p:nR R.T s} (hp:Aq.jP R W st s=some p):∃ρ' S',aG ρ' b (unpack R s p) fr σ∧Kp nr W st fr σ ρ S' fr σ ρ'∧(st.fr=[]→(unpack R s p).fr=[])∧∀i,aO i W=false→RO st i→look (unpack R s p).ob i=none:=by
 obtain⟨ρ',h1,h2⟩:=Dl (W:=W) s.sl st ρ h
 exact⟨ρ',_,h1.pack hR hp,h2,fun he=>adH he hp,fun i hi hr=>adC hp ((h2.ob i hi).ro hr).1⟩
theorem Ae {β:Type} {W:List Nat} (h:aG ρ b st fr σ) {e:Ex}:∀{l:List (Ex×Shape)} {o:Out R.T l},pV R W e st l=some o→∃ρ' S' st',aG ρ' b st' fr σ∧Kp nr W st fr σ ρ S' fr σ ρ'∧(st.fr=[]→st'.fr=[])∧(∀i,aO i W=false→RO st i→look st'.ob i=none)∧∀(k:Ex→MS R.T→Option β) (bs:MS R.T),rF R bs k l o=k e (bs.over st')
 | [],o,hp=>by cases hp
 | [(x,s)],o,hp=>by
   have hp':(bif wX e x then Aq.jP R W st s else none)=some o:=hp
   cases hb:wX e x
   ·rw[hb] at hp';cases hp'
   ·rw[hb,cond_true] at hp'
    have:=Ui hb;subst this
    obtain⟨ρ',S',h1,h2,h0,h3⟩:=h.jP hR hp'
    exact⟨ρ',S',_,h1,h2,h0,h3,fun k bs=>rfl⟩
 | (x,s)::q::l,o,hp=>by
   unfold pV at hp
   cases hb:wX e x
   ·rw[hb,cond_false] at hp
    cases hu:pV R W e st (q::l) with
    |none=>simp only[hu] at hp;cases hp
    |some y=>
     simp only[hu] at hp
     obtain rfl:=Option.some.inj hp
     obtain⟨ρ',S',st',h1,h3,h0,h4,h2⟩:=Ae (β:=β) h hu
     exact⟨ρ',S',st',h1,h3,h0,h4,fun k bs=>h2 k bs⟩
   ·rw[hb,cond_true] at hp
    have:=Ui hb;subst this
    cases hu:Aq.jP R W st s with
    |none=>simp only[hu] at hp;cases hp
    |some y=>
     simp only[hu] at hp
     obtain rfl:=Option.some.inj hp
     obtain⟨ρ',S',h1,h2,h0,h3⟩:=h.jP hR hu
     exact⟨ρ',S',_,h1,h2,h0,h3,fun k bs=>rfl⟩
end
end
end
end Aq
end
section
namespace Aq
open Go
set_option linter.unusedSectionVars false
set_option linter.unusedVariables false
section
variable {R:gy} {E:Env}
variable {ρ:aK} {b:Nat} {st:MS R.T} {fr:Fr} {σ:ah}
def qO (E:Env) (fr:Fr) (o:Oper):Bool:=match o.op with
 |.call c=>match c.callee with
  |.value f=>jS E fr o f
  |_=>false
 |_=>false
def j6 (E:Env) (fr:Fr) (σ:ah) (aB:Nat) (o:Oper) (x:V) (σ':ah):Prop:=
 (qO E fr o=false→∀all os Q,dH all fr o=some true→OW E all (aB+1) os (fr.put o.dst x) σ' Q→OW E all aB (o::os) fr σ Q)∧
 (qO E fr o=false→∀ms all os fs Q,dH all fr o=some true→dJ E ms all (aB+1) os (fr.put o.dst x) σ' (fs++[eZ E all fr o true]) Q→dJ E ms all aB (o::os) fr σ fs Q)
theorem j6.of {aB:Nat} {o:Oper} {x:V} {σ':ah} (h:∀S,opC E S fr σ aB o=some (x,fr,σ')):j6 E fr σ aB o x σ':=
 ⟨fun _ _ _ _ hw h'=>OW.op hw h h',fun _ _ _ _ _ _ hw h'=>dJ.op hw h h'⟩
theorem adI {S:iM} {aB:Nat} {o:Oper} {x:V} {σ':ah} (h:aT E fr σ aB o=some (x,σ')):opC E S fr σ aB o=some (x,fr,σ'):=by
 unfold opC
 split
 ·rename_i c hc;unfold aT at h;rw[hc] at h;cases h
 ·rename_i c hc;unfold aT at h;rw[hc] at h;cases h
 ·rw[h];rfl
theorem Ut {o:Oper} {c:Call} {f:Operand} {g:FuncId} {a b:List V} (ho:o.op= .call c) (fA:c.callee= .value f) (hf:fr.ev E f= .fn (.func g) a b) (h:qO E fr o=false):∀d,o.dst=some d→E.own g d=false:=by
 intro d hd
 unfold qO at h
 rw[ho] at h
 dsimp only at h
 rw[fA] at h
 dsimp only at h
 unfold jS at h
 rw[hf,hd] at h
 exact h
theorem j6.gV {aB:Nat} {o:Oper} {x:V} {σ':ah} (h:aT E fr σ aB o=some (x,σ')):j6 E fr σ aB o x σ':=.of fun S=>adI h
def qc (E:Env) (st:MS R.T) (ρ:aK) (aB:Nat) (fr:Fr) (σ:ah) (o:Oper):dh R→Prop
 |.t v=> ∃x,j6 E fr σ aB o x σ∧Rl R ρ σ.top v x
 |.c c v=>c=true→∃x,j6 E fr σ aB o x σ∧Rl R ρ σ.top v x
 |.w v st'=> ∃x σ' ρ',j6 E fr σ aB o x σ'∧aG ρ' (aB+1) st' fr σ'∧σ'.next=σ.next∧Rl R ρ' σ'.top v x∧∀p,o.dst≠some p→aS true p st ρ σ st' ρ' σ'
 |.wc c v st'=>c=true→∃x σ' ρ',j6 E fr σ aB o x σ'∧aG ρ' (aB+1) st' fr σ'∧σ'.next=σ.next∧Rl R ρ' σ'.top v x∧∀p,o.dst≠some p→aS true p st ρ σ st' ρ' σ'
 |.p _ _ o' f=> ∀a,o'=some a→∃x,j6 E fr σ aB o x σ∧Rl R ρ σ.top (f a) x
theorem rO {top:Nat→Nat} {x:TV R.T} {v:V} (hg:uZ x=true) (h:Rl R ρ top x v):au R ρ top x.cells v.cells∧bV v=true:=by
 cases x with
 |agg cs=>obtain⟨l,rfl,hl⟩:=h.jA;exact⟨hl,rfl⟩
 |int k n=>rw[h.fE];exact⟨.cons' (by unfold Rl;rfl) rfl,rfl⟩
 |bool b=>rw[h.o7];exact⟨.cons' (by unfold Rl;rfl) rfl,rfl⟩
 |fO b=>rw[h.qN];exact⟨.cons' (by unfold Rl;rfl) rfl,rfl⟩
 |str b=>rw[h.lq];exact⟨.cons' (by unfold Rl;rfl) rfl,rfl⟩
 |d9=>rw[h.nY];exact⟨.cons' (by unfold Rl;rfl) rfl,rfl⟩
 |aZ cs=>obtain⟨l,rfl,hl⟩:=h.HY;exact⟨.cons' h rfl,rfl⟩
 |aj c t l=>obtain⟨c',rfl,hl⟩:=h.jQ;exact⟨.cons' h rfl,rfl⟩
 |ref o off=>obtain⟨s,hs,rfl⟩:=h.nk;exact⟨.cons' h rfl,rfl⟩
 |aI o off=>obtain⟨s,rfl,hs⟩:=h.rM;exact⟨.cons' h rfl,rfl⟩
 |bB o=>obtain⟨s,hs,rfl⟩:=h.tH;exact⟨.cons' h rfl,rfl⟩
 |bR k e m=>have:=h.zX;subst this;exact⟨.cons' h rfl,rfl⟩
 |fn f a b=>obtain⟨a',b',rfl,_⟩:=h.mg;exact⟨.cons' h rfl,rfl⟩
 |undef=>have:=h.TH;subst this;exact⟨.cons' h rfl,rfl⟩
 |vw o t=>rcases h.zY with ⟨s,_,rfl⟩| ⟨_,rfl|rfl⟩<;>exact⟨.cons' h rfl,rfl⟩
 |jk o t i off=>obtain⟨s,_,_,rfl⟩:=h.xA;exact⟨.cons' h rfl,rfl⟩
 |sv o off k n lo hi=>obtain⟨s,_,_,rfl⟩:=h.vF;exact⟨.cons' h rfl,rfl⟩
 |sel o off k n i m=>obtain⟨s,_,_,_,rfl⟩:=h.Dh;exact⟨.cons' h rfl,rfl⟩
 |oN k n y i=>obtain⟨_,_,rfl⟩:=h.HZ;exact⟨.cons' h rfl,rfl⟩
 |sg _=>cases hg
 |eH=>have h':=h;unfold Rl at h';subst h';exact⟨.cons' h rfl,rfl⟩
 |dY=>have h':=h;unfold Rl at h';subst h';exact⟨.cons' h rfl,rfl⟩
 |dQ=>have h':=h;unfold Rl at h';subst h';exact⟨.cons' h rfl,rfl⟩
 |fG=>have h':=h;unfold Rl at h';subst h';exact⟨.cons' h rfl,rfl⟩
 |opt j w y=>cases hg
 |gone=>cases hg
theorem adJ {top:Nat→Nat} {x:TV R.T} {v:V} (hg:MB x=true) (h:Rl R ρ top x v):oneCell v=true:=by
 cases x with
 |agg cs=>cases hg
 |int k n=>rw[h.fE];rfl
 |bool b=>rw[h.o7];rfl
 |fO b=>rw[h.qN];rfl
 |str b=>rw[h.lq];rfl
 |d9=>rw[h.nY];rfl
 |aZ cs=>cases hg
 |aj c t l=>obtain⟨c',rfl,hl⟩:=h.jQ;rfl
 |ref o off=>obtain⟨s,hs,rfl⟩:=h.nk;rfl
 |aI o off=>obtain⟨s,rfl,hs⟩:=h.rM;rfl
 |bB o=>obtain⟨s,hs,rfl⟩:=h.tH;rfl
 |bR k e m=>have:=h.zX;subst this;rfl
 |fn f a b=>obtain⟨a',b',rfl,_⟩:=h.mg;rfl
 |undef=>cases hg
 |vw o t=>rcases h.zY with ⟨s,_,rfl⟩| ⟨_,rfl|rfl⟩<;>rfl
 |jk o t i off=>obtain⟨s,_,_,rfl⟩:=h.xA;rfl
 |sv o off k n lo hi=>obtain⟨s,_,_,rfl⟩:=h.vF;rfl
 |sel o off k n i m=>obtain⟨s,_,_,_,rfl⟩:=h.Dh;rfl
 |oN k n y i=>obtain⟨_,_,rfl⟩:=h.HZ;rfl
 |sg _=>cases hg
 |eH=>unfold Rl at h;subst h;rfl
 |dY=>unfold Rl at h;subst h;rfl
 |dQ=>unfold Rl at h;subst h;rfl
 |fG=>unfold Rl at h;subst h;rfl
 |opt j w y=>cases hg
 |gone=>cases hg
theorem Dm {top:Nat→Nat}:∀{x:List (TV R.T)} {v:List V},uY x=true→au R ρ top x v→aW v=true
 | [],v,_,h=>by rw[h.eX];rfl
 |x::xs,v,hg,h=>by
  obtain⟨y,ys,rfl,h1,h2⟩:=h.dA
  unfold uY at hg
  rw[Bool.and_eq_true] at hg
  rw[S9,adJ hg.1 h1,Dm hg.2 h2];rfl
theorem adK {top:Nat→Nat} {ag:Bool} {n off:Nat} {cs:List (TV R.T)} {l:List V} {x:TV R.T} (h:au R ρ top cs l) (hp:GY ag n cs off=some x):∃v,lV ag n l off=some v∧Rl R ρ top x v:=by
 cases ag with
 |true=>
  have hp':(bif Nat.ble (off+n) cs.length then some (TV.agg ((cs.drop off).take n)) else none)=some x:=hp
  cases hb:Nat.ble (off+n) cs.length
  ·rw[hb] at hp';cases hp'
  ·rw[hb] at hp';cases hp'
   have hle:=Nat.le_of_ble_eq_true hb
   refine⟨.agg ((l.drop off).take n), ?_,by unfold Rl;exact⟨_,rfl,(h.drop off).take n⟩⟩
   unfold lV;rw[if_pos rfl,if_pos (by rw[h.length];exact hle)]
 |false=>
  obtain⟨v,h1,h2⟩:=h.get (show cs[off]? =some x from hp)
  exact⟨v,by unfold lV;simpa using h1,h2⟩
theorem tQ {top:Nat→Nat} {t:TypeId} {off:Nat} {cs:List (TV R.T)} {l:List V} {x:TV R.T} (h:au R ρ top cs l) (hp:jG E t cs off=some x):∃v,dD E.P t l off=some v∧Rl R ρ top x v:=by
 unfold jG at hp
 cases h1:fZ E.P t with
 |none=>simp only[h1] at hp;cases hp
 |some a=>
  cases h2:bq E.P t with
  |none=>simp only[h1,h2] at hp;cases hp
  |some n=>
   simp only[h1,h2] at hp
   unfold dD;rw[h1,h2];exact adK h hp
theorem Nu {top:Nat→Nat} {cs vs:List (TV R.T)} {l k:List V} (off:Nat) (h:au R ρ top cs l) (h':au R ρ top vs k):au R ρ top (zA cs off vs) (eB l off k):=by
 unfold zA eB
 rw[h'.length]
 exact((h.take off).append h').append (h.drop _)
theorem Af {top:Nat→Nat} {t:TypeId} {z:TV R.T} (h:sW E t=some z):∃v,fK E.P t=some v∧Rl R ρ top z v:=by
 unfold sW at h
 unfold fK
 cases h1:E.P.info? t with
 |none=>simp only[h1] at h;cases h
 |some i=>
  cases h2:i.zero with
  |none=>simp only[h1,h2] at h;cases h
  |some z'=>
   simp only[h1,h2] at h
   obtain⟨v,hv,hr⟩:=Uc (ρ:=ρ) (top:=top) h
   exact⟨v,by simp[h2,hv],hr⟩
theorem Uu {top:Nat→Nat} (place:Nat→Option (Nat×Nat)):∀{ps:List (Nat×TV R.T)} {qs:List (Nat×V)} {cs:List (TV R.T)} {l:List V} {cs':List (TV R.T)},ps.map (·.1)=qs.map (·.1)→au R ρ top (ps.map (·.2)) (qs.map (·.2))→
 au R ρ top cs l→GZ place cs ps=some cs'→∃l',nH place l qs=some l'∧au R ρ top cs' l'
 | [],[],cs,l,cs',_,_,h,hf=>by cases hf;exact⟨l,rfl,h⟩
 | [],_::_,_,_,_,h,_,_,_=>by simp at h
 |_::_,[],_,_,_,h,_,_,_=>by simp at h
 | (i,v)::ps,(j,w)::qs,cs,l,cs',hi,hr,h,hf=>by
   simp only[List.map_cons,List.cons.injEq] at hi
   obtain⟨rfl,hi⟩:=hi
   obtain⟨y,ys,e,h1,h2⟩:=hr.dA
   simp only[List.map_cons,List.cons.injEq] at e
   obtain⟨rfl,rfl⟩:=e
   unfold GZ at hf
   unfold nH
   cases hp:place i with
   |none=>simp only[hp] at hf;cases hf
   |some q=>
    obtain⟨off,size⟩:=q
    simp only[hp] at hf⊢
    cases hb:(Nat.beq v.cells.length size&& Nat.ble (off+size) cs.length&& uZ v)
    ·rw[hb] at hf;cases hf
    ·rw[hb,cond_true] at hf
     simp only[Bool.and_eq_true] at hb
     obtain⟨⟨b1,b2⟩,b3⟩:=hb
     obtain⟨hc,hn⟩:=rO b3 h1
     rw[if_pos ⟨by rw[hc.length];exact dB b1,by rw[h.length];exact Nat.le_of_ble_eq_true b2,hn⟩]
     exact Uu place hi h2 (Nu off h hc) hf
theorem Uv {top:Nat→Nat} {x:TV R.T} {v:V} {a:Bool} (h:bM x=some a) (hr:Rl R ρ top x v):v= .bool a:=by
 cases x<;>cases h
 ·exact hr.o7
 ·exact hr.qN
theorem Uw {top:Nat→Nat} {x y:TV R.T} {v w:V} {r:Bool} (h:G5 x y=some r) (hx:Rl R ρ top x v) (hy:Rl R ρ top y w):∃a b,v= .bool a∧w= .bool b∧r=(a==b):=by
 unfold G5 at h
 cases h1:bM x with
 |none=>simp only[h1] at h;cases h
 |some a=>
  cases h2:bM y with
  |none=>simp only[h1,h2] at h;cases h
  |some b=>simp only[h1,h2] at h;cases h;exact⟨a,b,Uv h1 hx,Uv h2 hy,rfl⟩
theorem Nv {top:Nat→Nat} {tT:TypeId→TV R.T→TV R.T→Option Bool} {eqv:TypeId→V→V→Option Bool} (he:∀t x y v w r,tT t x y=some r→Rl R ρ top x v→Rl R ρ top y w→eqv t v w=some r)
 {xs ys:List (TV R.T)} {vs ws:List V} (hx:au R ρ top xs vs) (hy:au R ρ top ys ws):∀{fs:List Field} {r:Bool},zB E tT xs ys fs=some r→wD E.P eqv vs ws fs=some r
 | [],r,h=>by cases h;rfl
 |f::fs,r,h=>by
  unfold zB at h
  unfold wD
  split at h
  ·rename_i hn;rw[if_pos hn];exact Nv he hx hy h
  ·rename_i hn
   rw[if_neg hn]
   cases h1:jG E f.type xs f.offset with
   |none=>simp only[h1] at h;cases h
   |some a=>
    cases h2:jG E f.type ys f.offset with
    |none=>simp only[h1,h2] at h;cases h
    |some c=>
     cases h3:tT f.type a c with
     |none=>simp only[h1,h2,h3] at h;cases h
     |some r1=>
      cases h4:zB E tT xs ys fs with
      |none=>simp only[h1,h2,h3,h4] at h;cases h
      |some q=>
       simp only[h1,h2,h3,h4] at h;cases h
       obtain⟨v1,e1,g1⟩:=tQ hx h1
       obtain⟨v2,e2,g2⟩:=tQ hy h2
       simp[e1,e2,he _ _ _ _ _ _ h3 g1 g2,Nv he hx hy h4]
theorem Ux {top:Nat→Nat} {tT:TypeId→TV R.T→TV R.T→Option Bool} {eqv:TypeId→V→V→Option Bool} (he:∀t x y v w r,tT t x y=some r→Rl R ρ top x v→Rl R ρ top y w→eqv t v w=some r)
 {e:TypeId} {sz:Nat} {xs ys:List (TV R.T)} {vs ws:List V} (hx:au R ρ top xs vs) (hy:au R ρ top ys ws):∀{is:List Nat} {r:Bool},CU E tT e sz xs ys is=some r→yG E.P eqv e sz vs ws is=some r
 | [],r,h=>by cases h;rfl
 |i::is,r,h=>by
  unfold CU at h
  unfold yG
  cases h1:jG E e xs (i*sz) with
  |none=>simp only[h1] at h;cases h
  |some a=>
   cases h2:jG E e ys (i*sz) with
   |none=>simp only[h1,h2] at h;cases h
   |some c=>
    cases h3:tT e a c with
    |none=>simp only[h1,h2,h3] at h;cases h
    |some r1=>
     cases h4:CU E tT e sz xs ys is with
     |none=>simp only[h1,h2,h3,h4] at h;cases h
     |some q=>
      simp only[h1,h2,h3,h4] at h;cases h
      obtain⟨v1,e1,g1⟩:=tQ hx h1
      obtain⟨v2,e2,g2⟩:=tQ hy h2
      simp[e1,e2,he _ _ _ _ _ _ h3 g1 g2,Ux he hx hy h4]
theorem Ib {top:Nat→Nat}:∀(d:Nat) (t:TypeId) (x y:TV R.T) (v w:V) (r:Bool),zC E d t x y=some r→Rl R ρ top x v→Rl R ρ top y w→uD E.P d t v w=some r
 |0,_,_,_,_,_,_,h,_,_=>by cases h
 |d+1,t,x,y,v,w,r,h,hx,hy=>by
  unfold zC at h
  unfold uD
  split at h
  ·rename_i fs xs ys hu
   obtain⟨l,rfl,h1⟩:=hx.jA
   obtain⟨k,rfl,h2⟩:=hy.jA
   rw[hu];dsimp only
   split at h
   ·cases h
   ·rename_i hs;rw[if_neg hs];exact Nv (Ib d) h1 h2 h
  ·rename_i n e xs ys hu
   obtain⟨l,rfl,h1⟩:=hx.jA
   obtain⟨k,rfl,h2⟩:=hy.jA
   rw[hu];dsimp only
   cases hs:bq E.P e with
   |none=>simp only[hs] at h;cases h
   |some sz=>simp only[hs] at h;simp only[Option.bind_some];exact Ux (Ib d) h1 h2 h
  ·cases h
  ·cases h
  ·rename_i hu
   obtain⟨a,c,rfl,rfl,rfl⟩:=Uw h hx hy
   rw[hu]
  ·rename_i k a k' c hu
   rw[hx.fE,hy.fE,hu];exact h
  ·rename_i a c hu
   rw[hx.lq,hy.lq,hu];exact h
  ·cases h
theorem Uy {top:Nat→Nat} {t:TypeId} {x y:TV R.T} {v w:V} {r:Bool} (h:G6 E t x y=some r) (hx:Rl R ρ top x v) (hy:Rl R ρ top y w):nJ E.P t v w=some r:=by
 unfold G6 at h
 unfold nJ
 split at h
 ·rename_i fs xs ys hu
  split at h
  ·cases h
  ·rename_i hs
   have:=Ib 8 t _ _ v w r h hx hy
   obtain⟨l,rfl,h1⟩:=hx.jA
   obtain⟨k,rfl,h2⟩:=hy.jA
   rw[hu];dsimp only;rw[if_neg hs];exact this
 ·rename_i fs xs ys hu
  split at h
  ·cases h
  ·rename_i hs
   have:=Ib 8 t _ _ v w r h hx hy
   obtain⟨l,rfl,h1⟩:=hx.jA
   obtain⟨k,rfl,h2⟩:=hy.jA
   rw[hu];dsimp only;rw[if_neg hs];exact this
 ·rename_i hu;cases h;unfold Rl at hx hy;subst hx;subst hy;rw[hu]
 ·rename_i hu;cases h;obtain⟨a,b,rfl,_⟩:=hy.mg;unfold Rl at hx;subst hx;rw[hu]
 ·rename_i hu;cases h;obtain⟨a,b,rfl,_⟩:=hx.mg;unfold Rl at hy;subst hy;rw[hu]
 ·rename_i hu;obtain⟨a,c,rfl,rfl,rfl⟩:=Uw h hx hy;rw[hu]
 ·cases h
end
end Aq
end
