/- Part of the proof of a law. -/
import Derived.Test.YteniejlbjfigdaaGreatDoorX08
set_option linter.all false
set_option linter.unusedSimpArgs false
set_option linter.unusedSectionVars false
section
namespace Aq
open Go
set_option linter.unusedSectionVars false
set_option linter.unusedVariables false
structure aO where
 ob:Nat→Option Nat
 tk:Nat→Option Nat
 ln:Nat→Nat
 om:Bool
section
variable (R:iM)
def mh:Ty→Bool
 |.st _=>false
 |_=>true
structure mX:Prop where
 FX:∀n p,R.of n (R.to n p)=p
 enc:∀n x,R.enc n x= .agg (encs R (R.lf n) (R.of n x))
 leaf:∀n,(R.lf n).all mh=true
 pc:∀n x,aC (R.enc n x)=true
def Au (ρ:aO) (top:Nat→Nat) (sz len:Nat):Cp→Cap→Prop
 |.any,_=>True
 |.sh,c=>c= .sh
 |.nil,c=>c= .nil
 |.full,c=>c= .full
 |.own t,c=>c= .nil∨c= .full∨∃s,c= .own sz s∧ρ.tk t=some s∧top s=len
mutual
def Rl (ρ:aO) (top:Nat→Nat):TV R.T→V→Prop
 |.int k n,v=>v= .int k n
 |.bool b,v=>v= .bool b
 |.gU b,v=>v= .bool b
 |.str s,v=>v= .str s
 |.fI,v=>v= .fI
 |.fu,v=>v= .fu
 |.eY,v=>v= .eY
 |.gN,v=>v= .gN
 |.dG,v=>v= .ak .nil []
 |.agg cs,v=> ∃l,v= .agg l∧aA ρ top cs l
 |.bP cs,v=> ∃l,v= .bP l∧aA ρ top cs l
 |.ak c t l,v=> ∃c',v= .ak c' (l.map (aF R t))∧Au ρ top (cZ R t) l.length c c'
 |.ref o off,v=> ∃s,ρ.ob o=some s∧v= .ref (1,o) s off
 |.aK cs off,v=> ∃l,v= .aK l off∧aA ρ top cs l
 |.cK o,v=> ∃s,ρ.ob o=some s∧v= .cK (1,o) s
 |.dx k e m,v=>v= .dx (m.map fun p=>aF R k p.1) (m.map fun p=>aF R e p.2)
 |.fn f a b,v=> ∃a' b',v= .fn (.func f) a' b'∧aA ρ top a a'∧aA ρ top b b'
 |.opt _ _ _,_=>False
 |.vw o t,v=>(∃s,ρ.ob o=some s∧v= .vw (1,o) s 0 (ρ.ln o) (ρ.ln o) (cZ R t) (gW t))∨(ρ.ln o=0∧(v= .ak .nil []∨v= .ak .full []))
 |.kg o t i off,v=> ∃s,ρ.ob o=some s∧0≤i∧v= .ref (1,o) s (i.toNat*cZ R t+off)
 |.sg ss,v=>v= .agg (bU ss)
 |.sv o off k n lo hi,v=> ∃s,ρ.ob o=some s∧mV n lo hi=true∧v= .vw (1,o) s (off+(dH lo).toNat) ((fO n hi).toNat-(dH lo).toNat) (n-(dH lo).toNat) 1 false
 |.sel o off k n i m,v=> ∃s,ρ.ob o=some s∧0≤i∧i.toNat+m≤n∧v= .ref (1,o) s (off+i.toNat)
 |.pJ k n x i,v=>0≤i∧i<n∧v= .aK (x.l.map (V.int k)) i.toNat
 |.undef,v=>v=ay
 |.gone,_=>True
def aA (ρ:aO) (top:Nat→Nat):List (TV R.T)→List V→Prop
 | [],l=>l=[]
 |t::ts,l=> ∃v vs,l=v::vs∧Rl ρ top t v∧aA ρ top ts vs
end
variable {R}
variable {ρ ρ':aO} {top top':Nat→Nat}
theorem aA.fP {vs:List V} (h:aA R ρ top [] vs):vs=[]:=by unfold aA at h;exact h
theorem aA.eD {t:TV R.T} {ts:List (TV R.T)} {vs:List V} (h:aA R ρ top (t::ts) vs):∃v l,vs=v::l∧Rl R ρ top t v∧aA R ρ top ts l:=by unfold aA at h;exact h
theorem Rl.fQ {k:IntKind} {n:Int} {v:V} (h:Rl R ρ top (.int k n) v):v= .int k n:=by unfold Rl at h;exact h
theorem Rl.oM {b:Bool} {v:V} (h:Rl R ρ top (.bool b) v):v= .bool b:=by unfold Rl at h;exact h
theorem Rl.qH {b:Bool} {v:V} (h:Rl R ρ top (.gU b) v):v= .bool b:=by unfold Rl at h;exact h
theorem Rl.lg {b:List UInt8} {v:V} (h:Rl R ρ top (.str b) v):v= .str b:=by unfold Rl at h;exact h
theorem Rl.nT {v:V} (h:Rl R ρ top .dG v):v= .ak .nil []:=by unfold Rl at h;exact h
theorem Rl.jM {cs:List (TV R.T)} {v:V} (h:Rl R ρ top (.agg cs) v):∃l,v= .agg l∧aA R ρ top cs l:=by unfold Rl at h;exact h
theorem Rl.Lm {cs:List (TV R.T)} {v:V} (h:Rl R ρ top (.bP cs) v):∃l,v= .bP l∧aA R ρ top cs l:=by unfold Rl at h;exact h
theorem Rl.jY {c:Cp} {t:Ty} {l:List (Den R.T t)} {v:V} (h:Rl R ρ top (.ak c t l) v):∃c',v= .ak c' (l.map (aF R t))∧Au ρ top (cZ R t) l.length c c':=by unfold Rl at h;exact h
theorem Rl.mY {o off:Nat} {v:V} (h:Rl R ρ top (.ref o off) v):∃s,ρ.ob o=some s∧v= .ref (1,o) s off:=by unfold Rl at h;exact h
theorem Rl.rZ {cs:List (TV R.T)} {off:Nat} {v:V} (h:Rl R ρ top (.aK cs off) v):∃l,v= .aK l off∧aA R ρ top cs l:=by unfold Rl at h;exact h
theorem Rl.um {o:Nat} {v:V} (h:Rl R ρ top (.cK o) v):∃s,ρ.ob o=some s∧v= .cK (1,o) s:=by unfold Rl at h;exact h
theorem Rl.Av {k e:Ty} {m:List (Den R.T k×Den R.T e)} {v:V} (h:Rl R ρ top (.dx k e m) v):v= .dx (m.map fun p=>aF R k p.1) (m.map fun p=>aF R e p.2):=by unfold Rl at h;exact h
theorem Rl.mZ {f:Nat} {a b:List (TV R.T)} {v:V} (h:Rl R ρ top (.fn f a b) v):∃a' b',v= .fn (.func f) a' b'∧aA R ρ top a a'∧aA R ρ top b b':=by unfold Rl at h;exact h
theorem Rl.Aw {o:Nat} {t:Ty} {v:V} (h:Rl R ρ top (.vw o t) v):(∃s,ρ.ob o=some s∧v= .vw (1,o) s 0 (ρ.ln o) (ρ.ln o) (cZ R t) (gW t))∨(ρ.ln o=0∧(v= .ak .nil []∨v= .ak .full [])):=by unfold Rl at h;exact h
theorem Rl.xK {o off:Nat} {t:Ty} {i:Int} {v:V} (h:Rl R ρ top (.kg o t i off) v):∃s,ρ.ob o=some s∧0≤i∧v= .ref (1,o) s (i.toNat*cZ R t+off):=by unfold Rl at h;exact h
theorem Rl.FY {ss:List Sg} {v:V} (h:Rl R ρ top (.sg ss) v):v= .agg (bU ss):=by unfold Rl at h;exact h
theorem Rl.vI {o off n:Nat} {k:IntKind} {lo hi:Option Int} {v:V} (h:Rl R ρ top (.sv o off k n lo hi) v):∃s,ρ.ob o=some s∧mV n lo hi=true∧v= .vw (1,o) s (off+(dH lo).toNat) ((fO n hi).toNat-(dH lo).toNat) (n-(dH lo).toNat) 1 false:=by unfold Rl at h;exact h
theorem Rl.FZ {o off n m:Nat} {k:IntKind} {i:Int} {v:V} (h:Rl R ρ top (.sel o off k n i m) v):∃s,ρ.ob o=some s∧0≤i∧i.toNat+m≤n∧v= .ref (1,o) s (off+i.toNat):=by unfold Rl at h;exact h
theorem Rl.Lp {n:Nat} {k:IntKind} {x:Vec n} {i:Int} {v:V} (h:Rl R ρ top (.pJ k n x i) v):0≤i∧i<n∧v= .aK (x.l.map (V.int k)) i.toNat:=by unfold Rl at h;exact h
theorem Rl.WL {v:V} (h:Rl R ρ top .undef v):v=ay:=by unfold Rl at h;exact h
theorem Rl.WM {j:Nat} {w:Bool} {x:TV R.T} {v:V} (h:Rl R ρ top (.opt j w x) v):False:=by unfold Rl at h;exact h
theorem aA.nil':aA R ρ top [] []:=rfl
theorem aA.cons' {t:TV R.T} {ts:List (TV R.T)} {v:V} {vs:List V} (h:Rl R ρ top t v) (h':aA R ρ top ts vs):aA R ρ top (t::ts) (v::vs):=⟨v,vs,rfl,h,h'⟩
theorem aA.length:∀{ts:List (TV R.T)} {vs:List V},aA R ρ top ts vs→vs.length=ts.length
 | [],_,h=>by cases h;rfl
 |_::ts,_,⟨v,vs,e,_,h'⟩=>by subst e;simp[aA.length h']
theorem aA.append:∀{ts ts':List (TV R.T)} {vs vs':List V},aA R ρ top ts vs→aA R ρ top ts' vs'→aA R ρ top (ts++ts') (vs++vs')
 | [],_,_,_,h,h2=>by cases h;exact h2
 |_::ts,_,_,_,⟨v,vs,e,h1,h'⟩,h2=>by subst e;exact .cons' h1 (aA.append h' h2)
theorem aA.drop:∀(n:Nat) {ts:List (TV R.T)} {vs:List V},aA R ρ top ts vs→aA R ρ top (ts.drop n) (vs.drop n)
 |0,_,_,h=>by simpa using h
 |n+1,[],_,h=>by cases h;simp;rfl
 |n+1,_::ts,_,⟨v,vs,e,h1,h'⟩=>by subst e;simpa using aA.drop n h'
theorem aA.take:∀(n:Nat) {ts:List (TV R.T)} {vs:List V},aA R ρ top ts vs→aA R ρ top (ts.take n) (vs.take n)
 |0,_,_,h=>by simp;rfl
 |n+1,[],_,h=>by cases h;simp;rfl
 |n+1,_::ts,_,⟨v,vs,e,h1,h'⟩=>by subst e;simpa using .cons' h1 (aA.take n h')
theorem aA.get:∀{ts:List (TV R.T)} {vs:List V} {i:Nat} {t:TV R.T},aA R ρ top ts vs→ts[i]? =some t→∃v,vs[i]? =some v∧Rl R ρ top t v
 | [],_,_,_,_,h=>by simp at h
 |_::ts,_,0,_,⟨v,vs,e,h1,h'⟩,h=>by subst e;simp at h;subst h;exact⟨v,by simp,h1⟩
 |_::ts,_,i+1,_,⟨v,vs,e,h1,h'⟩,h=>by subst e;simpa using aA.get h' (by simpa using h)
mutual
theorem Rl.wk (t:Nat) (ho:ρ'.ob=ρ.ob∧ρ'.ln=ρ.ln) (ht:∀u s,u≠t→ρ.tk u=some s→ρ'.tk u=some s∧top' s=top s):∀(x:TV R.T) (v:V),Rl R ρ top x v→Rl R ρ' top' (wk t x) v
 |.ak (.own u) ty l,v,h=>by
  obtain⟨c',hv,hc⟩:=h
  unfold Aq.wk
  by_cases e:Nat.beq u t=true
  ·rw[e,cond_true];exact⟨c',hv,trivial⟩
  ·have e':Nat.beq u t=false:=Bool.eq_false_iff.2 e
   rw[e',cond_false]
   refine⟨c',hv, ?_⟩
   rcases hc with hc|hc| ⟨s,h1,h2,h3⟩
   ·exact .inl hc
   ·exact .inr (.inl hc)
   ·have hne:u≠t:=fun h=>e (by rw[h];exact Nat.beq_refl t)
    have:=ht u s hne h2
    exact .inr (.inr ⟨s,h1,this.1,by rw[this.2];exact h3⟩)
 |.ak .any ty l,v,h=>by obtain⟨c',hv,hc⟩:=h;exact⟨c',hv,trivial⟩
 |.ak .sh ty l,v,h=>by obtain⟨c',hv,hc⟩:=h;exact⟨c',hv,hc⟩
 |.ak .nil ty l,v,h=>by obtain⟨c',hv,hc⟩:=h;exact⟨c',hv,hc⟩
 |.ak .full ty l,v,h=>by obtain⟨c',hv,hc⟩:=h;exact⟨c',hv,hc⟩
 |.agg cs,v,h=>by obtain⟨l,hv,hl⟩:=h;exact⟨l,hv,aA.wk t ho ht cs l hl⟩
 |.bP cs,v,h=>by obtain⟨l,hv,hl⟩:=h;exact⟨l,hv,aA.wk t ho ht cs l hl⟩
 |.aK cs off,v,h=>by obtain⟨l,hv,hl⟩:=h;exact⟨l,hv,aA.wk t ho ht cs l hl⟩
 |.fn f a b,v,h=>by obtain⟨a',b',hv,ha,hb⟩:=h;exact⟨a',b',hv,aA.wk t ho ht a a' ha,aA.wk t ho ht b b' hb⟩
 |.ref o off,v,h=>by obtain⟨s,h1,h2⟩:=h;exact⟨s,by rw[ho.1];exact h1,h2⟩
 |.cK o,v,h=>by obtain⟨s,h1,h2⟩:=h;exact⟨s,by rw[ho.1];exact h1,h2⟩
 |.vw o ty,v,h=>by
  rcases h with ⟨s,h1,h2⟩| ⟨h1,h2⟩
  ·exact .inl ⟨s,by rw[ho.1];exact h1,by rw[ho.2];exact h2⟩
  ·exact .inr ⟨by rw[ho.2];exact h1,h2⟩
 |.kg o ty i off,v,h=>by obtain⟨s,h1,h2⟩:=h;exact⟨s,by rw[ho.1];exact h1,h2⟩
 |.sv o _ _ _ _ _,v,h=>by obtain⟨s,h1,h2⟩:=h;exact⟨s,by rw[ho.1];exact h1,h2⟩
 |.sel o _ _ _ _ _,v,h=>by obtain⟨s,h1,h2⟩:=h;exact⟨s,by rw[ho.1];exact h1,h2⟩
 |.sg _,_,h=>h
 |.pJ _ _ _ _,_,h=>h
 |.opt _ _ _,_,h=>h.elim
 |.int _ _,_,h=>h
 |.bool _,_,h=>h
 |.gU _,_,h=>h
 |.str _,_,h=>h
 |.fI,_,h=>h
 |.fu,_,h=>h
 |.eY,_,h=>h
 |.gN,_,h=>h
 |.dG,_,h=>h
 |.dx _ _ _,_,h=>h
 |.undef,_,h=>h
 |.gone,_,h=>h
theorem aA.wk (t:Nat) (ho:ρ'.ob=ρ.ob∧ρ'.ln=ρ.ln) (ht:∀u s,u≠t→ρ.tk u=some s→ρ'.tk u=some s∧top' s=top s):∀(x:List (TV R.T)) (v:List V),aA R ρ top x v→aA R ρ' top' (rU t x) v
 | [],_,h=>h
 |x::xs,_,⟨v,vs,e,h1,h2⟩=>⟨v,vs,e,Rl.wk t ho ht x v h1,aA.wk t ho ht xs vs h2⟩
end
mutual
theorem Rl.kill (o:Nat) (ho:∀p,p≠o→ρ'.ob p=ρ.ob p∧ρ'.ln p=ρ.ln p) (ht:ρ'.tk=ρ.tk):∀(x:TV R.T) (v:V),ko o x=false→Rl R ρ top x v→Rl R ρ' top x v
 |.ak c ty l,v,_,h=>by
  obtain⟨c',hv,hc⟩:=h
  refine⟨c',hv, ?_⟩
  cases c<;>try exact hc
  rcases hc with hc|hc| ⟨s,h1,h2,h3⟩
  ·exact .inl hc
  ·exact .inr (.inl hc)
  ·exact .inr (.inr ⟨s,h1,by rw[ht];exact h2,h3⟩)
 |.agg cs,v,hm,h=>by obtain⟨l,hv,hl⟩:=h;exact⟨l,hv,aA.kill o ho ht cs l hm hl⟩
 |.bP cs,v,hm,h=>by obtain⟨l,hv,hl⟩:=h;exact⟨l,hv,aA.kill o ho ht cs l hm hl⟩
 |.aK cs off,v,hm,h=>by obtain⟨l,hv,hl⟩:=h;exact⟨l,hv,aA.kill o ho ht cs l hm hl⟩
 |.fn f a b,v,hm,h=>by
  obtain⟨a',b',hv,ha,hb⟩:=h
  unfold ko at hm
  rw[Bool.or_eq_false_iff] at hm
  exact⟨a',b',hv,aA.kill o ho ht a a' hm.1 ha,aA.kill o ho ht b b' hm.2 hb⟩
 |.ref p off,v,hm,h=>by
  obtain⟨s,h1,h2⟩:=h
  unfold ko at hm
  exact⟨s,((ho p (fun e=>by rw[e,Nat.beq_refl] at hm;cases hm)).1.trans h1),h2⟩
 |.cK p,v,hm,h=>by
  obtain⟨s,h1,h2⟩:=h
  unfold ko at hm
  exact⟨s,((ho p (fun e=>by rw[e,Nat.beq_refl] at hm;cases hm)).1.trans h1),h2⟩
 |.vw p ty,v,hm,h=>by
  unfold ko at hm
  obtain⟨k1,k2⟩:=ho p (fun e=>by rw[e,Nat.beq_refl] at hm;cases hm)
  rcases h with ⟨s,h1,h2⟩| ⟨h1,h2⟩
  ·exact .inl ⟨s,k1.trans h1,by rw[k2];exact h2⟩
  ·exact .inr ⟨by rw[k2];exact h1,h2⟩
 |.kg p ty i off,v,hm,h=>by
  obtain⟨s,h1,h2⟩:=h
  unfold ko at hm
  exact⟨s,((ho p (fun e=>by rw[e,Nat.beq_refl] at hm;cases hm)).1.trans h1),h2⟩
 |.sv p _ _ _ _ _,v,hm,h=>by
  obtain⟨s,h1,h2⟩:=h
  unfold ko at hm
  exact⟨s,((ho p (fun e=>by rw[e,Nat.beq_refl] at hm;cases hm)).1.trans h1),h2⟩
 |.sel p _ _ _ _ _,v,hm,h=>by
  obtain⟨s,h1,h2⟩:=h
  unfold ko at hm
  exact⟨s,((ho p (fun e=>by rw[e,Nat.beq_refl] at hm;cases hm)).1.trans h1),h2⟩
 |.sg _,_,_,h=>h
 |.pJ _ _ _ _,_,_,h=>h
 |.opt _ _ _,_,_,h=>h.elim
 |.int _ _,_,_,h=>h
 |.bool _,_,_,h=>h
 |.gU _,_,_,h=>h
 |.str _,_,_,h=>h
 |.fI,_,_,h=>h
 |.fu,_,_,h=>h
 |.eY,_,_,h=>h
 |.gN,_,_,h=>h
 |.dG,_,_,h=>h
 |.dx _ _ _,_,_,h=>h
 |.undef,_,_,h=>h
 |.gone,_,_,h=>h
theorem aA.kill (o:Nat) (ho:∀p,p≠o→ρ'.ob p=ρ.ob p∧ρ'.ln p=ρ.ln p) (ht:ρ'.tk=ρ.tk):∀(x:List (TV R.T)) (v:List V),kV o x=false→aA R ρ top x v→aA R ρ' top x v
 | [],_,_,h=>h
 |x::xs,_,hm,⟨v,vs,e,h1,h2⟩=>by
  unfold kV at hm
  rw[Bool.or_eq_false_iff] at hm
  exact⟨v,vs,e,Rl.kill o ho ht x v hm.1 h1,aA.kill o ho ht xs vs hm.2 h2⟩
end
section
variable (hR:mX R)
include hR
def Ay (v w:V):Prop:=fG v=w∧er v=w∧aC w=true∧(∀n σ,aP (n+2) σ v=some w)∧oneCell v=true∧v.cells=[v]
omit hR in
theorem agY {v:V} (h:∀cs,v≠ .agg cs):er v=fG v:=by cases v<;>first|rfl|exact absurd rfl (h _)
theorem ng:∀(t:Ty) (x:Den R.T t),aC (aF R t x)=true
 |.int _,x=>by simp[aF,aC]
 |.bool,x=>by simp[aF,aC]
 |.str,x=>by simp[aF,aC]
 |.slice t,x=>Fw (ng t) x
 |.st n,x=>hR.pc n x
theorem WO (c:Cp) (hc:Au ρ top 1 0 c .sh∧(c= .any∨c= .sh)):∀(t:Ty) (x:Den R.T t),mh t=true→Rl R ρ top (u6 R c t x) (aF R t x)
 |.int _,x,_=>rfl
 |.bool,x,_=>rfl
 |.str,x,_=>rfl
 |.slice t,x,_=>⟨.sh,rfl,by rcases hc.2 with rfl|rfl<;>first|trivial|rfl⟩
 |.st n,x,h=>by simp[mh] at h
theorem WQ (c:Cp) (hc:Au ρ top 1 0 c .sh∧(c= .any∨c= .sh)):∀(l:List Ty) (p:lH R.T l),l.all mh=true→aA R ρ top (jl R c l p) (encs R l p)
 | [],_,_=>rfl
 | [t],x,h=>.cons' (WO hR c hc t x (by simpa using h)) rfl
 |t::u::l,p,h=>by
  rw[List.all_cons,Bool.and_eq_true] at h
  exact .cons' (WO hR c hc t p.1 h.1) (WQ c hc (u::l) p.2 h.2)
theorem Lr (c:Cp) (hc:c= .any∨c= .sh):∀(t:Ty) (x:Den R.T t),Rl R ρ top (fZ R c t x) (aF R t x)
 |.int _,x=>rfl
 |.bool,x=>rfl
 |.str,x=>rfl
 |.slice t,x=>⟨.sh,rfl,by rcases hc with rfl|rfl<;>first|trivial|rfl⟩
 |.st n,x=>⟨_,hR.enc n x,WQ hR c ⟨by rcases hc with rfl|rfl<;>first|trivial|rfl,hc⟩ _ _ (hR.leaf n)⟩
theorem WR (t:Ty) (x:Den R.T t):Rl R ρ top (fZ R .sh t x) (aF R t x):=Lr hR .sh (.inr rfl) t x
omit hR in
theorem agZ (k:IntKind) (n:Int):Ay (.int k n) (.int k n):=⟨rfl,rfl,by simp[aC],fun n σ=>P5 (n+1) _ _,rfl,rfl⟩
omit hR in
theorem ag0 (b:Bool):Ay (.bool b) (.bool b):=⟨rfl,rfl,by simp[aC],fun n σ=>P6 (n+1) _,rfl,rfl⟩
omit hR in
theorem ag1 (b:List UInt8):Ay (.str b) (.str b):=⟨rfl,rfl,by simp[aC],fun n σ=>P7 (n+1) _,rfl,rfl⟩
theorem ag2 (c:Cap) (t:Ty) (l:List (Den R.T t)):Ay (.ak c (l.map (aF R t))) (aF R (.slice t) l):=⟨rfl,rfl,ng hR (.slice _) _,fun n σ=>uY _ _ (ng hR _),rfl,rfl⟩
omit hR in
theorem QE {k:IntKind} {x:Int} {tv:TV R.T} {v:V} (h:KS R k tv=some x) (hr:Rl R ρ top tv v):v= .int k x:=by
 unfold KS at h
 split at h
 ·split at h
  ·rename_i e;cases e;cases h;exact hr.fQ
  ·cases h
 ·cases h
omit hR in
theorem QF {x:Bool} {tv:TV R.T} {v:V} (h:KT R tv=some x) (hr:Rl R ρ top tv v):v= .bool x:=by
 unfold KT at h
 split at h<;>cases h
 ·exact hr.oM
 ·exact hr.qH
omit hR in
theorem QG {x:List UInt8} {tv:TV R.T} {v:V} (h:KU R tv=some x) (hr:Rl R ρ top tv v):v= .str x:=by
 unfold KU at h
 split at h<;>cases h
 exact hr.lg
omit hR in
theorem pU {t u:Ty} {l:List (Den R.T t)} {m:List (Den R.T u)} (h:oH R l=some m):t=u∧HEq l m:=by
 unfold oH at h
 split at h
 ·rename_i e;subst e;cases h;exact⟨rfl,HEq.rfl⟩
 ·cases h
omit hR in
theorem WS {t:Ty} {x:List (Den R.T t)} {tv:TV R.T} {v:V} (h:xw R t tv=some x) (hr:Rl R ρ top tv v):∃c,v= .ak c (x.map (aF R t)):=by
 unfold xw at h
 split at h
 ·obtain⟨e,e2⟩:=pU h;subst e;cases e2
  obtain⟨c',hv,hc⟩:=hr.jY
  exact⟨c',hv⟩
 ·cases h;exact⟨.nil,hr.nT⟩
 ·cases h
theorem Az {t:Ty} {x:Den R.T t} {tv:TV R.T} {v:V} (h:nP R t tv=some x) (hr:Rl R ρ top tv v):Ay v (aF R t x):=by
 cases t with
 |int k=>rw[QE h hr];exact agZ _ _
 |bool=>rw[QF h hr];exact ag0 _
 |str=>rw[QG h hr];exact ag1 _
 |slice t=>obtain⟨c,hv⟩:=WS h hr;rw[hv];exact ag2 hR _ _ _
 |st n=>cases h
theorem ag3 {t:Ty} {x:Den R.T t} {cs:List (TV R.T)} {vs:List V} (h:nP R t (hd1 R cs)=some x) (hr:aA R ρ top cs vs):∃v,vs=[v]∧Ay v (aF R t x):=by
 cases cs with
 |nil=>cases t<;>cases h
 |cons c cs=>
  cases cs with
  |nil=>
   obtain⟨v,l,rfl,h1,h2⟩:=hr.eD
   rw[h2.fP]
   exact⟨v,rfl,Az hR h h1⟩
  |cons c' cs=>cases t<;>cases h
theorem WT:∀(l:List Ty) (p:lH R.T l) (cs:List (TV R.T)) (vs:List V),u7 R l cs=some p→aA R ρ top cs vs→
 vs.map fG=encs R l p∧(∀n σ,vs.mapM (aP (n+2) σ)=some (encs R l p))∧aX (encs R l p)=true∧vs.all (fun v=>oneCell v)=true
 | [],p,cs,vs,h,hr=>by
   cases cs with
   |nil=>rw[hr.fP];exact⟨rfl,fun _ _=>rfl,by simp[encs,aX],rfl⟩
   |cons c cs=>cases h
 | [t],p,cs,vs,h,hr=>by
   obtain⟨v,rfl,a,b,c,d,e,_⟩:=ag3 hR (show nP R t (hd1 R cs)=some p from h) hr
   exact⟨by simp[encs,a],fun n σ=>by simp[encs,d],by simp[encs,aX,c],by simp[e]⟩
 |t::u::l,p,cs,vs,h,hr=>by
  cases cs with
  |nil=>cases h
  |cons c cs=>
   obtain⟨v,vs,rfl,h1,h2⟩:=hr.eD
   unfold u7 at h
   cases hu:nP R t c with
   |none=>simp only[hu] at h;cases h
   |some y=>
    cases hs:u7 R (u::l) cs with
    |none=>simp only[hu,hs] at h;cases h
    |some q=>
     simp only[hu,hs] at h
     obtain rfl:=Option.some.inj h
     obtain⟨a,b,c,d,e,_⟩:=Az hR hu h1
     obtain⟨a',d',c',o'⟩:=WT (u::l) q cs vs hs h2
     exact⟨by simp[encs,a,a'],fun n σ=>by simp[encs,d,d'],by simp[encs,aX,c,c'],by simp[e,o']⟩
omit hR in
theorem QH:∀(l:List Ty) (p:lH R.T l),(encs R l p).length=l.length
 | [],_=>rfl
 | [_],_=>rfl
 |_::u::l,p=>by show (encs R (u::l) p.2).length+1=_;rw[QH];rfl
omit hR in
theorem QI {n:Nat} {σ:ah} (cs:List V):aP (n+3) σ (.agg cs)=(cs.mapM (aP (n+2) σ)).map .agg:=by
 by_cases hp:aC (.agg cs)=true
 ·rw[jE hp]
  have:∀cs:List V,aX cs=true→cs.mapM (aP (n+2) σ)=some cs:=by
   intro cs
   induction cs with
   |nil=>intro _;rfl
   |cons a l ih=>
    intro h
    simp only[aX,Bool.and_eq_true] at h
    rw[List.mapM_cons,jE h.1,ih h.2];rfl
  rw[this cs (by simpa [aC] using hp)];rfl
 ·conv=>lhs;unfold aP
  simp only[hp,if_false,Bool.false_eq_true]
theorem QJ {t:Ty} {x:Den R.T t} {tv:TV R.T} {v:V} (h:mP R t tv=some x) (hr:Rl R ρ top tv v):
 er v=aF R t x∧aC (aF R t x)=true∧(∀n σ,aP (n+3) σ v=some (aF R t x))∧v.cells.length=cZ R t∧bL v.cells=true:=by
 cases t with
 |st n=>
  change xA R n tv=some x at h
  unfold xA at h
  split at h
  ·rename_i cs
   split at h
   ·rename_i p hp
    obtain rfl:=Option.some.inj h
    obtain⟨l,hv,hl⟩:=hr.jM
    subst hv
    obtain⟨a,d,c,o⟩:=WT hR _ _ _ _ hp hl
    have he:aF R (.st n) (R.to n p)= .agg (encs R (R.lf n) p):=by
     show R.enc n (R.to n p)=_
     rw[hR.enc,hR.FX]
    refine⟨?_,ng hR (.st n) _,fun k σ=> ?_, ?_,o⟩
    ·rw[he];show V.agg (l.map fG)=_;rw[a]
    ·rw[he,QI,d k σ];rfl
    ·show l.length=_
     have:=congrArg List.length a
     rw[List.length_map] at this
     rw[this];exact QH _ _
   ·cases h
  ·cases h
 |int k=>
  obtain⟨a,b,c,d,e,f⟩:=Az hR (t:=.int k) h hr
  exact⟨b,c,fun n σ=>d (n+1) σ,by rw[f];rfl,by rw[f];simp[bL,e]⟩
 |bool=>
  obtain⟨a,b,c,d,e,f⟩:=Az hR (t:=.bool) h hr
  exact⟨b,c,fun n σ=>d (n+1) σ,by rw[f];rfl,by rw[f];simp[bL,e]⟩
 |str=>
  obtain⟨a,b,c,d,e,f⟩:=Az hR (t:=.str) h hr
  exact⟨b,c,fun n σ=>d (n+1) σ,by rw[f];rfl,by rw[f];simp[bL,e]⟩
 |slice t=>
  obtain⟨a,b,c,d,e,f⟩:=Az hR (t:=.slice t) h hr
  exact⟨b,c,fun n σ=>d (n+1) σ,by rw[f];rfl,by rw[f];simp[bL,e]⟩
end
end
end Aq
end
section
namespace Aq
open Go
set_option linter.unusedSectionVars false
set_option linter.unusedVariables false
theorem dY {a b:Nat} (h:Nat.beq a b=true):a=b:=Nat.eq_of_beq_eq_true h
theorem Ls {a b:Nat} (h:Nat.beq a b=false):a≠b:=fun e=>by rw[e,Nat.beq_refl] at h;cases h
theorem Lu {a b:Nat} (h:a≠b):Nat.beq a b=false:=Bool.eq_false_iff.2 fun e=>h (dY e)
section look
variable {α:Type}
theorem pV (f:α→α):∀(l:List (Nat×α)) (i:Nat),look (kr f l) i=(look l i).map f
 | [],_=>rfl
 | (j,x)::l,i=>by
   show (bif Nat.beq j i then some (f x) else look (kr f l) i)=Option.map f (bif Nat.beq j i then some x else look l i)
   cases Nat.beq j i
   ·exact pV f l i
   ·rfl
theorem nU {i j:Nat} (h:j≠i):∀(l:List (Nat×α)),look (gV i l) j=look l j
 | []=>rfl
 | (k,x)::l=>by
   show look (bif Nat.beq k i then gV i l else (k,x)::gV i l) j=bif Nat.beq k j then some x else look l j
   cases hk:Nat.beq k i
   ·show (bif Nat.beq k j then some x else look (gV i l) j)=_
    rw[nU h l]
   ·have:=dY hk
    subst this
    rw[Lu (Ne.symm h)]
    exact nU h l
theorem lM (l:List (Nat×α)) (i:Nat) (x:α):look ((i,x)::l) i=some x:=by
 show (bif Nat.beq i i then some x else look l i)=_;rw[Nat.beq_refl];rfl
theorem jq (l:List (Nat×α)) {i j:Nat} (x:α) (h:j≠i):look ((i,x)::l) j=look l j:=by
 show (bif Nat.beq i j then some x else look l j)=_;rw[Lu (Ne.symm h)];rfl
end look
section
variable {R:iM} {E:Env}
theorem WU {ρ ρ':aO} {top top':Nat→Nat}:∀(t:Ty) (x:Den R.T t) (v:V),Rl R ρ top (u6 R .any t x) v→Rl R ρ' top' (u6 R .any t x) v
 |.int _,_,_,h=>h
 |.bool,_,_,h=>h
 |.str,_,_,h=>h
 |.slice _,_,_,h=>h
 |.st _,_,_,h=>h
theorem AA {ρ ρ':aO} {top top':Nat→Nat}:∀(l:List Ty) (p:lH R.T l) (vs:List V),aA R ρ top (jl R .any l p) vs→aA R ρ' top' (jl R .any l p) vs
 | [],_,_,h=>h
 | [t],x,vs,h=>by
   obtain⟨v,l,rfl,h1,h2⟩:=h.eD
   rw[h2.fP]
   exact .cons' (WU t x v h1) rfl
 |t::u::l,p,vs,h=>by
  obtain⟨v,ws,rfl,h1,h2⟩:=h.eD
  exact .cons' (WU t p.1 v h1) (AA (u::l) p.2 ws h2)
theorem ag4 {ρ ρ':aO} {top top':Nat→Nat} {t:Ty} {x:Den R.T t} {vs:List V} (h:aA R ρ top (fZ R .any t x).cells vs):aA R ρ' top' (fZ R .any t x).cells vs:=by
 cases t with
 |st n=>exact AA _ _ _ h
 |int k=>exact AA [.int k] x vs h
 |bool=>exact AA [.bool] x vs h
 |str=>exact AA [.str] x vs h
 |slice t=>exact AA [.slice t] x vs h
theorem aA.split {ρ:aO} {top:Nat→Nat}:∀{ts ts':List (TV R.T)} {vs:List V},aA R ρ top (ts++ts') vs→∃a b,vs=a++b∧aA R ρ top ts a∧aA R ρ top ts' b
 | [],_,vs,h=>⟨[],vs,rfl,rfl,h⟩
 |t::ts,ts',vs,h=>by
  obtain⟨v,ws,rfl,h1,h2⟩:=aA.eD (ts:=ts++ts') h
  obtain⟨a,b,rfl,h3,h4⟩:=aA.split h2
  exact⟨v::a,b,rfl,.cons' h1 h3,h4⟩
theorem vJ {ρ ρ':aO} {top top':Nat→Nat} {t:Ty}:∀(l:List (Den R.T t)) (vs:List V),aA R ρ top (l.flatMap fun x=>(fZ R .any t x).cells) vs→aA R ρ' top' (l.flatMap fun x=>(fZ R .any t x).cells) vs
 | [],vs,h=>h
 |x::l,vs,h=>by
  rw[List.flatMap_cons] at h⊢
  obtain⟨a,b,rfl,h1,h2⟩:=h.split
  exact(ag4 h1).append (vJ l b h2)
def gX (fr:Fr) (ρ:aO) (top:Nat→Nat):TV R.T→V→Prop
 |.opt j w y,v=>(fr.tm j= .bool w→Rl R ρ top y v)∧(fr.tm j= .bool (!w)∨fr.tm j=ay→v=ay)
 |x,v=>Rl R ρ top x v
theorem gX.of {fr:Fr} {ρ:aO} {top:Nat→Nat} {x:TV R.T} {v:V} (h:Rl R ρ top x v):gX fr ρ top x v:=by
 cases x<;>first|exact h|exact h.WM.elim
def eX (ρ:aO) (σ:ah) (o:Nat):Ob R.T→Prop
 |.cells cs=> ∃s l,ρ.ob o=some s∧σ.cu (1,o) s=some l∧aA R ρ σ.top cs l
 |.map k e m=> ∃s,ρ.ob o=some s∧σ.fH (1,o) s=some (m.map fun p=>aF R k p.1,m.map fun p=>aF R e p.2)
 |.smap ks vs=> ∃s k l,ρ.ob o=some s∧σ.fH (1,o) s=some (k,l)∧aA R ρ σ.top ks k∧aA R ρ σ.top vs l
 |.arr t l=>l.length=ρ.ln o∧((l=[]∧ρ.ob o=none)∨∃s cs,ρ.ob o=some s∧σ.cu (1,o) s=some cs∧aA R ρ σ.top (l.flatMap fun x=>(fZ R .any t x).cells) cs)
 |.sg ss=> ∃s,ρ.ob o=some s∧σ.cu (1,o) s=some (bU ss)
 |.gone=>True
 |.ro b=>eX ρ σ o b
theorem eX.strip {ρ:aO} {σ:ah} {o:Nat}:∀{x:Ob R.T},eX ρ σ o x→eX ρ σ o (Qf x)
 |.cells _,h=>h
 |.map _ _ _,h=>h
 |.smap _ _,h=>h
 |.arr _ _,h=>h
 |.sg _,h=>h
 |.gone,h=>h
 |.ro b,h=>eX.strip (x:=b) h
structure aG (ρ:aO) (b:Nat) (st:MS R.T) (fr:Fr) (σ:ah):Prop where
 d:fr.d=1
 om:fr.om=ρ.om
 fr:∀i v,look st.fr i=some v→gX fr ρ σ.top v (fr.tm i)
 ob:∀o x,look st.ob o=some x→eX ρ σ o x
 inj:∀t u s,ρ.tk t=some s→ρ.tk u=some s→t=u
 lt:∀t s,ρ.tk t=some s→s<b
variable {ρ:aO} {b:Nat} {st:MS R.T} {fr:Fr} {σ:ah}
theorem aG.le {b':Nat} (h:aG ρ b st fr σ) (hb:b≤b'):aG ρ b' st fr σ:={h with lt:=fun t s ht=>Nat.lt_of_lt_of_le (h.lt t s ht) hb}
theorem eX.bump {o k:Nat}:∀{x:Ob R.T},eX ρ σ o x→eX ρ (σ.bump k) o x
 |.cells _,h=>h
 |.map _ _ _,h=>h
 |.smap _ _,h=>h
 |.arr _ _,h=>h
 |.sg _,h=>h
 |.gone,h=>h
 |.ro b,h=>eX.bump (x:=b) h
theorem aG.next (h:aG ρ b st fr σ) (k:Nat):aG ρ b st fr (σ.bump k):={h with fr:=h.fr,ob:=fun o x hx=>(h.ob o x hx).bump}
theorem aG.rd (h:aG ρ b st fr σ) {o:Nat} {x:Ob R.T} (hx:kX st o=some x):eX ρ σ o x:=by
 unfold kX at hx
 split at hx
 ·rename_i y hy;cases hx;exact(h.ob _ _ hy).strip
 ·cases hx
theorem ag5 {ρ:aO} {top:Nat→Nat} {x:TV R.T} {u v:V} {i:Nat} (h:gX fr ρ top x v):gX (fr.set i u) ρ top (Qd i x) v:=by
 cases x with
 |opt j w y=>
  show gX _ _ _ (bif Nat.beq j i then .gone else .opt j w y) v
  cases hj:Nat.beq j i
  ·have hs:(fr.set i u).tm j=fr.tm j:=tV _ _ (by simpa using Ls hj)
   exact⟨fun hc=>h.1 (by rw[←hs];exact hc),fun hc=>h.2 (by rw[←hs];exact hc)⟩
  ·exact gX.of (x:=.gone) (by unfold Rl;trivial)
 |_=>exact h
theorem aG.put (h:aG ρ b st fr σ) (i:Nat) {x:TV R.T} {v:V} (hx:gX (fr.set i v) ρ σ.top x v):aG ρ b (st.put i x) (fr.set i v) σ where
 d:=h.d
 om:=h.om
 ob:=h.ob
 inj:=h.inj
 lt:=h.lt
 fr:=fun j y hy=>by
  by_cases e:j=i
  ·subst e
   have hy':some x=some y:=by rw[←hy];exact(lM _ _ _).symm
   cases hy'
   rw[V9]
   exact hx
  ·have hy':look (kr (Qd i) (gV i st.fr)) j=some y:=by rw[←hy];exact(jq _ _ e).symm
   rw[pV,nU e,Option.map_eq_some_iff] at hy'
   obtain⟨z,hz,rfl⟩:=hy'
   rw[tV _ _ (by simpa using e)]
   exact ag5 (h.fr j z hz)
theorem aG.eZ (h:aG ρ b st fr σ) (d:Option Nat) {x:TV R.T} {v:V} (hx:Rl R ρ σ.top x v):aG ρ b (st.eZ d x) (fr.put d v) σ:=by
 cases d with
 |none=>exact h
 |some i=>exact h.put i (.of hx)
theorem ag6 {ρ:aO} {top:Nat→Nat} {x:TV R.T} {v:V} {i:Nat} {c:Bool} (hi:fr.tm i= .bool c) (h:gX fr ρ top x v):gX fr ρ top (Qe i c x) v:=by
 cases x with
 |opt j w y=>
  show gX _ _ _ (bif Nat.beq j i then (bif (c==w) then y else .undef) else .opt j w y) v
  cases hj:Nat.beq j i
  ·exact h
  ·have:=dY hj
   subst this
   by_cases e:c=w
   ·subst e
    rw[beq_self_eq_true]
    exact gX.of (h.1 hi)
   ·rw[show (c==w)=false by simpa using e]
    have e':c= !w:=by cases c<;>cases w<;>first|rfl|exact absurd rfl e
    have h':=h.2 (.inl (by rw[hi,e']))
    subst h';exact gX.of (x:=.undef) (by unfold Rl;rfl)
 |_=>exact h
theorem aG.learn (h:aG ρ b st fr σ) {i:Nat} {c:Bool} (hc:fr.tm i= .bool c):aG ρ b (st.learn i c) fr σ where
 d:=h.d
 om:=h.om
 ob:=h.ob
 inj:=h.inj
 lt:=h.lt
 fr:=fun j y hy=>by
  by_cases e:j=i
  ·subst e
   have hy':some (TV.gU c)=some y:=by rw[←hy];exact(lM _ _ _).symm
   cases hy'
   exact gX.of (x:=.gU c) (by unfold Rl;exact hc)
  ·have hy':look (kr (Qe i c) (gV i st.fr)) j=some y:=by rw[←hy];exact(jq _ _ e).symm
   rw[pV,nU e,Option.map_eq_some_iff] at hy'
   obtain⟨z,hz,rfl⟩:=hy'
   exact ag6 hc (h.fr j z hz)
def aO.kC (ρ:aO) (o s:Nat):aO:={ρ with ob:=upd ρ.ob o (some s)}
def aO.iA (ρ:aO) (t s:Nat):aO:={ρ with tk:=upd ρ.tk t (some s)}
theorem WV {ρ':aO} {top:Nat→Nat} {o:Nat} {x:TV R.T} {v:V} (ho:∀p,p≠o→ρ'.ob p=ρ.ob p∧ρ'.ln p=ρ.ln p) (ht:ρ'.tk=ρ.tk) (h:gX fr ρ top x v):gX fr ρ' top (FB o x) v:=by
 unfold FB
 cases hm:ko o x
 ·cases x with
  |opt j w y=>exact⟨fun hc=>Rl.kill o ho ht y v hm (h.1 hc),h.2⟩
  |_=>exact gX.of (Rl.kill o ho ht _ v hm h)
 ·exact gX.of (x:=.gone) (by unfold Rl;trivial)
theorem vK {o p:Nat} (σ:ah) (s s':Nat) (x:fV) (h:p≠o):(σ.setObj (1,o) s' x).cu (1,p) s=σ.cu (1,p) s:=Wj σ s s' x (by rw[PZ];simp;omega)
theorem AB {o p:Nat} (σ:ah) (s s':Nat) (x:fV) (h:p≠o):(σ.setObj (1,o) s' x).fH (1,p) s=σ.fH (1,p) s:=Wm σ s s' x (by rw[PZ];simp;omega)
theorem WW {ρ':aO} {o p s':Nat} {a:fV} (hp:p≠o) (ho:∀p,p≠o→ρ'.ob p=ρ.ob p∧ρ'.ln p=ρ.ln p) (ht:ρ'.tk=ρ.tk):∀{x:Ob R.T},Ob.ko o x=false→eX ρ σ p x→eX ρ' (σ.setObj (1,o) s' a) p x
 |.cells cs,hm,h=>by
  obtain⟨s,l,h1,h2,h3⟩:=h
  exact⟨s,l,((ho p hp).1.trans h1),by rw[vK _ _ _ _ hp];exact h2,aA.kill o ho ht _ _ hm h3⟩
 |.map k e m,_,h=>by
  obtain⟨s,h1,h2⟩:=h
  exact⟨s,((ho p hp).1.trans h1),by rw[AB _ _ _ _ hp];exact h2⟩
 |.smap ks vs,hm,h=>by
  obtain⟨s,k,l,h1,h2,h3,h4⟩:=h
  have hm':(kV o ks||kV o vs)=false:=hm
  rw[Bool.or_eq_false_iff] at hm'
  exact⟨s,k,l,((ho p hp).1.trans h1),by rw[AB _ _ _ _ hp];exact h2,aA.kill o ho ht _ _ hm'.1 h3,aA.kill o ho ht _ _ hm'.2 h4⟩
 |.arr t l,hm,h=>by
  refine⟨h.1.trans (ho p hp).2.symm, ?_⟩
  rcases h.2 with h| ⟨s,cs,h1,h2,h3⟩
  ·exact .inl ⟨h.1,(ho p hp).1.trans h.2⟩
  ·exact .inr ⟨s,cs,((ho p hp).1.trans h1),by rw[vK _ _ _ _ hp];exact h2,vJ l cs h3⟩
 |.sg ss,_,h=>by
  obtain⟨s,h1,h2⟩:=h
  exact⟨s,((ho p hp).1.trans h1),by rw[vK _ _ _ _ hp];exact h2⟩
 |.gone,_,_=>trivial
 |.ro b,hm,h=>WW hp ho ht (x:=b) hm h
theorem ag7 {ρ':aO} {o p s':Nat} {a:fV} {x:Ob R.T} (hp:p≠o) (ho:∀p,p≠o→ρ'.ob p=ρ.ob p∧ρ'.ln p=ρ.ln p) (ht:ρ'.tk=ρ.tk) (h:eX ρ σ p x):eX ρ' (σ.setObj (1,o) s' a) p (Ob.kill o x):=by
 unfold Ob.kill
 cases hm:Ob.ko o x
 ·exact WW hp ho ht hm h
 ·trivial
theorem WX {o p s:Nat} {a:fV} (hp:p≠o):∀{x:Ob R.T},eX ρ σ p x→eX ρ (σ.setObj (1,o) s a) p x
 |.cells cs,h=>by obtain⟨s,l,h1,h2,h3⟩:=h;exact⟨s,l,h1,by rw[vK _ _ _ _ hp];exact h2,h3⟩
 |.map k e m,h=>by obtain⟨s,h1,h2⟩:=h;exact⟨s,h1,by rw[AB _ _ _ _ hp];exact h2⟩
 |.smap ks vs,h=>by obtain⟨s,k,l,h1,h2,h3⟩:=h;exact⟨s,k,l,h1,by rw[AB _ _ _ _ hp];exact h2,h3⟩
 |.arr t l,h=>by
  refine⟨h.1, ?_⟩
  rcases h.2 with h| ⟨s,cs,h1,h2,h3⟩
  ·exact .inl h
  ·exact .inr ⟨s,cs,h1,by rw[vK _ _ _ _ hp];exact h2,h3⟩
 |.sg ss,h=>by obtain⟨s,h1,h2⟩:=h;exact⟨s,h1,by rw[vK _ _ _ _ hp];exact h2⟩
 |.gone,_=>trivial
 |.ro b,h=>WX hp (x:=b) h
theorem WY {o t s n:Nat} (key:∀u s',u≠t→ρ.tk u=some s'→(ρ.iA t s).tk u=some s'∧(σ.dn s n).top s'=σ.top s'):∀{x:Ob R.T},eX ρ σ o x→eX (ρ.iA t s) (σ.dn s n) o (Ob.wk t x)
 |.cells cs,h=>by obtain⟨s',l,h1,h2,h3⟩:=h;exact⟨s',l,h1,h2,aA.wk (ρ:=ρ) (ρ':=ρ.iA t s) (top:=σ.top) (top':=(σ.dn s n).top) t ⟨rfl,rfl⟩ key _ _ h3⟩
 |.map k e m,h=>h
 |.smap ks vs,h=>by obtain⟨s',k,l,h1,h2,h3,h4⟩:=h;exact⟨s',k,l,h1,h2,aA.wk (ρ:=ρ) (ρ':=ρ.iA t s) (top:=σ.top) (top':=(σ.dn s n).top) t ⟨rfl,rfl⟩ key _ _ h3,aA.wk (ρ:=ρ) (ρ':=ρ.iA t s) (top:=σ.top) (top':=(σ.dn s n).top) t ⟨rfl,rfl⟩ key _ _ h4⟩
 |.arr ty l,h=>by
  refine⟨h.1, ?_⟩
  rcases h.2 with h| ⟨s,cs,h1,h2,h3⟩
  ·exact .inl h
  ·exact .inr ⟨s,cs,h1,h2,vJ l cs h3⟩
 |.sg ss,h=>h
 |.gone,_=>trivial
 |.ro b,h=>WY key (x:=b) h
theorem AJ {o s:Nat}:∀p,p≠o→(ρ.kC o s).ob p=ρ.ob p∧(ρ.kC o s).ln p=ρ.ln p:=fun p h=>⟨by simp[aO.kC,upd,h],rfl⟩
def aO.xL (ρ:aO) (o n:Nat):aO:={ρ with ln:=upd ρ.ln o n}
theorem WZ {o n:Nat}:∀p,p≠o→(ρ.xL o n).ob p=ρ.ob p∧(ρ.xL o n).ln p=ρ.ln p:=fun p h=>⟨rfl,by simp[aO.xL,upd,h]⟩
def aO.gh (ρ:aO) (o:Nat):aO:={ρ.xL o 0 with ob:=upd ρ.ob o none}
theorem AL {o:Nat}:∀p,p≠o→(ρ.gh o).ob p=ρ.ob p∧(ρ.gh o).ln p=ρ.ln p:=fun p h=>⟨by simp[aO.gh,upd,h],(WZ (ρ:=ρ) (n:=0) p h).2⟩
theorem F4 {o n:Nat}:(ρ.xL o n).ln o=n:=by simp[aO.xL,upd]
def aO.xM (ρ:aO) (o s n:Nat):aO:=(ρ.kC o s).xL o n
theorem QK {o s n:Nat}:∀p,p≠o→(ρ.xM o s n).ob p=ρ.ob p∧(ρ.xM o s n).ln p=ρ.ln p:=fun p h=>⟨(AJ p h).1,(WZ p h).2⟩
theorem pW {o s:Nat}:(ρ.kC o s).ob o=some s:=by simp[aO.kC,upd]
theorem aG.new' {ρ':aO} (h:aG ρ b st fr σ) (o s:Nat) {x:Ob R.T} {a:fV} (AJ:∀p,p≠o→ρ'.ob p=ρ.ob p∧ρ'.ln p=ρ.ln p) (ht:ρ'.tk=ρ.tk) (bQ:ρ'.om=ρ.om) (hx:eX ρ' (σ.setObj (1,o) s a) o x):aG ρ' b (st.new o x) fr (σ.setObj (1,o) s a) where
 d:=h.d
 om:=h.om.trans bQ.symm
 fr:=fun j y hy=>by
  have hy':look (kr (FB o) st.fr) j=some y:=hy
  rw[pV,Option.map_eq_some_iff] at hy'
  obtain⟨z,hz,rfl⟩:=hy'
  exact WV AJ ht (h.fr j z hz)
 ob:=fun p y hy=>by
  by_cases e:p=o
  ·subst e
   have hy':some x=some y:=by rw[←hy];exact(lM _ _ _).symm
   cases hy'
   exact hx
  ·have hy':look (kr (Ob.kill o) (gV o st.ob)) p=some y:=by rw[←hy];exact(jq _ _ e).symm
   rw[pV,nU e,Option.map_eq_some_iff] at hy'
   obtain⟨z,hz,rfl⟩:=hy'
   exact ag7 e AJ ht (h.ob p z hz)
 inj:=by rw[ht];exact h.inj
 lt:=by rw[ht];exact h.lt
theorem aG.new (h:aG ρ b st fr σ) (o s:Nat) {x:Ob R.T} {a:fV} (hx:eX (ρ.kC o s) (σ.setObj (1,o) s a) o x):aG (ρ.kC o s) b (st.new o x) fr (σ.setObj (1,o) s a):=h.new' o s AJ rfl rfl hx
theorem aG.QL (h:aG ρ b st fr σ) (o s n:Nat) {x:Ob R.T} {a:fV} (hx:eX (ρ.xM o s n) (σ.setObj (1,o) s a) o x):aG (ρ.xM o s n) b (st.new o x) fr (σ.setObj (1,o) s a):=h.new' o s QK rfl rfl hx
theorem W9 {ρ':aO} {o p:Nat} (hp:p≠o) (ho:∀p,p≠o→ρ'.ob p=ρ.ob p∧ρ'.ln p=ρ.ln p) (ht:ρ'.tk=ρ.tk):∀{x:Ob R.T},Ob.ko o x=false→eX ρ σ p x→eX ρ' σ p x
 |.cells cs,hm,h=>by
  obtain⟨s,l,h1,h2,h3⟩:=h
  exact⟨s,l,((ho p hp).1.trans h1),h2,aA.kill o ho ht _ _ hm h3⟩
 |.map k e m,_,h=>by
  obtain⟨s,h1,h2⟩:=h
  exact⟨s,((ho p hp).1.trans h1),h2⟩
 |.smap ks vs,hm,h=>by
  obtain⟨s,k,l,h1,h2,h3,h4⟩:=h
  have hm':(kV o ks||kV o vs)=false:=hm
  rw[Bool.or_eq_false_iff] at hm'
  exact⟨s,k,l,((ho p hp).1.trans h1),h2,aA.kill o ho ht _ _ hm'.1 h3,aA.kill o ho ht _ _ hm'.2 h4⟩
 |.arr t l,hm,h=>by
  refine⟨h.1.trans (ho p hp).2.symm, ?_⟩
  rcases h.2 with h| ⟨s,cs,h1,h2,h3⟩
  ·exact .inl ⟨h.1,(ho p hp).1.trans h.2⟩
  ·exact .inr ⟨s,cs,((ho p hp).1.trans h1),h2,vJ l cs h3⟩
 |.sg ss,_,h=>by
  obtain⟨s,h1,h2⟩:=h
  exact⟨s,((ho p hp).1.trans h1),h2⟩
 |.gone,_,_=>trivial
 |.ro b,hm,h=>W9 hp ho ht (x:=b) hm h
theorem aG.ghost (h:aG ρ b st fr σ) (o:Nat) (t:Ty):aG (ρ.gh o) b (st.new o (.arr t [])) fr σ where
 d:=h.d
 om:=h.om
 fr:=fun j y hy=>by
  have hy':look (kr (FB o) st.fr) j=some y:=hy
  rw[pV,Option.map_eq_some_iff] at hy'
  obtain⟨z,hz,rfl⟩:=hy'
  exact WV AL rfl (h.fr j z hz)
 ob:=fun p y hy=>by
  by_cases e:p=o
  ·subst e
   have hy':some (Ob.arr t ([]:List (Den R.T t)))=some y:=by rw[←hy];exact(lM _ _ _).symm
   cases hy'
   exact⟨(F4 (ρ:=ρ) (n:=0)).symm,.inl ⟨rfl,by simp[aO.gh,upd]⟩⟩
  ·have hy':look (kr (Ob.kill o) (gV o st.ob)) p=some y:=by rw[←hy];exact(jq _ _ e).symm
   rw[pV,nU e,Option.map_eq_some_iff] at hy'
   obtain⟨z,hz,rfl⟩:=hy'
   unfold Ob.kill
   cases hm:Ob.ko o z
   ·exact W9 e AL rfl hm (h.ob p z hz)
   ·trivial
 inj:=h.inj
 lt:=h.lt
theorem Xa {o p:Nat} (σ:ah) (h:p≠o):(σ.jQ (1,o)).obj (1,p)=σ.obj (1,p):=by
 unfold ah.jQ upd
 simp[h]
theorem Xb {σ':ah} {p:Nat} (hp:σ'.obj (1,p)=σ.obj (1,p)) (ht:σ'.top=σ.top):∀{x:Ob R.T},eX ρ σ p x→eX ρ σ' p x
 |.cells cs,h=>by
  obtain⟨s,l,h1,h2,h3⟩:=h
  exact⟨s,l,h1,by unfold ah.cu at h2⊢;rw[hp];exact h2,by rw[ht];exact h3⟩
 |.map k e m,h=>by
  obtain⟨s,h1,h2⟩:=h
  exact⟨s,h1,by unfold ah.fH at h2⊢;rw[hp];exact h2⟩
 |.smap ks vs,h=>by
  obtain⟨s,k,l,h1,h2,h3,h4⟩:=h
  exact⟨s,k,l,h1,by unfold ah.fH at h2⊢;rw[hp];exact h2,by rw[ht];exact h3,by rw[ht];exact h4⟩
 |.arr t l,h=>by
  refine⟨h.1, ?_⟩
  rcases h.2 with h| ⟨s,cs,h1,h2,h3⟩
  ·exact .inl h
  ·exact .inr ⟨s,cs,h1,by unfold ah.cu at h2⊢;rw[hp];exact h2,vJ l cs h3⟩
 |.sg ss,h=>by
  obtain⟨s,h1,h2⟩:=h
  exact⟨s,h1,by unfold ah.cu at h2⊢;rw[hp];exact h2⟩
 |.gone,_=>trivial
 |.ro b,h=>Xb hp ht (x:=b) h
theorem aG.del (h:aG ρ b st fr σ) (o:Nat):aG ρ b (st.del o) fr (σ.jQ (1,o)) where
 d:=h.d
 om:=h.om
 fr:=h.fr
 ob:=fun p y hy=>by
  by_cases e:p=o
  ·subst e
   have:look (gV p st.ob) p=some y:=hy
   have key:∀l:List (Nat×Ob R.T),look (gV p l) p=none:=by
    intro l
    induction l with
    |nil=>rfl
    |cons q l ih=>
     obtain⟨j,x⟩:=q
     unfold gV
     cases hj:Nat.beq j p
     ·show (bif Nat.beq j p then some x else look (gV p l) p)=none
      rw[hj];exact ih
     ·exact ih
   rw[key] at this;cases this
  ·have hy':look (gV o st.ob) p=some y:=hy
   rw[nU e] at hy'
   exact Xb (Xa σ e) rfl (h.ob p y hy')
 inj:=h.inj
 lt:=h.lt
theorem aG.set (h:aG ρ b st fr σ) (o s:Nat) {x:Ob R.T} {a:fV} (hx:eX ρ (σ.setObj (1,o) s a) o x):aG ρ b (st.set o x) fr (σ.setObj (1,o) s a) where
 d:=h.d
 om:=h.om
 fr:=h.fr
 ob:=fun p y hy=>by
  by_cases e:p=o
  ·subst e
   have hy':some x=some y:=by rw[←hy];exact(lM _ _ _).symm
   cases hy'
   exact hx
  ·have hy':look (gV o st.ob) p=some y:=by rw[←hy];exact(jq _ _ e).symm
   rw[nU e] at hy'
   exact WX e (h.ob p y hy')
 inj:=h.inj
 lt:=h.lt
theorem aG.wk (h:aG ρ b st fr σ) (t s n:Nat) {b':Nat} (hb:b≤b') (hs:s<b') (hf:∀u,u≠t→ρ.tk u≠some s):aG (ρ.iA t s) b' (st.wk t) fr (σ.dn s n) where
 d:=h.d
 om:=h.om
 fr:=fun j y hy=>by
  have hy':look (kr (Aq.wk t) st.fr) j=some y:=hy
  rw[pV,Option.map_eq_some_iff] at hy'
  obtain⟨z,hz,rfl⟩:=hy'
  have hz':=h.fr j z hz
  have key:∀u s',u≠t→ρ.tk u=some s'→(ρ.iA t s).tk u=some s'∧(σ.dn s n).top s'=σ.top s':=fun u s' hu hs'=>
   ⟨by simp[aO.iA,upd,hu,hs'],KO _ _ fun e=>hf u hu (by rw[hs',e])⟩
  cases z with
  |opt j' w y=>exact⟨fun hc=>Rl.wk (ρ:=ρ) (ρ':=ρ.iA t s) (top:=σ.top) (top':=(σ.dn s n).top) t ⟨rfl,rfl⟩ key y _ (hz'.1 hc),hz'.2⟩
  |_=>exact gX.of (Rl.wk (ρ:=ρ) (ρ':=ρ.iA t s) (top:=σ.top) (top':=(σ.dn s n).top) t ⟨rfl,rfl⟩ key _ _ hz')
 ob:=fun p y hy=>by
  have hy':look (kr (Ob.wk t) st.ob) p=some y:=hy
  rw[pV,Option.map_eq_some_iff] at hy'
  obtain⟨z,hz,rfl⟩:=hy'
  have hz':=h.ob p z hz
  have key:∀u s',u≠t→ρ.tk u=some s'→(ρ.iA t s).tk u=some s'∧(σ.dn s n).top s'=σ.top s':=fun u s' hu hs'=>
   ⟨by simp[aO.iA,upd,hu,hs'],KO _ _ fun e=>hf u hu (by rw[hs',e])⟩
  exact WY key hz'
 inj:=fun u v s' hu hv=>by
  by_cases e1:u=t<;>by_cases e2:v=t
  ·rw[e1,e2]
  ·simp[aO.iA,upd,e1] at hu;simp[aO.iA,upd,e2] at hv;exact absurd (hu▸hv) (hf v e2)
  ·simp[aO.iA,upd,e1] at hu;simp[aO.iA,upd,e2] at hv;exact absurd (hv▸hu) (hf u e1)
  ·simp[aO.iA,upd,e1] at hu;simp[aO.iA,upd,e2] at hv;exact h.inj u v s' hu hv
 lt:=fun u s' hu=>by
  by_cases e1:u=t
  ·simp[aO.iA,upd,e1] at hu;omega
  ·simp[aO.iA,upd,e1] at hu;exact Nat.lt_of_lt_of_le (h.lt u s' hu) hb
theorem Xc {top:Nat→Nat} {x:TV R.T} {v:Value} (h:xB v=some x):∃y,iW v=some y∧Rl R ρ top x y:=by
 unfold xB at h
 split at h<;>cases h<;>exact⟨_,rfl,by unfold Rl;rfl⟩
theorem Xd {top:Nat→Nat}:∀{vs:List Value} {l:List (TV R.T)},zQ vs=some l→∃y,vs.mapM iW=some y∧aA R ρ top l y
 | [],l,h=>by cases h;exact⟨[],rfl,rfl⟩
 |v::vs,l,h=>by
  unfold zQ at h
  cases h1:(xB v:Option (TV R.T)) with
  |none=>simp only[h1] at h;cases h
  |some a=>
   cases h2:(zQ vs:Option (List (TV R.T))) with
   |none=>simp only[h1,h2] at h;cases h
   |some as=>
    simp only[h1,h2] at h;cases h
    obtain⟨y,hy,hr⟩:=Xc (ρ:=ρ) (top:=top) h1
    obtain⟨ys,hys,hrs⟩:=Xd h2
    exact⟨y::ys,by simp[hy,hys],.cons' hr hrs⟩
theorem Xe {top:Nat→Nat} {x:TV R.T} {v:Value} (h:zR v=some x):∃y,ofValue v=some y∧Rl R ρ top x y:=by
 unfold zR at h
 split at h
 ·rename_i cs
  cases h2:(zQ cs.toList:Option (List (TV R.T))) with
  |none=>simp only[h2] at h;cases h
  |some l=>
   simp only[h2] at h;cases h
   obtain⟨ys,hys,hrs⟩:=Xd (ρ:=ρ) (top:=top) h2
   exact⟨.agg ys,by simp[ofValue,hys],by unfold Rl;exact⟨_,rfl,hrs⟩⟩
 ·obtain⟨y,hy,hr⟩:=Xc (ρ:=ρ) (top:=top) h
  refine⟨y, ?_,hr⟩
  unfold xB at h
  split at h<;>first|exact hy|cases h
def ni (fr:Fr) (g:List (Nat×Bool)):Prop:=∀j u,look g j=some u→fr.tm j= .bool u
theorem ni.nil:ni fr []:=fun _ _ h=>by cases h
theorem ni.cons {g:List (Nat×Bool)} {j:Nat} {u:Bool} (h:fr.tm j= .bool u) (hg:ni fr g):ni fr ((j,u)::g):=fun i v hi=>by
 by_cases e:i=j
 ·subst e;rw[lM] at hi;cases hi;exact h
 ·rw[jq _ _ e] at hi;exact hg i v hi
theorem ag8 {fr:Fr} {top:Nat→Nat} {g:List (Nat×Bool)} (hg:ni fr g) {y x:TV R.T} {v:V} (hy:gX fr ρ top y v) (he:KV g y=some x):Rl R ρ top x v:=by
 cases y with
 |opt j w z=>
  unfold KV at he
  dsimp only at he
  split at he
  ·rename_i u hu
   cases he
   have:=hg j u hu
   by_cases e:u=w
   ·subst e;rw[beq_self_eq_true];exact hy.1 this
   ·rw[show (u==w)=false by simpa using e]
    have e':u= !w:=by cases u<;>cases w<;>first|rfl|exact absurd rfl e
    unfold Rl;exact hy.2 (.inl (by rw[this,e']))
  ·cases he
 |_=>cases he;exact hy
theorem bA (h:aG ρ b st fr σ) {g:List (Nat×Bool)} (hg:ni fr g) {o:Operand} {x:TV R.T} (he:bI g st o=some x):Rl R ρ σ.top x (fr.ev E o):=by
 cases o with
 |tmp t=>
  rw[zL]
  unfold bI at he
  dsimp only at he
  split at he
  ·rename_i v hv;exact ag8 hg (h.fr _ _ hv) he
  ·cases he
 |const v=>
  rw[Wd]
  obtain⟨y,hy,hr⟩:=Xe (ρ:=ρ) (top:=σ.top) (show zR v=some x from he)
  rw[hy];exact hr
 |func f=>cases he;rw[Wh];unfold Rl;exact⟨[],[],rfl,rfl,rfl⟩
 |global i=>cases he
theorem vL (h:aG ρ b st fr σ) {g:List (Nat×Bool)} (hg:ni fr g):∀{l:List Operand} {xs:List (TV R.T)},l6 g st l=some xs→aA R ρ σ.top xs (l.map (fr.ev E))
 | [],xs,he=>by cases he;rfl
 |o::l,xs,he=>by
  unfold l6 at he
  cases h1:bI g st o with
  |none=>simp only[h1] at he;cases he
  |some a=>
   cases h2:l6 g st l with
   |none=>simp only[h1,h2] at he;cases he
   |some as=>simp only[h1,h2] at he;cases he;exact .cons' (bA h hg h1) (vL h hg h2)
theorem QM (h:aG ρ b st fr σ) {g:List (Nat×Bool)} (hg:ni fr g):∀{l:List (Nat×Operand)} {xs:List (Nat×TV R.T)},zS g st l=some xs→xs.map (·.1)=l.map (·.1)∧aA R ρ σ.top (xs.map (·.2)) (l.map fun p=>fr.ev E p.2)
 | [],xs,he=>by cases he;exact⟨rfl,rfl⟩
 | (i,o)::l,xs,he=>by
   unfold zS at he
   cases h1:bI g st o with
   |none=>simp only[h1] at he;cases he
   |some a=>
    cases h2:zS g st l with
    |none=>simp only[h1,h2] at he;cases he
    |some as=>
     simp only[h1,h2] at he;cases he
     obtain⟨e1,e2⟩:=QM h hg h2
     exact⟨by simp[e1],.cons' (bA h hg h1) e2⟩
end
end Aq
end
section
namespace Aq
open Go
set_option linter.unusedSectionVars false
set_option linter.unusedVariables false
theorem ag9 {n m:Nat} {v:Vec n} {w:Vec m} (h:KR v=some w):n=m∧HEq v w:=by
 unfold KR at h
 split at h
 ·rename_i e;subst e;cases h;exact⟨rfl,HEq.rfl⟩
 ·cases h
theorem Xf:∀{k:iZ} {s:Sg} {x:zM k},zN k s=some x→Fz k x=s
 |.i k,.i k' y,x,h=>by
  have h':(if k'=k then some y else none)=some (x:Int):=h
  by_cases e:k'=k
  ·subst e;rw[if_pos rfl] at h';cases h';rfl
  ·rw[if_neg e] at h';cases h'
 |.a k n,.a k' n' v,x,h=>by
  have h':(if k'=k then KR (m:=n) v else none)=some (x:Vec n):=h
  by_cases e:k'=k
  ·subst e;rw[if_pos rfl] at h'
   obtain⟨e1,e2⟩:=ag9 h'
   subst e1;cases e2;rfl
  ·rw[if_neg e] at h';cases h'
 |.i k,.a _ _ _,x,h=>by cases h
 |.a k n,.i _ _,x,h=>by cases h
theorem Lv:∀{l:List iZ} {ss:List Sg} {x:xg l},uf l ss=some x→qD l x=ss
 | [],ss,x,h=>by
   cases ss with
   |nil=>rfl
   |cons s ss=>cases h
 | [k],ss,x,h=>by
   cases ss with
   |nil=>cases h
   |cons s ss=>
    cases ss with
    |nil=>
     show [Fz k x]=[s]
     rw[Xf (show zN k s=some x from h)]
    |cons s' ss=>cases h
 |k::k'::l,ss,x,h=>by
  cases ss with
  |nil=>cases h
  |cons s ss=>
   have h':(match zN k s with
    |some x=>match uf (k'::l) ss with
     |some p=>some (x,p)
     |none=>none
    |none=>none)=some x:=h
   cases hu:zN k s with
   |none=>simp only[hu] at h';cases h'
   |some y=>
    cases hs:uf (k'::l) ss with
    |none=>simp only[hu,hs] at h';cases h'
    |some q=>
     simp only[hu,hs] at h'
     obtain rfl:=Option.some.inj h'
     show Fz k y::qD (k'::l) q=s::ss
     rw[Xf hu,Lv hs]
section
variable {R:iM} (hR:mX R)
variable {ρ:aO} {top:Nat→Nat} {b:Nat} {st:MS R.T} {fr:Fr} {σ:ah}
include hR
theorem xO {t:Ty} {x:Den R.T t} {tv:TV R.T} {v:V} (h:nP R t tv=some x) (hr:Rl R ρ top tv v):Rl R ρ top (u6 R .any t x) v:=by
 cases t with
 |int k=>rw[QE h hr];unfold Rl;rfl
 |bool=>rw[QF h hr];unfold Rl;rfl
 |str=>rw[QG h hr];unfold Rl;rfl
 |slice t=>obtain⟨c,hv⟩:=WS h hr;rw[hv];unfold Rl;exact⟨c,rfl,trivial⟩
 |st n=>cases h
theorem Xg:∀(l:List Ty) (p:lH R.T l) (cs:List (TV R.T)) (vs:List V),u7 R l cs=some p→aA R ρ top cs vs→aA R ρ top (jl R .any l p) vs
 | [],p,cs,vs,h,hr=>by
   cases cs with
   |nil=>rw[hr.fP];rfl
   |cons c cs=>cases h
 | [t],p,cs,vs,h,hr=>by
   have h':nP R t (hd1 R cs)=some p:=h
   cases cs with
   |nil=>cases t<;>cases h'
   |cons c cs=>
    cases cs with
    |nil=>
     obtain⟨v,l,rfl,h1,h2⟩:=hr.eD
     rw[h2.fP]
     exact .cons' (xO hR h' h1) rfl
    |cons c' cs=>cases t<;>cases h'
 |t::u::l,p,cs,vs,h,hr=>by
  cases cs with
  |nil=>cases h
  |cons c cs=>
   obtain⟨v,vs,rfl,h1,h2⟩:=hr.eD
   unfold u7 at h
   cases hu:nP R t c with
   |none=>simp only[hu] at h;cases h
   |some y=>
    cases hs:u7 R (u::l) cs with
    |none=>simp only[hu,hs] at h;cases h
    |some q=>
     simp only[hu,hs] at h
     obtain rfl:=Option.some.inj h
     exact .cons' (xO hR hu h1) (Xg (u::l) q cs vs hs h2)
theorem F5 {t:Ty} {x:Den R.T t} {tv:TV R.T} {v:V} (h:mP R t tv=some x) (hr:Rl R ρ top tv v):Rl R ρ top (fZ R .any t x) v:=by
 cases t with
 |st n=>
  change xA R n tv=some x at h
  unfold xA at h
  split at h
  ·rename_i cs
   split at h
   ·rename_i p hp
    obtain rfl:=Option.some.inj h
    obtain⟨l,hv,hl⟩:=hr.jM
    subst hv
    show Rl R ρ top (.agg (jl R .any (R.lf n) (R.of n (R.to n p)))) _
    rw[hR.FX]
    unfold Rl;exact⟨l,rfl,Xg hR _ _ _ _ hp hl⟩
   ·cases h
  ·cases h
 |int k=>exact xO hR (t:=.int k) h hr
 |bool=>exact xO hR (t:=.bool) h hr
 |str=>exact xO hR (t:=.str) h hr
 |slice t=>exact xO hR (t:=.slice t) h hr
omit hR in
theorem Xh {sz n:Nat} {c c':Cp} {x:Cap} (h:zV c c'=true) (hx:Au ρ top sz n c x):Au ρ top sz n c' x:=by
 cases c<;>cases c'<;>simp only[zV,Bool.false_eq_true] at h<;>first|trivial|exact hx|exact .inl hx|exact .inr (.inl hx)| (rw[←dY h];exact hx)
omit hR in
theorem QN {k e k' e':Ty} {m:List (Den R.T k'×Den R.T e')} {x:List (Den R.T k×Den R.T e)} (h:zW R m=some x):k'=k∧e'=e∧HEq m x:=by
 unfold zW at h
 split at h
 ·rename_i e;obtain⟨rfl,rfl⟩:=e;cases h;exact⟨rfl,rfl,HEq.rfl⟩
 ·cases h
omit hR in
theorem Xi {c:Cp} {t:Ty} {x:List (Den R.T t)} {tv:TV R.T} {v:V} (h:KY R c t tv=some x) (hr:Rl R ρ top tv v):Rl R ρ top (.ak c t x) v:=by
 unfold KY at h
 split at h
 ·rename_i c' t' l
  cases hc:zV c' c
  ·rw[hc] at h;cases h
  ·rw[hc,cond_true] at h
   obtain⟨e,e2⟩:=pU h;subst e;cases e2
   obtain⟨c'',hv,hcc⟩:=hr.jY
   unfold Rl;exact⟨c'',hv,Xh hc hcc⟩
 ·cases hc:zV .nil c
  ·rw[hc] at h;cases h
  ·rw[hc,cond_true] at h;cases h
   unfold Rl;exact⟨.nil,hr.nT,Xh hc rfl⟩
 ·cases h
mutual
theorem QO:∀(k:Sk) (x:oG R.T k) (tv:TV R.T) (v:V),pk R k tv=some x→Rl R ρ top tv v→Rl R ρ top (up R .any k x) v
 |.d t,x,tv,v,h,hr=>F5 hR (by unfold pk at h;exact h) hr
 |.l c t,x,tv,v,h,hr=>Xi (by unfold pk at h;exact h) hr
 |.agg l,x,tv,v,h,hr=>by
  cases tv<;>first| (exact absurd (show none=some x from h) (by simp))|skip
  rename_i cs
  obtain⟨vs,rfl,hl⟩:=hr.jM
  show Rl R ρ top (.agg (jV R .any l x)) _
  unfold Rl;exact⟨vs,rfl,AO l x cs vs h hl⟩
 |.ref o off,x,tv,v,h,hr=>by
  cases tv<;>first| (exact absurd (show none=some x from h) (by simp))|skip
  rename_i p off'
  have h':(bif Nat.beq p o&& Nat.beq off' off then some () else none)=some x:=h
  cases hb:(Nat.beq p o&& Nat.beq off' off)
  ·rw[hb] at h';cases h'
  ·rw[Bool.and_eq_true] at hb
   rw[dY hb.1,dY hb.2] at hr
   exact hr
 |.aK l off,x,tv,v,h,hr=>by
  cases tv<;>first| (exact absurd (show none=some x from h) (by simp))|skip
  rename_i cs off'
  have h':(bif Nat.beq off' off then gD R l cs else none)=some x:=h
  cases hb:Nat.beq off' off
  ·rw[hb] at h';cases h'
  ·rw[hb,cond_true] at h'
   rw[dY hb] at hr
   obtain⟨vs,rfl,hl⟩:=hr.rZ
   show Rl R ρ top (.aK (jV R .any l x) off) _
   unfold Rl;exact⟨vs,rfl,AO l x _ vs h' hl⟩
 |.cK o,x,tv,v,h,hr=>by
  cases tv<;>first| (exact absurd (show none=some x from h) (by simp))|skip
  rename_i p
  have h':(bif Nat.beq p o then some () else none)=some x:=h
  cases hb:Nat.beq p o
  ·rw[hb] at h';cases h'
  ·rw[dY hb] at hr
   exact hr
 |.dx k e,x,tv,v,h,hr=>by
  cases tv<;>first| (exact absurd (show none=some x from h) (by simp))|skip
  rename_i k' e' m
  obtain⟨e1,e2,e3⟩:=QN (show zW R m=some x from h)
  subst e1;subst e2;cases e3
  exact hr
 |.fn f a b,x,tv,v,h,hr=>by
  cases tv<;>first| (exact absurd (show none=some x from h) (by simp))|skip
  rename_i f' a' b'
  have h':(bif Nat.beq f' f then (match gD R a a' with
   |some x=>match gD R b b' with
    |some y=>some (x,y)
    |none=>none
   |none=>none) else none)=some x:=h
  cases hb:Nat.beq f' f
  ·rw[hb] at h';cases h'
  ·rw[hb,cond_true] at h'
   rw[dY hb] at hr
   obtain⟨va,vb,rfl,ha,hbb⟩:=hr.mZ
   cases h1:gD R a a' with
   |none=>simp only[h1] at h';cases h'
   |some y=>
    cases h2:gD R b b' with
    |none=>simp only[h1,h2] at h';cases h'
    |some z=>
     simp only[h1,h2] at h';cases h'
     show Rl R ρ top (.fn f (jV R .any a y) (jV R .any b z)) _
     unfold Rl;exact⟨va,vb,rfl,AO a y _ va h1 ha,AO b z _ vb h2 hbb⟩
 |.dG,x,tv,v,h,hr=>by
  cases tv<;>first| (exact absurd (show none=some x from h) (by simp))|skip
  exact hr
 |.vw o t,x,tv,v,h,hr=>by
  cases tv<;>first| (exact absurd (show none=some x from h) (by simp))|skip
  rename_i p t'
  have h':(bif Nat.beq p o then (if t'=t then some () else none) else none)=some x:=h
  cases hb:Nat.beq p o
  ·rw[hb] at h';cases h'
  ·rw[hb,cond_true] at h'
   split at h'
   ·rename_i e
    rw[dY hb,e] at hr
    exact hr
   ·cases h'
 |.sg l,x,tv,v,h,hr=>by
  cases tv<;>first| (exact absurd (show none=some x from h) (by simp))|skip
  rename_i ss
  show Rl R ρ top (.sg (qD l x)) v
  rw[Lv (show uf l ss=some x from h)]
  exact hr
 |.undef,x,tv,v,h,hr=>by
  cases tv<;>first| (exact absurd (show none=some x from h) (by simp))|skip
  exact hr
theorem AO:∀(l:List Sk) (x:aj R.T l) (cs:List (TV R.T)) (vs:List V),gD R l cs=some x→aA R ρ top cs vs→aA R ρ top (jV R .any l x) vs
 | [],x,cs,vs,h,hr=>by
   cases cs with
   |nil=>rw[hr.fP];rfl
   |cons c cs=>exact absurd (show none=some x from h) (by simp)
 | [k],x,cs,vs,h,hr=>by
   cases cs with
   |nil=>exact absurd (show none=some x from h) (by simp)
   |cons c cs=>
    cases cs with
    |nil=>
     obtain⟨v,l,rfl,h1,h2⟩:=hr.eD
     rw[h2.fP]
     show aA R ρ top [up R .any k x] _
     exact .cons' (QO k x _ v h h1) rfl
    |cons c' cs=>exact absurd (show none=some x from h) (by simp)
 |k::k'::l,x,cs,vs,h,hr=>by
  cases cs with
  |nil=>exact absurd (show none=some x from h) (by simp)
  |cons c cs=>
   have h':(match pk R k c with
    |some x=>match gD R (k'::l) cs with
     |some p=>some (x,p)
     |none=>none
    |none=>none)=some x:=h
   obtain⟨v,vs,rfl,h1,h2⟩:=hr.eD
   cases hu:pk R k c with
   |none=>simp only[hu] at h';cases h'
   |some y=>
    cases hs:gD R (k'::l) cs with
    |none=>simp only[hu,hs] at h';cases h'
    |some q=>
     simp only[hu,hs] at h'
     obtain rfl:=Option.some.inj h'
     show aA R ρ top (up R .any k y::jV R .any (k'::l) q) _
     exact .cons' (QO k y _ v hu h1) (AO (k'::l) q _ vs hs h2)
end
omit hR in
theorem aha {k:Sk} {j:Nat} {w:Bool} {y:TV R.T} {x:oG R.T k} (h:pk R k (.opt j w y)=some x):False:=by
 cases k with
 |d t=>cases t<;>(unfold pk at h;cases h)
 |_=>unfold pk at h;cases h
theorem gX.pk {k:Sk} {x:oG R.T k} {tv:TV R.T} {v:V} (h:pk R k tv=some x) (hr:gX fr ρ top tv v):Rl R ρ top (up R .any k x) v:=by
 cases tv<;>first|exact QO hR _ _ _ _ h hr|exact(aha h).elim
theorem QS (h:aG ρ b st fr σ):∀(l:List (Nat×Sk)) (x:xu R.T l),oJ R st.fr l=some x→∀i v,look (FE R l x) i=some v→Rl R ρ σ.top v (fr.tm i)
 | [],x,hx,i,v,hv=>by cases hv
 | [(j,k)],x,hx,i,v,hv=>by
   unfold oJ at hx
   split at hx
   ·rename_i y hy
    by_cases e:i=j
    ·subst e
     have hv':look [(i,up R .any k x)] i=some v:=hv
     rw[lM] at hv';cases hv'
     exact gX.pk hR hx (h.fr _ _ hy)
    ·have hv':look [(j,up R .any k x)] i=some v:=hv
     rw[jq _ _ e] at hv';cases hv'
   ·cases hx
 | (j,k)::q::l,x,hx,i,v,hv=>by
   unfold oJ at hx
   split at hx
   ·rename_i y hy
    cases hu:pk R k y with
    |none=>simp only[hu] at hx;cases hx
    |some z=>
     cases hs:oJ R st.fr (q::l) with
     |none=>simp only[hu,hs] at hx;cases hx
     |some p=>
      simp only[hu,hs] at hx
      obtain rfl:=Option.some.inj hx
      have hv':look ((j,up R .any k z)::FE R (q::l) p) i=some v:=hv
      by_cases e:i=j
      ·subst e
       rw[lM] at hv';cases hv'
       exact gX.pk hR hu (h.fr _ _ hy)
      ·rw[jq _ _ e] at hv'
       exact QS h (q::l) p hs i v hv'
   ·cases hx
theorem Xj {o:Nat} {k:nN} {x:xk R.T k} {y:Ob R.T} (hx:zX R k y=some x) (hy:eX ρ σ o y):eX ρ σ o (qE R k x):=by
 cases k with
 |cells l=>
  cases y with
  |cells cs=>
   obtain⟨s,vs,h1,h2,h3⟩:=hy
   exact⟨s,vs,h1,h2,AO hR l x _ vs hx h3⟩
  |map k e m=>cases hx
  |smap _ _=>cases hx
  |arr _ _=>cases hx
  |sg _=>cases hx
  |gone=>cases hx
  |ro b=>cases hx
 |st n=>
  cases y with
  |cells cs=>
   obtain⟨s,vs,h1,h2,h3⟩:=hy
   obtain⟨l,e,hl⟩:=(F5 hR (t:=.st n) (show mP R (.st n) (.agg cs)=some x from hx) (v:=.agg vs) ⟨vs,rfl,h3⟩).jM
   cases e
   exact⟨s,vs,h1,h2,hl⟩
  |map k e m=>cases hx
  |smap _ _=>cases hx
  |arr _ _=>cases hx
  |sg _=>cases hx
  |gone=>cases hx
  |ro b=>cases hx
 |arr t=>
  cases y with
  |arr t' l=>
   obtain⟨e,e2⟩:=pU hx
   subst e;cases e2
   exact hy
  |cells cs=>cases hx
  |map _ _ _=>cases hx
  |smap _ _=>cases hx
  |sg _=>cases hx
  |gone=>cases hx
  |ro b=>cases hx
 |sg l=>
  cases y with
  |sg ss=>
   show eX ρ σ o (.sg (qD l x))
   rw[Lv (show uf l ss=some x from hx)]
   exact hy
  |cells cs=>cases hx
  |map _ _ _=>cases hx
  |smap _ _=>cases hx
  |arr _ _=>cases hx
  |gone=>cases hx
  |ro b=>cases hx
 |map k e=>
  cases y with
  |map k' e' m=>
   obtain⟨e1,e2,e3⟩:=QN hx
   subst e1;subst e2;cases e3
   exact hy
  |cells cs=>cases hx
  |smap _ _=>cases hx
  |arr _ _=>cases hx
  |sg _=>cases hx
  |gone=>cases hx
  |ro b=>cases hx
theorem Xk (h:aG ρ b st fr σ):∀(l:List (Nat×nN)) (x:xq R.T l),pK R st.ob l=some x→∀i v,look (vo R l x) i=some v→eX ρ σ i v
 | [],x,hx,i,v,hv=>by cases hv
 | [(j,k)],x,hx,i,v,hv=>by
   unfold pK at hx
   split at hx
   ·rename_i y hy
    by_cases e:i=j
    ·subst e
     have hv':look [(i,qE R k x)] i=some v:=hv
     rw[lM] at hv';cases hv'
     exact Xj hR hx (h.ob _ _ hy)
    ·have hv':look [(j,qE R k x)] i=some v:=hv
     rw[jq _ _ e] at hv';cases hv'
   ·cases hx
 | (j,k)::q::l,x,hx,i,v,hv=>by
   unfold pK at hx
   split at hx
   ·rename_i y hy
    cases hu:zX R k y with
    |none=>simp only[hu] at hx;cases hx
    |some z=>
     cases hs:pK R st.ob (q::l) with
     |none=>simp only[hu,hs] at hx;cases hx
     |some p=>
      simp only[hu,hs] at hx
      obtain rfl:=Option.some.inj hx
      have hv':look ((j,qE R k z)::vo R (q::l) p) i=some v:=hv
      by_cases e:i=j
      ·subst e
       rw[lM] at hv';cases hv'
       exact Xj hR hu (h.ob _ _ hy)
      ·rw[jq _ _ e] at hv'
       exact Xk h (q::l) p hs i v hv'
   ·cases hx
theorem aG.pack (h:aG ρ b st fr σ) {s:Shape} {p:nO R.T s} (hp:pack R st s=some p):aG ρ b (unpack R s p) fr σ:=by
 obtain⟨sl,ob⟩:=s
 cases ob with
 |nil=>
  have hp':oJ R st.fr sl=some p:=hp
  exact {h with fr:=fun i v hv=>.of (QS hR h sl p hp' i v hv),ob:=fun i v hv=>by cases hv}
 |cons o os=>
  unfold Aq.pack at hp
  cases hu:oJ R st.fr sl with
  |none=>simp only[hu] at hp;cases hp
  |some x=>
   cases hs:pK R st.ob (o::os) with
   |none=>simp only[hu,hs] at hp;cases hp
   |some y=>
    simp only[hu,hs] at hp
    obtain rfl:=Option.some.inj hp
    exact {h with fr:=fun i v hv=>.of (QS hR h sl x hu i v hv),ob:=fun i v hv=>Xk hR h (o::os) y hs i v hv}
omit hR in
theorem Xl {e x:Ex} (h:xG e x=true):e=x:=by
 cases e<;>cases x<;>simp only[xG,Bool.false_eq_true] at h<;>first|rfl|rw[dY h]
omit hR in
def RO (st:MS R.T) (o:Nat):Prop:=∀x,look st.ob o=some x→mQ x=true
omit hR in
theorem Xm {k:nN} {x:xk R.T k} {y:Ob R.T} (hx:zX R k y=some x) (hy:mQ y=true):False:=by
 cases y with
 |cells _=>cases hy
 |map _ _ _=>cases hy
 |smap _ _=>cases hy
 |arr _ _=>cases hy
 |sg _=>cases hy
 |gone=>cases k<;>cases hx
 |ro b=>cases k<;>cases hx
omit hR in
theorem Xn {i:Nat} (hr:RO st i):∀(l:List (Nat×nN)) (x:xq R.T l),pK R st.ob l=some x→look (vo R l x) i=none
 | [],x,hx=>rfl
 | [(j,k)],x,hx=>by
   unfold pK at hx
   split at hx
   ·rename_i y hy
    by_cases e:i=j
    ·subst e;exact(Xm hx (hr _ hy)).elim
    ·show look [(j,qE R k x)] i=none
     rw[jq _ _ e];rfl
   ·cases hx
 | (j,k)::q::l,x,hx=>by
   unfold pK at hx
   split at hx
   ·rename_i y hy
    cases hu:zX R k y with
    |none=>simp only[hu] at hx;cases hx
    |some z=>
     cases hs:pK R st.ob (q::l) with
     |none=>simp only[hu,hs] at hx;cases hx
     |some p=>
      simp only[hu,hs] at hx
      obtain rfl:=Option.some.inj hx
      show look ((j,qE R k z)::vo R (q::l) p) i=none
      by_cases e:i=j
      ·subst e;exact(Xm hu (hr _ hy)).elim
      ·rw[jq _ _ e];exact Xn hr (q::l) p hs
   ·cases hx
omit hR in
theorem ahb {s:Shape} {p:nO R.T s} {i:Nat} (hp:Aq.pack R st s=some p) (hr:RO st i):look (unpack R s p).ob i=none:=by
 obtain⟨sl,ob⟩:=s
 cases ob with
 |nil=>rfl
 |cons o os=>
  unfold Aq.pack at hp
  cases hu:oJ R st.fr sl with
  |none=>simp only[hu] at hp;cases hp
  |some x=>
   cases hs:pK R st.ob (o::os) with
   |none=>simp only[hu,hs] at hp;cases hp
   |some y=>
    simp only[hu,hs] at hp
    obtain rfl:=Option.some.inj hp
    exact Xn hr (o::os) y hs
omit hR
theorem xP {α:Type}:∀(l m:List (Nat×α)) (i:Nat),look (l++m) i=match look l i with|some x=>some x|none=>look m i
 | [],m,i=>rfl
 | (j,x)::l,m,i=>by
   show (bif Nat.beq j i then some x else look (l++m) i)=match (bif Nat.beq j i then some x else look l i) with|some x=>some x|none=>look m i
   cases Nat.beq j i
   ·exact xP l m i
   ·rfl
theorem aG.over {st':MS R.T} (h:aG ρ b st fr σ) (h':aG ρ b st' fr σ):aG ρ b (st.over st') fr σ:={h with
 fr:=fun i v hv=>by
  have hv':look (st.fr++st'.fr) i=some v:=hv
  rw[xP] at hv'
  split at hv'
  ·rename_i x hx;cases hv';exact h.fr _ _ hx
  ·exact h'.fr _ _ hv'
 ob:=fun i v hv=>by
  have hv':look (st.ob++st'.ob) i=some v:=hv
  rw[xP] at hv'
  split at hv'
  ·rename_i x hx;cases hv';exact h.ob _ _ hx
  ·exact h'.ob _ _ hv'}
theorem uo {α:Type} {p:Nat→α→Bool} {f:α→α} {l:List (Nat×α)}:∀{is:List Nat} {i:Nat} {y:α},look (lI p f l is) i=some y→∃x,look l i=some x∧p i x=true∧y=f x
 | [],i,y,h=>by cases h
 |j::is,i,y,h=>by
  unfold lI at h
  split at h
  ·rename_i x hx
   cases hp:p j x
   ·rw[hp] at h;exact uo h
   ·rw[hp,cond_true] at h
    by_cases e:i=j
    ·subst e;rw[lM] at h;cases h;exact⟨x,hx,hp,rfl⟩
    ·rw[jq _ _ e] at h;exact uo h
  ·exact uo h
mutual
theorem Rl.solid {ρ':aO} {top':Nat→Nat} {W:List Nat} (ho:∀o,aZ o W=false→ρ'.ob o=ρ.ob o∧ρ'.ln o=ρ.ln o):∀(x:TV R.T) (v:V),Aq.solid W x=true→Rl R ρ top x v→Rl R ρ' top' x v
 |.ak c t l,v,hs,h=>by
  obtain⟨c',hv,hc⟩:=h
  refine⟨c',hv, ?_⟩
  cases c<;>first|exact hc| (simp[Aq.solid] at hs;done)
 |.ref o off,v,hs,h=>by
  obtain⟨s,h1,h2⟩:=h
  unfold Aq.solid at hs
  exact⟨s,by rw[(ho o (by simpa using hs)).1];exact h1,h2⟩
 |.cK o,v,hs,h=>by
  obtain⟨s,h1,h2⟩:=h
  unfold Aq.solid at hs
  exact⟨s,by rw[(ho o (by simpa using hs)).1];exact h1,h2⟩
 |.vw o t,v,hs,h=>by
  unfold Aq.solid at hs
  obtain⟨k1,k2⟩:=ho o (by simpa using hs)
  rcases h with ⟨s,h1,h2⟩| ⟨h1,h2⟩
  ·exact .inl ⟨s,by rw[k1];exact h1,by rw[k2];exact h2⟩
  ·exact .inr ⟨by rw[k2];exact h1,h2⟩
 |.kg o t i off,v,hs,h=>by
  obtain⟨s,h1,h2⟩:=h
  unfold Aq.solid at hs
  exact⟨s,by rw[(ho o (by simpa using hs)).1];exact h1,h2⟩
 |.sv o _ _ _ _ _,v,hs,h=>by
  obtain⟨s,h1,h2⟩:=h
  unfold Aq.solid at hs
  exact⟨s,by rw[(ho o (by simpa using hs)).1];exact h1,h2⟩
 |.sel o _ _ _ _ _,v,hs,h=>by
  obtain⟨s,h1,h2⟩:=h
  unfold Aq.solid at hs
  exact⟨s,by rw[(ho o (by simpa using hs)).1];exact h1,h2⟩
 |.sg _,_,_,h=>h
 |.pJ _ _ _ _,_,_,h=>h
 |.agg cs,v,hs,h=>by obtain⟨l,hv,hl⟩:=h;exact⟨l,hv,aA.solid ho cs l (by unfold Aq.solid at hs;exact hs) hl⟩
 |.bP cs,v,hs,h=>by obtain⟨l,hv,hl⟩:=h;exact⟨l,hv,aA.solid ho cs l (by unfold Aq.solid at hs;exact hs) hl⟩
 |.aK cs off,v,hs,h=>by obtain⟨l,hv,hl⟩:=h;exact⟨l,hv,aA.solid ho cs l (by unfold Aq.solid at hs;exact hs) hl⟩
 |.fn f a b,v,hs,h=>by
  obtain⟨a',b',hv,ha,hb⟩:=h
  unfold Aq.solid at hs
  rw[Bool.and_eq_true] at hs
  exact⟨a',b',hv,aA.solid ho a a' hs.1 ha,aA.solid ho b b' hs.2 hb⟩
 |.opt _ _ _,_,_,h=>h.elim
 |.int _ _,_,_,h=>h
 |.bool _,_,_,h=>h
 |.gU _,_,_,h=>h
 |.str _,_,_,h=>h
 |.fI,_,_,h=>h
 |.fu,_,_,h=>h
 |.eY,_,_,h=>h
 |.gN,_,_,h=>h
 |.dG,_,_,h=>h
 |.dx _ _ _,_,_,h=>h
 |.undef,_,_,h=>h
 |.gone,_,_,h=>trivial
theorem aA.solid {ρ':aO} {top':Nat→Nat} {W:List Nat} (ho:∀o,aZ o W=false→ρ'.ob o=ρ.ob o∧ρ'.ln o=ρ.ln o):∀(x:List (TV R.T)) (v:List V),oI W x=true→aA R ρ top x v→aA R ρ' top' x v
 | [],_,_,h=>h
 |x::xs,_,hs,⟨v,vs,e,h1,h2⟩=>by
  unfold oI at hs
  rw[Bool.and_eq_true] at hs
  exact⟨v,vs,e,Rl.solid ho x v hs.1 h1,aA.solid ho xs vs hs.2 h2⟩
end
theorem ahc {x:TV R.T} {v:V} (h:gX fr ρ top x v):gX fr ρ top (Qg x) v:=by
 cases x with
 |ak c t l=>
  cases c with
  |own u=>obtain⟨c',hv,_⟩:=Rl.jY (show Rl R ρ top (.ak (.own u) t l) v from h);exact .of (x:=.ak .any t l) (by unfold Rl;exact⟨c',hv,trivial⟩)
  |_=>exact h
 |_=>exact h
theorem ahd {W:List Nat} {x:TV R.T} {v:V} (hs:Aq.solid W x=true) (h:gX fr ρ top x v):Rl R ρ top x v:=by
 cases x<;>first|exact h| (simp[Aq.solid] at hs;done)
structure bB (nr:Bool) (o:Nat) (st:MS R.T) (ρ:aO) (σ:ah) (st':MS R.T) (ρ':aO) (σ':ah):Prop where
 ob:ρ'.ob o=ρ.ob o
 ln:ρ'.ln o=ρ.ln o
 om:ρ'.om=ρ.om
 nx:σ.next≤σ'.next
 lp:∀l,l<σ.next→σ'.loops l=σ.loops l
 dp:nr=true→∀a o,1<a→σ'.obj (a,o)=σ.obj (a,o)
 ro:RO st o→RO st' o∧∀s,σ'.cu (1,o) s=σ.cu (1,o) s∧σ'.fH (1,o) s=σ.fH (1,o) s
structure Kp (nr:Bool) (W:List Nat) (st:MS R.T) (fr:Fr) (σ:ah) (ρ:aO) (st':MS R.T) (fr':Fr) (σ':ah) (ρ':aO):Prop where
 fr:∀i,aZ i W=false→fr'.tm i=fr.tm i
 ob:∀o,aZ o W=false→bB nr o st ρ σ st' ρ' σ'
section
variable {nr:Bool}
theorem QT {o s a' o':Nat} {x:fV} (h:1<a'):(σ.setObj (1,o) s x).obj (a',o')=σ.obj (a',o'):=by
 unfold ah.setObj upd
 dsimp only
 rw[if_neg]
 intro e
 have:=congrArg Prod.fst e
 dsimp only at this
 omega
theorem ahe {o a' o':Nat} (h:1<a'):(σ.jQ (1,o)).obj (a',o')=σ.obj (a',o'):=by
 unfold ah.jQ upd
 dsimp only
 rw[if_neg]
 intro e
 have:=congrArg Prod.fst e
 dsimp only at this
 omega
theorem bB.refl {o:Nat}:bB nr o st ρ σ st ρ σ:=⟨rfl,rfl,rfl,Nat.le_refl _,fun _ _=>rfl,fun _ _ _ _=>rfl,fun h=>⟨h,fun _=>⟨rfl,rfl⟩⟩⟩
theorem bB.trans {o:Nat} {st' fT:MS R.T} {ρ' nk:aO} {σ' kD:ah} (h:bB nr o st ρ σ st' ρ' σ') (g:bB nr o st' ρ' σ' fT nk kD):bB nr o st ρ σ fT nk kD:=
 ⟨g.ob.trans h.ob,g.ln.trans h.ln,g.om.trans h.om,Nat.le_trans h.nx g.nx,fun l hl=>(g.lp l (Nat.lt_of_lt_of_le hl h.nx)).trans (h.lp l hl),fun hn a o ha=>(g.dp hn a o ha).trans (h.dp hn a o ha),fun hr=>⟨(g.ro (h.ro hr).1).1,fun s=>⟨((g.ro (h.ro hr).1).2 s).1.trans ((h.ro hr).2 s).1,((g.ro (h.ro hr).1).2 s).2.trans ((h.ro hr).2 s).2⟩⟩⟩
theorem Kp.refl {W:List Nat}:Kp nr W st fr σ ρ st fr σ ρ:=⟨fun _ _=>rfl,fun _ _=>.refl⟩
theorem Kp.trans {W:List Nat} {st' fT:MS R.T} {fr' vM:Fr} {ρ' nk:aO} {σ' kD:ah} (h:Kp nr W st fr σ ρ st' fr' σ' ρ') (g:Kp nr W st' fr' σ' ρ' fT vM kD nk):Kp nr W st fr σ ρ fT vM kD nk:=
 ⟨fun i hi=>(g.fr i hi).trans (h.fr i hi),fun o ho=>(h.ob o ho).trans (g.ob o ho)⟩
theorem Kp.mono {W W':List Nat} {st':MS R.T} {fr':Fr} {ρ':aO} {σ':ah} (h:Kp nr W st fr σ ρ st' fr' σ' ρ') (hw:∀i,aZ i W'=false→aZ i W=false):Kp nr W' st fr σ ρ st' fr' σ' ρ':=
 ⟨fun i hi=>h.fr i (hw i hi),fun o ho=>h.ob o (hw o ho)⟩
theorem F6:∀(i:Nat) (l m:List Nat),aZ i (l++m)=(aZ i l||aZ i m)
 |i,[],m=>rfl
 |i,j::l,m=>by show (Nat.beq i j||aZ i (l++m))=_;rw[F6 i l m,←Bool.or_assoc];rfl
theorem Xo {o:Nat} {ρ':aO} {σ':ah} {W:List Nat} (ho:∀o,aZ o W=false→ρ'.ob o=ρ.ob o∧ρ'.ln o=ρ.ln o) (hm:aZ o W=false) (hc:∀s,σ'.cu (1,o) s=σ.cu (1,o) s∧σ'.fH (1,o) s=σ.fH (1,o) s):∀{x:Ob R.T},kY W x=true→eX ρ σ o x→eX ρ' σ' o x
 |.cells cs,hs,h=>by
  obtain⟨s,l,h1,h2,h3⟩:=h
  exact⟨s,l,by rw[(ho o hm).1];exact h1,by rw[(hc s).1];exact h2,aA.solid ho cs l hs h3⟩
 |.map k e m,_,h=>by obtain⟨s,h1,h2⟩:=h;exact⟨s,by rw[(ho o hm).1];exact h1,by rw[(hc s).2];exact h2⟩
 |.smap ks vs,hs,h=>by
  obtain⟨s,k,l,h1,h2,h3,h4⟩:=h
  have hs':(oI W ks&& oI W vs)=true:=hs
  rw[Bool.and_eq_true] at hs'
  exact⟨s,k,l,by rw[(ho o hm).1];exact h1,by rw[(hc s).2];exact h2,aA.solid ho ks k hs'.1 h3,aA.solid ho vs l hs'.2 h4⟩
 |.arr t l,_,h=>by
  refine⟨h.1.trans (ho o hm).2.symm, ?_⟩
  rcases h.2 with h| ⟨s,cs,h1,h2,h3⟩
  ·exact .inl ⟨h.1,(ho o hm).1.trans h.2⟩
  ·exact .inr ⟨s,cs,by rw[(ho o hm).1];exact h1,by rw[(hc s).1];exact h2,vJ l cs h3⟩
 |.sg ss,_,h=>by obtain⟨s,h1,h2⟩:=h;exact⟨s,by rw[(ho o hm).1];exact h1,by rw[(hc s).1];exact h2⟩
 |.gone,_,_=>trivial
 |.ro b,hs,h=>Xo ho hm hc (x:=b) hs h
theorem aG.base {W K O:List Nat} {mark:Ob R.T→Ob R.T} (hmark:∀ρ σ o x,eX ρ σ o x→eX (R:=R) ρ σ o (mark x)) {st0 st' fT:MS R.T} {fr':Fr} {ρ':aO} {σ':ah} {b':Nat} (h:aG ρ b st fr σ) (hk:Kp nr W st0 fr σ ρ st' fr' σ' ρ') (h':aG ρ' b' fT fr' σ')
 (hro:∀o x,look st.ob o=some x→aZ o W=false→aZ o O=true→kY W x=true→RO st0 o):aG ρ' b' (Aq.base W K O mark st) fr' σ':={h' with
 fr:=fun i v hv=>by
  obtain⟨x,h1,h2,rfl⟩:=uo hv
  rw[Bool.and_eq_true,Bool.not_eq_true'] at h2
  have:=ahd h2.2 (ahc (h.fr _ _ h1))
  rw[hk.fr i h2.1]
  exact .of (Rl.solid (fun o ho=>⟨(hk.ob o ho).ob,(hk.ob o ho).ln⟩) _ _ h2.2 this)
 ob:=fun o y hy=>by
  have hO:aZ o O=true:=by
   have:∀{is:List Nat} {y:Ob R.T},look (lI (fun o b=> !(aZ o W)&& kY W b) mark st.ob is) o=some y→aZ o is=true:=by
    intro is
    induction is with
    |nil=>intro y h;cases h
    |cons j is ih=>
     intro y h
     show (Nat.beq o j||aZ o is)=true
     unfold lI at h
     by_cases e:o=j
     ·subst e;rw[Nat.beq_refl];rfl
     ·split at h
      ·rename_i x hx
       cases hp:(!(aZ j W)&& kY W x)
       ·rw[hp] at h;rw[ih h,Bool.or_true]
       ·rw[hp,cond_true,jq _ _ e] at h;rw[ih h,Bool.or_true]
      ·rw[ih h,Bool.or_true]
   exact this hy
  obtain⟨x,h1,h2,rfl⟩:=uo hy
  rw[Bool.and_eq_true,Bool.not_eq_true'] at h2
  have hc:=((hk.ob o h2.1).ro (hro o x h1 h2.1 hO h2.2)).2
  exact hmark _ _ _ _ (Xo (fun o ho=>⟨(hk.ob o ho).ob,(hk.ob o ho).ln⟩) h2.1 hc h2.2 (h.ob _ _ h1))}
theorem QU {W K O:List Nat} {st':MS R.T} {o:Nat} {x:Ob R.T} (h1:look st.ob o=some x) (h2:aZ o W=false) (h3:aZ o O=true) (h4:kY W x=true):RO ((Aq.base W K O .ro st).over st') o:=by
 intro y hy
 have hl:∃z,look (lI (fun o b=> !(aZ o W)&& kY W b) Ob.ro st.ob O) o=some (.ro z):=by
  have:∀is:List Nat,aZ o is=true→∃z,look (lI (fun o b=> !(aZ o W)&& kY W b) Ob.ro st.ob is) o=some (.ro z):=by
   intro is
   induction is with
   |nil=>intro h;cases h
   |cons j is ih=>
    intro h
    by_cases e:o=j
    ·subst e
     unfold lI
     rw[h1]
     dsimp only
     rw[h2,h4]
     exact⟨x,lM _ _ _⟩
    ·have h':(Nat.beq o j||aZ o is)=true:=h
     rw[Lu e,Bool.false_or] at h'
     obtain⟨z,hz⟩:=ih h'
     refine⟨z, ?_⟩
     unfold lI
     split
     ·rename_i w hw
      cases (!(aZ j W)&& kY W w)
      ·exact hz
      ·rw[cond_true,jq _ _ e];exact hz
     ·exact hz
  exact this O h3
 obtain⟨z,hz⟩:=hl
 have hy':look (lI (fun o b=> !(aZ o W)&& kY W b) Ob.ro st.ob O++st'.ob) o=some y:=hy
 rw[xP,hz] at hy'
 cases hy';rfl
theorem ahf {t:Nat}:∀{x:Ob R.T},mQ x=true→mQ (Ob.wk t x)=true
 |.ro _,_=>rfl
 |.gone,_=>rfl
 |.cells _,h=>by cases h
 |.map _ _ _,h=>by cases h
 |.smap _ _,h=>by cases h
 |.arr _ _,h=>by cases h
theorem Xp {t:Nat} {x:Ob R.T} (h:mQ x=true):mQ (Ob.kill t x)=true:=by
 unfold Ob.kill
 cases Ob.ko t x
 ·exact h
 ·rfl
theorem bB.wk {p t s n:Nat}:bB nr p st ρ σ (st.wk t) (ρ.iA t s) (σ.dn s n):=⟨rfl,rfl,rfl,Nat.le_refl _,fun _ _=>rfl,fun _ _ _ _=>rfl,fun hr=>⟨fun x hx=>by
 have hx':look (kr (Ob.wk t) st.ob) p=some x:=hx
 rw[pV,Option.map_eq_some_iff] at hx'
 obtain⟨z,hz,rfl⟩:=hx'
 exact ahf (hr z hz),fun _=>⟨rfl,rfl⟩⟩⟩
theorem bB.set {o q s:Nat} {x y:Ob R.T} {a:fV} (hl:look st.ob o=some y) (hy:mQ y=false):bB nr q st ρ σ (st.set o x) ρ (σ.setObj (1,o) s a):=⟨rfl,rfl,rfl,Nat.le_refl _,fun _ _=>rfl,fun _ _ _ ha=>QT ha,fun hr=>by
 have hne:q≠o:=by rintro rfl;rw[hr y hl] at hy;cases hy
 refine⟨fun z hz=> ?_,fun s'=>⟨vK _ _ _ _ hne,AB _ _ _ _ hne⟩⟩
 have hz':look ((o,x)::gV o st.ob) q=some z:=hz
 rw[jq _ _ hne,nU hne] at hz'
 exact hr z hz'⟩
theorem bB.new {o q s:Nat} {x:Ob R.T} {a:fV} (hne:q≠o):bB nr q st ρ σ (st.new o x) (ρ.kC o s) (σ.setObj (1,o) s a):=⟨by simp[aO.kC,upd,hne],rfl,rfl,Nat.le_refl _,fun _ _=>rfl,fun _ _ _ ha=>QT ha,fun hr=>by
 refine⟨fun z hz=> ?_,fun s'=>⟨vK _ _ _ _ hne,AB _ _ _ _ hne⟩⟩
 have hz':look ((o,x)::kr (Ob.kill o) (gV o st.ob)) q=some z:=hz
 rw[jq _ _ hne,pV,nU hne,Option.map_eq_some_iff] at hz'
 obtain⟨w,hw,rfl⟩:=hz'
 exact Xp (hr w hw)⟩
theorem lN {d:Option Nat} {v:TV R.T}:(st.eZ d v).ob=st.ob:=by cases d<;>rfl
theorem bB.same {st':MS R.T} {o:Nat} (h:st'.ob=st.ob):bB nr o st ρ σ st' ρ σ:=⟨rfl,rfl,rfl,Nat.le_refl _,fun _ _=>rfl,fun _ _ _ _=>rfl,fun hr=>⟨fun x hx=>hr x (by rw[←h];exact hx),fun _=>⟨rfl,rfl⟩⟩⟩
theorem bB.congr {st' fT:MS R.T} {ρ':aO} {σ':ah} {o:Nat} (h:bB nr o st ρ σ st' ρ' σ') (e:fT.ob=st'.ob):bB nr o st ρ σ fT ρ' σ':=⟨h.ob,h.ln,h.om,h.nx,h.lp,h.dp,fun hr=>⟨fun x hx=>(h.ro hr).1 x (by rw[←e];exact hx),(h.ro hr).2⟩⟩
theorem bB.from {st' fT:MS R.T} {ρ':aO} {σ':ah} {o:Nat} (h:bB nr o st ρ σ st' ρ' σ') (e:st.ob=fT.ob):bB nr o fT ρ σ st' ρ' σ':=⟨h.ob,h.ln,h.om,h.nx,h.lp,h.dp,fun hr=>h.ro fun x hx=>hr x (by rw[←e];exact hx)⟩
theorem Kp.op {d:Option Nat} {W:List Nat} {y:V} {st':MS R.T} {ρ':aO} {σ':ah} (hd:∀p,aZ p W=false→d≠some p) (h:∀p,d≠some p→bB nr p st ρ σ st' ρ' σ'):Kp nr W st fr σ ρ st' (fr.put d y) σ' ρ':=
 ⟨fun i hi=>by
   cases d with
   |none=>rfl
   |some j=>exact tV _ _ (by have:=hd i hi;simp at this;simpa using fun e=>this e.symm),fun p hp=>h p (hd p hp)⟩
theorem Xq {W K O:List Nat} {st':MS R.T} {o:Nat} (h:look st'.ob o=none):RO ((Aq.base W K O .ro st).over st') o:=by
 intro y hy
 have hy':look (lI (fun o b=> !(aZ o W)&& kY W b) Ob.ro st.ob O++st'.ob) o=some y:=hy
 rw[xP] at hy'
 split at hy'
 ·rename_i x hx
  cases hy'
  obtain⟨z,_,_,rfl⟩:=uo hx
  rfl
 ·rw[h] at hy';cases hy'
theorem Lx {st':MS R.T} {o:Nat} (h1:RO st o) (h2:RO st' o):RO (st.over st') o:=by
 intro y hy
 have hy':look (st.ob++st'.ob) o=some y:=hy
 rw[xP] at hy'
 split at hy'
 ·rename_i x hx;cases hy';exact h1 _ hx
 ·exact h2 _ hy'
theorem Xr {W K O:List Nat} {mark:Ob R.T→Ob R.T} {o:Nat} (hm:∀x,mQ x=true→mQ (mark x)=true) (h:RO st o):RO (Aq.base W K O mark st) o:=by
 intro y hy
 obtain⟨x,h1,_,rfl⟩:=uo hy
 exact hm _ (h _ h1)
theorem finish {W K O:List Nat} {H S' fT:MS R.T} {fr':Fr} {ρ':aO} {σ':ah} {b':Nat} (hi:aG ρ b st fr σ) (hH:∀o,aZ o W=false→RO st o→RO H o) (hro:∀o x,look st.ob o=some x→aZ o W=false→aZ o O=true→kY W x=true→RO H o)
 (hk:Kp nr W H fr σ ρ S' fr' σ' ρ') (hi':aG ρ' b' fT fr' σ') (hn:∀o,aZ o W=false→RO H o→look fT.ob o=none):
 aG ρ' b' ((Aq.base W K O (fun b=>b) st).over fT) fr' σ'∧Kp nr W st fr σ ρ ((Aq.base W K O (fun b=>b) st).over fT) fr' σ' ρ':=by
 have hk2:Kp nr W H fr σ ρ fT fr' σ' ρ':=⟨hk.fr,fun o ho=>⟨(hk.ob o ho).ob,(hk.ob o ho).ln,(hk.ob o ho).om,(hk.ob o ho).nx,(hk.ob o ho).lp,(hk.ob o ho).dp,fun hr=>⟨fun x hx=>(by rw[hn o ho hr] at hx;cases hx),((hk.ob o ho).ro hr).2⟩⟩⟩
 refine⟨(hi.base (fun _ _ _ _ h=>h) hk2 hi' hro).over hi',hk.fr,fun o ho=>⟨(hk.ob o ho).ob,(hk.ob o ho).ln,(hk.ob o ho).om,(hk.ob o ho).nx,(hk.ob o ho).lp,(hk.ob o ho).dp,fun hr=>⟨?_,((hk.ob o ho).ro (hH o ho hr)).2⟩⟩⟩
 exact Lx (Xr (fun _ h=>h) hr) fun x hx=>(by rw[hn o ho (hH o ho hr)] at hx;cases hx)
theorem AP:∀W:List Nat,∃n,∀m,n≤m→aZ m W=false
 | []=>⟨0,fun _ _=>rfl⟩
 |i::W=>by
  obtain⟨n,hn⟩:=AP W
  refine⟨n+i+1,fun m hm=> ?_⟩
  show (Nat.beq m i||aZ m W)=false
  rw[Lu (by omega),hn m (by omega)];rfl
theorem Kp.om {W:List Nat} {st':MS R.T} {fr':Fr} {ρ':aO} {σ':ah} (h:Kp nr W st fr σ ρ st' fr' σ' ρ'):ρ'.om=ρ.om:=by
 obtain⟨n,hn⟩:=AP W
 exact(h.ob n (hn n (Nat.le_refl _))).om
theorem Xt {x:TV R.T} {v:V} (hx:zY x=true) (h:gX fr ρ top x v):v= .ak .nil []∨v= .ak .full []:=by
 cases x<;>first| (cases hx;done)|skip
 ·exact .inl (Rl.nT (R:=R) (show Rl R ρ top .dG v from h))
 ·rename_i c t l
  obtain⟨c',hv,hc⟩:=Rl.jY (R:=R) (show Rl R ρ top (.ak c t l) v from h)
  cases c<;>first| (cases hx;done)|skip
  ·have:l=[]:=by simpa [zY] using hx
   subst this
   have hc':c'= .nil:=hc
   rw[hc'] at hv;exact .inl hv
  ·have:l=[]:=by simpa [zY] using hx
   subst this
   have hc':c'= .full:=hc
   rw[hc'] at hv;exact .inr hv
theorem F7 {W:List Nat}:∀(l:List (Nat×Sk)) (st:MS R.T) (ρ:aO),aG ρ b st fr σ→∃ρ',aG ρ' b (nR W l st) fr σ∧Kp nr W st fr σ ρ (nR W l st) fr σ ρ'
 | [],st,ρ,h=>⟨ρ,h,.refl⟩
 | (i,k)::l,st,ρ,h=>by
   have other:nR W ((i,k)::l) st=nR W l st→∃ρ',aG ρ' b (nR W ((i,k)::l) st) fr σ∧Kp nr W st fr σ ρ (nR W ((i,k)::l) st) fr σ ρ':=fun e=>by
    rw[e];exact F7 l st ρ h
   cases k<;>first|exact other rfl|skip
   rename_i o t
   unfold nR
   split
   ·rename_i v hv
    cases hb:(zY v&& aZ o W)
    ·exact F7 l st ρ h
    ·rw[cond_true]
     rw[Bool.and_eq_true] at hb
     have hg:=h.ghost o t
     have hE:=Xt hb.1 (h.fr _ _ hv)
     have ahg:aG (ρ.gh o) b (⟨(i,.vw o t)::(st.new o (.arr t [])).fr,(st.new o (.arr t [])).ob⟩:MS R.T) fr σ:={hg with
      fr:=fun j y hy=>by
       by_cases e:j=i
       ·subst e
        have hy':look ((j,TV.vw o t)::(st.new o (.arr t [])).fr) j=some y:=hy
        rw[lM] at hy';cases hy'
        exact .of (by unfold Rl;exact .inr ⟨F4 (ρ:=ρ) (n:=0),hE⟩)
       ·have hy':look ((i,TV.vw o t)::(st.new o (.arr t [])).fr) j=some y:=hy
        rw[jq _ _ e] at hy'
        exact hg.fr j y hy'
      ob:=hg.ob}
     obtain⟨ρ',h1,h2⟩:=F7 (W:=W) l _ _ ahg
     refine⟨ρ',h1,Kp.trans ⟨fun _ _=>rfl,fun p hp=> ?_⟩ h2⟩
     have hne:p≠o:=by rintro rfl;rw[hb.2] at hp;cases hp
     refine⟨(AL p hne).1,(AL p hne).2,rfl,Nat.le_refl _,fun _ _=>rfl,fun _ _ _ _=>rfl,fun hr=>⟨fun x hx=> ?_,fun _=>⟨rfl,rfl⟩⟩⟩
     have hx':look ((o,Ob.arr t [])::kr (Ob.kill o) (gV o st.ob)) p=some x:=hx
     rw[jq _ _ hne,pV,nU hne,Option.map_eq_some_iff] at hx'
     obtain⟨w,hw,rfl⟩:=hx'
     exact Xp (hr w hw)
   ·exact F7 l st ρ h
section
variable (hR:mX R)
include hR
omit hR in
theorem Xu {W:List Nat}:∀{l:List (Nat×Sk)},st.fr=[]→nR W l st=st
 | [],_=>rfl
 | (i,k)::l,h=>by
   have:=Xu (W:=W) (l:=l) h
   cases k<;>first|exact this|skip
   unfold nR
   rw[h];exact this
omit hR in
theorem Xv:∀{l:List (Nat×Sk)} {p:xu R.T l},oJ R [] l=some p→l=[]
 | [],_,_=>rfl
 | [(i,k)],p,h=>by cases h
 | (i,k)::q::l,p,h=>by cases h
omit hR in
theorem ahh {W:List Nat} (he:st.fr=[]) {s:Shape} {p:nO R.T s} (hp:Aq.jW R W st s=some p):(unpack R s p).fr=[]:=by
 unfold Aq.jW at hp
 rw[Xu he] at hp
 obtain⟨sl,ob⟩:=s
 cases ob with
 |nil=>
  have hp':oJ R st.fr sl=some p:=hp
  rw[he] at hp'
  have:=Xv hp'
  subst this;rfl
 |cons o os=>
  unfold Aq.pack at hp
  rw[he] at hp
  cases hu:oJ R [] sl with
  |none=>simp only[hu] at hp;cases hp
  |some x=>
   have:=Xv hu
   subst this;rfl
theorem aG.jW {W:List Nat} (h:aG ρ b st fr σ) {s:Shape} {p:nO R.T s} (hp:Aq.jW R W st s=some p):∃ρ' S',aG ρ' b (unpack R s p) fr σ∧Kp nr W st fr σ ρ S' fr σ ρ'∧(st.fr=[]→(unpack R s p).fr=[])∧∀i,aZ i W=false→RO st i→look (unpack R s p).ob i=none:=by
 obtain⟨ρ',h1,h2⟩:=F7 (W:=W) s.sl st ρ h
 exact⟨ρ',_,h1.pack hR hp,h2,fun he=>ahh he hp,fun i hi hr=>ahb hp ((h2.ob i hi).ro hr).1⟩
theorem AQ {β:Type} {W:List Nat} (h:aG ρ b st fr σ) {e:Ex}:∀{l:List (Ex×Shape)} {o:Out R.T l},pO R W e st l=some o→∃ρ' S' st',aG ρ' b st' fr σ∧Kp nr W st fr σ ρ S' fr σ ρ'∧(st.fr=[]→st'.fr=[])∧(∀i,aZ i W=false→RO st i→look st'.ob i=none)∧∀(k:Ex→MS R.T→Option β) (bs:MS R.T),rW R bs k l o=k e (bs.over st')
 | [],o,hp=>by cases hp
 | [(x,s)],o,hp=>by
   have hp':(bif xG e x then Aq.jW R W st s else none)=some o:=hp
   cases hb:xG e x
   ·rw[hb] at hp';cases hp'
   ·rw[hb,cond_true] at hp'
    have:=Xl hb;subst this
    obtain⟨ρ',S',h1,h2,h0,h3⟩:=h.jW hR hp'
    exact⟨ρ',S',_,h1,h2,h0,h3,fun k bs=>rfl⟩
 | (x,s)::q::l,o,hp=>by
   unfold pO at hp
   cases hb:xG e x
   ·rw[hb,cond_false] at hp
    cases hu:pO R W e st (q::l) with
    |none=>simp only[hu] at hp;cases hp
    |some y=>
     simp only[hu] at hp
     obtain rfl:=Option.some.inj hp
     obtain⟨ρ',S',st',h1,h3,h0,h4,h2⟩:=AQ (β:=β) h hu
     exact⟨ρ',S',st',h1,h3,h0,h4,fun k bs=>h2 k bs⟩
   ·rw[hb,cond_true] at hp
    have:=Xl hb;subst this
    cases hu:Aq.jW R W st s with
    |none=>simp only[hu] at hp;cases hp
    |some y=>
     simp only[hu] at hp
     obtain rfl:=Option.some.inj hp
     obtain⟨ρ',S',h1,h2,h0,h3⟩:=h.jW hR hu
     exact⟨ρ',S',_,h1,h2,h0,h3,fun k bs=>rfl⟩
end
end
end
end Aq
end
