/- Part of the proof of a law. -/
import Derived.Test.YteniejlbjfigdaaGreatDoorV08
set_option linter.all false
set_option linter.unusedSimpArgs false
set_option linter.unusedSectionVars false
section
namespace Aq
open Go
set_option linter.unusedSectionVars false
set_option linter.unusedVariables false
structure aS where
 ob:Nat→Option Nat
 tk:Nat→Option Nat
 ln:Nat→Nat
 om:Bool
section
variable (R:jB)
def nJ:Ty→Bool
 |.st _=>false
 |_=>true
structure oh:Prop where
 G7:∀n p,R.of n (R.to n p)=p
 enc:∀n x,R.enc n x= .agg (encs R (R.lf n) (R.of n x))
 leaf:∀n,(R.lf n).all nJ=true
 pc:∀n x,aA (R.enc n x)=true
def Du (ρ:aS) (top:Nat→Nat) (sz len:Nat):Cp→Cap→Prop
 |.any,_=>True
 |.sh,c=>c= .sh
 |.nil,c=>c= .nil
 |.full,c=>c= .full
 |.own t,c=>c= .nil∨c= .full∨∃s,c= .own sz s∧ρ.tk t=some s∧top s=len
mutual
def Rl (ρ:aS) (top:Nat→Nat):TV R.T→V→Prop
 |.int k n,v=>v= .int k n
 |.bool b,v=>v= .bool b
 |.iM b,v=>v= .bool b
 |.str s,v=>v= .str s
 |.fU,v=>v= .fU
 |.fB,v=>v= .fB
 |.eY,v=>v= .eY
 |.iA,v=>v= .iA
 |.dK,v=>v= .aj .nil []
 |.agg cs,v=> ∃l,v= .agg l∧aB ρ top cs l
 |.bJ cs,v=> ∃l,v= .bJ l∧aB ρ top cs l
 |.aj c t l,v=> ∃c',v= .aj c' (l.map (aD R t))∧Du ρ top (dB R t) l.length c c'
 |.ref o off,v=> ∃s,ρ.ob o=some s∧v= .ref (1,o) s off
 |.aM cs off,v=> ∃l,v= .aM l off∧aB ρ top cs l
 |.cK o,v=> ∃s,ρ.ob o=some s∧v= .cK (1,o) s
 |.dD k e m,v=>v= .dD (m.map fun p=>aD R k p.1) (m.map fun p=>aD R e p.2)
 |.fn f a b,v=> ∃a' b',v= .fn (.func f) a' b'∧aB ρ top a a'∧aB ρ top b b'
 |.opt _ _ _,_=>False
 |.vw o t,v=>(∃s,ρ.ob o=some s∧v= .vw (1,o) s 0 (ρ.ln o) (ρ.ln o) (dB R t) (iQ t))∨(ρ.ln o=0∧(v= .aj .nil []∨v= .aj .full []))
 |.kZ o t i off,v=> ∃s,ρ.ob o=some s∧0≤i∧v= .ref (1,o) s (i.toNat*dB R t+off)
 |.sg ss,v=>v= .agg (bW ss)
 |.sv o off k n lo hi,v=> ∃s,ρ.ob o=some s∧nH n lo hi=true∧v= .vw (1,o) s (off+(dQ lo).toNat) ((gJ n hi).toNat-(dQ lo).toNat) (n-(dQ lo).toNat) 1 false
 |.sel o off k n i m,v=> ∃s,ρ.ob o=some s∧0≤i∧i.toNat+m≤n∧v= .ref (1,o) s (off+i.toNat)
 |.qW k n x i,v=>0≤i∧i<n∧v= .aM (x.l.map (V.int k)) i.toNat
 |.undef,v=>v=ay
 |.gone,_=>True
def aB (ρ:aS) (top:Nat→Nat):List (TV R.T)→List V→Prop
 | [],l=>l=[]
 |t::ts,l=> ∃v vs,l=v::vs∧Rl ρ top t v∧aB ρ top ts vs
end
variable {R}
variable {ρ ρ':aS} {top top':Nat→Nat}
theorem aB.gK {vs:List V} (h:aB R ρ top [] vs):vs=[]:=by unfold aB at h;exact h
theorem aB.eO {t:TV R.T} {ts:List (TV R.T)} {vs:List V} (h:aB R ρ top (t::ts) vs):∃v l,vs=v::l∧Rl R ρ top t v∧aB R ρ top ts l:=by unfold aB at h;exact h
theorem Rl.gL {k:IntKind} {n:Int} {v:V} (h:Rl R ρ top (.int k n) v):v= .int k n:=by unfold Rl at h;exact h
theorem Rl.qw {b:Bool} {v:V} (h:Rl R ρ top (.bool b) v):v= .bool b:=by unfold Rl at h;exact h
theorem Rl.sS {b:Bool} {v:V} (h:Rl R ρ top (.iM b) v):v= .bool b:=by unfold Rl at h;exact h
theorem Rl.mo {b:List UInt8} {v:V} (h:Rl R ρ top (.str b) v):v= .str b:=by unfold Rl at h;exact h
theorem Rl.o8 {v:V} (h:Rl R ρ top .dK v):v= .aj .nil []:=by unfold Rl at h;exact h
theorem Rl.kD {cs:List (TV R.T)} {v:V} (h:Rl R ρ top (.agg cs) v):∃l,v= .agg l∧aB R ρ top cs l:=by unfold Rl at h;exact h
theorem Rl.M5 {cs:List (TV R.T)} {v:V} (h:Rl R ρ top (.bJ cs) v):∃l,v= .bJ l∧aB R ρ top cs l:=by unfold Rl at h;exact h
theorem Rl.kQ {c:Cp} {t:Ty} {l:List (Den R.T t)} {v:V} (h:Rl R ρ top (.aj c t l) v):∃c',v= .aj c' (l.map (aD R t))∧Du ρ top (dB R t) l.length c c':=by unfold Rl at h;exact h
theorem Rl.oo {o off:Nat} {v:V} (h:Rl R ρ top (.ref o off) v):∃s,ρ.ob o=some s∧v= .ref (1,o) s off:=by unfold Rl at h;exact h
theorem Rl.uH {cs:List (TV R.T)} {off:Nat} {v:V} (h:Rl R ρ top (.aM cs off) v):∃l,v= .aM l off∧aB R ρ top cs l:=by unfold Rl at h;exact h
theorem Rl.vV {o:Nat} {v:V} (h:Rl R ρ top (.cK o) v):∃s,ρ.ob o=some s∧v= .cK (1,o) s:=by unfold Rl at h;exact h
theorem Rl.Dv {k e:Ty} {m:List (Den R.T k×Den R.T e)} {v:V} (h:Rl R ρ top (.dD k e m) v):v= .dD (m.map fun p=>aD R k p.1) (m.map fun p=>aD R e p.2):=by unfold Rl at h;exact h
theorem Rl.oq {f:Nat} {a b:List (TV R.T)} {v:V} (h:Rl R ρ top (.fn f a b) v):∃a' b',v= .fn (.func f) a' b'∧aB R ρ top a a'∧aB R ρ top b b':=by unfold Rl at h;exact h
theorem Rl.Dw {o:Nat} {t:Ty} {v:V} (h:Rl R ρ top (.vw o t) v):(∃s,ρ.ob o=some s∧v= .vw (1,o) s 0 (ρ.ln o) (ρ.ln o) (dB R t) (iQ t))∨(ρ.ln o=0∧(v= .aj .nil []∨v= .aj .full [])):=by unfold Rl at h;exact h
theorem Rl.z8 {o off:Nat} {t:Ty} {i:Int} {v:V} (h:Rl R ρ top (.kZ o t i off) v):∃s,ρ.ob o=some s∧0≤i∧v= .ref (1,o) s (i.toNat*dB R t+off):=by unfold Rl at h;exact h
theorem Rl.G8 {ss:List Sg} {v:V} (h:Rl R ρ top (.sg ss) v):v= .agg (bW ss):=by unfold Rl at h;exact h
theorem Rl.xW {o off n:Nat} {k:IntKind} {lo hi:Option Int} {v:V} (h:Rl R ρ top (.sv o off k n lo hi) v):∃s,ρ.ob o=some s∧nH n lo hi=true∧v= .vw (1,o) s (off+(dQ lo).toNat) ((gJ n hi).toNat-(dQ lo).toNat) (n-(dQ lo).toNat) 1 false:=by unfold Rl at h;exact h
theorem Rl.G9 {o off n m:Nat} {k:IntKind} {i:Int} {v:V} (h:Rl R ρ top (.sel o off k n i m) v):∃s,ρ.ob o=some s∧0≤i∧i.toNat+m≤n∧v= .ref (1,o) s (off+i.toNat):=by unfold Rl at h;exact h
theorem Rl.M6 {n:Nat} {k:IntKind} {x:Vec n} {i:Int} {v:V} (h:Rl R ρ top (.qW k n x i) v):0≤i∧i<n∧v= .aM (x.l.map (V.int k)) i.toNat:=by unfold Rl at h;exact h
theorem Rl.abF {v:V} (h:Rl R ρ top .undef v):v=ay:=by unfold Rl at h;exact h
theorem Rl.abG {j:Nat} {w:Bool} {x:TV R.T} {v:V} (h:Rl R ρ top (.opt j w x) v):False:=by unfold Rl at h;exact h
theorem aB.nil':aB R ρ top [] []:=rfl
theorem aB.cons' {t:TV R.T} {ts:List (TV R.T)} {v:V} {vs:List V} (h:Rl R ρ top t v) (h':aB R ρ top ts vs):aB R ρ top (t::ts) (v::vs):=⟨v,vs,rfl,h,h'⟩
theorem aB.length:∀{ts:List (TV R.T)} {vs:List V},aB R ρ top ts vs→vs.length=ts.length
 | [],_,h=>by cases h;rfl
 |_::ts,_,⟨v,vs,e,_,h'⟩=>by subst e;simp[aB.length h']
theorem aB.append:∀{ts ts':List (TV R.T)} {vs vs':List V},aB R ρ top ts vs→aB R ρ top ts' vs'→aB R ρ top (ts++ts') (vs++vs')
 | [],_,_,_,h,h2=>by cases h;exact h2
 |_::ts,_,_,_,⟨v,vs,e,h1,h'⟩,h2=>by subst e;exact .cons' h1 (aB.append h' h2)
theorem aB.drop:∀(n:Nat) {ts:List (TV R.T)} {vs:List V},aB R ρ top ts vs→aB R ρ top (ts.drop n) (vs.drop n)
 |0,_,_,h=>by simpa using h
 |n+1,[],_,h=>by cases h;simp;rfl
 |n+1,_::ts,_,⟨v,vs,e,h1,h'⟩=>by subst e;simpa using aB.drop n h'
theorem aB.take:∀(n:Nat) {ts:List (TV R.T)} {vs:List V},aB R ρ top ts vs→aB R ρ top (ts.take n) (vs.take n)
 |0,_,_,h=>by simp;rfl
 |n+1,[],_,h=>by cases h;simp;rfl
 |n+1,_::ts,_,⟨v,vs,e,h1,h'⟩=>by subst e;simpa using .cons' h1 (aB.take n h')
theorem aB.get:∀{ts:List (TV R.T)} {vs:List V} {i:Nat} {t:TV R.T},aB R ρ top ts vs→ts[i]? =some t→∃v,vs[i]? =some v∧Rl R ρ top t v
 | [],_,_,_,_,h=>by simp at h
 |_::ts,_,0,_,⟨v,vs,e,h1,h'⟩,h=>by subst e;simp at h;subst h;exact⟨v,by simp,h1⟩
 |_::ts,_,i+1,_,⟨v,vs,e,h1,h'⟩,h=>by subst e;simpa using aB.get h' (by simpa using h)
mutual
theorem Rl.wk (t:Nat) (ho:ρ'.ob=ρ.ob∧ρ'.ln=ρ.ln) (ht:∀u s,u≠t→ρ.tk u=some s→ρ'.tk u=some s∧top' s=top s):∀(x:TV R.T) (v:V),Rl R ρ top x v→Rl R ρ' top' (wk t x) v
 |.aj (.own u) ty l,v,h=>by
  obtain⟨c',hv,hc⟩:=h
  unfold Aq.wk
  by_cases e:Nat.beq u t=true
  ·rw[e,cond_true];exact⟨c',hv,trivial⟩
  ·have e':Nat.beq u t=false:=Bool.eq_false_iff.2 e
   rw[e',cond_false]
   refine⟨c',hv, ?_⟩
   rcases hc with hc|hc| ⟨s,h1,h2,h3⟩
   ·exact .inl hc
   ·exact .inr (.inl hc)
   ·have hne:u≠t:=fun h=>e (by rw[h];exact Nat.beq_refl t)
    have:=ht u s hne h2
    exact .inr (.inr ⟨s,h1,this.1,by rw[this.2];exact h3⟩)
 |.aj .any ty l,v,h=>by obtain⟨c',hv,hc⟩:=h;exact⟨c',hv,trivial⟩
 |.aj .sh ty l,v,h=>by obtain⟨c',hv,hc⟩:=h;exact⟨c',hv,hc⟩
 |.aj .nil ty l,v,h=>by obtain⟨c',hv,hc⟩:=h;exact⟨c',hv,hc⟩
 |.aj .full ty l,v,h=>by obtain⟨c',hv,hc⟩:=h;exact⟨c',hv,hc⟩
 |.agg cs,v,h=>by obtain⟨l,hv,hl⟩:=h;exact⟨l,hv,aB.wk t ho ht cs l hl⟩
 |.bJ cs,v,h=>by obtain⟨l,hv,hl⟩:=h;exact⟨l,hv,aB.wk t ho ht cs l hl⟩
 |.aM cs off,v,h=>by obtain⟨l,hv,hl⟩:=h;exact⟨l,hv,aB.wk t ho ht cs l hl⟩
 |.fn f a b,v,h=>by obtain⟨a',b',hv,ha,hb⟩:=h;exact⟨a',b',hv,aB.wk t ho ht a a' ha,aB.wk t ho ht b b' hb⟩
 |.ref o off,v,h=>by obtain⟨s,h1,h2⟩:=h;exact⟨s,by rw[ho.1];exact h1,h2⟩
 |.cK o,v,h=>by obtain⟨s,h1,h2⟩:=h;exact⟨s,by rw[ho.1];exact h1,h2⟩
 |.vw o ty,v,h=>by
  rcases h with ⟨s,h1,h2⟩| ⟨h1,h2⟩
  ·exact .inl ⟨s,by rw[ho.1];exact h1,by rw[ho.2];exact h2⟩
  ·exact .inr ⟨by rw[ho.2];exact h1,h2⟩
 |.kZ o ty i off,v,h=>by obtain⟨s,h1,h2⟩:=h;exact⟨s,by rw[ho.1];exact h1,h2⟩
 |.sv o _ _ _ _ _,v,h=>by obtain⟨s,h1,h2⟩:=h;exact⟨s,by rw[ho.1];exact h1,h2⟩
 |.sel o _ _ _ _ _,v,h=>by obtain⟨s,h1,h2⟩:=h;exact⟨s,by rw[ho.1];exact h1,h2⟩
 |.sg _,_,h=>h
 |.qW _ _ _ _,_,h=>h
 |.opt _ _ _,_,h=>h.elim
 |.int _ _,_,h=>h
 |.bool _,_,h=>h
 |.iM _,_,h=>h
 |.str _,_,h=>h
 |.fU,_,h=>h
 |.fB,_,h=>h
 |.eY,_,h=>h
 |.iA,_,h=>h
 |.dK,_,h=>h
 |.dD _ _ _,_,h=>h
 |.undef,_,h=>h
 |.gone,_,h=>h
theorem aB.wk (t:Nat) (ho:ρ'.ob=ρ.ob∧ρ'.ln=ρ.ln) (ht:∀u s,u≠t→ρ.tk u=some s→ρ'.tk u=some s∧top' s=top s):∀(x:List (TV R.T)) (v:List V),aB R ρ top x v→aB R ρ' top' (uy t x) v
 | [],_,h=>h
 |x::xs,_,⟨v,vs,e,h1,h2⟩=>⟨v,vs,e,Rl.wk t ho ht x v h1,aB.wk t ho ht xs vs h2⟩
end
mutual
theorem Rl.kill (o:Nat) (ho:∀p,p≠o→ρ'.ob p=ρ.ob p∧ρ'.ln p=ρ.ln p) (ht:ρ'.tk=ρ.tk):∀(x:TV R.T) (v:V),lg o x=false→Rl R ρ top x v→Rl R ρ' top x v
 |.aj c ty l,v,_,h=>by
  obtain⟨c',hv,hc⟩:=h
  refine⟨c',hv, ?_⟩
  cases c<;>try exact hc
  rcases hc with hc|hc| ⟨s,h1,h2,h3⟩
  ·exact .inl hc
  ·exact .inr (.inl hc)
  ·exact .inr (.inr ⟨s,h1,by rw[ht];exact h2,h3⟩)
 |.agg cs,v,hm,h=>by obtain⟨l,hv,hl⟩:=h;exact⟨l,hv,aB.kill o ho ht cs l hm hl⟩
 |.bJ cs,v,hm,h=>by obtain⟨l,hv,hl⟩:=h;exact⟨l,hv,aB.kill o ho ht cs l hm hl⟩
 |.aM cs off,v,hm,h=>by obtain⟨l,hv,hl⟩:=h;exact⟨l,hv,aB.kill o ho ht cs l hm hl⟩
 |.fn f a b,v,hm,h=>by
  obtain⟨a',b',hv,ha,hb⟩:=h
  unfold lg at hm
  rw[Bool.or_eq_false_iff] at hm
  exact⟨a',b',hv,aB.kill o ho ht a a' hm.1 ha,aB.kill o ho ht b b' hm.2 hb⟩
 |.ref p off,v,hm,h=>by
  obtain⟨s,h1,h2⟩:=h
  unfold lg at hm
  exact⟨s,((ho p (fun e=>by rw[e,Nat.beq_refl] at hm;cases hm)).1.trans h1),h2⟩
 |.cK p,v,hm,h=>by
  obtain⟨s,h1,h2⟩:=h
  unfold lg at hm
  exact⟨s,((ho p (fun e=>by rw[e,Nat.beq_refl] at hm;cases hm)).1.trans h1),h2⟩
 |.vw p ty,v,hm,h=>by
  unfold lg at hm
  obtain⟨k1,k2⟩:=ho p (fun e=>by rw[e,Nat.beq_refl] at hm;cases hm)
  rcases h with ⟨s,h1,h2⟩| ⟨h1,h2⟩
  ·exact .inl ⟨s,k1.trans h1,by rw[k2];exact h2⟩
  ·exact .inr ⟨by rw[k2];exact h1,h2⟩
 |.kZ p ty i off,v,hm,h=>by
  obtain⟨s,h1,h2⟩:=h
  unfold lg at hm
  exact⟨s,((ho p (fun e=>by rw[e,Nat.beq_refl] at hm;cases hm)).1.trans h1),h2⟩
 |.sv p _ _ _ _ _,v,hm,h=>by
  obtain⟨s,h1,h2⟩:=h
  unfold lg at hm
  exact⟨s,((ho p (fun e=>by rw[e,Nat.beq_refl] at hm;cases hm)).1.trans h1),h2⟩
 |.sel p _ _ _ _ _,v,hm,h=>by
  obtain⟨s,h1,h2⟩:=h
  unfold lg at hm
  exact⟨s,((ho p (fun e=>by rw[e,Nat.beq_refl] at hm;cases hm)).1.trans h1),h2⟩
 |.sg _,_,_,h=>h
 |.qW _ _ _ _,_,_,h=>h
 |.opt _ _ _,_,_,h=>h.elim
 |.int _ _,_,_,h=>h
 |.bool _,_,_,h=>h
 |.iM _,_,_,h=>h
 |.str _,_,_,h=>h
 |.fU,_,_,h=>h
 |.fB,_,_,h=>h
 |.eY,_,_,h=>h
 |.iA,_,_,h=>h
 |.dK,_,_,h=>h
 |.dD _ _ _,_,_,h=>h
 |.undef,_,_,h=>h
 |.gone,_,_,h=>h
theorem aB.kill (o:Nat) (ho:∀p,p≠o→ρ'.ob p=ρ.ob p∧ρ'.ln p=ρ.ln p) (ht:ρ'.tk=ρ.tk):∀(x:List (TV R.T)) (v:List V),l6 o x=false→aB R ρ top x v→aB R ρ' top x v
 | [],_,_,h=>h
 |x::xs,_,hm,⟨v,vs,e,h1,h2⟩=>by
  unfold l6 at hm
  rw[Bool.or_eq_false_iff] at hm
  exact⟨v,vs,e,Rl.kill o ho ht x v hm.1 h1,aB.kill o ho ht xs vs hm.2 h2⟩
end
section
variable (hR:oh R)
include hR
def Dx (v w:V):Prop:=fV v=w∧er v=w∧aA w=true∧(∀n σ,aQ (n+2) σ v=some w)∧oneCell v=true∧v.cells=[v]
omit hR in
theorem amS {v:V} (h:∀cs,v≠ .agg cs):er v=fV v:=by cases v<;>first|rfl|exact absurd rfl (h _)
theorem ou:∀(t:Ty) (x:Den R.T t),aA (aD R t x)=true
 |.int _,x=>by simp[aD,aA]
 |.bool,x=>by simp[aD,aA]
 |.str,x=>by simp[aD,aA]
 |.slice t,x=>Gz (ou t) x
 |.st n,x=>hR.pc n x
theorem abH (c:Cp) (hc:Du ρ top 1 0 c .sh∧(c= .any∨c= .sh)):∀(t:Ty) (x:Den R.T t),nJ t=true→Rl R ρ top (xH R c t x) (aD R t x)
 |.int _,x,_=>rfl
 |.bool,x,_=>rfl
 |.str,x,_=>rfl
 |.slice t,x,_=>⟨.sh,rfl,by rcases hc.2 with rfl|rfl<;>first|trivial|rfl⟩
 |.st n,x,h=>by simp[nJ] at h
theorem abI (c:Cp) (hc:Du ρ top 1 0 c .sh∧(c= .any∨c= .sh)):∀(l:List Ty) (p:mO R.T l),l.all nJ=true→aB R ρ top (jM R c l p) (encs R l p)
 | [],_,_=>rfl
 | [t],x,h=>.cons' (abH hR c hc t x (by simpa using h)) rfl
 |t::u::l,p,h=>by
  rw[List.all_cons,Bool.and_eq_true] at h
  exact .cons' (abH hR c hc t p.1 h.1) (abI c hc (u::l) p.2 h.2)
theorem M7 (c:Cp) (hc:c= .any∨c= .sh):∀(t:Ty) (x:Den R.T t),Rl R ρ top (gV R c t x) (aD R t x)
 |.int _,x=>rfl
 |.bool,x=>rfl
 |.str,x=>rfl
 |.slice t,x=>⟨.sh,rfl,by rcases hc with rfl|rfl<;>first|trivial|rfl⟩
 |.st n,x=>⟨_,hR.enc n x,abI hR c ⟨by rcases hc with rfl|rfl<;>first|trivial|rfl,hc⟩ _ _ (hR.leaf n)⟩
theorem abJ (t:Ty) (x:Den R.T t):Rl R ρ top (gV R .sh t x) (aD R t x):=M7 hR .sh (.inr rfl) t x
omit hR in
theorem amT (k:IntKind) (n:Int):Dx (.int k n) (.int k n):=⟨rfl,rfl,by simp[aA],fun n σ=>UF (n+1) _ _,rfl,rfl⟩
omit hR in
theorem amU (b:Bool):Dx (.bool b) (.bool b):=⟨rfl,rfl,by simp[aA],fun n σ=>UG (n+1) _,rfl,rfl⟩
omit hR in
theorem amV (b:List UInt8):Dx (.str b) (.str b):=⟨rfl,rfl,by simp[aA],fun n σ=>UH (n+1) _,rfl,rfl⟩
theorem amW (c:Cap) (t:Ty) (l:List (Den R.T t)):Dx (.aj c (l.map (aD R t))) (aD R (.slice t) l):=⟨rfl,rfl,ou hR (.slice _) _,fun n σ=>uw _ _ (ou hR _),rfl,rfl⟩
omit hR in
theorem Vl {k:IntKind} {x:Int} {tv:TV R.T} {v:V} (h:Mv R k tv=some x) (hr:Rl R ρ top tv v):v= .int k x:=by
 unfold Mv at h
 split at h
 ·split at h
  ·rename_i e;cases e;cases h;exact hr.gL
  ·cases h
 ·cases h
omit hR in
theorem Vm {x:Bool} {tv:TV R.T} {v:V} (h:Mw R tv=some x) (hr:Rl R ρ top tv v):v= .bool x:=by
 unfold Mw at h
 split at h<;>cases h
 ·exact hr.qw
 ·exact hr.sS
omit hR in
theorem Vn {x:List UInt8} {tv:TV R.T} {v:V} (h:Mx R tv=some x) (hr:Rl R ρ top tv v):v= .str x:=by
 unfold Mx at h
 split at h<;>cases h
 exact hr.mo
omit hR in
theorem rz {t u:Ty} {l:List (Den R.T t)} {m:List (Den R.T u)} (h:qh R l=some m):t=u∧HEq l m:=by
 unfold qh at h
 split at h
 ·rename_i e;subst e;cases h;exact⟨rfl,HEq.rfl⟩
 ·cases h
omit hR in
theorem abK {t:Ty} {x:List (Den R.T t)} {tv:TV R.T} {v:V} (h:zQ R t tv=some x) (hr:Rl R ρ top tv v):∃c,v= .aj c (x.map (aD R t)):=by
 unfold zQ at h
 split at h
 ·obtain⟨e,e2⟩:=rz h;subst e;cases e2
  obtain⟨c',hv,hc⟩:=hr.kQ
  exact⟨c',hv⟩
 ·cases h;exact⟨.nil,hr.o8⟩
 ·cases h
theorem Dy {t:Ty} {x:Den R.T t} {tv:TV R.T} {v:V} (h:oV R t tv=some x) (hr:Rl R ρ top tv v):Dx v (aD R t x):=by
 cases t with
 |int k=>rw[Vl h hr];exact amT _ _
 |bool=>rw[Vm h hr];exact amU _
 |str=>rw[Vn h hr];exact amV _
 |slice t=>obtain⟨c,hv⟩:=abK h hr;rw[hv];exact amW hR _ _ _
 |st n=>cases h
theorem amX {t:Ty} {x:Den R.T t} {cs:List (TV R.T)} {vs:List V} (h:oV R t (hd1 R cs)=some x) (hr:aB R ρ top cs vs):∃v,vs=[v]∧Dx v (aD R t x):=by
 cases cs with
 |nil=>cases t<;>cases h
 |cons c cs=>
  cases cs with
  |nil=>
   obtain⟨v,l,rfl,h1,h2⟩:=hr.eO
   rw[h2.gK]
   exact⟨v,rfl,Dy hR h h1⟩
  |cons c' cs=>cases t<;>cases h
theorem abL:∀(l:List Ty) (p:mO R.T l) (cs:List (TV R.T)) (vs:List V),xI R l cs=some p→aB R ρ top cs vs→
 vs.map fV=encs R l p∧(∀n σ,vs.mapM (aQ (n+2) σ)=some (encs R l p))∧bf (encs R l p)=true∧vs.all (fun v=>oneCell v)=true
 | [],p,cs,vs,h,hr=>by
   cases cs with
   |nil=>rw[hr.gK];exact⟨rfl,fun _ _=>rfl,by simp[encs,bf],rfl⟩
   |cons c cs=>cases h
 | [t],p,cs,vs,h,hr=>by
   obtain⟨v,rfl,a,b,c,d,e,_⟩:=amX hR (show oV R t (hd1 R cs)=some p from h) hr
   exact⟨by simp[encs,a],fun n σ=>by simp[encs,d],by simp[encs,bf,c],by simp[e]⟩
 |t::u::l,p,cs,vs,h,hr=>by
  cases cs with
  |nil=>cases h
  |cons c cs=>
   obtain⟨v,vs,rfl,h1,h2⟩:=hr.eO
   unfold xI at h
   cases hu:oV R t c with
   |none=>simp only[hu] at h;cases h
   |some y=>
    cases hs:xI R (u::l) cs with
    |none=>simp only[hu,hs] at h;cases h
    |some q=>
     simp only[hu,hs] at h
     obtain rfl:=Option.some.inj h
     obtain⟨a,b,c,d,e,_⟩:=Dy hR hu h1
     obtain⟨a',d',c',o'⟩:=abL (u::l) q cs vs hs h2
     exact⟨by simp[encs,a,a'],fun n σ=>by simp[encs,d,d'],by simp[encs,bf,c,c'],by simp[e,o']⟩
omit hR in
theorem Vo:∀(l:List Ty) (p:mO R.T l),(encs R l p).length=l.length
 | [],_=>rfl
 | [_],_=>rfl
 |_::u::l,p=>by show (encs R (u::l) p.2).length+1=_;rw[Vo];rfl
omit hR in
theorem Vp {n:Nat} {σ:ah} (cs:List V):aQ (n+3) σ (.agg cs)=(cs.mapM (aQ (n+2) σ)).map .agg:=by
 by_cases hp:aA (.agg cs)=true
 ·rw[jQ hp]
  have:∀cs:List V,bf cs=true→cs.mapM (aQ (n+2) σ)=some cs:=by
   intro cs
   induction cs with
   |nil=>intro _;rfl
   |cons a l ih=>
    intro h
    simp only[bf,Bool.and_eq_true] at h
    rw[List.mapM_cons,jQ h.1,ih h.2];rfl
  rw[this cs (by simpa [aA] using hp)];rfl
 ·conv=>lhs;unfold aQ
  simp only[hp,if_false,Bool.false_eq_true]
theorem Vq {t:Ty} {x:Den R.T t} {tv:TV R.T} {v:V} (h:nW R t tv=some x) (hr:Rl R ρ top tv v):
 er v=aD R t x∧aA (aD R t x)=true∧(∀n σ,aQ (n+3) σ v=some (aD R t x))∧v.cells.length=dB R t∧bN v.cells=true:=by
 cases t with
 |st n=>
  change zR R n tv=some x at h
  unfold zR at h
  split at h
  ·rename_i cs
   split at h
   ·rename_i p hp
    obtain rfl:=Option.some.inj h
    obtain⟨l,hv,hl⟩:=hr.kD
    subst hv
    obtain⟨a,d,c,o⟩:=abL hR _ _ _ _ hp hl
    have he:aD R (.st n) (R.to n p)= .agg (encs R (R.lf n) p):=by
     show R.enc n (R.to n p)=_
     rw[hR.enc,hR.G7]
    refine⟨?_,ou hR (.st n) _,fun k σ=> ?_, ?_,o⟩
    ·rw[he];show V.agg (l.map fV)=_;rw[a]
    ·rw[he,Vp,d k σ];rfl
    ·show l.length=_
     have:=congrArg List.length a
     rw[List.length_map] at this
     rw[this];exact Vo _ _
   ·cases h
  ·cases h
 |int k=>
  obtain⟨a,b,c,d,e,f⟩:=Dy hR (t:=.int k) h hr
  exact⟨b,c,fun n σ=>d (n+1) σ,by rw[f];rfl,by rw[f];simp[bN,e]⟩
 |bool=>
  obtain⟨a,b,c,d,e,f⟩:=Dy hR (t:=.bool) h hr
  exact⟨b,c,fun n σ=>d (n+1) σ,by rw[f];rfl,by rw[f];simp[bN,e]⟩
 |str=>
  obtain⟨a,b,c,d,e,f⟩:=Dy hR (t:=.str) h hr
  exact⟨b,c,fun n σ=>d (n+1) σ,by rw[f];rfl,by rw[f];simp[bN,e]⟩
 |slice t=>
  obtain⟨a,b,c,d,e,f⟩:=Dy hR (t:=.slice t) h hr
  exact⟨b,c,fun n σ=>d (n+1) σ,by rw[f];rfl,by rw[f];simp[bN,e]⟩
end
end
end Aq
end
section
namespace Aq
open Go
set_option linter.unusedSectionVars false
set_option linter.unusedVariables false
theorem eF {a b:Nat} (h:Nat.beq a b=true):a=b:=Nat.eq_of_beq_eq_true h
theorem M8 {a b:Nat} (h:Nat.beq a b=false):a≠b:=fun e=>by rw[e,Nat.beq_refl] at h;cases h
theorem M9 {a b:Nat} (h:a≠b):Nat.beq a b=false:=Bool.eq_false_iff.2 fun e=>h (eF e)
section look
variable {α:Type}
theorem rC (f:α→α):∀(l:List (Nat×α)) (i:Nat),look (lq f l) i=(look l i).map f
 | [],_=>rfl
 | (j,x)::l,i=>by
   show (bif Nat.beq j i then some (f x) else look (lq f l) i)=Option.map f (bif Nat.beq j i then some x else look l i)
   cases Nat.beq j i
   ·exact rC f l i
   ·rfl
theorem o9 {i j:Nat} (h:j≠i):∀(l:List (Nat×α)),look (iN i l) j=look l j
 | []=>rfl
 | (k,x)::l=>by
   show look (bif Nat.beq k i then iN i l else (k,x)::iN i l) j=bif Nat.beq k j then some x else look l j
   cases hk:Nat.beq k i
   ·show (bif Nat.beq k j then some x else look (iN i l) j)=_
    rw[o9 h l]
   ·have:=eF hk
    subst this
    rw[M9 (Ne.symm h)]
    exact o9 h l
theorem mU (l:List (Nat×α)) (i:Nat) (x:α):look ((i,x)::l) i=some x:=by
 show (bif Nat.beq i i then some x else look l i)=_;rw[Nat.beq_refl];rfl
theorem jR (l:List (Nat×α)) {i j:Nat} (x:α) (h:j≠i):look ((i,x)::l) j=look l j:=by
 show (bif Nat.beq i j then some x else look l j)=_;rw[M9 (Ne.symm h)];rfl
end look
section
variable {R:jB} {E:Env}
theorem abM {ρ ρ':aS} {top top':Nat→Nat}:∀(t:Ty) (x:Den R.T t) (v:V),Rl R ρ top (xH R .any t x) v→Rl R ρ' top' (xH R .any t x) v
 |.int _,_,_,h=>h
 |.bool,_,_,h=>h
 |.str,_,_,h=>h
 |.slice _,_,_,h=>h
 |.st _,_,_,h=>h
theorem Dz {ρ ρ':aS} {top top':Nat→Nat}:∀(l:List Ty) (p:mO R.T l) (vs:List V),aB R ρ top (jM R .any l p) vs→aB R ρ' top' (jM R .any l p) vs
 | [],_,_,h=>h
 | [t],x,vs,h=>by
   obtain⟨v,l,rfl,h1,h2⟩:=h.eO
   rw[h2.gK]
   exact .cons' (abM t x v h1) rfl
 |t::u::l,p,vs,h=>by
  obtain⟨v,ws,rfl,h1,h2⟩:=h.eO
  exact .cons' (abM t p.1 v h1) (Dz (u::l) p.2 ws h2)
theorem amY {ρ ρ':aS} {top top':Nat→Nat} {t:Ty} {x:Den R.T t} {vs:List V} (h:aB R ρ top (gV R .any t x).cells vs):aB R ρ' top' (gV R .any t x).cells vs:=by
 cases t with
 |st n=>exact Dz _ _ _ h
 |int k=>exact Dz [.int k] x vs h
 |bool=>exact Dz [.bool] x vs h
 |str=>exact Dz [.str] x vs h
 |slice t=>exact Dz [.slice t] x vs h
theorem aB.split {ρ:aS} {top:Nat→Nat}:∀{ts ts':List (TV R.T)} {vs:List V},aB R ρ top (ts++ts') vs→∃a b,vs=a++b∧aB R ρ top ts a∧aB R ρ top ts' b
 | [],_,vs,h=>⟨[],vs,rfl,rfl,h⟩
 |t::ts,ts',vs,h=>by
  obtain⟨v,ws,rfl,h1,h2⟩:=aB.eO (ts:=ts++ts') h
  obtain⟨a,b,rfl,h3,h4⟩:=aB.split h2
  exact⟨v::a,b,rfl,.cons' h1 h3,h4⟩
theorem xX {ρ ρ':aS} {top top':Nat→Nat} {t:Ty}:∀(l:List (Den R.T t)) (vs:List V),aB R ρ top (l.flatMap fun x=>(gV R .any t x).cells) vs→aB R ρ' top' (l.flatMap fun x=>(gV R .any t x).cells) vs
 | [],vs,h=>h
 |x::l,vs,h=>by
  rw[List.flatMap_cons] at h⊢
  obtain⟨a,b,rfl,h1,h2⟩:=h.split
  exact(amY h1).append (xX l b h2)
def iT (fr:Fr) (ρ:aS) (top:Nat→Nat):TV R.T→V→Prop
 |.opt j w y,v=>(fr.tm j= .bool w→Rl R ρ top y v)∧(fr.tm j= .bool (!w)∨fr.tm j=ay→v=ay)
 |x,v=>Rl R ρ top x v
theorem iT.of {fr:Fr} {ρ:aS} {top:Nat→Nat} {x:TV R.T} {v:V} (h:Rl R ρ top x v):iT fr ρ top x v:=by
 cases x<;>first|exact h|exact h.abG.elim
def fq (ρ:aS) (σ:ah) (o:Nat):Ob R.T→Prop
 |.cells cs=> ∃s l,ρ.ob o=some s∧σ.bY (1,o) s=some l∧aB R ρ σ.top cs l
 |.map k e m=> ∃s,ρ.ob o=some s∧σ.fZ (1,o) s=some (m.map fun p=>aD R k p.1,m.map fun p=>aD R e p.2)
 |.smap ks vs=> ∃s k l,ρ.ob o=some s∧σ.fZ (1,o) s=some (k,l)∧aB R ρ σ.top ks k∧aB R ρ σ.top vs l
 |.arr t l=>l.length=ρ.ln o∧((l=[]∧ρ.ob o=none)∨∃s cs,ρ.ob o=some s∧σ.bY (1,o) s=some cs∧aB R ρ σ.top (l.flatMap fun x=>(gV R .any t x).cells) cs)
 |.sg ss=> ∃s,ρ.ob o=some s∧σ.bY (1,o) s=some (bW ss)
 |.gone=>True
 |.ro b=>fq ρ σ o b
theorem fq.strip {ρ:aS} {σ:ah} {o:Nat}:∀{x:Ob R.T},fq ρ σ o x→fq ρ σ o (UR x)
 |.cells _,h=>h
 |.map _ _ _,h=>h
 |.smap _ _,h=>h
 |.arr _ _,h=>h
 |.sg _,h=>h
 |.gone,h=>h
 |.ro b,h=>fq.strip (x:=b) h
structure aJ (ρ:aS) (b:Nat) (st:MS R.T) (fr:Fr) (σ:ah):Prop where
 d:fr.d=1
 om:fr.om=ρ.om
 fr:∀i v,look st.fr i=some v→iT fr ρ σ.top v (fr.tm i)
 ob:∀o x,look st.ob o=some x→fq ρ σ o x
 inj:∀t u s,ρ.tk t=some s→ρ.tk u=some s→t=u
 lt:∀t s,ρ.tk t=some s→s<b
variable {ρ:aS} {b:Nat} {st:MS R.T} {fr:Fr} {σ:ah}
theorem aJ.le {b':Nat} (h:aJ ρ b st fr σ) (hb:b≤b'):aJ ρ b' st fr σ:={h with lt:=fun t s ht=>Nat.lt_of_lt_of_le (h.lt t s ht) hb}
theorem fq.bump {o k:Nat}:∀{x:Ob R.T},fq ρ σ o x→fq ρ (σ.bump k) o x
 |.cells _,h=>h
 |.map _ _ _,h=>h
 |.smap _ _,h=>h
 |.arr _ _,h=>h
 |.sg _,h=>h
 |.gone,h=>h
 |.ro b,h=>fq.bump (x:=b) h
theorem aJ.next (h:aJ ρ b st fr σ) (k:Nat):aJ ρ b st fr (σ.bump k):={h with fr:=h.fr,ob:=fun o x hx=>(h.ob o x hx).bump}
theorem aJ.rd (h:aJ ρ b st fr σ) {o:Nat} {x:Ob R.T} (hx:l7 st o=some x):fq ρ σ o x:=by
 unfold l7 at hx
 split at hx
 ·rename_i y hy;cases hx;exact(h.ob _ _ hy).strip
 ·cases hx
theorem amZ {ρ:aS} {top:Nat→Nat} {x:TV R.T} {u v:V} {i:Nat} (h:iT fr ρ top x v):iT (fr.set i u) ρ top (UO i x) v:=by
 cases x with
 |opt j w y=>
  show iT _ _ _ (bif Nat.beq j i then .gone else .opt j w y) v
  cases hj:Nat.beq j i
  ·have hs:(fr.set i u).tm j=fr.tm j:=vN _ _ (by simpa using M8 hj)
   exact⟨fun hc=>h.1 (by rw[←hs];exact hc),fun hc=>h.2 (by rw[←hs];exact hc)⟩
  ·exact iT.of (x:=.gone) (by unfold Rl;trivial)
 |_=>exact h
theorem aJ.put (h:aJ ρ b st fr σ) (i:Nat) {x:TV R.T} {v:V} (hx:iT (fr.set i v) ρ σ.top x v):aJ ρ b (st.put i x) (fr.set i v) σ where
 d:=h.d
 om:=h.om
 ob:=h.ob
 inj:=h.inj
 lt:=h.lt
 fr:=fun j y hy=>by
  by_cases e:j=i
  ·subst e
   have hy':some x=some y:=by rw[←hy];exact(mU _ _ _).symm
   cases hy'
   rw[aa8]
   exact hx
  ·have hy':look (lq (UO i) (iN i st.fr)) j=some y:=by rw[←hy];exact(jR _ _ e).symm
   rw[rC,o9 e,Option.map_eq_some_iff] at hy'
   obtain⟨z,hz,rfl⟩:=hy'
   rw[vN _ _ (by simpa using e)]
   exact amZ (h.fr j z hz)
theorem aJ.fG (h:aJ ρ b st fr σ) (d:Option Nat) {x:TV R.T} {v:V} (hx:Rl R ρ σ.top x v):aJ ρ b (st.fG d x) (fr.put d v) σ:=by
 cases d with
 |none=>exact h
 |some i=>exact h.put i (.of hx)
theorem am0 {ρ:aS} {top:Nat→Nat} {x:TV R.T} {v:V} {i:Nat} {c:Bool} (hi:fr.tm i= .bool c) (h:iT fr ρ top x v):iT fr ρ top (UQ i c x) v:=by
 cases x with
 |opt j w y=>
  show iT _ _ _ (bif Nat.beq j i then (bif (c==w) then y else .undef) else .opt j w y) v
  cases hj:Nat.beq j i
  ·exact h
  ·have:=eF hj
   subst this
   by_cases e:c=w
   ·subst e
    rw[beq_self_eq_true]
    exact iT.of (h.1 hi)
   ·rw[show (c==w)=false by simpa using e]
    have e':c= !w:=by cases c<;>cases w<;>first|rfl|exact absurd rfl e
    have h':=h.2 (.inl (by rw[hi,e']))
    subst h';exact iT.of (x:=.undef) (by unfold Rl;rfl)
 |_=>exact h
theorem aJ.learn (h:aJ ρ b st fr σ) {i:Nat} {c:Bool} (hc:fr.tm i= .bool c):aJ ρ b (st.learn i c) fr σ where
 d:=h.d
 om:=h.om
 ob:=h.ob
 inj:=h.inj
 lt:=h.lt
 fr:=fun j y hy=>by
  by_cases e:j=i
  ·subst e
   have hy':some (TV.iM c)=some y:=by rw[←hy];exact(mU _ _ _).symm
   cases hy'
   exact iT.of (x:=.iM c) (by unfold Rl;exact hc)
  ·have hy':look (lq (UQ i c) (iN i st.fr)) j=some y:=by rw[←hy];exact(jR _ _ e).symm
   rw[rC,o9 e,Option.map_eq_some_iff] at hy'
   obtain⟨z,hz,rfl⟩:=hy'
   exact am0 hc (h.fr j z hz)
def aS.lC (ρ:aS) (o s:Nat):aS:={ρ with ob:=upd ρ.ob o (some s)}
def aS.jd (ρ:aS) (t s:Nat):aS:={ρ with tk:=upd ρ.tk t (some s)}
theorem abN {ρ':aS} {top:Nat→Nat} {o:Nat} {x:TV R.T} {v:V} (ho:∀p,p≠o→ρ'.ob p=ρ.ob p∧ρ'.ln p=ρ.ln p) (ht:ρ'.tk=ρ.tk) (h:iT fr ρ top x v):iT fr ρ' top (GH o x) v:=by
 unfold GH
 cases hm:lg o x
 ·cases x with
  |opt j w y=>exact⟨fun hc=>Rl.kill o ho ht y v hm (h.1 hc),h.2⟩
  |_=>exact iT.of (Rl.kill o ho ht _ v hm h)
 ·exact iT.of (x:=.gone) (by unfold Rl;trivial)
theorem xY {o p:Nat} (σ:ah) (s s':Nat) (x:gQ) (h:p≠o):(σ.setObj (1,o) s' x).bY (1,p) s=σ.bY (1,p) s:=Cz σ s s' x (by rw[UE];simp;omega)
theorem DC {o p:Nat} (σ:ah) (s s':Nat) (x:gQ) (h:p≠o):(σ.setObj (1,o) s' x).fZ (1,p) s=σ.fZ (1,p) s:=abe σ s s' x (by rw[UE];simp;omega)
theorem abO {ρ':aS} {o p s':Nat} {a:gQ} (hp:p≠o) (ho:∀p,p≠o→ρ'.ob p=ρ.ob p∧ρ'.ln p=ρ.ln p) (ht:ρ'.tk=ρ.tk):∀{x:Ob R.T},Ob.lg o x=false→fq ρ σ p x→fq ρ' (σ.setObj (1,o) s' a) p x
 |.cells cs,hm,h=>by
  obtain⟨s,l,h1,h2,h3⟩:=h
  exact⟨s,l,((ho p hp).1.trans h1),by rw[xY _ _ _ _ hp];exact h2,aB.kill o ho ht _ _ hm h3⟩
 |.map k e m,_,h=>by
  obtain⟨s,h1,h2⟩:=h
  exact⟨s,((ho p hp).1.trans h1),by rw[DC _ _ _ _ hp];exact h2⟩
 |.smap ks vs,hm,h=>by
  obtain⟨s,k,l,h1,h2,h3,h4⟩:=h
  have hm':(l6 o ks||l6 o vs)=false:=hm
  rw[Bool.or_eq_false_iff] at hm'
  exact⟨s,k,l,((ho p hp).1.trans h1),by rw[DC _ _ _ _ hp];exact h2,aB.kill o ho ht _ _ hm'.1 h3,aB.kill o ho ht _ _ hm'.2 h4⟩
 |.arr t l,hm,h=>by
  refine⟨h.1.trans (ho p hp).2.symm, ?_⟩
  rcases h.2 with h| ⟨s,cs,h1,h2,h3⟩
  ·exact .inl ⟨h.1,(ho p hp).1.trans h.2⟩
  ·exact .inr ⟨s,cs,((ho p hp).1.trans h1),by rw[xY _ _ _ _ hp];exact h2,xX l cs h3⟩
 |.sg ss,_,h=>by
  obtain⟨s,h1,h2⟩:=h
  exact⟨s,((ho p hp).1.trans h1),by rw[xY _ _ _ _ hp];exact h2⟩
 |.gone,_,_=>trivial
 |.ro b,hm,h=>abO hp ho ht (x:=b) hm h
theorem am1 {ρ':aS} {o p s':Nat} {a:gQ} {x:Ob R.T} (hp:p≠o) (ho:∀p,p≠o→ρ'.ob p=ρ.ob p∧ρ'.ln p=ρ.ln p) (ht:ρ'.tk=ρ.tk) (h:fq ρ σ p x):fq ρ' (σ.setObj (1,o) s' a) p (Ob.kill o x):=by
 unfold Ob.kill
 cases hm:Ob.lg o x
 ·exact abO hp ho ht hm h
 ·trivial
theorem abP {o p s:Nat} {a:gQ} (hp:p≠o):∀{x:Ob R.T},fq ρ σ p x→fq ρ (σ.setObj (1,o) s a) p x
 |.cells cs,h=>by obtain⟨s,l,h1,h2,h3⟩:=h;exact⟨s,l,h1,by rw[xY _ _ _ _ hp];exact h2,h3⟩
 |.map k e m,h=>by obtain⟨s,h1,h2⟩:=h;exact⟨s,h1,by rw[DC _ _ _ _ hp];exact h2⟩
 |.smap ks vs,h=>by obtain⟨s,k,l,h1,h2,h3⟩:=h;exact⟨s,k,l,h1,by rw[DC _ _ _ _ hp];exact h2,h3⟩
 |.arr t l,h=>by
  refine⟨h.1, ?_⟩
  rcases h.2 with h| ⟨s,cs,h1,h2,h3⟩
  ·exact .inl h
  ·exact .inr ⟨s,cs,h1,by rw[xY _ _ _ _ hp];exact h2,h3⟩
 |.sg ss,h=>by obtain⟨s,h1,h2⟩:=h;exact⟨s,h1,by rw[xY _ _ _ _ hp];exact h2⟩
 |.gone,_=>trivial
 |.ro b,h=>abP hp (x:=b) h
theorem abQ {o t s n:Nat} (key:∀u s',u≠t→ρ.tk u=some s'→(ρ.jd t s).tk u=some s'∧(σ.cO s n).top s'=σ.top s'):∀{x:Ob R.T},fq ρ σ o x→fq (ρ.jd t s) (σ.cO s n) o (Ob.wk t x)
 |.cells cs,h=>by obtain⟨s',l,h1,h2,h3⟩:=h;exact⟨s',l,h1,h2,aB.wk (ρ:=ρ) (ρ':=ρ.jd t s) (top:=σ.top) (top':=(σ.cO s n).top) t ⟨rfl,rfl⟩ key _ _ h3⟩
 |.map k e m,h=>h
 |.smap ks vs,h=>by obtain⟨s',k,l,h1,h2,h3,h4⟩:=h;exact⟨s',k,l,h1,h2,aB.wk (ρ:=ρ) (ρ':=ρ.jd t s) (top:=σ.top) (top':=(σ.cO s n).top) t ⟨rfl,rfl⟩ key _ _ h3,aB.wk (ρ:=ρ) (ρ':=ρ.jd t s) (top:=σ.top) (top':=(σ.cO s n).top) t ⟨rfl,rfl⟩ key _ _ h4⟩
 |.arr ty l,h=>by
  refine⟨h.1, ?_⟩
  rcases h.2 with h| ⟨s,cs,h1,h2,h3⟩
  ·exact .inl h
  ·exact .inr ⟨s,cs,h1,h2,xX l cs h3⟩
 |.sg ss,h=>h
 |.gone,_=>trivial
 |.ro b,h=>abQ key (x:=b) h
theorem DF {o s:Nat}:∀p,p≠o→(ρ.lC o s).ob p=ρ.ob p∧(ρ.lC o s).ln p=ρ.ln p:=fun p h=>⟨by simp[aS.lC,upd,h],rfl⟩
def aS.Aa (ρ:aS) (o n:Nat):aS:={ρ with ln:=upd ρ.ln o n}
theorem abR {o n:Nat}:∀p,p≠o→(ρ.Aa o n).ob p=ρ.ob p∧(ρ.Aa o n).ln p=ρ.ln p:=fun p h=>⟨rfl,by simp[aS.Aa,upd,h]⟩
def aS.gh (ρ:aS) (o:Nat):aS:={ρ.Aa o 0 with ob:=upd ρ.ob o none}
theorem DI {o:Nat}:∀p,p≠o→(ρ.gh o).ob p=ρ.ob p∧(ρ.gh o).ln p=ρ.ln p:=fun p h=>⟨by simp[aS.gh,upd,h],(abR (ρ:=ρ) (n:=0) p h).2⟩
theorem He {o n:Nat}:(ρ.Aa o n).ln o=n:=by simp[aS.Aa,upd]
def aS.Ab (ρ:aS) (o s n:Nat):aS:=(ρ.lC o s).Aa o n
theorem Vr {o s n:Nat}:∀p,p≠o→(ρ.Ab o s n).ob p=ρ.ob p∧(ρ.Ab o s n).ln p=ρ.ln p:=fun p h=>⟨(DF p h).1,(abR p h).2⟩
theorem rD {o s:Nat}:(ρ.lC o s).ob o=some s:=by simp[aS.lC,upd]
theorem aJ.new' {ρ':aS} (h:aJ ρ b st fr σ) (o s:Nat) {x:Ob R.T} {a:gQ} (DF:∀p,p≠o→ρ'.ob p=ρ.ob p∧ρ'.ln p=ρ.ln p) (ht:ρ'.tk=ρ.tk) (bS:ρ'.om=ρ.om) (hx:fq ρ' (σ.setObj (1,o) s a) o x):aJ ρ' b (st.new o x) fr (σ.setObj (1,o) s a) where
 d:=h.d
 om:=h.om.trans bS.symm
 fr:=fun j y hy=>by
  have hy':look (lq (GH o) st.fr) j=some y:=hy
  rw[rC,Option.map_eq_some_iff] at hy'
  obtain⟨z,hz,rfl⟩:=hy'
  exact abN DF ht (h.fr j z hz)
 ob:=fun p y hy=>by
  by_cases e:p=o
  ·subst e
   have hy':some x=some y:=by rw[←hy];exact(mU _ _ _).symm
   cases hy'
   exact hx
  ·have hy':look (lq (Ob.kill o) (iN o st.ob)) p=some y:=by rw[←hy];exact(jR _ _ e).symm
   rw[rC,o9 e,Option.map_eq_some_iff] at hy'
   obtain⟨z,hz,rfl⟩:=hy'
   exact am1 e DF ht (h.ob p z hz)
 inj:=by rw[ht];exact h.inj
 lt:=by rw[ht];exact h.lt
theorem aJ.new (h:aJ ρ b st fr σ) (o s:Nat) {x:Ob R.T} {a:gQ} (hx:fq (ρ.lC o s) (σ.setObj (1,o) s a) o x):aJ (ρ.lC o s) b (st.new o x) fr (σ.setObj (1,o) s a):=h.new' o s DF rfl rfl hx
theorem aJ.Vs (h:aJ ρ b st fr σ) (o s n:Nat) {x:Ob R.T} {a:gQ} (hx:fq (ρ.Ab o s n) (σ.setObj (1,o) s a) o x):aJ (ρ.Ab o s n) b (st.new o x) fr (σ.setObj (1,o) s a):=h.new' o s Vr rfl rfl hx
theorem abS {ρ':aS} {o p:Nat} (hp:p≠o) (ho:∀p,p≠o→ρ'.ob p=ρ.ob p∧ρ'.ln p=ρ.ln p) (ht:ρ'.tk=ρ.tk):∀{x:Ob R.T},Ob.lg o x=false→fq ρ σ p x→fq ρ' σ p x
 |.cells cs,hm,h=>by
  obtain⟨s,l,h1,h2,h3⟩:=h
  exact⟨s,l,((ho p hp).1.trans h1),h2,aB.kill o ho ht _ _ hm h3⟩
 |.map k e m,_,h=>by
  obtain⟨s,h1,h2⟩:=h
  exact⟨s,((ho p hp).1.trans h1),h2⟩
 |.smap ks vs,hm,h=>by
  obtain⟨s,k,l,h1,h2,h3,h4⟩:=h
  have hm':(l6 o ks||l6 o vs)=false:=hm
  rw[Bool.or_eq_false_iff] at hm'
  exact⟨s,k,l,((ho p hp).1.trans h1),h2,aB.kill o ho ht _ _ hm'.1 h3,aB.kill o ho ht _ _ hm'.2 h4⟩
 |.arr t l,hm,h=>by
  refine⟨h.1.trans (ho p hp).2.symm, ?_⟩
  rcases h.2 with h| ⟨s,cs,h1,h2,h3⟩
  ·exact .inl ⟨h.1,(ho p hp).1.trans h.2⟩
  ·exact .inr ⟨s,cs,((ho p hp).1.trans h1),h2,xX l cs h3⟩
 |.sg ss,_,h=>by
  obtain⟨s,h1,h2⟩:=h
  exact⟨s,((ho p hp).1.trans h1),h2⟩
 |.gone,_,_=>trivial
 |.ro b,hm,h=>abS hp ho ht (x:=b) hm h
theorem aJ.ghost (h:aJ ρ b st fr σ) (o:Nat) (t:Ty):aJ (ρ.gh o) b (st.new o (.arr t [])) fr σ where
 d:=h.d
 om:=h.om
 fr:=fun j y hy=>by
  have hy':look (lq (GH o) st.fr) j=some y:=hy
  rw[rC,Option.map_eq_some_iff] at hy'
  obtain⟨z,hz,rfl⟩:=hy'
  exact abN DI rfl (h.fr j z hz)
 ob:=fun p y hy=>by
  by_cases e:p=o
  ·subst e
   have hy':some (Ob.arr t ([]:List (Den R.T t)))=some y:=by rw[←hy];exact(mU _ _ _).symm
   cases hy'
   exact⟨(He (ρ:=ρ) (n:=0)).symm,.inl ⟨rfl,by simp[aS.gh,upd]⟩⟩
  ·have hy':look (lq (Ob.kill o) (iN o st.ob)) p=some y:=by rw[←hy];exact(jR _ _ e).symm
   rw[rC,o9 e,Option.map_eq_some_iff] at hy'
   obtain⟨z,hz,rfl⟩:=hy'
   unfold Ob.kill
   cases hm:Ob.lg o z
   ·exact abS e DI rfl hm (h.ob p z hz)
   ·trivial
 inj:=h.inj
 lt:=h.lt
theorem abT {o p:Nat} (σ:ah) (h:p≠o):(σ.kH (1,o)).obj (1,p)=σ.obj (1,p):=by
 unfold ah.kH upd
 simp[h]
theorem abU {σ':ah} {p:Nat} (hp:σ'.obj (1,p)=σ.obj (1,p)) (ht:σ'.top=σ.top):∀{x:Ob R.T},fq ρ σ p x→fq ρ σ' p x
 |.cells cs,h=>by
  obtain⟨s,l,h1,h2,h3⟩:=h
  exact⟨s,l,h1,by unfold ah.bY at h2⊢;rw[hp];exact h2,by rw[ht];exact h3⟩
 |.map k e m,h=>by
  obtain⟨s,h1,h2⟩:=h
  exact⟨s,h1,by unfold ah.fZ at h2⊢;rw[hp];exact h2⟩
 |.smap ks vs,h=>by
  obtain⟨s,k,l,h1,h2,h3,h4⟩:=h
  exact⟨s,k,l,h1,by unfold ah.fZ at h2⊢;rw[hp];exact h2,by rw[ht];exact h3,by rw[ht];exact h4⟩
 |.arr t l,h=>by
  refine⟨h.1, ?_⟩
  rcases h.2 with h| ⟨s,cs,h1,h2,h3⟩
  ·exact .inl h
  ·exact .inr ⟨s,cs,h1,by unfold ah.bY at h2⊢;rw[hp];exact h2,xX l cs h3⟩
 |.sg ss,h=>by
  obtain⟨s,h1,h2⟩:=h
  exact⟨s,h1,by unfold ah.bY at h2⊢;rw[hp];exact h2⟩
 |.gone,_=>trivial
 |.ro b,h=>abU hp ht (x:=b) h
theorem aJ.del (h:aJ ρ b st fr σ) (o:Nat):aJ ρ b (st.del o) fr (σ.kH (1,o)) where
 d:=h.d
 om:=h.om
 fr:=h.fr
 ob:=fun p y hy=>by
  by_cases e:p=o
  ·subst e
   have:look (iN p st.ob) p=some y:=hy
   have key:∀l:List (Nat×Ob R.T),look (iN p l) p=none:=by
    intro l
    induction l with
    |nil=>rfl
    |cons q l ih=>
     obtain⟨j,x⟩:=q
     unfold iN
     cases hj:Nat.beq j p
     ·show (bif Nat.beq j p then some x else look (iN p l) p)=none
      rw[hj];exact ih
     ·exact ih
   rw[key] at this;cases this
  ·have hy':look (iN o st.ob) p=some y:=hy
   rw[o9 e] at hy'
   exact abU (abT σ e) rfl (h.ob p y hy')
 inj:=h.inj
 lt:=h.lt
theorem aJ.set (h:aJ ρ b st fr σ) (o s:Nat) {x:Ob R.T} {a:gQ} (hx:fq ρ (σ.setObj (1,o) s a) o x):aJ ρ b (st.set o x) fr (σ.setObj (1,o) s a) where
 d:=h.d
 om:=h.om
 fr:=h.fr
 ob:=fun p y hy=>by
  by_cases e:p=o
  ·subst e
   have hy':some x=some y:=by rw[←hy];exact(mU _ _ _).symm
   cases hy'
   exact hx
  ·have hy':look (iN o st.ob) p=some y:=by rw[←hy];exact(jR _ _ e).symm
   rw[o9 e] at hy'
   exact abP e (h.ob p y hy')
 inj:=h.inj
 lt:=h.lt
theorem aJ.wk (h:aJ ρ b st fr σ) (t s n:Nat) {b':Nat} (hb:b≤b') (hs:s<b') (hf:∀u,u≠t→ρ.tk u≠some s):aJ (ρ.jd t s) b' (st.wk t) fr (σ.cO s n) where
 d:=h.d
 om:=h.om
 fr:=fun j y hy=>by
  have hy':look (lq (Aq.wk t) st.fr) j=some y:=hy
  rw[rC,Option.map_eq_some_iff] at hy'
  obtain⟨z,hz,rfl⟩:=hy'
  have hz':=h.fr j z hz
  have key:∀u s',u≠t→ρ.tk u=some s'→(ρ.jd t s).tk u=some s'∧(σ.cO s n).top s'=σ.top s':=fun u s' hu hs'=>
   ⟨by simp[aS.jd,upd,hu,hs'],Ml _ _ fun e=>hf u hu (by rw[hs',e])⟩
  cases z with
  |opt j' w y=>exact⟨fun hc=>Rl.wk (ρ:=ρ) (ρ':=ρ.jd t s) (top:=σ.top) (top':=(σ.cO s n).top) t ⟨rfl,rfl⟩ key y _ (hz'.1 hc),hz'.2⟩
  |_=>exact iT.of (Rl.wk (ρ:=ρ) (ρ':=ρ.jd t s) (top:=σ.top) (top':=(σ.cO s n).top) t ⟨rfl,rfl⟩ key _ _ hz')
 ob:=fun p y hy=>by
  have hy':look (lq (Ob.wk t) st.ob) p=some y:=hy
  rw[rC,Option.map_eq_some_iff] at hy'
  obtain⟨z,hz,rfl⟩:=hy'
  have hz':=h.ob p z hz
  have key:∀u s',u≠t→ρ.tk u=some s'→(ρ.jd t s).tk u=some s'∧(σ.cO s n).top s'=σ.top s':=fun u s' hu hs'=>
   ⟨by simp[aS.jd,upd,hu,hs'],Ml _ _ fun e=>hf u hu (by rw[hs',e])⟩
  exact abQ key hz'
 inj:=fun u v s' hu hv=>by
  by_cases e1:u=t<;>by_cases e2:v=t
  ·rw[e1,e2]
  ·simp[aS.jd,upd,e1] at hu;simp[aS.jd,upd,e2] at hv;exact absurd (hu▸hv) (hf v e2)
  ·simp[aS.jd,upd,e1] at hu;simp[aS.jd,upd,e2] at hv;exact absurd (hv▸hu) (hf u e1)
  ·simp[aS.jd,upd,e1] at hu;simp[aS.jd,upd,e2] at hv;exact h.inj u v s' hu hv
 lt:=fun u s' hu=>by
  by_cases e1:u=t
  ·simp[aS.jd,upd,e1] at hu;omega
  ·simp[aS.jd,upd,e1] at hu;exact Nat.lt_of_lt_of_le (h.lt u s' hu) hb
theorem abV {top:Nat→Nat} {x:TV R.T} {v:Value} (h:zS v=some x):∃y,jv v=some y∧Rl R ρ top x y:=by
 unfold zS at h
 split at h<;>cases h<;>exact⟨_,rfl,by unfold Rl;rfl⟩
theorem abW {top:Nat→Nat}:∀{vs:List Value} {l:List (TV R.T)},CK vs=some l→∃y,vs.mapM jv=some y∧aB R ρ top l y
 | [],l,h=>by cases h;exact⟨[],rfl,rfl⟩
 |v::vs,l,h=>by
  unfold CK at h
  cases h1:(zS v:Option (TV R.T)) with
  |none=>simp only[h1] at h;cases h
  |some a=>
   cases h2:(CK vs:Option (List (TV R.T))) with
   |none=>simp only[h1,h2] at h;cases h
   |some as=>
    simp only[h1,h2] at h;cases h
    obtain⟨y,hy,hr⟩:=abV (ρ:=ρ) (top:=top) h1
    obtain⟨ys,hys,hrs⟩:=abW h2
    exact⟨y::ys,by simp[hy,hys],.cons' hr hrs⟩
theorem abX {top:Nat→Nat} {x:TV R.T} {v:Value} (h:CO v=some x):∃y,ofValue v=some y∧Rl R ρ top x y:=by
 unfold CO at h
 split at h
 ·rename_i cs
  cases h2:(CK cs.toList:Option (List (TV R.T))) with
  |none=>simp only[h2] at h;cases h
  |some l=>
   simp only[h2] at h;cases h
   obtain⟨ys,hys,hrs⟩:=abW (ρ:=ρ) (top:=top) h2
   exact⟨.agg ys,by simp[ofValue,hys],by unfold Rl;exact⟨_,rfl,hrs⟩⟩
 ·obtain⟨y,hy,hr⟩:=abV (ρ:=ρ) (top:=top) h
  refine⟨y, ?_,hr⟩
  unfold zS at h
  split at h<;>first|exact hy|cases h
def ow (fr:Fr) (g:List (Nat×Bool)):Prop:=∀j u,look g j=some u→fr.tm j= .bool u
theorem ow.nil:ow fr []:=fun _ _ h=>by cases h
theorem ow.cons {g:List (Nat×Bool)} {j:Nat} {u:Bool} (h:fr.tm j= .bool u) (hg:ow fr g):ow fr ((j,u)::g):=fun i v hi=>by
 by_cases e:i=j
 ·subst e;rw[mU] at hi;cases hi;exact h
 ·rw[jR _ _ e] at hi;exact hg i v hi
theorem am2 {fr:Fr} {top:Nat→Nat} {g:List (Nat×Bool)} (hg:ow fr g) {y x:TV R.T} {v:V} (hy:iT fr ρ top y v) (he:MB g y=some x):Rl R ρ top x v:=by
 cases y with
 |opt j w z=>
  unfold MB at he
  dsimp only at he
  split at he
  ·rename_i u hu
   cases he
   have:=hg j u hu
   by_cases e:u=w
   ·subst e;rw[beq_self_eq_true];exact hy.1 this
   ·rw[show (u==w)=false by simpa using e]
    have e':u= !w:=by cases u<;>cases w<;>first|rfl|exact absurd rfl e
    unfold Rl;exact hy.2 (.inl (by rw[this,e']))
  ·cases he
 |_=>cases he;exact hy
theorem bH (h:aJ ρ b st fr σ) {g:List (Nat×Bool)} (hg:ow fr g) {o:Operand} {x:TV R.T} (he:bO g st o=some x):Rl R ρ σ.top x (fr.ev E o):=by
 cases o with
 |tmp t=>
  rw[Cy]
  unfold bO at he
  dsimp only at he
  split at he
  ·rename_i v hv;exact am2 hg (h.fr _ _ hv) he
  ·cases he
 |const v=>
  rw[aa9]
  obtain⟨y,hy,hr⟩:=abX (ρ:=ρ) (top:=σ.top) (show CO v=some x from he)
  rw[hy];exact hr
 |func f=>cases he;rw[abb];unfold Rl;exact⟨[],[],rfl,rfl,rfl⟩
 |global i=>cases he
theorem xZ (h:aJ ρ b st fr σ) {g:List (Nat×Bool)} (hg:ow fr g):∀{l:List Operand} {xs:List (TV R.T)},nD g st l=some xs→aB R ρ σ.top xs (l.map (fr.ev E))
 | [],xs,he=>by cases he;rfl
 |o::l,xs,he=>by
  unfold nD at he
  cases h1:bO g st o with
  |none=>simp only[h1] at he;cases he
  |some a=>
   cases h2:nD g st l with
   |none=>simp only[h1,h2] at he;cases he
   |some as=>simp only[h1,h2] at he;cases he;exact .cons' (bH h hg h1) (xZ h hg h2)
theorem Vt (h:aJ ρ b st fr σ) {g:List (Nat×Bool)} (hg:ow fr g):∀{l:List (Nat×Operand)} {xs:List (Nat×TV R.T)},CP g st l=some xs→xs.map (·.1)=l.map (·.1)∧aB R ρ σ.top (xs.map (·.2)) (l.map fun p=>fr.ev E p.2)
 | [],xs,he=>by cases he;exact⟨rfl,rfl⟩
 | (i,o)::l,xs,he=>by
   unfold CP at he
   cases h1:bO g st o with
   |none=>simp only[h1] at he;cases he
   |some a=>
    cases h2:CP g st l with
    |none=>simp only[h1,h2] at he;cases he
    |some as=>
     simp only[h1,h2] at he;cases he
     obtain⟨e1,e2⟩:=Vt h hg h2
     exact⟨by simp[e1],.cons' (bH h hg h1) e2⟩
end
end Aq
end
section
namespace Aq
open Go
set_option linter.unusedSectionVars false
set_option linter.unusedVariables false
theorem am3 {n m:Nat} {v:Vec n} {w:Vec m} (h:Mt v=some w):n=m∧HEq v w:=by
 unfold Mt at h
 split at h
 ·rename_i e;subst e;cases h;exact⟨rfl,HEq.rfl⟩
 ·cases h
theorem abY:∀{k:jA} {s:Sg} {x:CB k},CF k s=some x→GD k x=s
 |.i k,.i k' y,x,h=>by
  have h':(if k'=k then some y else none)=some (x:Int):=h
  by_cases e:k'=k
  ·subst e;rw[if_pos rfl] at h';cases h';rfl
  ·rw[if_neg e] at h';cases h'
 |.a k n,.a k' n' v,x,h=>by
  have h':(if k'=k then Mt (m:=n) v else none)=some (x:Vec n):=h
  by_cases e:k'=k
  ·subst e;rw[if_pos rfl] at h'
   obtain⟨e1,e2⟩:=am3 h'
   subst e1;cases e2;rfl
  ·rw[if_neg e] at h';cases h'
 |.i k,.a _ _ _,x,h=>by cases h
 |.a k n,.i _ _,x,h=>by cases h
theorem Na:∀{l:List jA} {ss:List Sg} {x:zM l},vR l ss=some x→sN l x=ss
 | [],ss,x,h=>by
   cases ss with
   |nil=>rfl
   |cons s ss=>cases h
 | [k],ss,x,h=>by
   cases ss with
   |nil=>cases h
   |cons s ss=>
    cases ss with
    |nil=>
     show [GD k x]=[s]
     rw[abY (show CF k s=some x from h)]
    |cons s' ss=>cases h
 |k::k'::l,ss,x,h=>by
  cases ss with
  |nil=>cases h
  |cons s ss=>
   have h':(match CF k s with
    |some x=>match vR (k'::l) ss with
     |some p=>some (x,p)
     |none=>none
    |none=>none)=some x:=h
   cases hu:CF k s with
   |none=>simp only[hu] at h';cases h'
   |some y=>
    cases hs:vR (k'::l) ss with
    |none=>simp only[hu,hs] at h';cases h'
    |some q=>
     simp only[hu,hs] at h'
     obtain rfl:=Option.some.inj h'
     show GD k y::sN (k'::l) q=s::ss
     rw[abY hu,Na hs]
section
variable {R:jB} (hR:oh R)
variable {ρ:aS} {top:Nat→Nat} {b:Nat} {st:MS R.T} {fr:Fr} {σ:ah}
include hR
theorem Ac {t:Ty} {x:Den R.T t} {tv:TV R.T} {v:V} (h:oV R t tv=some x) (hr:Rl R ρ top tv v):Rl R ρ top (xH R .any t x) v:=by
 cases t with
 |int k=>rw[Vl h hr];unfold Rl;rfl
 |bool=>rw[Vm h hr];unfold Rl;rfl
 |str=>rw[Vn h hr];unfold Rl;rfl
 |slice t=>obtain⟨c,hv⟩:=abK h hr;rw[hv];unfold Rl;exact⟨c,rfl,trivial⟩
 |st n=>cases h
theorem abZ:∀(l:List Ty) (p:mO R.T l) (cs:List (TV R.T)) (vs:List V),xI R l cs=some p→aB R ρ top cs vs→aB R ρ top (jM R .any l p) vs
 | [],p,cs,vs,h,hr=>by
   cases cs with
   |nil=>rw[hr.gK];rfl
   |cons c cs=>cases h
 | [t],p,cs,vs,h,hr=>by
   have h':oV R t (hd1 R cs)=some p:=h
   cases cs with
   |nil=>cases t<;>cases h'
   |cons c cs=>
    cases cs with
    |nil=>
     obtain⟨v,l,rfl,h1,h2⟩:=hr.eO
     rw[h2.gK]
     exact .cons' (Ac hR h' h1) rfl
    |cons c' cs=>cases t<;>cases h'
 |t::u::l,p,cs,vs,h,hr=>by
  cases cs with
  |nil=>cases h
  |cons c cs=>
   obtain⟨v,vs,rfl,h1,h2⟩:=hr.eO
   unfold xI at h
   cases hu:oV R t c with
   |none=>simp only[hu] at h;cases h
   |some y=>
    cases hs:xI R (u::l) cs with
    |none=>simp only[hu,hs] at h;cases h
    |some q=>
     simp only[hu,hs] at h
     obtain rfl:=Option.some.inj h
     exact .cons' (Ac hR hu h1) (abZ (u::l) q cs vs hs h2)
theorem Hf {t:Ty} {x:Den R.T t} {tv:TV R.T} {v:V} (h:nW R t tv=some x) (hr:Rl R ρ top tv v):Rl R ρ top (gV R .any t x) v:=by
 cases t with
 |st n=>
  change zR R n tv=some x at h
  unfold zR at h
  split at h
  ·rename_i cs
   split at h
   ·rename_i p hp
    obtain rfl:=Option.some.inj h
    obtain⟨l,hv,hl⟩:=hr.kD
    subst hv
    show Rl R ρ top (.agg (jM R .any (R.lf n) (R.of n (R.to n p)))) _
    rw[hR.G7]
    unfold Rl;exact⟨l,rfl,abZ hR _ _ _ _ hp hl⟩
   ·cases h
  ·cases h
 |int k=>exact Ac hR (t:=.int k) h hr
 |bool=>exact Ac hR (t:=.bool) h hr
 |str=>exact Ac hR (t:=.str) h hr
 |slice t=>exact Ac hR (t:=.slice t) h hr
omit hR in
theorem ab0 {sz n:Nat} {c c':Cp} {x:Cap} (h:CU c c'=true) (hx:Du ρ top sz n c x):Du ρ top sz n c' x:=by
 cases c<;>cases c'<;>simp only[CU,Bool.false_eq_true] at h<;>first|trivial|exact hx|exact .inl hx|exact .inr (.inl hx)| (rw[←eF h];exact hx)
omit hR in
theorem Vu {k e k' e':Ty} {m:List (Den R.T k'×Den R.T e')} {x:List (Den R.T k×Den R.T e)} (h:CV R m=some x):k'=k∧e'=e∧HEq m x:=by
 unfold CV at h
 split at h
 ·rename_i e;obtain⟨rfl,rfl⟩:=e;cases h;exact⟨rfl,rfl,HEq.rfl⟩
 ·cases h
omit hR in
theorem ab1 {c:Cp} {t:Ty} {x:List (Den R.T t)} {tv:TV R.T} {v:V} (h:MF R c t tv=some x) (hr:Rl R ρ top tv v):Rl R ρ top (.aj c t x) v:=by
 unfold MF at h
 split at h
 ·rename_i c' t' l
  cases hc:CU c' c
  ·rw[hc] at h;cases h
  ·rw[hc,cond_true] at h
   obtain⟨e,e2⟩:=rz h;subst e;cases e2
   obtain⟨c'',hv,hcc⟩:=hr.kQ
   unfold Rl;exact⟨c'',hv,ab0 hc hcc⟩
 ·cases hc:CU .nil c
  ·rw[hc] at h;cases h
  ·rw[hc,cond_true] at h;cases h
   unfold Rl;exact⟨.nil,hr.o8,ab0 hc rfl⟩
 ·cases h
mutual
theorem Vv:∀(k:Sk) (x:qg R.T k) (tv:TV R.T) (v:V),pk R k tv=some x→Rl R ρ top tv v→Rl R ρ top (up R .any k x) v
 |.d t,x,tv,v,h,hr=>Hf hR (by unfold pk at h;exact h) hr
 |.l c t,x,tv,v,h,hr=>ab1 (by unfold pk at h;exact h) hr
 |.agg l,x,tv,v,h,hr=>by
  cases tv<;>first| (exact absurd (show none=some x from h) (by simp))|skip
  rename_i cs
  obtain⟨vs,rfl,hl⟩:=hr.kD
  show Rl R ρ top (.agg (kM R .any l x)) _
  unfold Rl;exact⟨vs,rfl,DJ l x cs vs h hl⟩
 |.ref o off,x,tv,v,h,hr=>by
  cases tv<;>first| (exact absurd (show none=some x from h) (by simp))|skip
  rename_i p off'
  have h':(bif Nat.beq p o&& Nat.beq off' off then some () else none)=some x:=h
  cases hb:(Nat.beq p o&& Nat.beq off' off)
  ·rw[hb] at h';cases h'
  ·rw[Bool.and_eq_true] at hb
   rw[eF hb.1,eF hb.2] at hr
   exact hr
 |.aM l off,x,tv,v,h,hr=>by
  cases tv<;>first| (exact absurd (show none=some x from h) (by simp))|skip
  rename_i cs off'
  have h':(bif Nat.beq off' off then iq R l cs else none)=some x:=h
  cases hb:Nat.beq off' off
  ·rw[hb] at h';cases h'
  ·rw[hb,cond_true] at h'
   rw[eF hb] at hr
   obtain⟨vs,rfl,hl⟩:=hr.uH
   show Rl R ρ top (.aM (kM R .any l x) off) _
   unfold Rl;exact⟨vs,rfl,DJ l x _ vs h' hl⟩
 |.cK o,x,tv,v,h,hr=>by
  cases tv<;>first| (exact absurd (show none=some x from h) (by simp))|skip
  rename_i p
  have h':(bif Nat.beq p o then some () else none)=some x:=h
  cases hb:Nat.beq p o
  ·rw[hb] at h';cases h'
  ·rw[eF hb] at hr
   exact hr
 |.dD k e,x,tv,v,h,hr=>by
  cases tv<;>first| (exact absurd (show none=some x from h) (by simp))|skip
  rename_i k' e' m
  obtain⟨e1,e2,e3⟩:=Vu (show CV R m=some x from h)
  subst e1;subst e2;cases e3
  exact hr
 |.fn f a b,x,tv,v,h,hr=>by
  cases tv<;>first| (exact absurd (show none=some x from h) (by simp))|skip
  rename_i f' a' b'
  have h':(bif Nat.beq f' f then (match iq R a a' with
   |some x=>match iq R b b' with
    |some y=>some (x,y)
    |none=>none
   |none=>none) else none)=some x:=h
  cases hb:Nat.beq f' f
  ·rw[hb] at h';cases h'
  ·rw[hb,cond_true] at h'
   rw[eF hb] at hr
   obtain⟨va,vb,rfl,ha,hbb⟩:=hr.oq
   cases h1:iq R a a' with
   |none=>simp only[h1] at h';cases h'
   |some y=>
    cases h2:iq R b b' with
    |none=>simp only[h1,h2] at h';cases h'
    |some z=>
     simp only[h1,h2] at h';cases h'
     show Rl R ρ top (.fn f (kM R .any a y) (kM R .any b z)) _
     unfold Rl;exact⟨va,vb,rfl,DJ a y _ va h1 ha,DJ b z _ vb h2 hbb⟩
 |.dK,x,tv,v,h,hr=>by
  cases tv<;>first| (exact absurd (show none=some x from h) (by simp))|skip
  exact hr
 |.vw o t,x,tv,v,h,hr=>by
  cases tv<;>first| (exact absurd (show none=some x from h) (by simp))|skip
  rename_i p t'
  have h':(bif Nat.beq p o then (if t'=t then some () else none) else none)=some x:=h
  cases hb:Nat.beq p o
  ·rw[hb] at h';cases h'
  ·rw[hb,cond_true] at h'
   split at h'
   ·rename_i e
    rw[eF hb,e] at hr
    exact hr
   ·cases h'
 |.sg l,x,tv,v,h,hr=>by
  cases tv<;>first| (exact absurd (show none=some x from h) (by simp))|skip
  rename_i ss
  show Rl R ρ top (.sg (sN l x)) v
  rw[Na (show vR l ss=some x from h)]
  exact hr
 |.undef,x,tv,v,h,hr=>by
  cases tv<;>first| (exact absurd (show none=some x from h) (by simp))|skip
  exact hr
theorem DJ:∀(l:List Sk) (x:ak R.T l) (cs:List (TV R.T)) (vs:List V),iq R l cs=some x→aB R ρ top cs vs→aB R ρ top (kM R .any l x) vs
 | [],x,cs,vs,h,hr=>by
   cases cs with
   |nil=>rw[hr.gK];rfl
   |cons c cs=>exact absurd (show none=some x from h) (by simp)
 | [k],x,cs,vs,h,hr=>by
   cases cs with
   |nil=>exact absurd (show none=some x from h) (by simp)
   |cons c cs=>
    cases cs with
    |nil=>
     obtain⟨v,l,rfl,h1,h2⟩:=hr.eO
     rw[h2.gK]
     show aB R ρ top [up R .any k x] _
     exact .cons' (Vv k x _ v h h1) rfl
    |cons c' cs=>exact absurd (show none=some x from h) (by simp)
 |k::k'::l,x,cs,vs,h,hr=>by
  cases cs with
  |nil=>exact absurd (show none=some x from h) (by simp)
  |cons c cs=>
   have h':(match pk R k c with
    |some x=>match iq R (k'::l) cs with
     |some p=>some (x,p)
     |none=>none
    |none=>none)=some x:=h
   obtain⟨v,vs,rfl,h1,h2⟩:=hr.eO
   cases hu:pk R k c with
   |none=>simp only[hu] at h';cases h'
   |some y=>
    cases hs:iq R (k'::l) cs with
    |none=>simp only[hu,hs] at h';cases h'
    |some q=>
     simp only[hu,hs] at h'
     obtain rfl:=Option.some.inj h'
     show aB R ρ top (up R .any k y::kM R .any (k'::l) q) _
     exact .cons' (Vv k y _ v hu h1) (DJ (k'::l) q _ vs hs h2)
end
omit hR in
theorem am4 {k:Sk} {j:Nat} {w:Bool} {y:TV R.T} {x:qg R.T k} (h:pk R k (.opt j w y)=some x):False:=by
 cases k with
 |d t=>cases t<;>(unfold pk at h;cases h)
 |_=>unfold pk at h;cases h
theorem iT.pk {k:Sk} {x:qg R.T k} {tv:TV R.T} {v:V} (h:pk R k tv=some x) (hr:iT fr ρ top tv v):Rl R ρ top (up R .any k x) v:=by
 cases tv<;>first|exact Vv hR _ _ _ _ h hr|exact(am4 h).elim
theorem Vw (h:aJ ρ b st fr σ):∀(l:List (Nat×Sk)) (x:zP R.T l),qm R st.fr l=some x→∀i v,look (GK R l x) i=some v→Rl R ρ σ.top v (fr.tm i)
 | [],x,hx,i,v,hv=>by cases hv
 | [(j,k)],x,hx,i,v,hv=>by
   unfold qm at hx
   split at hx
   ·rename_i y hy
    by_cases e:i=j
    ·subst e
     have hv':look [(i,up R .any k x)] i=some v:=hv
     rw[mU] at hv';cases hv'
     exact iT.pk hR hx (h.fr _ _ hy)
    ·have hv':look [(j,up R .any k x)] i=some v:=hv
     rw[jR _ _ e] at hv';cases hv'
   ·cases hx
 | (j,k)::q::l,x,hx,i,v,hv=>by
   unfold qm at hx
   split at hx
   ·rename_i y hy
    cases hu:pk R k y with
    |none=>simp only[hu] at hx;cases hx
    |some z=>
     cases hs:qm R st.fr (q::l) with
     |none=>simp only[hu,hs] at hx;cases hx
     |some p=>
      simp only[hu,hs] at hx
      obtain rfl:=Option.some.inj hx
      have hv':look ((j,up R .any k z)::GK R (q::l) p) i=some v:=hv
      by_cases e:i=j
      ·subst e
       rw[mU] at hv';cases hv'
       exact iT.pk hR hu (h.fr _ _ hy)
      ·rw[jR _ _ e] at hv'
       exact Vw h (q::l) p hs i v hv'
   ·cases hx
theorem ab2 {o:Nat} {k:oQ} {x:zN R.T k} {y:Ob R.T} (hx:CX R k y=some x) (hy:fq ρ σ o y):fq ρ σ o (sO R k x):=by
 cases k with
 |cells l=>
  cases y with
  |cells cs=>
   obtain⟨s,vs,h1,h2,h3⟩:=hy
   exact⟨s,vs,h1,h2,DJ hR l x _ vs hx h3⟩
  |map k e m=>cases hx
  |smap _ _=>cases hx
  |arr _ _=>cases hx
  |sg _=>cases hx
  |gone=>cases hx
  |ro b=>cases hx
 |st n=>
  cases y with
  |cells cs=>
   obtain⟨s,vs,h1,h2,h3⟩:=hy
   obtain⟨l,e,hl⟩:=(Hf hR (t:=.st n) (show nW R (.st n) (.agg cs)=some x from hx) (v:=.agg vs) ⟨vs,rfl,h3⟩).kD
   cases e
   exact⟨s,vs,h1,h2,hl⟩
  |map k e m=>cases hx
  |smap _ _=>cases hx
  |arr _ _=>cases hx
  |sg _=>cases hx
  |gone=>cases hx
  |ro b=>cases hx
 |arr t=>
  cases y with
  |arr t' l=>
   obtain⟨e,e2⟩:=rz hx
   subst e;cases e2
   exact hy
  |cells cs=>cases hx
  |map _ _ _=>cases hx
  |smap _ _=>cases hx
  |sg _=>cases hx
  |gone=>cases hx
  |ro b=>cases hx
 |sg l=>
  cases y with
  |sg ss=>
   show fq ρ σ o (.sg (sN l x))
   rw[Na (show vR l ss=some x from hx)]
   exact hy
  |cells cs=>cases hx
  |map _ _ _=>cases hx
  |smap _ _=>cases hx
  |arr _ _=>cases hx
  |gone=>cases hx
  |ro b=>cases hx
 |map k e=>
  cases y with
  |map k' e' m=>
   obtain⟨e1,e2,e3⟩:=Vu hx
   subst e1;subst e2;cases e3
   exact hy
  |cells cs=>cases hx
  |smap _ _=>cases hx
  |arr _ _=>cases hx
  |sg _=>cases hx
  |gone=>cases hx
  |ro b=>cases hx
theorem ab3 (h:aJ ρ b st fr σ):∀(l:List (Nat×oQ)) (x:zO R.T l),qX R st.ob l=some x→∀i v,look (xL R l x) i=some v→fq ρ σ i v
 | [],x,hx,i,v,hv=>by cases hv
 | [(j,k)],x,hx,i,v,hv=>by
   unfold qX at hx
   split at hx
   ·rename_i y hy
    by_cases e:i=j
    ·subst e
     have hv':look [(i,sO R k x)] i=some v:=hv
     rw[mU] at hv';cases hv'
     exact ab2 hR hx (h.ob _ _ hy)
    ·have hv':look [(j,sO R k x)] i=some v:=hv
     rw[jR _ _ e] at hv';cases hv'
   ·cases hx
 | (j,k)::q::l,x,hx,i,v,hv=>by
   unfold qX at hx
   split at hx
   ·rename_i y hy
    cases hu:CX R k y with
    |none=>simp only[hu] at hx;cases hx
    |some z=>
     cases hs:qX R st.ob (q::l) with
     |none=>simp only[hu,hs] at hx;cases hx
     |some p=>
      simp only[hu,hs] at hx
      obtain rfl:=Option.some.inj hx
      have hv':look ((j,sO R k z)::xL R (q::l) p) i=some v:=hv
      by_cases e:i=j
      ·subst e
       rw[mU] at hv';cases hv'
       exact ab2 hR hu (h.ob _ _ hy)
      ·rw[jR _ _ e] at hv'
       exact ab3 h (q::l) p hs i v hv'
   ·cases hx
theorem aJ.pack (h:aJ ρ b st fr σ) {s:Shape} {p:oU R.T s} (hp:pack R st s=some p):aJ ρ b (unpack R s p) fr σ:=by
 obtain⟨sl,ob⟩:=s
 cases ob with
 |nil=>
  have hp':qm R st.fr sl=some p:=hp
  exact {h with fr:=fun i v hv=>.of (Vw hR h sl p hp' i v hv),ob:=fun i v hv=>by cases hv}
 |cons o os=>
  unfold Aq.pack at hp
  cases hu:qm R st.fr sl with
  |none=>simp only[hu] at hp;cases hp
  |some x=>
   cases hs:qX R st.ob (o::os) with
   |none=>simp only[hu,hs] at hp;cases hp
   |some y=>
    simp only[hu,hs] at hp
    obtain rfl:=Option.some.inj hp
    exact {h with fr:=fun i v hv=>.of (Vw hR h sl x hu i v hv),ob:=fun i v hv=>ab3 hR h (o::os) y hs i v hv}
omit hR in
theorem ab4 {e x:Ex} (h:zW e x=true):e=x:=by
 cases e<;>cases x<;>simp only[zW,Bool.false_eq_true] at h<;>first|rfl|rw[eF h]
omit hR in
def RO (st:MS R.T) (o:Nat):Prop:=∀x,look st.ob o=some x→nX x=true
omit hR in
theorem ab5 {k:oQ} {x:zN R.T k} {y:Ob R.T} (hx:CX R k y=some x) (hy:nX y=true):False:=by
 cases y with
 |cells _=>cases hy
 |map _ _ _=>cases hy
 |smap _ _=>cases hy
 |arr _ _=>cases hy
 |sg _=>cases hy
 |gone=>cases k<;>cases hx
 |ro b=>cases k<;>cases hx
omit hR in
theorem ab6 {i:Nat} (hr:RO st i):∀(l:List (Nat×oQ)) (x:zO R.T l),qX R st.ob l=some x→look (xL R l x) i=none
 | [],x,hx=>rfl
 | [(j,k)],x,hx=>by
   unfold qX at hx
   split at hx
   ·rename_i y hy
    by_cases e:i=j
    ·subst e;exact(ab5 hx (hr _ hy)).elim
    ·show look [(j,sO R k x)] i=none
     rw[jR _ _ e];rfl
   ·cases hx
 | (j,k)::q::l,x,hx=>by
   unfold qX at hx
   split at hx
   ·rename_i y hy
    cases hu:CX R k y with
    |none=>simp only[hu] at hx;cases hx
    |some z=>
     cases hs:qX R st.ob (q::l) with
     |none=>simp only[hu,hs] at hx;cases hx
     |some p=>
      simp only[hu,hs] at hx
      obtain rfl:=Option.some.inj hx
      show look ((j,sO R k z)::xL R (q::l) p) i=none
      by_cases e:i=j
      ·subst e;exact(ab5 hu (hr _ hy)).elim
      ·rw[jR _ _ e];exact ab6 hr (q::l) p hs
   ·cases hx
omit hR in
theorem am5 {s:Shape} {p:oU R.T s} {i:Nat} (hp:Aq.pack R st s=some p) (hr:RO st i):look (unpack R s p).ob i=none:=by
 obtain⟨sl,ob⟩:=s
 cases ob with
 |nil=>rfl
 |cons o os=>
  unfold Aq.pack at hp
  cases hu:qm R st.fr sl with
  |none=>simp only[hu] at hp;cases hp
  |some x=>
   cases hs:qX R st.ob (o::os) with
   |none=>simp only[hu,hs] at hp;cases hp
   |some y=>
    simp only[hu,hs] at hp
    obtain rfl:=Option.some.inj hp
    exact ab6 hr (o::os) y hs
omit hR
theorem Ad {α:Type}:∀(l m:List (Nat×α)) (i:Nat),look (l++m) i=match look l i with|some x=>some x|none=>look m i
 | [],m,i=>rfl
 | (j,x)::l,m,i=>by
   show (bif Nat.beq j i then some x else look (l++m) i)=match (bif Nat.beq j i then some x else look l i) with|some x=>some x|none=>look m i
   cases Nat.beq j i
   ·exact Ad l m i
   ·rfl
theorem aJ.over {st':MS R.T} (h:aJ ρ b st fr σ) (h':aJ ρ b st' fr σ):aJ ρ b (st.over st') fr σ:={h with
 fr:=fun i v hv=>by
  have hv':look (st.fr++st'.fr) i=some v:=hv
  rw[Ad] at hv'
  split at hv'
  ·rename_i x hx;cases hv';exact h.fr _ _ hx
  ·exact h'.fr _ _ hv'
 ob:=fun i v hv=>by
  have hv':look (st.ob++st'.ob) i=some v:=hv
  rw[Ad] at hv'
  split at hv'
  ·rename_i x hx;cases hv';exact h.ob _ _ hx
  ·exact h'.ob _ _ hv'}
theorem vW {α:Type} {p:Nat→α→Bool} {f:α→α} {l:List (Nat×α)}:∀{is:List Nat} {i:Nat} {y:α},look (mP p f l is) i=some y→∃x,look l i=some x∧p i x=true∧y=f x
 | [],i,y,h=>by cases h
 |j::is,i,y,h=>by
  unfold mP at h
  split at h
  ·rename_i x hx
   cases hp:p j x
   ·rw[hp] at h;exact vW h
   ·rw[hp,cond_true] at h
    by_cases e:i=j
    ·subst e;rw[mU] at h;cases h;exact⟨x,hx,hp,rfl⟩
    ·rw[jR _ _ e] at h;exact vW h
  ·exact vW h
mutual
theorem Rl.solid {ρ':aS} {top':Nat→Nat} {W:List Nat} (ho:∀o,bn o W=false→ρ'.ob o=ρ.ob o∧ρ'.ln o=ρ.ln o):∀(x:TV R.T) (v:V),Aq.solid W x=true→Rl R ρ top x v→Rl R ρ' top' x v
 |.aj c t l,v,hs,h=>by
  obtain⟨c',hv,hc⟩:=h
  refine⟨c',hv, ?_⟩
  cases c<;>first|exact hc| (simp[Aq.solid] at hs;done)
 |.ref o off,v,hs,h=>by
  obtain⟨s,h1,h2⟩:=h
  unfold Aq.solid at hs
  exact⟨s,by rw[(ho o (by simpa using hs)).1];exact h1,h2⟩
 |.cK o,v,hs,h=>by
  obtain⟨s,h1,h2⟩:=h
  unfold Aq.solid at hs
  exact⟨s,by rw[(ho o (by simpa using hs)).1];exact h1,h2⟩
 |.vw o t,v,hs,h=>by
  unfold Aq.solid at hs
  obtain⟨k1,k2⟩:=ho o (by simpa using hs)
  rcases h with ⟨s,h1,h2⟩| ⟨h1,h2⟩
  ·exact .inl ⟨s,by rw[k1];exact h1,by rw[k2];exact h2⟩
  ·exact .inr ⟨by rw[k2];exact h1,h2⟩
 |.kZ o t i off,v,hs,h=>by
  obtain⟨s,h1,h2⟩:=h
  unfold Aq.solid at hs
  exact⟨s,by rw[(ho o (by simpa using hs)).1];exact h1,h2⟩
 |.sv o _ _ _ _ _,v,hs,h=>by
  obtain⟨s,h1,h2⟩:=h
  unfold Aq.solid at hs
  exact⟨s,by rw[(ho o (by simpa using hs)).1];exact h1,h2⟩
 |.sel o _ _ _ _ _,v,hs,h=>by
  obtain⟨s,h1,h2⟩:=h
  unfold Aq.solid at hs
  exact⟨s,by rw[(ho o (by simpa using hs)).1];exact h1,h2⟩
 |.sg _,_,_,h=>h
 |.qW _ _ _ _,_,_,h=>h
 |.agg cs,v,hs,h=>by obtain⟨l,hv,hl⟩:=h;exact⟨l,hv,aB.solid ho cs l (by unfold Aq.solid at hs;exact hs) hl⟩
 |.bJ cs,v,hs,h=>by obtain⟨l,hv,hl⟩:=h;exact⟨l,hv,aB.solid ho cs l (by unfold Aq.solid at hs;exact hs) hl⟩
 |.aM cs off,v,hs,h=>by obtain⟨l,hv,hl⟩:=h;exact⟨l,hv,aB.solid ho cs l (by unfold Aq.solid at hs;exact hs) hl⟩
 |.fn f a b,v,hs,h=>by
  obtain⟨a',b',hv,ha,hb⟩:=h
  unfold Aq.solid at hs
  rw[Bool.and_eq_true] at hs
  exact⟨a',b',hv,aB.solid ho a a' hs.1 ha,aB.solid ho b b' hs.2 hb⟩
 |.opt _ _ _,_,_,h=>h.elim
 |.int _ _,_,_,h=>h
 |.bool _,_,_,h=>h
 |.iM _,_,_,h=>h
 |.str _,_,_,h=>h
 |.fU,_,_,h=>h
 |.fB,_,_,h=>h
 |.eY,_,_,h=>h
 |.iA,_,_,h=>h
 |.dK,_,_,h=>h
 |.dD _ _ _,_,_,h=>h
 |.undef,_,_,h=>h
 |.gone,_,_,h=>trivial
theorem aB.solid {ρ':aS} {top':Nat→Nat} {W:List Nat} (ho:∀o,bn o W=false→ρ'.ob o=ρ.ob o∧ρ'.ln o=ρ.ln o):∀(x:List (TV R.T)) (v:List V),qj W x=true→aB R ρ top x v→aB R ρ' top' x v
 | [],_,_,h=>h
 |x::xs,_,hs,⟨v,vs,e,h1,h2⟩=>by
  unfold qj at hs
  rw[Bool.and_eq_true] at hs
  exact⟨v,vs,e,Rl.solid ho x v hs.1 h1,aB.solid ho xs vs hs.2 h2⟩
end
theorem am6 {x:TV R.T} {v:V} (h:iT fr ρ top x v):iT fr ρ top (UU x) v:=by
 cases x with
 |aj c t l=>
  cases c with
  |own u=>obtain⟨c',hv,_⟩:=Rl.kQ (show Rl R ρ top (.aj (.own u) t l) v from h);exact .of (x:=.aj .any t l) (by unfold Rl;exact⟨c',hv,trivial⟩)
  |_=>exact h
 |_=>exact h
theorem am7 {W:List Nat} {x:TV R.T} {v:V} (hs:Aq.solid W x=true) (h:iT fr ρ top x v):Rl R ρ top x v:=by
 cases x<;>first|exact h| (simp[Aq.solid] at hs;done)
structure bI (nr:Bool) (o:Nat) (st:MS R.T) (ρ:aS) (σ:ah) (st':MS R.T) (ρ':aS) (σ':ah):Prop where
 ob:ρ'.ob o=ρ.ob o
 ln:ρ'.ln o=ρ.ln o
 om:ρ'.om=ρ.om
 nx:σ.next≤σ'.next
 lp:∀l,l<σ.next→σ'.loops l=σ.loops l
 dp:nr=true→∀a o,1<a→σ'.obj (a,o)=σ.obj (a,o)
 ro:RO st o→RO st' o∧∀s,σ'.bY (1,o) s=σ.bY (1,o) s∧σ'.fZ (1,o) s=σ.fZ (1,o) s
structure Kp (nr:Bool) (W:List Nat) (st:MS R.T) (fr:Fr) (σ:ah) (ρ:aS) (st':MS R.T) (fr':Fr) (σ':ah) (ρ':aS):Prop where
 fr:∀i,bn i W=false→fr'.tm i=fr.tm i
 ob:∀o,bn o W=false→bI nr o st ρ σ st' ρ' σ'
section
variable {nr:Bool}
theorem Vx {o s a' o':Nat} {x:gQ} (h:1<a'):(σ.setObj (1,o) s x).obj (a',o')=σ.obj (a',o'):=by
 unfold ah.setObj upd
 dsimp only
 rw[if_neg]
 intro e
 have:=congrArg Prod.fst e
 dsimp only at this
 omega
theorem am8 {o a' o':Nat} (h:1<a'):(σ.kH (1,o)).obj (a',o')=σ.obj (a',o'):=by
 unfold ah.kH upd
 dsimp only
 rw[if_neg]
 intro e
 have:=congrArg Prod.fst e
 dsimp only at this
 omega
theorem bI.refl {o:Nat}:bI nr o st ρ σ st ρ σ:=⟨rfl,rfl,rfl,Nat.le_refl _,fun _ _=>rfl,fun _ _ _ _=>rfl,fun h=>⟨h,fun _=>⟨rfl,rfl⟩⟩⟩
theorem bI.trans {o:Nat} {st' gM:MS R.T} {ρ' oz:aS} {σ' lD:ah} (h:bI nr o st ρ σ st' ρ' σ') (g:bI nr o st' ρ' σ' gM oz lD):bI nr o st ρ σ gM oz lD:=
 ⟨g.ob.trans h.ob,g.ln.trans h.ln,g.om.trans h.om,Nat.le_trans h.nx g.nx,fun l hl=>(g.lp l (Nat.lt_of_lt_of_le hl h.nx)).trans (h.lp l hl),fun hn a o ha=>(g.dp hn a o ha).trans (h.dp hn a o ha),fun hr=>⟨(g.ro (h.ro hr).1).1,fun s=>⟨((g.ro (h.ro hr).1).2 s).1.trans ((h.ro hr).2 s).1,((g.ro (h.ro hr).1).2 s).2.trans ((h.ro hr).2 s).2⟩⟩⟩
theorem Kp.refl {W:List Nat}:Kp nr W st fr σ ρ st fr σ ρ:=⟨fun _ _=>rfl,fun _ _=>.refl⟩
theorem Kp.trans {W:List Nat} {st' gM:MS R.T} {fr' yg:Fr} {ρ' oz:aS} {σ' lD:ah} (h:Kp nr W st fr σ ρ st' fr' σ' ρ') (g:Kp nr W st' fr' σ' ρ' gM yg lD oz):Kp nr W st fr σ ρ gM yg lD oz:=
 ⟨fun i hi=>(g.fr i hi).trans (h.fr i hi),fun o ho=>(h.ob o ho).trans (g.ob o ho)⟩
theorem Kp.mono {W W':List Nat} {st':MS R.T} {fr':Fr} {ρ':aS} {σ':ah} (h:Kp nr W st fr σ ρ st' fr' σ' ρ') (hw:∀i,bn i W'=false→bn i W=false):Kp nr W' st fr σ ρ st' fr' σ' ρ':=
 ⟨fun i hi=>h.fr i (hw i hi),fun o ho=>h.ob o (hw o ho)⟩
theorem Hg:∀(i:Nat) (l m:List Nat),bn i (l++m)=(bn i l||bn i m)
 |i,[],m=>rfl
 |i,j::l,m=>by show (Nat.beq i j||bn i (l++m))=_;rw[Hg i l m,←Bool.or_assoc];rfl
theorem ab7 {o:Nat} {ρ':aS} {σ':ah} {W:List Nat} (ho:∀o,bn o W=false→ρ'.ob o=ρ.ob o∧ρ'.ln o=ρ.ln o) (hm:bn o W=false) (hc:∀s,σ'.bY (1,o) s=σ.bY (1,o) s∧σ'.fZ (1,o) s=σ.fZ (1,o) s):∀{x:Ob R.T},mg W x=true→fq ρ σ o x→fq ρ' σ' o x
 |.cells cs,hs,h=>by
  obtain⟨s,l,h1,h2,h3⟩:=h
  exact⟨s,l,by rw[(ho o hm).1];exact h1,by rw[(hc s).1];exact h2,aB.solid ho cs l hs h3⟩
 |.map k e m,_,h=>by obtain⟨s,h1,h2⟩:=h;exact⟨s,by rw[(ho o hm).1];exact h1,by rw[(hc s).2];exact h2⟩
 |.smap ks vs,hs,h=>by
  obtain⟨s,k,l,h1,h2,h3,h4⟩:=h
  have hs':(qj W ks&& qj W vs)=true:=hs
  rw[Bool.and_eq_true] at hs'
  exact⟨s,k,l,by rw[(ho o hm).1];exact h1,by rw[(hc s).2];exact h2,aB.solid ho ks k hs'.1 h3,aB.solid ho vs l hs'.2 h4⟩
 |.arr t l,_,h=>by
  refine⟨h.1.trans (ho o hm).2.symm, ?_⟩
  rcases h.2 with h| ⟨s,cs,h1,h2,h3⟩
  ·exact .inl ⟨h.1,(ho o hm).1.trans h.2⟩
  ·exact .inr ⟨s,cs,by rw[(ho o hm).1];exact h1,by rw[(hc s).1];exact h2,xX l cs h3⟩
 |.sg ss,_,h=>by obtain⟨s,h1,h2⟩:=h;exact⟨s,by rw[(ho o hm).1];exact h1,by rw[(hc s).1];exact h2⟩
 |.gone,_,_=>trivial
 |.ro b,hs,h=>ab7 ho hm hc (x:=b) hs h
theorem aJ.base {W K O:List Nat} {mark:Ob R.T→Ob R.T} (hmark:∀ρ σ o x,fq ρ σ o x→fq (R:=R) ρ σ o (mark x)) {st0 st' gM:MS R.T} {fr':Fr} {ρ':aS} {σ':ah} {b':Nat} (h:aJ ρ b st fr σ) (hk:Kp nr W st0 fr σ ρ st' fr' σ' ρ') (h':aJ ρ' b' gM fr' σ')
 (hro:∀o x,look st.ob o=some x→bn o W=false→bn o O=true→mg W x=true→RO st0 o):aJ ρ' b' (Aq.base W K O mark st) fr' σ':={h' with
 fr:=fun i v hv=>by
  obtain⟨x,h1,h2,rfl⟩:=vW hv
  rw[Bool.and_eq_true,Bool.not_eq_true'] at h2
  have:=am7 h2.2 (am6 (h.fr _ _ h1))
  rw[hk.fr i h2.1]
  exact .of (Rl.solid (fun o ho=>⟨(hk.ob o ho).ob,(hk.ob o ho).ln⟩) _ _ h2.2 this)
 ob:=fun o y hy=>by
  have hO:bn o O=true:=by
   have:∀{is:List Nat} {y:Ob R.T},look (mP (fun o b=> !(bn o W)&& mg W b) mark st.ob is) o=some y→bn o is=true:=by
    intro is
    induction is with
    |nil=>intro y h;cases h
    |cons j is ih=>
     intro y h
     show (Nat.beq o j||bn o is)=true
     unfold mP at h
     by_cases e:o=j
     ·subst e;rw[Nat.beq_refl];rfl
     ·split at h
      ·rename_i x hx
       cases hp:(!(bn j W)&& mg W x)
       ·rw[hp] at h;rw[ih h,Bool.or_true]
       ·rw[hp,cond_true,jR _ _ e] at h;rw[ih h,Bool.or_true]
      ·rw[ih h,Bool.or_true]
   exact this hy
  obtain⟨x,h1,h2,rfl⟩:=vW hy
  rw[Bool.and_eq_true,Bool.not_eq_true'] at h2
  have hc:=((hk.ob o h2.1).ro (hro o x h1 h2.1 hO h2.2)).2
  exact hmark _ _ _ _ (ab7 (fun o ho=>⟨(hk.ob o ho).ob,(hk.ob o ho).ln⟩) h2.1 hc h2.2 (h.ob _ _ h1))}
theorem Vy {W K O:List Nat} {st':MS R.T} {o:Nat} {x:Ob R.T} (h1:look st.ob o=some x) (h2:bn o W=false) (h3:bn o O=true) (h4:mg W x=true):RO ((Aq.base W K O .ro st).over st') o:=by
 intro y hy
 have hl:∃z,look (mP (fun o b=> !(bn o W)&& mg W b) Ob.ro st.ob O) o=some (.ro z):=by
  have:∀is:List Nat,bn o is=true→∃z,look (mP (fun o b=> !(bn o W)&& mg W b) Ob.ro st.ob is) o=some (.ro z):=by
   intro is
   induction is with
   |nil=>intro h;cases h
   |cons j is ih=>
    intro h
    by_cases e:o=j
    ·subst e
     unfold mP
     rw[h1]
     dsimp only
     rw[h2,h4]
     exact⟨x,mU _ _ _⟩
    ·have h':(Nat.beq o j||bn o is)=true:=h
     rw[M9 e,Bool.false_or] at h'
     obtain⟨z,hz⟩:=ih h'
     refine⟨z, ?_⟩
     unfold mP
     split
     ·rename_i w hw
      cases (!(bn j W)&& mg W w)
      ·exact hz
      ·rw[cond_true,jR _ _ e];exact hz
     ·exact hz
  exact this O h3
 obtain⟨z,hz⟩:=hl
 have hy':look (mP (fun o b=> !(bn o W)&& mg W b) Ob.ro st.ob O++st'.ob) o=some y:=hy
 rw[Ad,hz] at hy'
 cases hy';rfl
theorem am9 {t:Nat}:∀{x:Ob R.T},nX x=true→nX (Ob.wk t x)=true
 |.ro _,_=>rfl
 |.gone,_=>rfl
 |.cells _,h=>by cases h
 |.map _ _ _,h=>by cases h
 |.smap _ _,h=>by cases h
 |.arr _ _,h=>by cases h
theorem ab8 {t:Nat} {x:Ob R.T} (h:nX x=true):nX (Ob.kill t x)=true:=by
 unfold Ob.kill
 cases Ob.lg t x
 ·exact h
 ·rfl
theorem bI.wk {p t s n:Nat}:bI nr p st ρ σ (st.wk t) (ρ.jd t s) (σ.cO s n):=⟨rfl,rfl,rfl,Nat.le_refl _,fun _ _=>rfl,fun _ _ _ _=>rfl,fun hr=>⟨fun x hx=>by
 have hx':look (lq (Ob.wk t) st.ob) p=some x:=hx
 rw[rC,Option.map_eq_some_iff] at hx'
 obtain⟨z,hz,rfl⟩:=hx'
 exact am9 (hr z hz),fun _=>⟨rfl,rfl⟩⟩⟩
theorem bI.set {o q s:Nat} {x y:Ob R.T} {a:gQ} (hl:look st.ob o=some y) (hy:nX y=false):bI nr q st ρ σ (st.set o x) ρ (σ.setObj (1,o) s a):=⟨rfl,rfl,rfl,Nat.le_refl _,fun _ _=>rfl,fun _ _ _ ha=>Vx ha,fun hr=>by
 have hne:q≠o:=by rintro rfl;rw[hr y hl] at hy;cases hy
 refine⟨fun z hz=> ?_,fun s'=>⟨xY _ _ _ _ hne,DC _ _ _ _ hne⟩⟩
 have hz':look ((o,x)::iN o st.ob) q=some z:=hz
 rw[jR _ _ hne,o9 hne] at hz'
 exact hr z hz'⟩
theorem bI.new {o q s:Nat} {x:Ob R.T} {a:gQ} (hne:q≠o):bI nr q st ρ σ (st.new o x) (ρ.lC o s) (σ.setObj (1,o) s a):=⟨by simp[aS.lC,upd,hne],rfl,rfl,Nat.le_refl _,fun _ _=>rfl,fun _ _ _ ha=>Vx ha,fun hr=>by
 refine⟨fun z hz=> ?_,fun s'=>⟨xY _ _ _ _ hne,DC _ _ _ _ hne⟩⟩
 have hz':look ((o,x)::lq (Ob.kill o) (iN o st.ob)) q=some z:=hz
 rw[jR _ _ hne,rC,o9 hne,Option.map_eq_some_iff] at hz'
 obtain⟨w,hw,rfl⟩:=hz'
 exact ab8 (hr w hw)⟩
theorem mV {d:Option Nat} {v:TV R.T}:(st.fG d v).ob=st.ob:=by cases d<;>rfl
theorem bI.same {st':MS R.T} {o:Nat} (h:st'.ob=st.ob):bI nr o st ρ σ st' ρ σ:=⟨rfl,rfl,rfl,Nat.le_refl _,fun _ _=>rfl,fun _ _ _ _=>rfl,fun hr=>⟨fun x hx=>hr x (by rw[←h];exact hx),fun _=>⟨rfl,rfl⟩⟩⟩
theorem bI.congr {st' gM:MS R.T} {ρ':aS} {σ':ah} {o:Nat} (h:bI nr o st ρ σ st' ρ' σ') (e:gM.ob=st'.ob):bI nr o st ρ σ gM ρ' σ':=⟨h.ob,h.ln,h.om,h.nx,h.lp,h.dp,fun hr=>⟨fun x hx=>(h.ro hr).1 x (by rw[←e];exact hx),(h.ro hr).2⟩⟩
theorem bI.from {st' gM:MS R.T} {ρ':aS} {σ':ah} {o:Nat} (h:bI nr o st ρ σ st' ρ' σ') (e:st.ob=gM.ob):bI nr o gM ρ σ st' ρ' σ':=⟨h.ob,h.ln,h.om,h.nx,h.lp,h.dp,fun hr=>h.ro fun x hx=>hr x (by rw[←e];exact hx)⟩
theorem Kp.op {d:Option Nat} {W:List Nat} {y:V} {st':MS R.T} {ρ':aS} {σ':ah} (hd:∀p,bn p W=false→d≠some p) (h:∀p,d≠some p→bI nr p st ρ σ st' ρ' σ'):Kp nr W st fr σ ρ st' (fr.put d y) σ' ρ':=
 ⟨fun i hi=>by
   cases d with
   |none=>rfl
   |some j=>exact vN _ _ (by have:=hd i hi;simp at this;simpa using fun e=>this e.symm),fun p hp=>h p (hd p hp)⟩
theorem ab9 {W K O:List Nat} {st':MS R.T} {o:Nat} (h:look st'.ob o=none):RO ((Aq.base W K O .ro st).over st') o:=by
 intro y hy
 have hy':look (mP (fun o b=> !(bn o W)&& mg W b) Ob.ro st.ob O++st'.ob) o=some y:=hy
 rw[Ad] at hy'
 split at hy'
 ·rename_i x hx
  cases hy'
  obtain⟨z,_,_,rfl⟩:=vW hx
  rfl
 ·rw[h] at hy';cases hy'
theorem Nb {st':MS R.T} {o:Nat} (h1:RO st o) (h2:RO st' o):RO (st.over st') o:=by
 intro y hy
 have hy':look (st.ob++st'.ob) o=some y:=hy
 rw[Ad] at hy'
 split at hy'
 ·rename_i x hx;cases hy';exact h1 _ hx
 ·exact h2 _ hy'
theorem acd {W K O:List Nat} {mark:Ob R.T→Ob R.T} {o:Nat} (hm:∀x,nX x=true→nX (mark x)=true) (h:RO st o):RO (Aq.base W K O mark st) o:=by
 intro y hy
 obtain⟨x,h1,_,rfl⟩:=vW hy
 exact hm _ (h _ h1)
theorem finish {W K O:List Nat} {H S' gM:MS R.T} {fr':Fr} {ρ':aS} {σ':ah} {b':Nat} (hi:aJ ρ b st fr σ) (hH:∀o,bn o W=false→RO st o→RO H o) (hro:∀o x,look st.ob o=some x→bn o W=false→bn o O=true→mg W x=true→RO H o)
 (hk:Kp nr W H fr σ ρ S' fr' σ' ρ') (hi':aJ ρ' b' gM fr' σ') (hn:∀o,bn o W=false→RO H o→look gM.ob o=none):
 aJ ρ' b' ((Aq.base W K O (fun b=>b) st).over gM) fr' σ'∧Kp nr W st fr σ ρ ((Aq.base W K O (fun b=>b) st).over gM) fr' σ' ρ':=by
 have hk2:Kp nr W H fr σ ρ gM fr' σ' ρ':=⟨hk.fr,fun o ho=>⟨(hk.ob o ho).ob,(hk.ob o ho).ln,(hk.ob o ho).om,(hk.ob o ho).nx,(hk.ob o ho).lp,(hk.ob o ho).dp,fun hr=>⟨fun x hx=>(by rw[hn o ho hr] at hx;cases hx),((hk.ob o ho).ro hr).2⟩⟩⟩
 refine⟨(hi.base (fun _ _ _ _ h=>h) hk2 hi' hro).over hi',hk.fr,fun o ho=>⟨(hk.ob o ho).ob,(hk.ob o ho).ln,(hk.ob o ho).om,(hk.ob o ho).nx,(hk.ob o ho).lp,(hk.ob o ho).dp,fun hr=>⟨?_,((hk.ob o ho).ro (hH o ho hr)).2⟩⟩⟩
 exact Nb (acd (fun _ h=>h) hr) fun x hx=>(by rw[hn o ho (hH o ho hr)] at hx;cases hx)
theorem DK:∀W:List Nat,∃n,∀m,n≤m→bn m W=false
 | []=>⟨0,fun _ _=>rfl⟩
 |i::W=>by
  obtain⟨n,hn⟩:=DK W
  refine⟨n+i+1,fun m hm=> ?_⟩
  show (Nat.beq m i||bn m W)=false
  rw[M9 (by omega),hn m (by omega)];rfl
theorem Kp.om {W:List Nat} {st':MS R.T} {fr':Fr} {ρ':aS} {σ':ah} (h:Kp nr W st fr σ ρ st' fr' σ' ρ'):ρ'.om=ρ.om:=by
 obtain⟨n,hn⟩:=DK W
 exact(h.ob n (hn n (Nat.le_refl _))).om
theorem ace {x:TV R.T} {v:V} (hx:CY x=true) (h:iT fr ρ top x v):v= .aj .nil []∨v= .aj .full []:=by
 cases x<;>first| (cases hx;done)|skip
 ·exact .inl (Rl.o8 (R:=R) (show Rl R ρ top .dK v from h))
 ·rename_i c t l
  obtain⟨c',hv,hc⟩:=Rl.kQ (R:=R) (show Rl R ρ top (.aj c t l) v from h)
  cases c<;>first| (cases hx;done)|skip
  ·have:l=[]:=by simpa [CY] using hx
   subst this
   have hc':c'= .nil:=hc
   rw[hc'] at hv;exact .inl hv
  ·have:l=[]:=by simpa [CY] using hx
   subst this
   have hc':c'= .full:=hc
   rw[hc'] at hv;exact .inr hv
theorem Hl {W:List Nat}:∀(l:List (Nat×Sk)) (st:MS R.T) (ρ:aS),aJ ρ b st fr σ→∃ρ',aJ ρ' b (oZ W l st) fr σ∧Kp nr W st fr σ ρ (oZ W l st) fr σ ρ'
 | [],st,ρ,h=>⟨ρ,h,.refl⟩
 | (i,k)::l,st,ρ,h=>by
   have other:oZ W ((i,k)::l) st=oZ W l st→∃ρ',aJ ρ' b (oZ W ((i,k)::l) st) fr σ∧Kp nr W st fr σ ρ (oZ W ((i,k)::l) st) fr σ ρ':=fun e=>by
    rw[e];exact Hl l st ρ h
   cases k<;>first|exact other rfl|skip
   rename_i o t
   unfold oZ
   split
   ·rename_i v hv
    cases hb:(CY v&& bn o W)
    ·exact Hl l st ρ h
    ·rw[cond_true]
     rw[Bool.and_eq_true] at hb
     have hg:=h.ghost o t
     have hE:=ace hb.1 (h.fr _ _ hv)
     have ana:aJ (ρ.gh o) b (⟨(i,.vw o t)::(st.new o (.arr t [])).fr,(st.new o (.arr t [])).ob⟩:MS R.T) fr σ:={hg with
      fr:=fun j y hy=>by
       by_cases e:j=i
       ·subst e
        have hy':look ((j,TV.vw o t)::(st.new o (.arr t [])).fr) j=some y:=hy
        rw[mU] at hy';cases hy'
        exact .of (by unfold Rl;exact .inr ⟨He (ρ:=ρ) (n:=0),hE⟩)
       ·have hy':look ((i,TV.vw o t)::(st.new o (.arr t [])).fr) j=some y:=hy
        rw[jR _ _ e] at hy'
        exact hg.fr j y hy'
      ob:=hg.ob}
     obtain⟨ρ',h1,h2⟩:=Hl (W:=W) l _ _ ana
     refine⟨ρ',h1,Kp.trans ⟨fun _ _=>rfl,fun p hp=> ?_⟩ h2⟩
     have hne:p≠o:=by rintro rfl;rw[hb.2] at hp;cases hp
     refine⟨(DI p hne).1,(DI p hne).2,rfl,Nat.le_refl _,fun _ _=>rfl,fun _ _ _ _=>rfl,fun hr=>⟨fun x hx=> ?_,fun _=>⟨rfl,rfl⟩⟩⟩
     have hx':look ((o,Ob.arr t [])::lq (Ob.kill o) (iN o st.ob)) p=some x:=hx
     rw[jR _ _ hne,rC,o9 hne,Option.map_eq_some_iff] at hx'
     obtain⟨w,hw,rfl⟩:=hx'
     exact ab8 (hr w hw)
   ·exact Hl l st ρ h
section
variable (hR:oh R)
include hR
omit hR in
theorem acf {W:List Nat}:∀{l:List (Nat×Sk)},st.fr=[]→oZ W l st=st
 | [],_=>rfl
 | (i,k)::l,h=>by
   have:=acf (W:=W) (l:=l) h
   cases k<;>first|exact this|skip
   unfold oZ
   rw[h];exact this
omit hR in
theorem acg:∀{l:List (Nat×Sk)} {p:zP R.T l},qm R [] l=some p→l=[]
 | [],_,_=>rfl
 | [(i,k)],p,h=>by cases h
 | (i,k)::q::l,p,h=>by cases h
omit hR in
theorem anb {W:List Nat} (he:st.fr=[]) {s:Shape} {p:oU R.T s} (hp:Aq.kN R W st s=some p):(unpack R s p).fr=[]:=by
 unfold Aq.kN at hp
 rw[acf he] at hp
 obtain⟨sl,ob⟩:=s
 cases ob with
 |nil=>
  have hp':qm R st.fr sl=some p:=hp
  rw[he] at hp'
  have:=acg hp'
  subst this;rfl
 |cons o os=>
  unfold Aq.pack at hp
  rw[he] at hp
  cases hu:qm R [] sl with
  |none=>simp only[hu] at hp;cases hp
  |some x=>
   have:=acg hu
   subst this;rfl
theorem aJ.kN {W:List Nat} (h:aJ ρ b st fr σ) {s:Shape} {p:oU R.T s} (hp:Aq.kN R W st s=some p):∃ρ' S',aJ ρ' b (unpack R s p) fr σ∧Kp nr W st fr σ ρ S' fr σ ρ'∧(st.fr=[]→(unpack R s p).fr=[])∧∀i,bn i W=false→RO st i→look (unpack R s p).ob i=none:=by
 obtain⟨ρ',h1,h2⟩:=Hl (W:=W) s.sl st ρ h
 exact⟨ρ',_,h1.pack hR hp,h2,fun he=>anb he hp,fun i hi hr=>am5 hp ((h2.ob i hi).ro hr).1⟩
theorem DL {β:Type} {W:List Nat} (h:aJ ρ b st fr σ) {e:Ex}:∀{l:List (Ex×Shape)} {o:Out R.T l},qY R W e st l=some o→∃ρ' S' st',aJ ρ' b st' fr σ∧Kp nr W st fr σ ρ S' fr σ ρ'∧(st.fr=[]→st'.fr=[])∧(∀i,bn i W=false→RO st i→look st'.ob i=none)∧∀(k:Ex→MS R.T→Option β) (bs:MS R.T),uD R bs k l o=k e (bs.over st')
 | [],o,hp=>by cases hp
 | [(x,s)],o,hp=>by
   have hp':(bif zW e x then Aq.kN R W st s else none)=some o:=hp
   cases hb:zW e x
   ·rw[hb] at hp';cases hp'
   ·rw[hb,cond_true] at hp'
    have:=ab4 hb;subst this
    obtain⟨ρ',S',h1,h2,h0,h3⟩:=h.kN hR hp'
    exact⟨ρ',S',_,h1,h2,h0,h3,fun k bs=>rfl⟩
 | (x,s)::q::l,o,hp=>by
   unfold qY at hp
   cases hb:zW e x
   ·rw[hb,cond_false] at hp
    cases hu:qY R W e st (q::l) with
    |none=>simp only[hu] at hp;cases hp
    |some y=>
     simp only[hu] at hp
     obtain rfl:=Option.some.inj hp
     obtain⟨ρ',S',st',h1,h3,h0,h4,h2⟩:=DL (β:=β) h hu
     exact⟨ρ',S',st',h1,h3,h0,h4,fun k bs=>h2 k bs⟩
   ·rw[hb,cond_true] at hp
    have:=ab4 hb;subst this
    cases hu:Aq.kN R W st s with
    |none=>simp only[hu] at hp;cases hp
    |some y=>
     simp only[hu] at hp
     obtain rfl:=Option.some.inj hp
     obtain⟨ρ',S',h1,h2,h0,h3⟩:=h.kN hR hu
     exact⟨ρ',S',_,h1,h2,h0,h3,fun k bs=>rfl⟩
end
end
end
end Aq
end
