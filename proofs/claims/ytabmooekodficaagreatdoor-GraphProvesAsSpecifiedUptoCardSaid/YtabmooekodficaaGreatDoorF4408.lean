import Derived.Test.YtabmooekodficaaGreatDoorF4407
set_option linter.all false
section
namespace Aq
open Go
structure Cx where
 om:Bool
 dp:Nat
 lo:Nat
 fl:Nat->Option Loc
 lt:∀o L,fl o=some L->F0<=o/\L.1<dp
 inj:∀o p L,fl o=some L->fl p=some L->o=p
def Cx.lc (c:Cx) (o:Nat):Loc:=match c.fl o with
 |some L=>L
 |none=>(c.dp,o)
theorem Cx.xB (c:Cx) {o:Nat} (h:o<F0):c.lc o=(c.dp,o):=by
 unfold Cx.lc
 split
 ·rename_i L hL
  have:=(c.lt _ _ hL).1
  omega
 ·rfl
theorem Cx.xC (c:Cx) {o p:Nat} (h:c.lc o=c.lc p):o=p:=by
 unfold Cx.lc at h
 split at h<;>split at h
 ·rename_i L h1 _ M h2;subst h;exact c.inj _ _ _ h1 h2
 ·rename_i L h1 _ h2;have:=(c.lt _ _ h1).2;rw[h] at this;exact absurd this (Nat.lt_irrefl _)
 ·rename_i h1 _ L h2;have:=(c.lt _ _ h2).2;rw[<-h] at this;exact absurd this (Nat.lt_irrefl _)
 ·exact congrArg Prod.snd h
theorem Cx.L9 (c:Cx) {o p:Nat} (h:o≠p):c.lc o≠c.lc p:=fun e=>h (c.xC e)
theorem Cx.jh (c:Cx) (o:Nat):(c.lc o).1<=c.dp:=by
 unfold Cx.lc
 split
 ·rename_i L hL;exact Nat.le_of_lt (c.lt _ _ hL).2
 ·exact iP _
def Cx.out (c:Cx) (L:Loc):Prop:=∀o,L≠c.lc o
structure au where
 ob:Nat->Option Nat
 tk:Nat->Option Nat
 ln:Nat->Nat
 om:Cx
section
variable (R:Reg)
def eX:Ty->Bool
 |.st _=>false
 |_=>true
structure RegOK:Prop where
 of_to:∀n p,R.of n (R.to n p)=p
 enc:∀n x,R.enc n x= .agg (encs R (R.lf n) (R.of n x))
 leaf:∀n,(R.lf n).all eX=true
 pc:∀n x,pclean (R.enc n x)=true
def sV (ρ:au) (top:Nat->Nat) (sz len:Nat):Cp->Cap->Prop
 |.any,_=>True
 |.sh,c=>c= .sh
 |.nil,c=>c= .nil
 |.full,c=>c= .full
 |.own t,c=>c= .nil\/c= .full\/∃s,c= .own sz s/\ρ.tk t=some s/\top s=len
mutual
def Rl (ρ:au) (top:Nat->Nat):TV R.T->V->Prop
 |.int k n,v=>v= .int k n
 |.bool b,v=>v= .bool b
 |.blit b,v=>v= .bool b
 |.str s,v=>v= .str s
 |.nilp,v=>v= .nilp
 |.nilf,v=>v= .nilf
 |.nilm,v=>v= .nilm
 |.nili,v=>v= .nili
 |.nils,v=>v= .lst .nil []
 |.agg cs,v=>∃l,v= .agg l/\RlL ρ top cs l
 |.tup cs,v=>∃l,v= .tup l/\RlL ρ top cs l
 |.lst c t l,v=>∃c',v= .lst c' (l.map (encD R t))/\sV ρ top (szD R t) l.length c c'
 |.ref o off,v=>∃s,ρ.ob o=some s/\v= .ref (ρ.om.lc o) s off
 |.cref cs off,v=>∃l,v= .cref l off/\RlL ρ top cs l
 |.mapr o,v=>∃s,ρ.ob o=some s/\v= .mapr (ρ.om.lc o) s
 |.mapc k e m,v=>v= .mapc (m.map fun p=>encD R k p.1) (m.map fun p=>encD R e p.2)
 |.fn f a b,v=>∃a' b',v= .fn (.func f) a' b'/\RlL ρ top a a'/\RlL ρ top b b'
 |.opt _ _ _,_=>False
 |.vw o t,v=>(∃s,ρ.ob o=some s/\v= .vw (ρ.om.lc o) s 0 (ρ.ln o) (ρ.ln o) (szD R t) (isSt t))\/(ρ.ln o=0/\(v= .lst .nil []\/v= .lst .full []))
 |.sub o t a b,v=>0<=a/\a<=b/\b<=ρ.ln o/\((∃s cp,ρ.ob o=some s/\(b-a).toNat<=cp/\v= .vw (ρ.om.lc o) s (a.toNat*szD R t) (b-a).toNat cp (szD R t) (isSt t))\/(a=b/\∃c,v= .lst c []))
 |.eref o t i off,v=>∃s,ρ.ob o=some s/\0<=i/\v= .ref (ρ.om.lc o) s (i.toNat*szD R t+off)
 |.sg ss,v=>v= .agg (sgV ss)
 |.sv o off k n lo hi,v=>∃s,ρ.ob o=some s/\svB n lo hi=true/\v= .vw (ρ.om.lc o) s (off+(loI lo).toNat) ((hiI n hi).toNat-(loI lo).toNat) (n-(loI lo).toNat) 1 false
 |.sel o off k n i m,v=>∃s,ρ.ob o=some s/\0<=i/\i.toNat+m<=n/\v= .ref (ρ.om.lc o) s (off+i.toNat)
 |.gel k n x i,v=>0<=i/\i<n/\v= .cref (x.l.map (V.int k)) i.toNat
 |.undef,v=>v=undefV
 |.gone,_=>True
def RlL (ρ:au) (top:Nat->Nat):List (TV R.T)->List V->Prop
 | [],l=>l=[]
 |t::ts,l=>∃v vs,l=v::vs/\Rl ρ top t v/\RlL ρ top ts vs
end
variable {R}
variable {ρ ρ':au} {top top':Nat->Nat}
theorem RlL.inv_nil {vs:List V} (h:RlL R ρ top [] vs):vs=[]:=by unfold RlL at h;exact h
theorem RlL.inv_cons {t:TV R.T} {ts:List (TV R.T)} {vs:List V} (h:RlL R ρ top (t::ts) vs):∃v l,vs=v::l/\Rl R ρ top t v/\RlL R ρ top ts l:=by unfold RlL at h;exact h
theorem Rl.inv_int {k:IntKind} {n:Int} {v:V} (h:Rl R ρ top (.int k n) v):v= .int k n:=by unfold Rl at h;exact h
theorem Rl.gK {b:Bool} {v:V} (h:Rl R ρ top (.bool b) v):v= .bool b:=by unfold Rl at h;exact h
theorem Rl.ji {b:Bool} {v:V} (h:Rl R ρ top (.blit b) v):v= .bool b:=by unfold Rl at h;exact h
theorem Rl.eH {b:List UInt8} {v:V} (h:Rl R ρ top (.str b) v):v= .str b:=by unfold Rl at h;exact h
theorem Rl.fF {v:V} (h:Rl R ρ top .nils v):v= .lst .nil []:=by unfold Rl at h;exact h
theorem Rl.dL {cs:List (TV R.T)} {v:V} (h:Rl R ρ top (.agg cs) v):∃l,v= .agg l/\RlL R ρ top cs l:=by unfold Rl at h;exact h
theorem Rl.sW {cs:List (TV R.T)} {v:V} (h:Rl R ρ top (.tup cs) v):∃l,v= .tup l/\RlL R ρ top cs l:=by unfold Rl at h;exact h
theorem Rl.dB {c:Cp} {t:Ty} {l:List (Den R.T t)} {v:V} (h:Rl R ρ top (.lst c t l) v):∃c',v= .lst c' (l.map (encD R t))/\sV ρ top (szD R t) l.length c c':=by unfold Rl at h;exact h
theorem Rl.fU {o off:Nat} {v:V} (h:Rl R ρ top (.ref o off) v):∃s,ρ.ob o=some s/\v= .ref (ρ.om.lc o) s off:=by unfold Rl at h;exact h
theorem Rl.iI {cs:List (TV R.T)} {off:Nat} {v:V} (h:Rl R ρ top (.cref cs off) v):∃l,v= .cref l off/\RlL R ρ top cs l:=by unfold Rl at h;exact h
theorem Rl.mK {o:Nat} {v:V} (h:Rl R ρ top (.mapr o) v):∃s,ρ.ob o=some s/\v= .mapr (ρ.om.lc o) s:=by unfold Rl at h;exact h
theorem Rl.nV {k e:Ty} {m:List (Den R.T k×Den R.T e)} {v:V} (h:Rl R ρ top (.mapc k e m) v):v= .mapc (m.map fun p=>encD R k p.1) (m.map fun p=>encD R e p.2):=by unfold Rl at h;exact h
theorem Rl.eB {f:Nat} {a b:List (TV R.T)} {v:V} (h:Rl R ρ top (.fn f a b) v):∃a' b',v= .fn (.func f) a' b'/\RlL R ρ top a a'/\RlL R ρ top b b':=by unfold Rl at h;exact h
theorem Rl.mM {o:Nat} {t:Ty} {v:V} (h:Rl R ρ top (.vw o t) v):(∃s,ρ.ob o=some s/\v= .vw (ρ.om.lc o) s 0 (ρ.ln o) (ρ.ln o) (szD R t) (isSt t))\/(ρ.ln o=0/\(v= .lst .nil []\/v= .lst .full [])):=by unfold Rl at h;exact h
theorem Rl.nW {o:Nat} {t:Ty} {a b:Int} {v:V} (h:Rl R ρ top (.sub o t a b) v):0<=a/\a<=b/\b<=ρ.ln o/\((∃s cp,ρ.ob o=some s/\(b-a).toNat<=cp/\v= .vw (ρ.om.lc o) s (a.toNat*szD R t) (b-a).toNat cp (szD R t) (isSt t))\/(a=b/\∃c,v= .lst c [])):=by unfold Rl at h;exact h
theorem Rl.qc {o off:Nat} {t:Ty} {i:Int} {v:V} (h:Rl R ρ top (.eref o t i off) v):∃s,ρ.ob o=some s/\0<=i/\v= .ref (ρ.om.lc o) s (i.toNat*szD R t+off):=by unfold Rl at h;exact h
theorem Rl.sZ {ss:List Sg} {v:V} (h:Rl R ρ top (.sg ss) v):v= .agg (sgV ss):=by unfold Rl at h;exact h
theorem Rl.nX {o off n:Nat} {k:IntKind} {lo hi:Option Int} {v:V} (h:Rl R ρ top (.sv o off k n lo hi) v):∃s,ρ.ob o=some s/\svB n lo hi=true/\v= .vw (ρ.om.lc o) s (off+(loI lo).toNat) ((hiI n hi).toNat-(loI lo).toNat) (n-(loI lo).toNat) 1 false:=by unfold Rl at h;exact h
theorem Rl.xD {o off n m:Nat} {k:IntKind} {i:Int} {v:V} (h:Rl R ρ top (.sel o off k n i m) v):∃s,ρ.ob o=some s/\0<=i/\i.toNat+m<=n/\v= .ref (ρ.om.lc o) s (off+i.toNat):=by unfold Rl at h;exact h
theorem Rl.Bl {n:Nat} {k:IntKind} {x:Vec n} {i:Int} {v:V} (h:Rl R ρ top (.gel k n x i) v):0<=i/\i<n/\v= .cref (x.l.map (V.int k)) i.toNat:=by unfold Rl at h;exact h
theorem Rl.Ma {v:V} (h:Rl R ρ top .undef v):v=undefV:=by unfold Rl at h;exact h
theorem Rl.Mc {j:Nat} {w:Bool} {x:TV R.T} {v:V} (h:Rl R ρ top (.opt j w x) v):False:=by unfold Rl at h;exact h
theorem RlL.nil':RlL R ρ top [] []:=rfl
theorem RlL.cons' {t:TV R.T} {ts:List (TV R.T)} {v:V} {vs:List V} (h:Rl R ρ top t v) (h':RlL R ρ top ts vs):RlL R ρ top (t::ts) (v::vs):=⟨v,vs,rfl,h,h'⟩
theorem RlL.length:∀{ts:List (TV R.T)} {vs:List V},RlL R ρ top ts vs->vs.length=ts.length
 | [],_,h=>by cases h;rfl
 |_::ts,_,⟨v,vs,e,_,h'⟩=>by subst e;simp[RlL.length h']
theorem RlL.append:∀{ts ts':List (TV R.T)} {vs vs':List V},RlL R ρ top ts vs->RlL R ρ top ts' vs'->RlL R ρ top (ts++ts') (vs++vs')
 | [],_,_,_,h,h2=>by cases h;exact h2
 |_::ts,_,_,_,⟨v,vs,e,h1,h'⟩,h2=>by subst e;exact .cons' h1 (RlL.append h' h2)
theorem RlL.drop:∀(n:Nat) {ts:List (TV R.T)} {vs:List V},RlL R ρ top ts vs->RlL R ρ top (ts.drop n) (vs.drop n)
 |0,_,_,h=>by simpa using h
 |n+1,[],_,h=>by cases h;simp;rfl
 |n+1,_::ts,_,⟨v,vs,e,h1,h'⟩=>by subst e;simpa using RlL.drop n h'
theorem RlL.take:∀(n:Nat) {ts:List (TV R.T)} {vs:List V},RlL R ρ top ts vs->RlL R ρ top (ts.take n) (vs.take n)
 |0,_,_,h=>by simp;rfl
 |n+1,[],_,h=>by cases h;simp;rfl
 |n+1,_::ts,_,⟨v,vs,e,h1,h'⟩=>by subst e;simpa using .cons' h1 (RlL.take n h')
theorem RlL.get:∀{ts:List (TV R.T)} {vs:List V} {i:Nat} {t:TV R.T},RlL R ρ top ts vs->ts[i]? =some t->∃v,vs[i]? =some v/\Rl R ρ top t v
 | [],_,_,_,_,h=>by simp at h
 |_::ts,_,0,_,⟨v,vs,e,h1,h'⟩,h=>by subst e;simp at h;subst h;exact⟨v,by simp,h1⟩
 |_::ts,_,i+1,_,⟨v,vs,e,h1,h'⟩,h=>by subst e;simpa using RlL.get h' (by simpa using h)
mutual
theorem Rl.wk (t:Nat) (ho:ρ'.ob=ρ.ob/\ρ'.ln=ρ.ln/\ρ'.om=ρ.om) (ht:∀u s,u≠t->ρ.tk u=some s->ρ'.tk u=some s/\top' s=top s):∀(x:TV R.T) (v:V),Rl R ρ top x v->Rl R ρ' top' (wk t x) v
 |.lst (.own u) ty l,v,h=>by
  obtain⟨c',hv,hc⟩:=h
  unfold Aq.wk
  by_cases e:Nat.beq u t=true
  ·rw[e,cond_true];exact⟨c',hv,trivial⟩
  ·have e':Nat.beq u t=false:=Bool.eq_false_iff.2 e
   rw[e',cond_false]
   refine⟨c',hv,?_⟩
   rcases hc with hc|hc| ⟨s,h1,h2,h3⟩
   ·exact .inl hc
   ·exact .inr (.inl hc)
   ·have hne:u≠t:=fun h=>e (by rw[h];exact afi t)
    have:=ht u s hne h2
    exact .inr (.inr ⟨s,h1,this.1,by rw[this.2];exact h3⟩)
 |.lst .any ty l,v,h=>by obtain⟨c',hv,hc⟩:=h;exact⟨c',hv,trivial⟩
 |.lst .sh ty l,v,h=>by obtain⟨c',hv,hc⟩:=h;exact⟨c',hv,hc⟩
 |.lst .nil ty l,v,h=>by obtain⟨c',hv,hc⟩:=h;exact⟨c',hv,hc⟩
 |.lst .full ty l,v,h=>by obtain⟨c',hv,hc⟩:=h;exact⟨c',hv,hc⟩
 |.agg cs,v,h=>by obtain⟨l,hv,hl⟩:=h;exact⟨l,hv,RlL.wk t ho ht cs l hl⟩
 |.tup cs,v,h=>by obtain⟨l,hv,hl⟩:=h;exact⟨l,hv,RlL.wk t ho ht cs l hl⟩
 |.cref cs off,v,h=>by obtain⟨l,hv,hl⟩:=h;exact⟨l,hv,RlL.wk t ho ht cs l hl⟩
 |.fn f a b,v,h=>by obtain⟨a',b',hv,ha,hb⟩:=h;exact⟨a',b',hv,RlL.wk t ho ht a a' ha,RlL.wk t ho ht b b' hb⟩
 |.ref o off,v,h=>by obtain⟨s,h1,h2⟩:=h;exact⟨s,by rw[ho.1];exact h1,by rw[ho.2.2];exact h2⟩
 |.mapr o,v,h=>by obtain⟨s,h1,h2⟩:=h;exact⟨s,by rw[ho.1];exact h1,by rw[ho.2.2];exact h2⟩
 |.vw o ty,v,h=>by
  rcases h with ⟨s,h1,h2⟩| ⟨h1,h2⟩
  ·exact .inl ⟨s,by rw[ho.1];exact h1,by rw[ho.2.1,ho.2.2];exact h2⟩
  ·exact .inr ⟨by rw[ho.2.1];exact h1,h2⟩
 |.sub o ty a b,v,h=>by
  obtain⟨k0,k1,k2,h⟩:=h
  refine⟨k0,k1,by rw[ho.2.1];exact k2,?_⟩
  rcases h with ⟨s,cp,h1,h2,h3⟩|h
  ·exact .inl ⟨s,cp,by rw[ho.1];exact h1,h2,by rw[ho.2.2];exact h3⟩
  ·exact .inr h
 |.eref o ty i off,v,h=>by obtain⟨s,h1,h2⟩:=h;exact⟨s,by rw[ho.1];exact h1,by rw[ho.2.2];exact h2⟩
 |.sv o _ _ _ _ _,v,h=>by obtain⟨s,h1,h2⟩:=h;exact⟨s,by rw[ho.1];exact h1,by rw[ho.2.2];exact h2⟩
 |.sel o _ _ _ _ _,v,h=>by obtain⟨s,h1,h2⟩:=h;exact⟨s,by rw[ho.1];exact h1,by rw[ho.2.2];exact h2⟩
 |.sg _,_,h=>h
 |.gel _ _ _ _,_,h=>h
 |.opt _ _ _,_,h=>h.elim
 |.int _ _,_,h=>h
 |.bool _,_,h=>h
 |.blit _,_,h=>h
 |.str _,_,h=>h
 |.nilp,_,h=>h
 |.nilf,_,h=>h
 |.nilm,_,h=>h
 |.nili,_,h=>h
 |.nils,_,h=>h
 |.mapc _ _ _,_,h=>h
 |.undef,_,h=>h
 |.gone,_,h=>h
theorem RlL.wk (t:Nat) (ho:ρ'.ob=ρ.ob/\ρ'.ln=ρ.ln/\ρ'.om=ρ.om) (ht:∀u s,u≠t->ρ.tk u=some s->ρ'.tk u=some s/\top' s=top s):∀(x:List (TV R.T)) (v:List V),RlL R ρ top x v->RlL R ρ' top' (wkL t x) v
 | [],_,h=>h
 |x::xs,_,⟨v,vs,e,h1,h2⟩=>⟨v,vs,e,Rl.wk t ho ht x v h1,RlL.wk t ho ht xs vs h2⟩
end
mutual
theorem Rl.kill (o:Nat) (ho:∀p,p≠o->ρ'.ob p=ρ.ob p/\ρ'.ln p=ρ.ln p) (ht:ρ'.tk=ρ.tk) (hx:ρ'.om=ρ.om):∀(x:TV R.T) (v:V),ment o x=false->Rl R ρ top x v->Rl R ρ' top x v
 |.lst c ty l,v,_,h=>by
  obtain⟨c',hv,hc⟩:=h
  refine⟨c',hv,?_⟩
  cases c<;>try exact hc
  rcases hc with hc|hc| ⟨s,h1,h2,h3⟩
  ·exact .inl hc
  ·exact .inr (.inl hc)
  ·exact .inr (.inr ⟨s,h1,by rw[ht];exact h2,h3⟩)
 |.agg cs,v,hm,h=>by obtain⟨l,hv,hl⟩:=h;exact⟨l,hv,RlL.kill o ho ht hx cs l hm hl⟩
 |.tup cs,v,hm,h=>by obtain⟨l,hv,hl⟩:=h;exact⟨l,hv,RlL.kill o ho ht hx cs l hm hl⟩
 |.cref cs off,v,hm,h=>by obtain⟨l,hv,hl⟩:=h;exact⟨l,hv,RlL.kill o ho ht hx cs l hm hl⟩
 |.fn f a b,v,hm,h=>by
  obtain⟨a',b',hv,ha,hb⟩:=h
  unfold ment at hm
  rw[ae8] at hm
  exact⟨a',b',hv,RlL.kill o ho ht hx a a' hm.1 ha,RlL.kill o ho ht hx b b' hm.2 hb⟩
 |.ref p off,v,hm,h=>by
  obtain⟨s,h1,h2⟩:=h
  unfold ment at hm
  exact⟨s,((ho p (fun e=>by rw[e,afi] at hm;cases hm)).1.trans h1),by rw[hx];exact h2⟩
 |.mapr p,v,hm,h=>by
  obtain⟨s,h1,h2⟩:=h
  unfold ment at hm
  exact⟨s,((ho p (fun e=>by rw[e,afi] at hm;cases hm)).1.trans h1),by rw[hx];exact h2⟩
 |.vw p ty,v,hm,h=>by
  unfold ment at hm
  obtain⟨k1,k2⟩:=ho p (fun e=>by rw[e,afi] at hm;cases hm)
  rcases h with ⟨s,h1,h2⟩| ⟨h1,h2⟩
  ·exact .inl ⟨s,k1.trans h1,by rw[k2,hx];exact h2⟩
  ·exact .inr ⟨by rw[k2];exact h1,h2⟩
 |.sub p ty a b,v,hm,h=>by
  unfold ment at hm
  obtain⟨k1,k2⟩:=ho p (fun e=>by rw[e,afi] at hm;cases hm)
  obtain⟨g0,g1,g2,h⟩:=h
  refine⟨g0,g1,by rw[k2];exact g2,?_⟩
  rcases h with ⟨s,cp,h1,h2,h3⟩|h
  ·exact .inl ⟨s,cp,k1.trans h1,h2,by rw[hx];exact h3⟩
  ·exact .inr h
 |.eref p ty i off,v,hm,h=>by
  obtain⟨s,h1,h2⟩:=h
  unfold ment at hm
  exact⟨s,((ho p (fun e=>by rw[e,afi] at hm;cases hm)).1.trans h1),by rw[hx];exact h2⟩
 |.sv p _ _ _ _ _,v,hm,h=>by
  obtain⟨s,h1,h2⟩:=h
  unfold ment at hm
  exact⟨s,((ho p (fun e=>by rw[e,afi] at hm;cases hm)).1.trans h1),by rw[hx];exact h2⟩
 |.sel p _ _ _ _ _,v,hm,h=>by
  obtain⟨s,h1,h2⟩:=h
  unfold ment at hm
  exact⟨s,((ho p (fun e=>by rw[e,afi] at hm;cases hm)).1.trans h1),by rw[hx];exact h2⟩
 |.sg _,_,_,h=>h
 |.gel _ _ _ _,_,_,h=>h
 |.opt _ _ _,_,_,h=>h.elim
 |.int _ _,_,_,h=>h
 |.bool _,_,_,h=>h
 |.blit _,_,_,h=>h
 |.str _,_,_,h=>h
 |.nilp,_,_,h=>h
 |.nilf,_,_,h=>h
 |.nilm,_,_,h=>h
 |.nili,_,_,h=>h
 |.nils,_,_,h=>h
 |.mapc _ _ _,_,_,h=>h
 |.undef,_,_,h=>h
 |.gone,_,_,h=>h
theorem RlL.kill (o:Nat) (ho:∀p,p≠o->ρ'.ob p=ρ.ob p/\ρ'.ln p=ρ.ln p) (ht:ρ'.tk=ρ.tk) (hx:ρ'.om=ρ.om):∀(x:List (TV R.T)) (v:List V),mentL o x=false->RlL R ρ top x v->RlL R ρ' top x v
 | [],_,_,h=>h
 |x::xs,_,hm,⟨v,vs,e,h1,h2⟩=>by
  unfold mentL at hm
  rw[ae8] at hm
  exact⟨v,vs,e,Rl.kill o ho ht hx x v hm.1 h1,RlL.kill o ho ht hx xs vs hm.2 h2⟩
end
section
variable (hR:RegOK R)
include hR
def tq (v w:V):Prop:=aU v=w/\er v=w/\pclean w=true/\(∀n σ,closeV (n+2) σ v=some w)/\oneCell v=true/\v.cells=[v]
omit hR in
theorem Xr {v:V} (h:∀cs,v≠ .agg cs):er v=aU v:=by cases v<;>first|rfl|exact absurd rfl (h _)
theorem fV:∀(t:Ty) (x:Den R.T t),pclean (encD R t x)=true
 |.int _,x=>by simp[encD,pclean]
 |.bool,x=>by simp[encD,pclean]
 |.str,x=>by simp[encD,pclean]
 |.slice t,x=>xw (fV t) x
 |.st n,x=>hR.pc n x
theorem Md (c:Cp) (hc:sV ρ top 1 0 c .sh/\(c= .any\/c= .sh)):∀(t:Ty) (x:Den R.T t),eX t=true->Rl R ρ top (tv1 R c t x) (encD R t x)
 |.int _,x,_=>rfl
 |.bool,x,_=>rfl
 |.str,x,_=>rfl
 |.slice t,x,_=>⟨.sh,rfl,by rcases hc.2 with rfl|rfl<;>first|trivial|rfl⟩
 |.st n,x,h=>by simp[eX] at h
theorem Me (c:Cp) (hc:sV ρ top 1 0 c .sh/\(c= .any\/c= .sh)):∀(l:List Ty) (p:PayT R.T l),l.all eX=true->RlL R ρ top (tvs R c l p) (encs R l p)
 | [],_,_=>rfl
 | [t],x,h=>.cons' (Md hR c hc t x (by simpa using h)) rfl
 |t::u::l,p,h=>by
  rw[List.all_cons,RS] at h
  exact .cons' (Md hR c hc t p.1 h.1) (Me c hc (u::l) p.2 h.2)
theorem Bn (c:Cp) (hc:c= .any\/c= .sh):∀(t:Ty) (x:Den R.T t),Rl R ρ top (tvD R c t x) (encD R t x)
 |.int _,x=>rfl
 |.bool,x=>rfl
 |.str,x=>rfl
 |.slice t,x=>⟨.sh,rfl,by rcases hc with rfl|rfl<;>first|trivial|rfl⟩
 |.st n,x=>⟨_,hR.enc n x,Me hR c ⟨by rcases hc with rfl|rfl<;>first|trivial|rfl,hc⟩ _ _ (hR.leaf n)⟩
theorem Mf (t:Ty) (x:Den R.T t):Rl R ρ top (tvD R .sh t x) (encD R t x):=Bn hR .sh (.inr rfl) t x
omit hR in
theorem Xt (k:IntKind) (n:Int):tq (.int k n) (.int k n):=⟨rfl,rfl,by simp[pclean],fun n σ=>F4 (n+1) _ _,rfl,rfl⟩
omit hR in
theorem Xu (b:Bool):tq (.bool b) (.bool b):=⟨rfl,rfl,by simp[pclean],fun n σ=>F5 (n+1) _,rfl,rfl⟩
omit hR in
theorem Xv (b:List UInt8):tq (.str b) (.str b):=⟨rfl,rfl,by simp[pclean],fun n σ=>F6 (n+1) _,rfl,rfl⟩
theorem Xw (c:Cap) (t:Ty) (l:List (Den R.T t)):tq (.lst c (l.map (encD R t))) (encD R (.slice t) l):=⟨rfl,rfl,fV hR (.slice _) _,fun n σ=>ko _ _ (fV hR _),rfl,rfl⟩
omit hR in
theorem Gc {k:IntKind} {x:Int} {tv:TV R.T} {v:V} (h:unInt R k tv=some x) (hr:Rl R ρ top tv v):v= .int k x:=by
 unfold unInt at h
 split at h
 ·split at h
  ·rename_i e;cases e;cases h;exact hr.inv_int
  ·cases h
 ·cases h
omit hR in
theorem Gf {x:Bool} {tv:TV R.T} {v:V} (h:unBool R tv=some x) (hr:Rl R ρ top tv v):v= .bool x:=by
 unfold unBool at h
 split at h<;>cases h
 ·exact hr.gK
 ·exact hr.ji
omit hR in
theorem Gg {x:List UInt8} {tv:TV R.T} {v:V} (h:unStr R tv=some x) (hr:Rl R ρ top tv v):v= .str x:=by
 unfold unStr at h
 split at h<;>cases h
 exact hr.eH
omit hR in
theorem iJ {t u:Ty} {l:List (Den R.T t)} {m:List (Den R.T u)} (h:castL R l=some m):t=u/\HEq l m:=by
 unfold castL at h
 split at h
 ·rename_i e;subst e;cases h;exact⟨rfl,HEq.rfl⟩
 ·cases h
omit hR in
theorem Mg {t:Ty} {x:List (Den R.T t)} {tv:TV R.T} {v:V} (h:unSl R t tv=some x) (hr:Rl R ρ top tv v):∃c,v= .lst c (x.map (encD R t)):=by
 unfold unSl at h
 split at h
 ·obtain⟨e,e2⟩:=iJ h;subst e;cases e2
  obtain⟨c',hv,hc⟩:=hr.dB
  exact⟨c',hv⟩
 ·cases h;exact⟨.nil,hr.fF⟩
 ·cases h
theorem tu {t:Ty} {x:Den R.T t} {tv:TV R.T} {v:V} (h:un1 R t tv=some x) (hr:Rl R ρ top tv v):tq v (encD R t x):=by
 cases t with
 |int k=>rw[Gc h hr];exact Xt _ _
 |bool=>rw[Gf h hr];exact Xu _
 |str=>rw[Gg h hr];exact Xv _
 |slice t=>obtain⟨c,hv⟩:=Mg h hr;rw[hv];exact Xw hR _ _ _
 |st n=>cases h
theorem Xx {t:Ty} {x:Den R.T t} {cs:List (TV R.T)} {vs:List V} (h:un1 R t (hd1 R cs)=some x) (hr:RlL R ρ top cs vs):∃v,vs=[v]/\tq v (encD R t x):=by
 cases cs with
 |nil=>cases t<;>cases h
 |cons c cs=>
  cases cs with
  |nil=>
   obtain⟨v,l,rfl,h1,h2⟩:=hr.inv_cons
   rw[h2.inv_nil]
   exact⟨v,rfl,tu hR h h1⟩
  |cons c' cs=>cases t<;>cases h
theorem Mh:∀(l:List Ty) (p:PayT R.T l) (cs:List (TV R.T)) (vs:List V),uns R l cs=some p->RlL R ρ top cs vs->
 vs.map aU=encs R l p/\(∀n σ,vs.mapM (closeV (n+2) σ)=some (encs R l p))/\pcleanL (encs R l p)=true/\vs.all (fun v=>oneCell v)=true
 | [],p,cs,vs,h,hr=>by
   cases cs with
   |nil=>rw[hr.inv_nil];exact⟨rfl,fun _ _=>rfl,by simp[encs,pcleanL],rfl⟩
   |cons c cs=>cases h
 | [t],p,cs,vs,h,hr=>by
   obtain⟨v,rfl,a,b,c,d,e,_⟩:=Xx hR (show un1 R t (hd1 R cs)=some p from h) hr
   exact⟨by simp[encs,a],fun n σ=>by simp[encs,d],by simp[encs,pcleanL,c],by simp[e]⟩
 |t::u::l,p,cs,vs,h,hr=>by
  cases cs with
  |nil=>cases h
  |cons c cs=>
   obtain⟨v,vs,rfl,h1,h2⟩:=hr.inv_cons
   unfold uns at h
   cases hu:un1 R t c with
   |none=>simp only[hu] at h;cases h
   |some y=>
    cases hs:uns R (u::l) cs with
    |none=>simp only[hu,hs] at h;cases h
    |some q=>
     simp only[hu,hs] at h
     obtain rfl:=aeF h
     obtain⟨a,b,c,d,e,_⟩:=tu hR hu h1
     obtain⟨a',d',c',o'⟩:=Mh (u::l) q cs vs hs h2
     exact⟨by simp[encs,a,a'],fun n σ=>by simp[encs,d,d'],by simp[encs,pcleanL,c,c'],by simp[e,o']⟩
omit hR in
theorem Gh:∀(l:List Ty) (p:PayT R.T l),(encs R l p).length=l.length
 | [],_=>rfl
 | [_],_=>rfl
 |_::u::l,p=>by show (encs R (u::l) p.2).length+1=_;rw[Gh];rfl
omit hR in
theorem Gi {n:Nat} {σ:Sig} (cs:List V):closeV (n+3) σ (.agg cs)=(cs.mapM (closeV (n+2) σ)).map .agg:=by
 by_cases hp:pclean (.agg cs)=true
 ·rw[closeV_clean hp]
  have:∀cs:List V,pcleanL cs=true->cs.mapM (closeV (n+2) σ)=some cs:=by
   intro cs
   induction cs with
   |nil=>intro _;rfl
   |cons a l ih=>
    intro h
    simp only[pcleanL,RS] at h
    rw[aew,closeV_clean h.1,ih h.2];rfl
  rw[this cs (by simpa [pclean] using hp)];rfl
 ·conv=>lhs;unfold closeV
  simp only[hp,if_false,aaB]
theorem Gj {t:Ty} {x:Den R.T t} {tv:TV R.T} {v:V} (h:unD R t tv=some x) (hr:Rl R ρ top tv v):
 er v=encD R t x/\pclean (encD R t x)=true/\(∀n σ,closeV (n+3) σ v=some (encD R t x))/\v.cells.length=szD R t/\oneCells v.cells=true:=by
 cases t with
 |st n=>
  change unSt R n tv=some x at h
  unfold unSt at h
  split at h
  ·rename_i cs
   split at h
   ·rename_i p hp
    obtain rfl:=aeF h
    obtain⟨l,hv,hl⟩:=hr.dL
    subst hv
    obtain⟨a,d,c,o⟩:=Mh hR _ _ _ _ hp hl
    have he:encD R (.st n) (R.to n p)= .agg (encs R (R.lf n) p):=by
     show R.enc n (R.to n p)=_
     rw[hR.enc,hR.of_to]
    refine⟨?_,fV hR (.st n) _,fun k σ=>?_,?_,o⟩
    ·rw[he];show V.agg (l.map aU)=_;rw[a]
    ·rw[he,Gi,d k σ];rfl
    ·show l.length=_
     have:=congrArg List.length a
     rw[ab3] at this
     rw[this];exact Gh _ _
   ·cases h
  ·cases h
 |int k=>
  obtain⟨a,b,c,d,e,f⟩:=tu hR (t:=.int k) h hr
  exact⟨b,c,fun n σ=>d (n+1) σ,by rw[f];rfl,by rw[f];simp[oneCells,e]⟩
 |bool=>
  obtain⟨a,b,c,d,e,f⟩:=tu hR (t:=.bool) h hr
  exact⟨b,c,fun n σ=>d (n+1) σ,by rw[f];rfl,by rw[f];simp[oneCells,e]⟩
 |str=>
  obtain⟨a,b,c,d,e,f⟩:=tu hR (t:=.str) h hr
  exact⟨b,c,fun n σ=>d (n+1) σ,by rw[f];rfl,by rw[f];simp[oneCells,e]⟩
 |slice t=>
  obtain⟨a,b,c,d,e,f⟩:=tu hR (t:=.slice t) h hr
  exact⟨b,c,fun n σ=>d (n+1) σ,by rw[f];rfl,by rw[f];simp[oneCells,e]⟩
end
end
end Aq
end
section
namespace Aq
open Go
theorem aP {a b:Nat} (h:Nat.beq a b=true):a=b:=afx h
theorem qg {a b:Nat} (h:Nat.beq a b=false):a≠b:=fun e=>by rw[e,afi] at h;cases h
theorem Bo {a b:Nat} (h:a≠b):Nat.beq a b=false:=Bool.eq_false_iff.2 fun e=>h (aP e)
section look
variable {α:Type}
theorem iK (f:α->α):∀(l:List (Nat×α)) (i:Nat),look (mapF f l) i=(look l i).map f
 | [],_=>rfl
 | (j,x)::l,i=>by
   show (bif Nat.beq j i then some (f x) else look (mapF f l) i)=Option.map f (bif Nat.beq j i then some x else look l i)
   cases Nat.beq j i
   ·exact iK f l i
   ·rfl
theorem eY {i j:Nat} (h:j≠i):∀(l:List (Nat×α)),look (delF i l) j=look l j
 | []=>rfl
 | (k,x)::l=>by
   show look (bif Nat.beq k i then delF i l else (k,x)::delF i l) j=bif Nat.beq k j then some x else look l j
   cases hk:Nat.beq k i
   ·show (bif Nat.beq k j then some x else look (delF i l) j)=_
    rw[eY h l]
   ·have:=aP hk
    subst this
    rw[Bo (Ne.symm h)]
    exact eY h l
theorem bX (l:List (Nat×α)) (i:Nat) (x:α):look ((i,x)::l) i=some x:=by
 show (bif Nat.beq i i then some x else look l i)=_;rw[afi];rfl
theorem bf (l:List (Nat×α)) {i j:Nat} (x:α) (h:j≠i):look ((i,x)::l) j=look l j:=by
 show (bif Nat.beq i j then some x else look l j)=_;rw[Bo (Ne.symm h)];rfl
end look
section
variable {R:Reg} {E:Env}
theorem Mi {ρ ρ':au} {top top':Nat->Nat}:∀(t:Ty) (x:Den R.T t) (v:V),Rl R ρ top (tv1 R .any t x) v->Rl R ρ' top' (tv1 R .any t x) v
 |.int _,_,_,h=>h
 |.bool,_,_,h=>h
 |.str,_,_,h=>h
 |.slice _,_,_,h=>h
 |.st _,_,_,h=>h
theorem nY {ρ ρ':au} {top top':Nat->Nat}:∀(l:List Ty) (p:PayT R.T l) (vs:List V),RlL R ρ top (tvs R .any l p) vs->RlL R ρ' top' (tvs R .any l p) vs
 | [],_,_,h=>h
 | [t],x,vs,h=>by
   obtain⟨v,l,rfl,h1,h2⟩:=h.inv_cons
   rw[h2.inv_nil]
   exact .cons' (Mi t x v h1) rfl
 |t::u::l,p,vs,h=>by
  obtain⟨v,ws,rfl,h1,h2⟩:=h.inv_cons
  exact .cons' (Mi t p.1 v h1) (nY (u::l) p.2 ws h2)
theorem Xy {ρ ρ':au} {top top':Nat->Nat} {t:Ty} {x:Den R.T t} {vs:List V} (h:RlL R ρ top (tvD R .any t x).cells vs):RlL R ρ' top' (tvD R .any t x).cells vs:=by
 cases t with
 |st n=>exact nY _ _ _ h
 |int k=>exact nY [.int k] x vs h
 |bool=>exact nY [.bool] x vs h
 |str=>exact nY [.str] x vs h
 |slice t=>exact nY [.slice t] x vs h
theorem RlL.split {ρ:au} {top:Nat->Nat}:∀{ts ts':List (TV R.T)} {vs:List V},RlL R ρ top (ts++ts') vs->∃a b,vs=a++b/\RlL R ρ top ts a/\RlL R ρ top ts' b
 | [],_,vs,h=>⟨[],vs,rfl,rfl,h⟩
 |t::ts,ts',vs,h=>by
  obtain⟨v,ws,rfl,h1,h2⟩:=RlL.inv_cons (ts:=ts++ts') h
  obtain⟨a,b,rfl,h3,h4⟩:=RlL.split h2
  exact⟨v::a,b,rfl,.cons' h1 h3,h4⟩
theorem jL {ρ ρ':au} {top top':Nat->Nat} {t:Ty}:∀(l:List (Den R.T t)) (vs:List V),RlL R ρ top (l.flatMap fun x=>(tvD R .any t x).cells) vs->RlL R ρ' top' (l.flatMap fun x=>(tvD R .any t x).cells) vs
 | [],vs,h=>h
 |x::l,vs,h=>by
  rw[ae1] at h⊢
  obtain⟨a,b,rfl,h1,h2⟩:=h.split
  exact(Xy h1).append (jL l b h2)
def bY (fr:Fr) (ρ:au) (top:Nat->Nat):TV R.T->V->Prop
 |.opt j w y,v=>(fr.tm j= .bool w->Rl R ρ top y v)/\(fr.tm j= .bool (!w)\/fr.tm j=undefV->v=undefV)
 |x,v=>Rl R ρ top x v
theorem bY.of {fr:Fr} {ρ:au} {top:Nat->Nat} {x:TV R.T} {v:V} (h:Rl R ρ top x v):bY fr ρ top x v:=by
 cases x<;>first|exact h|exact h.Mc.elim
def aR (ρ:au) (σ:Sig) (o:Nat):Ob R.T->Prop
 |.cells cs=>∃s l,ρ.ob o=some s/\σ.cellsAt (ρ.om.lc o) s=some l/\RlL R ρ σ.top cs l
 |.map k e m=>∃s,ρ.ob o=some s/\σ.bg (ρ.om.lc o) s=some (m.map fun p=>encD R k p.1,m.map fun p=>encD R e p.2)
 |.smap ks vs=>∃s k l,ρ.ob o=some s/\σ.bg (ρ.om.lc o) s=some (k,l)/\RlL R ρ σ.top ks k/\RlL R ρ σ.top vs l
 |.arr t l=>l.length=ρ.ln o/\((l=[]/\ρ.ob o=none)\/∃s cs,ρ.ob o=some s/\σ.cellsAt (ρ.om.lc o) s=some cs/\RlL R ρ σ.top (l.flatMap fun x=>(tvD R .any t x).cells) cs)
 |.sg ss=>∃s,ρ.ob o=some s/\σ.cellsAt (ρ.om.lc o) s=some (sgV ss)
 |.gone=>True
 |.ro b=>aR ρ σ o b
theorem aR.strip {ρ:au} {σ:Sig} {o:Nat}:∀{x:Ob R.T},aR ρ σ o x->aR ρ σ o (stripO x)
 |.cells _,h=>h
 |.map _ _ _,h=>h
 |.smap _ _,h=>h
 |.arr _ _,h=>h
 |.sg _,h=>h
 |.gone,h=>h
 |.ro b,h=>aR.strip (x:=b) h
structure ak (ρ:au) (b:Nat) (st:MS R.T) (fr:Fr) (σ:Sig):Prop where
 d:fr.d=ρ.om.dp
 om:fr.om=ρ.om.om
 fr:∀i v,look st.fr i=some v->bY fr ρ σ.top v (fr.tm i)
 ob:∀o x,look st.ob o=some x->aR ρ σ o x
 inj:∀t u s,ρ.tk t=some s->ρ.tk u=some s->t=u
 lt:∀t s,ρ.tk t=some s->s<b
 ge:∀t s,ρ.tk t=some s->ρ.om.lo<=s
 nx:ρ.om.lo<=b
variable {ρ:au} {b:Nat} {st:MS R.T} {fr:Fr} {σ:Sig}
theorem ak.le {b':Nat} (h:ak ρ b st fr σ) (hb:b<=b'):ak ρ b' st fr σ:={h with lt:=fun t s ht=>aeD (h.lt t s ht) hb,nx:=aaI h.nx hb}
theorem aR.bump {o k:Nat}:∀{x:Ob R.T},aR ρ σ o x->aR ρ (σ.bump k) o x
 |.cells _,h=>h
 |.map _ _ _,h=>h
 |.smap _ _,h=>h
 |.arr _ _,h=>h
 |.sg _,h=>h
 |.gone,h=>h
 |.ro b,h=>aR.bump (x:=b) h
theorem ak.next (h:ak ρ b st fr σ) (k:Nat):ak ρ b st fr (σ.bump k):={h with fr:=h.fr,ob:=fun o x hx=>(h.ob o x hx).bump}
theorem ak.rd (h:ak ρ b st fr σ) {o:Nat} {x:Ob R.T} (hx:rdOb st o=some x):aR ρ σ o x:=by
 unfold rdOb at hx
 split at hx
 ·rename_i y hy;cases hx;exact(h.ob _ _ hy).strip
 ·cases hx
theorem Xz {ρ:au} {top:Nat->Nat} {x:TV R.T} {u v:V} {i:Nat} (h:bY fr ρ top x v):bY (fr.set i u) ρ top (unopt i x) v:=by
 cases x with
 |opt j w y=>
  show bY _ _ _ (bif Nat.beq j i then .gone else .opt j w y) v
  cases hj:Nat.beq j i
  ·have hs:(fr.set i u).tm j=fr.tm j:=xu _ _ (by simpa using qg hj)
   exact⟨fun hc=>h.1 (by rw[<-hs];exact hc),fun hc=>h.2 (by rw[<-hs];exact hc)⟩
  ·exact bY.of (x:=.gone) (by unfold Rl;trivial)
 |_=>exact h
theorem ak.put (h:ak ρ b st fr σ) (i:Nat) {x:TV R.T} {v:V} (hx:bY (fr.set i v) ρ σ.top x v):ak ρ b (st.put i x) (fr.set i v) σ where
 d:=h.d
 om:=h.om
 ob:=h.ob
 inj:=h.inj
 lt:=h.lt
 ge:=h.ge
 nx:=h.nx
 fr:=fun j y hy=>by
  by_cases e:j=i
  ·subst e
   have hy':some x=some y:=by rw[<-hy];exact(bX _ _ _).symm
   cases hy'
   rw[LH]
   exact hx
  ·have hy':look (mapF (unopt i) (delF i st.fr)) j=some y:=by rw[<-hy];exact(bf _ _ e).symm
   rw[iK,eY e,aat] at hy'
   obtain⟨z,hz,rfl⟩:=hy'
   rw[xu _ _ (by simpa using e)]
   exact Xz (h.fr j z hz)
theorem ak.putO (h:ak ρ b st fr σ) (d:Option Nat) {x:TV R.T} {v:V} (hx:Rl R ρ σ.top x v):ak ρ b (st.putO d x) (fr.put d v) σ:=by
 cases d with
 |none=>exact h
 |some i=>exact h.put i (.of hx)
theorem XA {ρ:au} {top:Nat->Nat} {x:TV R.T} {v:V} {i:Nat} {c:Bool} (hi:fr.tm i= .bool c) (h:bY fr ρ top x v):bY fr ρ top (lrn i c x) v:=by
 cases x with
 |opt j w y=>
  show bY _ _ _ (bif Nat.beq j i then (bif (c==w) then y else .undef) else .opt j w y) v
  cases hj:Nat.beq j i
  ·exact h
  ·have:=aP hj
   subst this
   by_cases e:c=w
   ·subst e
    rw[beq_self_eq_true]
    exact bY.of (h.1 hi)
   ·rw[show (c==w)=false by simpa using e]
    have e':c= !w:=by cases c<;>cases w<;>first|rfl|exact absurd rfl e
    have h':=h.2 (.inl (by rw[hi,e']))
    subst h';exact bY.of (x:=.undef) (by unfold Rl;rfl)
 |_=>exact h
theorem ak.learn (h:ak ρ b st fr σ) {i:Nat} {c:Bool} (hc:fr.tm i= .bool c):ak ρ b (st.learn i c) fr σ where
 d:=h.d
 om:=h.om
 ob:=h.ob
 inj:=h.inj
 lt:=h.lt
 ge:=h.ge
 nx:=h.nx
 fr:=fun j y hy=>by
  by_cases e:j=i
  ·subst e
   have hy':some (TV.blit c)=some y:=by rw[<-hy];exact(bX _ _ _).symm
   cases hy'
   exact bY.of (x:=.blit c) (by unfold Rl;exact hc)
  ·have hy':look (mapF (lrn i c) (delF i st.fr)) j=some y:=by rw[<-hy];exact(bf _ _ e).symm
   rw[iK,eY e,aat] at hy'
   obtain⟨z,hz,rfl⟩:=hy'
   exact XA hc (h.fr j z hz)
def au.dI (ρ:au) (o s:Nat):au:={ρ with ob:=upd ρ.ob o (some s)}
def au.bK (ρ:au) (t s:Nat):au:={ρ with tk:=upd ρ.tk t (some s)}
theorem Mj {ρ':au} {top:Nat->Nat} {o:Nat} {x:TV R.T} {v:V} (ho:∀p,p≠o->ρ'.ob p=ρ.ob p/\ρ'.ln p=ρ.ln p) (ht:ρ'.tk=ρ.tk) (hx:ρ'.om=ρ.om) (h:bY fr ρ top x v):bY fr ρ' top (killO o x) v:=by
 unfold killO
 cases hm:ment o x
 ·cases x with
  |opt j w y=>exact⟨fun hc=>Rl.kill o ho ht hx y v hm (h.1 hc),h.2⟩
  |_=>exact bY.of (Rl.kill o ho ht hx _ v hm h)
 ·exact bY.of (x:=.gone) (by unfold Rl;trivial)
theorem Gl (c:Cx) {o p:Nat} (h:p≠o):gy (c.lc p) (c.lc o)=false:=by
 cases e:gy (c.lc p) (c.lc o)
 ·rfl
 ·unfold gy at e
  rw[RS,beq_iff_eq,beq_iff_eq] at e
  exact absurd (Prod.ext e.2 e.1) (c.L9 h)
theorem mO {c:Cx} {o p:Nat} (σ:Sig) (s s':Nat) (x:AObj) (h:p≠o):(σ.setObj (c.lc o) s' x).cellsAt (c.lc p) s=σ.cellsAt (c.lc p) s:=p9 σ s s' x (Gl c h)
theorem tH {c:Cx} {o p:Nat} (σ:Sig) (s s':Nat) (x:AObj) (h:p≠o):(σ.setObj (c.lc o) s' x).bg (c.lc p) s=σ.bg (c.lc p) s:=LP σ s s' x (Gl c h)
theorem RlL.killC {ρ':au} {top:Nat->Nat} {o:Nat} (ho:∀p,p≠o->ρ'.ob p=ρ.ob p/\ρ'.ln p=ρ.ln p) (ht:ρ'.tk=ρ.tk) (hx:ρ'.om=ρ.om):∀{cs:List (TV R.T)} {l:List V},RlL R ρ top cs l->RlL R ρ' top (killC o cs) l
 | [],_,h=>h
 |x::cs,_,h=>by
  obtain⟨v,ws,rfl,h1,h2⟩:=h.inv_cons
  refine .cons' ?_ (RlL.killC ho ht hx h2)
  unfold killO
  cases hm:ment o x
  ·exact Rl.kill o ho ht hx x v hm h1
  ·unfold Rl;trivial
theorem Mk {ρ':au} {o p s':Nat} {a:AObj} (hp:p≠o) (ho:∀p,p≠o->ρ'.ob p=ρ.ob p/\ρ'.ln p=ρ.ln p) (ht:ρ'.tk=ρ.tk) (hx:ρ'.om=ρ.om):∀{x:Ob R.T},Ob.ment o x=false->aR ρ σ p x->aR ρ' (σ.setObj (ρ.om.lc o) s' a) p x
 |.cells cs,hm,h=>by
  obtain⟨s,l,h1,h2,h3⟩:=h
  exact⟨s,l,((ho p hp).1.trans h1),by rw[hx,mO _ _ _ _ hp];exact h2,RlL.kill o ho ht hx _ _ hm h3⟩
 |.map k e m,_,h=>by
  obtain⟨s,h1,h2⟩:=h
  exact⟨s,((ho p hp).1.trans h1),by rw[hx,tH _ _ _ _ hp];exact h2⟩
 |.smap ks vs,hm,h=>by
  obtain⟨s,k,l,h1,h2,h3,h4⟩:=h
  have hm':(mentL o ks||mentL o vs)=false:=hm
  rw[ae8] at hm'
  exact⟨s,k,l,((ho p hp).1.trans h1),by rw[hx,tH _ _ _ _ hp];exact h2,RlL.kill o ho ht hx _ _ hm'.1 h3,RlL.kill o ho ht hx _ _ hm'.2 h4⟩
 |.arr t l,hm,h=>by
  refine⟨h.1.trans (ho p hp).2.symm,?_⟩
  rcases h.2 with h| ⟨s,cs,h1,h2,h3⟩
  ·exact .inl ⟨h.1,(ho p hp).1.trans h.2⟩
  ·exact .inr ⟨s,cs,((ho p hp).1.trans h1),by rw[hx,mO _ _ _ _ hp];exact h2,jL l cs h3⟩
 |.sg ss,_,h=>by
  obtain⟨s,h1,h2⟩:=h
  exact⟨s,((ho p hp).1.trans h1),by rw[hx,mO _ _ _ _ hp];exact h2⟩
 |.gone,_,_=>trivial
 |.ro b,hm,h=>Mk hp ho ht hx (x:=b) hm h
theorem XB {ρ':au} {o p s':Nat} {a:AObj} {x:Ob R.T} (hp:p≠o) (ho:∀p,p≠o->ρ'.ob p=ρ.ob p/\ρ'.ln p=ρ.ln p) (ht:ρ'.tk=ρ.tk) (hx:ρ'.om=ρ.om) (h:aR ρ σ p x):aR ρ' (σ.setObj (ρ.om.lc o) s' a) p (Ob.kill o x):=by
 by_cases hc:∃cs,x= .cells cs
 ·obtain⟨cs,rfl⟩:=hc
  obtain⟨s,l,h1,h2,h3⟩:=h
  exact⟨s,l,((ho p hp).1.trans h1),by rw[hx,mO _ _ _ _ hp];exact h2,RlL.killC ho ht hx h3⟩
 ·have e:Ob.kill o x=bif Ob.ment o x then .gone else x:=by cases x<;>first|rfl|exact absurd ⟨_,rfl⟩ hc
  rw[e]
  cases hm:Ob.ment o x
  ·exact Mk hp ho ht hx hm h
  ·trivial
theorem Ml {o p s:Nat} {a:AObj} (hp:p≠o):∀{x:Ob R.T},aR ρ σ p x->aR ρ (σ.setObj (ρ.om.lc o) s a) p x
 |.cells cs,h=>by obtain⟨s,l,h1,h2,h3⟩:=h;exact⟨s,l,h1,by rw[mO _ _ _ _ hp];exact h2,h3⟩
 |.map k e m,h=>by obtain⟨s,h1,h2⟩:=h;exact⟨s,h1,by rw[tH _ _ _ _ hp];exact h2⟩
 |.smap ks vs,h=>by obtain⟨s,k,l,h1,h2,h3⟩:=h;exact⟨s,k,l,h1,by rw[tH _ _ _ _ hp];exact h2,h3⟩
 |.arr t l,h=>by
  refine⟨h.1,?_⟩
  rcases h.2 with h| ⟨s,cs,h1,h2,h3⟩
  ·exact .inl h
  ·exact .inr ⟨s,cs,h1,by rw[mO _ _ _ _ hp];exact h2,h3⟩
 |.sg ss,h=>by obtain⟨s,h1,h2⟩:=h;exact⟨s,h1,by rw[mO _ _ _ _ hp];exact h2⟩
 |.gone,_=>trivial
 |.ro b,h=>Ml hp (x:=b) h
theorem Mq {o t s n:Nat} (key:∀u s',u≠t->ρ.tk u=some s'->(ρ.bK t s).tk u=some s'/\(σ.aI s n).top s'=σ.top s'):∀{x:Ob R.T},aR ρ σ o x->aR (ρ.bK t s) (σ.aI s n) o (Ob.wk t x)
 |.cells cs,h=>by obtain⟨s',l,h1,h2,h3⟩:=h;exact⟨s',l,h1,h2,RlL.wk (ρ:=ρ) (ρ':=ρ.bK t s) (top:=σ.top) (top':=(σ.aI s n).top) t ⟨rfl,rfl,rfl⟩ key _ _ h3⟩
 |.map k e m,h=>h
 |.smap ks vs,h=>by obtain⟨s',k,l,h1,h2,h3,h4⟩:=h;exact⟨s',k,l,h1,h2,RlL.wk (ρ:=ρ) (ρ':=ρ.bK t s) (top:=σ.top) (top':=(σ.aI s n).top) t ⟨rfl,rfl,rfl⟩ key _ _ h3,RlL.wk (ρ:=ρ) (ρ':=ρ.bK t s) (top:=σ.top) (top':=(σ.aI s n).top) t ⟨rfl,rfl,rfl⟩ key _ _ h4⟩
 |.arr ty l,h=>by
  refine⟨h.1,?_⟩
  rcases h.2 with h| ⟨s,cs,h1,h2,h3⟩
  ·exact .inl h
  ·exact .inr ⟨s,cs,h1,h2,jL l cs h3⟩
 |.sg ss,h=>h
 |.gone,_=>trivial
 |.ro b,h=>Mq key (x:=b) h
theorem tJ {o s:Nat}:∀p,p≠o->(ρ.dI o s).ob p=ρ.ob p/\(ρ.dI o s).ln p=ρ.ln p:=fun p h=>⟨by simp[au.dI,upd,h],rfl⟩
def au.qh (ρ:au) (o n:Nat):au:={ρ with ln:=upd ρ.ln o n}
theorem Mr {o n:Nat}:∀p,p≠o->(ρ.qh o n).ob p=ρ.ob p/\(ρ.qh o n).ln p=ρ.ln p:=fun p h=>⟨rfl,by simp[au.qh,upd,h]⟩
def au.gh (ρ:au) (o:Nat):au:={ρ.qh o 0 with ob:=upd ρ.ob o none}
theorem fG {o:Nat}:∀p,p≠o->(ρ.gh o).ob p=ρ.ob p/\(ρ.gh o).ln p=ρ.ln p:=fun p h=>⟨by simp[au.gh,upd,h],(Mr (ρ:=ρ) (n:=0) p h).2⟩
theorem jM {o n:Nat}:(ρ.qh o n).ln o=n:=by simp[au.qh,upd]
def au.ku (ρ:au) (o s n:Nat):au:=(ρ.dI o s).qh o n
theorem Gm {o s n:Nat}:∀p,p≠o->(ρ.ku o s n).ob p=ρ.ob p/\(ρ.ku o s n).ln p=ρ.ln p:=fun p h=>⟨(tJ p h).1,(Mr p h).2⟩
theorem fH {o s:Nat}:(ρ.dI o s).ob o=some s:=by simp[au.dI,upd]
theorem ak.new' {ρ':au} (h:ak ρ b st fr σ) (o s:Nat) {x:Ob R.T} {a:AObj} (tJ:∀p,p≠o->ρ'.ob p=ρ.ob p/\ρ'.ln p=ρ.ln p) (ht:ρ'.tk=ρ.tk) (hom:ρ'.om=ρ.om) (hx:aR ρ' (σ.setObj (ρ.om.lc o) s a) o x):ak ρ' b (st.new o x) fr (σ.setObj (ρ.om.lc o) s a) where
 d:=by rw[hom];exact h.d
 om:=by rw[hom];exact h.om
 fr:=fun j y hy=>by
  have hy':look (mapF (killO o) st.fr) j=some y:=hy
  rw[iK,aat] at hy'
  obtain⟨z,hz,rfl⟩:=hy'
  exact Mj tJ ht hom (h.fr j z hz)
 ob:=fun p y hy=>by
  by_cases e:p=o
  ·subst e
   have hy':some x=some y:=by rw[<-hy];exact(bX _ _ _).symm
   cases hy'
   exact hx
  ·have hy':look (mapF (Ob.kill o) (delF o st.ob)) p=some y:=by rw[<-hy];exact(bf _ _ e).symm
   rw[iK,eY e,aat] at hy'
   obtain⟨z,hz,rfl⟩:=hy'
   exact XB e tJ ht hom (h.ob p z hz)
 inj:=by rw[ht];exact h.inj
 lt:=by rw[ht];exact h.lt
 ge:=by rw[ht,hom];exact h.ge
 nx:=by rw[hom];exact h.nx
theorem ak.new (h:ak ρ b st fr σ) (o s:Nat) {x:Ob R.T} {a:AObj} (hx:aR (ρ.dI o s) (σ.setObj (ρ.om.lc o) s a) o x):ak (ρ.dI o s) b (st.new o x) fr (σ.setObj (ρ.om.lc o) s a):=h.new' o s tJ rfl rfl hx
theorem ak.qj (h:ak ρ b st fr σ) (o s n:Nat) {x:Ob R.T} {a:AObj} (hx:aR (ρ.ku o s n) (σ.setObj (ρ.om.lc o) s a) o x):ak (ρ.ku o s n) b (st.new o x) fr (σ.setObj (ρ.om.lc o) s a):=h.new' o s Gm rfl rfl hx
theorem Ms {ρ':au} {o p:Nat} (hp:p≠o) (ho:∀p,p≠o->ρ'.ob p=ρ.ob p/\ρ'.ln p=ρ.ln p) (ht:ρ'.tk=ρ.tk) (hx:ρ'.om=ρ.om):∀{x:Ob R.T},Ob.ment o x=false->aR ρ σ p x->aR ρ' σ p x
 |.cells cs,hm,h=>by
  obtain⟨s,l,h1,h2,h3⟩:=h
  exact⟨s,l,((ho p hp).1.trans h1),by rw[hx];exact h2,RlL.kill o ho ht hx _ _ hm h3⟩
 |.map k e m,_,h=>by
  obtain⟨s,h1,h2⟩:=h
  exact⟨s,((ho p hp).1.trans h1),by rw[hx];exact h2⟩
 |.smap ks vs,hm,h=>by
  obtain⟨s,k,l,h1,h2,h3,h4⟩:=h
  have hm':(mentL o ks||mentL o vs)=false:=hm
  rw[ae8] at hm'
  exact⟨s,k,l,((ho p hp).1.trans h1),by rw[hx];exact h2,RlL.kill o ho ht hx _ _ hm'.1 h3,RlL.kill o ho ht hx _ _ hm'.2 h4⟩
 |.arr t l,hm,h=>by
  refine⟨h.1.trans (ho p hp).2.symm,?_⟩
  rcases h.2 with h| ⟨s,cs,h1,h2,h3⟩
  ·exact .inl ⟨h.1,(ho p hp).1.trans h.2⟩
  ·exact .inr ⟨s,cs,((ho p hp).1.trans h1),by rw[hx];exact h2,jL l cs h3⟩
 |.sg ss,_,h=>by
  obtain⟨s,h1,h2⟩:=h
  exact⟨s,((ho p hp).1.trans h1),by rw[hx];exact h2⟩
 |.gone,_,_=>trivial
 |.ro b,hm,h=>Ms hp ho ht hx (x:=b) hm h
theorem ak.ghost (h:ak ρ b st fr σ) (o:Nat) (t:Ty):ak (ρ.gh o) b (st.new o (.arr t [])) fr σ where
 d:=h.d
 om:=h.om
 fr:=fun j y hy=>by
  have hy':look (mapF (killO o) st.fr) j=some y:=hy
  rw[iK,aat] at hy'
  obtain⟨z,hz,rfl⟩:=hy'
  exact Mj fG rfl rfl (h.fr j z hz)
 ob:=fun p y hy=>by
  by_cases e:p=o
  ·subst e
   have hy':some (Ob.arr t ([]:List (Den R.T t)))=some y:=by rw[<-hy];exact(bX _ _ _).symm
   cases hy'
   exact⟨(jM (ρ:=ρ) (n:=0)).symm,.inl ⟨rfl,by simp[au.gh,upd]⟩⟩
  ·have hy':look (mapF (Ob.kill o) (delF o st.ob)) p=some y:=by rw[<-hy];exact(bf _ _ e).symm
   rw[iK,eY e,aat] at hy'
   obtain⟨z,hz,rfl⟩:=hy'
   by_cases hc:∃cs,z= .cells cs
   ·obtain⟨cs,rfl⟩:=hc
    obtain⟨s,l,h1,h2,h3⟩:=h.ob p _ hz
    exact⟨s,l,((fG (ρ:=ρ) p e).1.trans h1),h2,RlL.killC fG rfl rfl h3⟩
   ·have e2:Ob.kill o z=bif Ob.ment o z then .gone else z:=by cases z<;>first|rfl|exact absurd ⟨_,rfl⟩ hc
    rw[e2]
    cases hm:Ob.ment o z
    ·exact Ms e fG rfl rfl hm (h.ob p z hz)
    ·trivial
 inj:=h.inj
 lt:=h.lt
 ge:=h.ge
 nx:=h.nx
theorem Mt {c:Cx} {o p:Nat} (σ:Sig) (h:p≠o):(σ.aX (c.lc o)).obj (c.lc p)=σ.obj (c.lc p):=by
 unfold Sig.aX upd
 dsimp only
 rw[if_neg (c.L9 h)]
theorem Mv {σ':Sig} {p:Nat} (hp:σ'.obj (ρ.om.lc p)=σ.obj (ρ.om.lc p)) (ht:σ'.top=σ.top):∀{x:Ob R.T},aR ρ σ p x->aR ρ σ' p x
 |.cells cs,h=>by
  obtain⟨s,l,h1,h2,h3⟩:=h
  exact⟨s,l,h1,by unfold Sig.cellsAt at h2⊢;rw[hp];exact h2,by rw[ht];exact h3⟩
 |.map k e m,h=>by
  obtain⟨s,h1,h2⟩:=h
  exact⟨s,h1,by unfold Sig.bg at h2⊢;rw[hp];exact h2⟩
 |.smap ks vs,h=>by
  obtain⟨s,k,l,h1,h2,h3,h4⟩:=h
  exact⟨s,k,l,h1,by unfold Sig.bg at h2⊢;rw[hp];exact h2,by rw[ht];exact h3,by rw[ht];exact h4⟩
 |.arr t l,h=>by
  refine⟨h.1,?_⟩
  rcases h.2 with h| ⟨s,cs,h1,h2,h3⟩
  ·exact .inl h
  ·exact .inr ⟨s,cs,h1,by unfold Sig.cellsAt at h2⊢;rw[hp];exact h2,jL l cs h3⟩
 |.sg ss,h=>by
  obtain⟨s,h1,h2⟩:=h
  exact⟨s,h1,by unfold Sig.cellsAt at h2⊢;rw[hp];exact h2⟩
 |.gone,_=>trivial
 |.ro b,h=>Mv hp ht (x:=b) h
theorem ak.del (h:ak ρ b st fr σ) (o:Nat):ak ρ b (st.del o) fr (σ.aX (ρ.om.lc o)) where
 d:=h.d
 om:=h.om
 fr:=h.fr
 ob:=fun p y hy=>by
  by_cases e:p=o
  ·subst e
   have:look (delF p st.ob) p=some y:=hy
   have key:∀l:List (Nat×Ob R.T),look (delF p l) p=none:=by
    intro l
    induction l with
    |nil=>rfl
    |cons q l ih=>
     obtain⟨j,x⟩:=q
     unfold delF
     cases hj:Nat.beq j p
     ·show (bif Nat.beq j p then some x else look (delF p l) p)=none
      rw[hj];exact ih
     ·exact ih
   rw[key] at this;cases this
  ·have hy':look (delF o st.ob) p=some y:=hy
   rw[eY e] at hy'
   exact Mv (Mt σ e) rfl (h.ob p y hy')
 inj:=h.inj
 lt:=h.lt
 ge:=h.ge
 nx:=h.nx
theorem ak.set (h:ak ρ b st fr σ) (o s:Nat) {x:Ob R.T} {a:AObj} (hx:aR ρ (σ.setObj (ρ.om.lc o) s a) o x):ak ρ b (st.set o x) fr (σ.setObj (ρ.om.lc o) s a) where
 d:=h.d
 om:=h.om
 fr:=h.fr
 ob:=fun p y hy=>by
  by_cases e:p=o
  ·subst e
   have hy':some x=some y:=by rw[<-hy];exact(bX _ _ _).symm
   cases hy'
   exact hx
  ·have hy':look (delF o st.ob) p=some y:=by rw[<-hy];exact(bf _ _ e).symm
   rw[eY e] at hy'
   exact Ml e (h.ob p y hy')
 inj:=h.inj
 lt:=h.lt
 ge:=h.ge
 nx:=h.nx
theorem ak.wk (h:ak ρ b st fr σ) (t s n:Nat) {b':Nat} (hb:b<=b') (hs:s<b') (hl:ρ.om.lo<=s) (hf:∀u,u≠t->ρ.tk u≠some s):ak (ρ.bK t s) b' (st.wk t) fr (σ.aI s n) where
 d:=h.d
 om:=h.om
 fr:=fun j y hy=>by
  have hy':look (mapF (Aq.wk t) st.fr) j=some y:=hy
  rw[iK,aat] at hy'
  obtain⟨z,hz,rfl⟩:=hy'
  have hz':=h.fr j z hz
  have key:∀u s',u≠t->ρ.tk u=some s'->(ρ.bK t s).tk u=some s'/\(σ.aI s n).top s'=σ.top s':=fun u s' hu hs'=>
   ⟨by simp[au.bK,upd,hu,hs'],Bd _ _ fun e=>hf u hu (by rw[hs',e])⟩
  cases z with
  |opt j' w y=>exact⟨fun hc=>Rl.wk (ρ:=ρ) (ρ':=ρ.bK t s) (top:=σ.top) (top':=(σ.aI s n).top) t ⟨rfl,rfl,rfl⟩ key y _ (hz'.1 hc),hz'.2⟩
  |_=>exact bY.of (Rl.wk (ρ:=ρ) (ρ':=ρ.bK t s) (top:=σ.top) (top':=(σ.aI s n).top) t ⟨rfl,rfl,rfl⟩ key _ _ hz')
 ob:=fun p y hy=>by
  have hy':look (mapF (Ob.wk t) st.ob) p=some y:=hy
  rw[iK,aat] at hy'
  obtain⟨z,hz,rfl⟩:=hy'
  have hz':=h.ob p z hz
  have key:∀u s',u≠t->ρ.tk u=some s'->(ρ.bK t s).tk u=some s'/\(σ.aI s n).top s'=σ.top s':=fun u s' hu hs'=>
   ⟨by simp[au.bK,upd,hu,hs'],Bd _ _ fun e=>hf u hu (by rw[hs',e])⟩
  exact Mq key hz'
 inj:=fun u v s' hu hv=>by
  by_cases e1:u=t<;>by_cases e2:v=t
  ·rw[e1,e2]
  ·simp[au.bK,upd,e1] at hu;simp[au.bK,upd,e2] at hv;exact absurd (hu▸hv) (hf v e2)
  ·simp[au.bK,upd,e1] at hu;simp[au.bK,upd,e2] at hv;exact absurd (hv▸hu) (hf u e1)
  ·simp[au.bK,upd,e1] at hu;simp[au.bK,upd,e2] at hv;exact h.inj u v s' hu hv
 lt:=fun u s' hu=>by
  by_cases e1:u=t
  ·simp[au.bK,upd,e1] at hu;omega
  ·simp[au.bK,upd,e1] at hu;exact aeD (h.lt u s' hu) hb
 ge:=fun u s' hu=>by
  by_cases e1:u=t
  ·simp[au.bK,upd,e1] at hu;rw[<-hu];exact hl
  ·simp[au.bK,upd,e1] at hu;exact h.ge u s' hu
 nx:=aaI h.nx hb
theorem Mw {top:Nat->Nat} {x:TV R.T} {v:Value} (h:ofScalarM v=some x):∃y,dx v=some y/\Rl R ρ top x y:=by
 unfold ofScalarM at h
 split at h<;>cases h<;>exact⟨_,rfl,by unfold Rl;rfl⟩
theorem Mx {top:Nat->Nat}:∀{vs:List Value} {l:List (TV R.T)},ofScalarsM vs=some l->∃y,vs.mapM dx=some y/\RlL R ρ top l y
 | [],l,h=>by cases h;exact⟨[],rfl,rfl⟩
 |v::vs,l,h=>by
  unfold ofScalarsM at h
  cases h1:(ofScalarM v:Option (TV R.T)) with
  |none=>simp only[h1] at h;cases h
  |some a=>
   cases h2:(ofScalarsM vs:Option (List (TV R.T))) with
   |none=>simp only[h1,h2] at h;cases h
   |some as=>
    simp only[h1,h2] at h;cases h
    obtain⟨y,hy,hr⟩:=Mw (ρ:=ρ) (top:=top) h1
    obtain⟨ys,hys,hrs⟩:=Mx h2
    exact⟨y::ys,by simp[hy,hys],.cons' hr hrs⟩
theorem MB {top:Nat->Nat} {x:TV R.T} {v:Value} (h:ofValueM v=some x):∃y,ofValue v=some y/\Rl R ρ top x y:=by
 unfold ofValueM at h
 split at h
 ·rename_i cs
  cases h2:(ofScalarsM cs.toList:Option (List (TV R.T))) with
  |none=>simp only[h2] at h;cases h
  |some l=>
   simp only[h2] at h;cases h
   obtain⟨ys,hys,hrs⟩:=Mx (ρ:=ρ) (top:=top) h2
   exact⟨.agg ys,by simp[ofValue,hys],by unfold Rl;exact⟨_,rfl,hrs⟩⟩
 ·obtain⟨y,hy,hr⟩:=Mw (ρ:=ρ) (top:=top) h
  refine⟨y,?_,hr⟩
  unfold ofScalarM at h
  split at h<;>first|exact hy|cases h
def gZ (fr:Fr) (g:List (Nat×Bool)):Prop:=∀j u,look g j=some u->fr.tm j= .bool u
theorem gZ.nil:gZ fr []:=fun _ _ h=>by cases h
theorem gZ.cons {g:List (Nat×Bool)} {j:Nat} {u:Bool} (h:fr.tm j= .bool u) (hg:gZ fr g):gZ fr ((j,u)::g):=fun i v hi=>by
 by_cases e:i=j
 ·subst e;rw[bX] at hi;cases hi;exact h
 ·rw[bf _ _ e] at hi;exact hg i v hi
theorem XC {fr:Fr} {top:Nat->Nat} {g:List (Nat×Bool)} (hg:gZ fr g) {y x:TV R.T} {v:V} (hy:bY fr ρ top y v) (he:resG g y=some x):Rl R ρ top x v:=by
 cases y with
 |opt j w z=>
  unfold resG at he
  dsimp only at he
  split at he
  ·rename_i u hu
   cases he
   have:=hg j u hu
   by_cases e:u=w
   ·subst e;rw[beq_self_eq_true];exact hy.1 this
   ·rw[show (u==w)=false by simpa using e]
    have e':u= !w:=by cases u<;>cases w<;>first|rfl|exact absurd rfl e
    unfold Rl;exact hy.2 (.inl (by rw[this,e']))
  ·cases he
 |_=>cases he;exact hy
theorem aF (h:ak ρ b st fr σ) {g:List (Nat×Bool)} (hg:gZ fr g) {o:Operand} {x:TV R.T} (he:evM g st o=some x):Rl R ρ σ.top x (fr.ev E o):=by
 cases o with
 |tmp t=>
  rw[sS]
  unfold evM at he
  dsimp only at he
  split at he
  ·rename_i v hv;exact XC hg (h.fr _ _ hv) he
  ·cases he
 |const v=>
  rw[LJ]
  obtain⟨y,hy,hr⟩:=MB (ρ:=ρ) (top:=σ.top) (show ofValueM v=some x from he)
  rw[hy];exact hr
 |func f=>cases he;rw[LK];unfold Rl;exact⟨[],[],rfl,rfl,rfl⟩
 |global i=>cases he
theorem kY (h:ak ρ b st fr σ) {g:List (Nat×Bool)} (hg:gZ fr g):∀{l:List Operand} {xs:List (TV R.T)},evMs g st l=some xs->RlL R ρ σ.top xs (l.map (fr.ev E))
 | [],xs,he=>by cases he;rfl
 |o::l,xs,he=>by
  unfold evMs at he
  cases h1:evM g st o with
  |none=>simp only[h1] at he;cases he
  |some a=>
   cases h2:evMs g st l with
   |none=>simp only[h1,h2] at he;cases he
   |some as=>simp only[h1,h2] at he;cases he;exact .cons' (aF h hg h1) (kY h hg h2)
theorem Gn (h:ak ρ b st fr σ) {g:List (Nat×Bool)} (hg:gZ fr g):∀{l:List (Nat×Operand)} {xs:List (Nat×TV R.T)},evPs g st l=some xs->xs.map (·.1)=l.map (·.1)/\RlL R ρ σ.top (xs.map (·.2)) (l.map fun p=>fr.ev E p.2)
 | [],xs,he=>by cases he;exact⟨rfl,rfl⟩
 | (i,o)::l,xs,he=>by
   unfold evPs at he
   cases h1:evM g st o with
   |none=>simp only[h1] at he;cases he
   |some a=>
    cases h2:evPs g st l with
    |none=>simp only[h1,h2] at he;cases he
    |some as=>
     simp only[h1,h2] at he;cases he
     obtain⟨e1,e2⟩:=Gn h hg h2
     exact⟨by simp[e1],.cons' (aF h hg h1) e2⟩
end
end Aq
end
