import Derived.Test.YtdcnajadcbedkaaGreatDoorF906
set_option linter.all false
section
namespace aR
open Go
structure eP where
 aj:Bool
 dp:Nat
 lo:Nat
 fl:Nat->Option Loc
 lt:∀o L,fl o=some L->F0<=o/\L.1<dp
 inj:∀o p L,fl o=some L->fl p=some L->o=p
def eP.lc (c:eP)(o:Nat):Loc:=match c.fl o with
 |some L=>L|none=>(c.dp,o)
theorem eP.Yi (c:eP){o:Nat}(h:o<F0):c.lc o=(c.dp,o):=by
 unfold eP.lc;split
 .rename_i L hL;have:=(c.lt _ _ hL).1;omega
 .rfl
theorem eP.Yj (c:eP){o p:Nat}(h:c.lc o=c.lc p):o=p:=by
 unfold eP.lc at h;split at h<;>split at h
 .rename_i L h1 _ M h2;subst h;exact c.inj _ _ _ h1 h2
 .rename_i L h1 _ h2;have:=(c.lt _ _ h1).2;rw[h] at this;exact absurd this (Nat.lt_irrefl _)
 .rename_i h1 _ L h2;have:=(c.lt _ _ h2).2;rw[<-h] at this;exact absurd this (Nat.lt_irrefl _)
 .exact congrArg Prod.snd h
theorem eP.aiZ (c:eP){o p:Nat}(h:o≠p):c.lc o≠c.lc p:=fun e=>h (c.Yj e)
theorem eP.SQ (c:eP)(o:Nat):(c.lc o).1<=c.dp:=by
 unfold eP.lc;split
 .rename_i L hL;exact Nat.le_of_lt (c.lt _ _ hL).2
 .exact iR _
def eP.out (c:eP)(L:Loc):Prop:=∀o,L≠c.lc o
structure bC where
 ob:Nat->Option Nat
 tk:Nat->Option Nat
 ln:Nat->Nat
 aj:eP
section
variable (R:jY)
def pV:Ty->Bool
 |.st _=>false|_=>true
structure rQ:Prop where
 Nh:∀n p,R.of n (R.to n p)=p
 enc:∀n x,R.enc n x= .agg (encs R (R.lf n) (R.of n x))
 leaf:∀n,(R.lf n).all pV=true
 pc:∀n x,aQ (R.enc n x)=true
def Je (Z:bC)(top:Nat->Nat)(sz len:Nat):Cp->Cap->Prop
 |.any,_=>True|.sh,c=>c= .sh|.nil,c=>c= .nil|.full,c=>c= .full|.own t,c=>c= .nil\/c= .full\/∃s,c= .own sz s/\Z.tk t=some s/\top s=len
mutual
def aC (Z:bC)(top:Nat->Nat):aA R.T->V->Prop
 |.int k n,v=>v= .int k n|.bool b,v=>v= .bool b|.jK b,v=>v= .bool b|.str s,v=>v= .str s|.gY,v=>v= .gY|.gL,v=>v= .gL|.iq,v=>v= .iq|.iN,v=>v= .iN|.fU,v=>v= .ak .nil []|.agg cs,v=>∃l,v= .agg l/\aK Z top cs l|.bW cs,v=>∃l,v= .bW l/\aK Z top cs l|.ak c t l,v=>∃c',v= .ak c' (l.map (aV R t))/\Je Z top (dN R t) l.length c c'|.ref o off,v=>∃s,Z.ob o=some s/\v= .ref (Z.aj.lc o) s off|.aY cs off,v=>∃l,v= .aY l off/\aK Z top cs l
 |.fu o,v=>∃s,Z.ob o=some s/\v= .fu (Z.aj.lc o) s|.fH k e m,v=>v= .fH (m.map fun p=>aV R k p.1) (m.map fun p=>aV R e p.2)
 |.fn f a b,v=>∃a' b',v= .fn (.func f) a' b'/\aK Z top a a'/\aK Z top b b'|.opt _ _ _,_=>False|.aS o t,v=>(∃s,Z.ob o=some s/\v= .aS (Z.aj.lc o) s 0 (Z.ln o) (Z.ln o) (dN R t) (jM t))\/(Z.ln o=0/\(v= .ak .nil []\/v= .ak .full []))|.sub o t a b,v=>0<=a/\a<=b/\b<=Z.ln o/\((∃s cp,Z.ob o=some s/\(b-a).toNat<=cp/\v= .aS (Z.aj.lc o) s (a.toNat*dN R t) (b-a).toNat cp (dN R t) (jM t))\/(a=b/\∃c,v= .ak c []))
 |.mU o t i off,v=>∃s,Z.ob o=some s/\0<=i/\v= .ref (Z.aj.lc o) s (i.toNat*dN R t+off)|.sg ss,v=>v= .agg (dW ss)|.sv o off k n lo hi,v=>∃s,Z.ob o=some s/\qQ n lo hi=true/\v= .aS (Z.aj.lc o) s (off+(fO lo).toNat) ((jh n hi).toNat-(fO lo).toNat) (n-(fO lo).toNat) 1 false|.sel o off k n i m,v=>∃s,Z.ob o=some s/\0<=i/\i.toNat+m<=n/\v= .ref (Z.aj.lc o) s (off+i.toNat)|.vE k n x i,v=>0<=i/\i<n/\v= .aY (x.l.map (V.int k)) i.toNat
 |.undef,v=>v=aP|.gone,_=>True
def aK (Z:bC)(top:Nat->Nat):List (aA R.T)->List V->Prop
 | [],l=>l=[]|t::ts,l=>∃v vs,l=v::vs/\aC Z top t v/\aK Z top ts vs
end
variable {R}
variable {Z Z':bC}{top top':Nat->Nat}
theorem aK.jw {vs:List V}(h:aK R Z top [] vs):vs=[]:=by unfold aK at h;exact h
theorem aK.fV {t:aA R.T}{ts:List (aA R.T)}{vs:List V}(h:aK R Z top (t::ts) vs):∃v l,vs=v::l/\aC R Z top t v/\aK R Z top ts l:=by unfold aK at h;exact h
theorem aC.jB {k:IntKind}{n:Int}{v:V}(h:aC R Z top (.int k n) v):v= .int k n:=nW
theorem aC.rR {b:Bool}{v:V}(h:aC R Z top (.bool b) v):v= .bool b:=nW
theorem aC.vL {b:Bool}{v:V}(h:aC R Z top (.jK b) v):v= .bool b:=nW
theorem aC.qV {b:List UInt8}{v:V}(h:aC R Z top (.str b) v):v= .str b:=nW
theorem aC.uy {v:V}(h:aC R Z top .fU v):v= .ak .nil []:=nW
theorem aC.mX {cs:List (aA R.T)}{v:V}(h:aC R Z top (.agg cs) v):∃l,v= .agg l/\aK R Z top cs l:=nW
theorem aC.Jf {cs:List (aA R.T)}{v:V}(h:aC R Z top (.bW cs) v):∃l,v= .bW l/\aK R Z top cs l:=nW
theorem aC.mY {c:Cp}{t:Ty}{l:List (Den R.T t)}{v:V}(h:aC R Z top (.ak c t l) v):∃c',v= .ak c' (l.map (aV R t))/\Je Z top (dN R t) l.length c c':=nW
theorem aC.rT {o off:Nat}{v:V}(h:aC R Z top (.ref o off) v):∃s,Z.ob o=some s/\v= .ref (Z.aj.lc o) s off:=nW
theorem aC.uz {cs:List (aA R.T)}{off:Nat}{v:V}(h:aC R Z top (.aY cs off) v):∃l,v= .aY l off/\aK R Z top cs l:=nW
theorem aC.Ni {o:Nat}{v:V}(h:aC R Z top (.fu o) v):∃s,Z.ob o=some s/\v= .fu (Z.aj.lc o) s:=nW
theorem aC.FJ {k e:Ty}{m:List (Den R.T k×Den R.T e)}{v:V}(h:aC R Z top (.fH k e m) v):v= .fH (m.map fun p=>aV R k p.1) (m.map fun p=>aV R e p.2):=nW
theorem aC.pE {f:Nat}{a b:List (aA R.T)}{v:V}(h:aC R Z top (.fn f a b) v):∃a' b',v= .fn (.func f) a' b'/\aK R Z top a a'/\aK R Z top b b':=nW
theorem aC.Bf {o:Nat}{t:Ty}{v:V}(h:aC R Z top (.aS o t) v):(∃s,Z.ob o=some s/\v= .aS (Z.aj.lc o) s 0 (Z.ln o) (Z.ln o) (dN R t) (jM t))\/(Z.ln o=0/\(v= .ak .nil []\/v= .ak .full [])):=nW
theorem aC.FK {o:Nat}{t:Ty}{a b:Int}{v:V}(h:aC R Z top (.sub o t a b) v):0<=a/\a<=b/\b<=Z.ln o/\((∃s cp,Z.ob o=some s/\(b-a).toNat<=cp/\v= .aS (Z.aj.lc o) s (a.toNat*dN R t) (b-a).toNat cp (dN R t) (jM t))\/(a=b/\∃c,v= .ak c [])):=nW
theorem aC.FL {o off:Nat}{t:Ty}{i:Int}{v:V}(h:aC R Z top (.mU o t i off) v):∃s,Z.ob o=some s/\0<=i/\v= .ref (Z.aj.lc o) s (i.toNat*dN R t+off):=nW
theorem aC.Jg {ss:List bX}{v:V}(h:aC R Z top (.sg ss) v):v= .agg (dW ss):=nW
theorem aC.C9 {o off n:Nat}{k:IntKind}{lo hi:Option Int}{v:V}(h:aC R Z top (.sv o off k n lo hi) v):∃s,Z.ob o=some s/\qQ n lo hi=true/\v= .aS (Z.aj.lc o) s (off+(fO lo).toNat) ((jh n hi).toNat-(fO lo).toNat) (n-(fO lo).toNat) 1 false:=nW
theorem aC.Nj {o off n m:Nat}{k:IntKind}{i:Int}{v:V}(h:aC R Z top (.sel o off k n i m) v):∃s,Z.ob o=some s/\0<=i/\i.toNat+m<=n/\v= .ref (Z.aj.lc o) s (off+i.toNat):=nW
theorem aC.SS {n:Nat}{k:IntKind}{x:Vec n}{i:Int}{v:V}(h:aC R Z top (.vE k n x i) v):0<=i/\i<n/\v= .aY (x.l.map (V.int k)) i.toNat:=nW
theorem aC.ai0 {v:V}(h:aC R Z top .undef v):v=aP:=nW
theorem aC.ai1 {j:Nat}{w:Bool}{x:aA R.T}{v:V}(h:aC R Z top (.opt j w x) v):False:=nW
theorem aK.nil':aK R Z top [] []:=rfl
theorem aK.cons' {t:aA R.T}{ts:List (aA R.T)}{v:V}{vs:List V}(h:aC R Z top t v)(h':aK R Z top ts vs):aK R Z top (t::ts) (v::vs):=⟨v,vs,rfl,h,h'⟩
theorem aK.length:∀{ts:List (aA R.T)}{vs:List V},aK R Z top ts vs->vs.length=ts.length
 | [],_,h=>by cases h;rfl|_::ts,_,⟨v,vs,e,_,h'⟩=>by subst e;simp[aK.length h']
theorem aK.append:∀{ts ts':List (aA R.T)}{vs vs':List V},aK R Z top ts vs->aK R Z top ts' vs'->aK R Z top (ts++ts') (vs++vs')
 | [],_,_,_,h,h2=>by cases h;exact h2|_::ts,_,_,_,⟨v,vs,e,h1,h'⟩,h2=>by subst e;exact .cons' h1 (aK.append h' h2)
theorem aK.drop:∀(n:Nat){ts:List (aA R.T)}{vs:List V},aK R Z top ts vs->aK R Z top (ts.drop n) (vs.drop n)
 |0,_,_,h=>zl|n+1,[],_,h=>by cases h;simp;rfl|n+1,_::ts,_,⟨v,vs,e,h1,h'⟩=>by subst e;simpa using aK.drop n h'
theorem aK.take:∀(n:Nat){ts:List (aA R.T)}{vs:List V},aK R Z top ts vs->aK R Z top (ts.take n) (vs.take n)
 |0,_,_,h=>by simp;rfl|n+1,[],_,h=>by cases h;simp;rfl|n+1,_::ts,_,⟨v,vs,e,h1,h'⟩=>by subst e;simpa using .cons' h1 (aK.take n h')
theorem aK.get:∀{ts:List (aA R.T)}{vs:List V}{i:Nat}{t:aA R.T},aK R Z top ts vs->ts[i]? =some t->∃v,vs[i]? =some v/\aC R Z top t v
 | [],_,_,_,_,h=>wL|_::ts,_,0,_,⟨v,vs,e,h1,h'⟩,h=>by subst e;simp at h;subst h;exact⟨v,aD,h1⟩|_::ts,_,i+1,_,⟨v,vs,e,h1,h'⟩,h=>by subst e;simpa using aK.get h' zl
mutual
theorem aC.wk (t:Nat)(ho:Z'.ob=Z.ob/\Z'.ln=Z.ln/\Z'.aj=Z.aj)(ht:∀u s,u≠t->Z.tk u=some s->Z'.tk u=some s/\top' s=top s):∀(x:aA R.T)(v:V),aC R Z top x v->aC R Z' top' (wk t x) v
 |.ak (.own u) ty l,v,h=>by
  obtain⟨c',hv,hc⟩:=h;unfold aR.wk;by_cases e:Nat.beq u t=true
  .rw[e,cond_true];exact⟨c',hv,trivial⟩
  .have e':Nat.beq u t=false:=Bool.eq_false_iff.2 e;rw[e',cond_false];refine⟨c',hv,?_⟩;rcases hc with hc|hc| ⟨s,h1,h2,h3⟩
   .exact .inl hc
   .exact .inr (.inl hc)
   .have hne:u≠t:=fun h=>e (by rw[h];exact zh t);have:=ht u s hne h2;exact .inr (.inr ⟨s,h1,this.1,by rw[this.2];exact h3⟩)
 |.ak .any ty l,v,h=>by obtain⟨c',hv,hc⟩:=h;exact⟨c',hv,trivial⟩
 |.ak .sh ty l,v,h=>by obtain⟨c',hv,hc⟩:=h;exact⟨c',hv,hc⟩
 |.ak .nil ty l,v,h=>by obtain⟨c',hv,hc⟩:=h;exact⟨c',hv,hc⟩
 |.ak .full ty l,v,h=>by obtain⟨c',hv,hc⟩:=h;exact⟨c',hv,hc⟩
 |.agg cs,v,h=>by obtain⟨l,hv,hl⟩:=h;exact⟨l,hv,aK.wk t ho ht cs l hl⟩
 |.bW cs,v,h=>by obtain⟨l,hv,hl⟩:=h;exact⟨l,hv,aK.wk t ho ht cs l hl⟩
 |.aY cs off,v,h=>by obtain⟨l,hv,hl⟩:=h;exact⟨l,hv,aK.wk t ho ht cs l hl⟩
 |.fn f a b,v,h=>by obtain⟨a',b',hv,ha,hb⟩:=h;exact⟨a',b',hv,aK.wk t ho ht a a' ha,aK.wk t ho ht b b' hb⟩
 |.ref o off,v,h=>Lv
 |.fu o,v,h=>Lv
 |.aS o ty,v,h=>by
  rcases h with ⟨s,h1,h2⟩| ⟨h1,h2⟩
  .exact .inl ⟨s,agZ,by rw[ho.2.1,ho.2.2];exact h2⟩
  .exact .inr ⟨by rw[ho.2.1];exact h1,h2⟩
 |.sub o ty a b,v,h=>by
  obtain⟨k0,k1,k2,h⟩:=h;refine⟨k0,k1,by rw[ho.2.1];exact k2,?_⟩;rcases h with ⟨s,cp,h1,h2,h3⟩|h
  .exact .inl ⟨s,cp,agZ,h2,by rw[ho.2.2];exact h3⟩
  .exact .inr h
 |.mU o ty i off,v,h=>Lv
 |.sv o _ _ _ _ _,v,h=>Lv
 |.sel o _ _ _ _ _,v,h=>Lv
 |.sg _,_,h=>h|.vE _ _ _ _,_,h=>h|.opt _ _ _,_,h=>h.elim|.int _ _,_,h=>h|.bool _,_,h=>h|.jK _,_,h=>h|.str _,_,h=>h|.gY,_,h=>h|.gL,_,h=>h|.iq,_,h=>h|.iN,_,h=>h|.fU,_,h=>h|.fH _ _ _,_,h=>h|.undef,_,h=>h|.gone,_,h=>h
theorem aK.wk (t:Nat)(ho:Z'.ob=Z.ob/\Z'.ln=Z.ln/\Z'.aj=Z.aj)(ht:∀u s,u≠t->Z.tk u=some s->Z'.tk u=some s/\top' s=top s):∀(x:List (aA R.T))(v:List V),aK R Z top x v->aK R Z' top' (zH t x) v
 | [],_,h=>h|x::xs,_,⟨v,vs,e,h1,h2⟩=>⟨v,vs,e,aC.wk t ho ht x v h1,aK.wk t ho ht xs vs h2⟩
end
mutual
theorem aC.kill (o:Nat)(ho:∀p,p≠o->Z'.ob p=Z.ob p/\Z'.ln p=Z.ln p)(ht:Z'.tk=Z.tk)(hx:Z'.aj=Z.aj):∀(x:aA R.T)(v:V),oz o x=false->aC R Z top x v->aC R Z' top x v
 |.ak c ty l,v,_,h=>by
  obtain⟨c',hv,hc⟩:=h;refine⟨c',hv,?_⟩;cases c<;>try exact hc
  rcases hc with hc|hc| ⟨s,h1,h2,h3⟩
  .exact .inl hc
  .exact .inr (.inl hc)
  .exact .inr (.inr ⟨s,h1,by rw[ht];exact h2,h3⟩)
 |.agg cs,v,hm,h=>by obtain⟨l,hv,hl⟩:=h;exact⟨l,hv,aK.kill o ho ht hx cs l hm hl⟩
 |.bW cs,v,hm,h=>by obtain⟨l,hv,hl⟩:=h;exact⟨l,hv,aK.kill o ho ht hx cs l hm hl⟩
 |.aY cs off,v,hm,h=>by obtain⟨l,hv,hl⟩:=h;exact⟨l,hv,aK.kill o ho ht hx cs l hm hl⟩
 |.fn f a b,v,hm,h=>by obtain⟨a',b',hv,ha,hb⟩:=h;unfold oz at hm;rw[sF] at hm;exact⟨a',b',hv,aK.kill o ho ht hx a a' hm.1 ha,aK.kill o ho ht hx b b' hm.2 hb⟩
 |.ref p off,v,hm,h=>Ls
 |.fu p,v,hm,h=>Ls
 |.aS p ty,v,hm,h=>by
  unfold oz at hm;obtain⟨k1,k2⟩:=ho p (fun e=>agY);rcases h with ⟨s,h1,h2⟩| ⟨h1,h2⟩
  .exact .inl ⟨s,k1.trans h1,by rw[k2,hx];exact h2⟩
  .exact .inr ⟨by rw[k2];exact h1,h2⟩
 |.sub p ty a b,v,hm,h=>by
  unfold oz at hm;obtain⟨k1,k2⟩:=ho p (fun e=>agY);obtain⟨g0,g1,g2,h⟩:=h;refine⟨g0,g1,by rw[k2];exact g2,?_⟩;rcases h with ⟨s,cp,h1,h2,h3⟩|h
  .exact .inl ⟨s,cp,k1.trans h1,h2,by rw[hx];exact h3⟩
  .exact .inr h
 |.mU p ty i off,v,hm,h=>Ls
 |.sv p _ _ _ _ _,v,hm,h=>Ls
 |.sel p _ _ _ _ _,v,hm,h=>Ls
 |.sg _,_,_,h=>h|.vE _ _ _ _,_,_,h=>h|.opt _ _ _,_,_,h=>h.elim|.int _ _,_,_,h=>h|.bool _,_,_,h=>h|.jK _,_,_,h=>h|.str _,_,_,h=>h|.gY,_,_,h=>h|.gL,_,_,h=>h|.iq,_,_,h=>h|.iN,_,_,h=>h|.fU,_,_,h=>h|.fH _ _ _,_,_,h=>h|.undef,_,_,h=>h|.gone,_,_,h=>h
theorem aK.kill (o:Nat)(ho:∀p,p≠o->Z'.ob p=Z.ob p/\Z'.ln p=Z.ln p)(ht:Z'.tk=Z.tk)(hx:Z'.aj=Z.aj):∀(x:List (aA R.T))(v:List V),qx o x=false->aK R Z top x v->aK R Z' top x v
 | [],_,_,h=>h|x::xs,_,hm,⟨v,vs,e,h1,h2⟩=>by unfold qx at hm;rw[sF] at hm;exact⟨v,vs,e,aC.kill o ho ht hx x v hm.1 h1,aK.kill o ho ht hx xs vs hm.2 h2⟩
end
section
variable (hR:rQ R)
include hR
def Jh (v w:V):Prop:=gH v=w/\er v=w/\aQ w=true/\(∀n Y,bA (n+2) Y v=some w)/\oneCell v=true/\v.cells=[v]
omit hR in
theorem auv {v:V}(h:∀cs,v≠ .agg cs):er v=gH v:=by cases v<;>first|rfl|exact absurd rfl (h _)
theorem qW:∀(t:Ty)(x:Den R.T t),aQ (aV R t x)=true
 |.int _,x=>by simp[aV,aQ]|.bool,x=>by simp[aV,aQ]|.str,x=>by simp[aV,aQ]|.slice t,x=>MU (qW t) x|.st n,x=>hR.pc n x
theorem ai2 (c:Cp)(hc:Je Z top 1 0 c .sh/\(c= .any\/c= .sh)):∀(t:Ty)(x:Den R.T t),pV t=true->aC R Z top (AZ R c t x) (aV R t x)
 |.int _,x,_=>rfl|.bool,x,_=>rfl|.str,x,_=>rfl|.slice t,x,_=>⟨.sh,rfl,by rcases hc.2 with rfl|rfl<;>first|trivial|rfl⟩
 |.st n,x,h=>by simp[pV] at h
theorem ai3 (c:Cp)(hc:Je Z top 1 0 c .sh/\(c= .any\/c= .sh)):∀(l:List Ty)(p:qw R.T l),l.all pV=true->aK R Z top (mV R c l p) (encs R l p)
 | [],_,_=>rfl| [t],x,h=>.cons' (ai2 hR c hc t x zl) rfl|t::u::l,p,h=>by rw[List.all_cons,bf] at h;exact .cons' (ai2 hR c hc t p.1 h.1) (ai3 c hc (u::l) p.2 h.2)
theorem ai4 (c:Cp)(hc:c= .any\/c= .sh):∀(t:Ty)(x:Den R.T t),aC R Z top (jg R c t x) (aV R t x)
 |.int _,x=>rfl|.bool,x=>rfl|.str,x=>rfl|.slice t,x=>⟨.sh,rfl,by rcases hc with rfl|rfl<;>first|trivial|rfl⟩
 |.st n,x=>⟨_,hR.enc n x,ai3 hR c ⟨by rcases hc with rfl|rfl<;>first|trivial|rfl,hc⟩ _ _ (hR.leaf n)⟩
theorem ai5 (t:Ty)(x:Den R.T t):aC R Z top (jg R .sh t x) (aV R t x):=ai4 hR .sh (.inr rfl) t x
omit hR in
theorem auw (k:IntKind)(n:Int):Jh (.int k n) (.int k n):=⟨rfl,rfl,tL,fun n Y=>XD (n+1) _ _,rfl,rfl⟩
omit hR in
theorem auy (b:Bool):Jh (.bool b) (.bool b):=⟨rfl,rfl,tL,fun n Y=>XE (n+1) _,rfl,rfl⟩
omit hR in
theorem auz (b:List UInt8):Jh (.str b) (.str b):=⟨rfl,rfl,tL,fun n Y=>XF (n+1) _,rfl,rfl⟩
theorem auA (c:Cap)(t:Ty)(l:List (Den R.T t)):Jh (.ak c (l.map (aV R t))) (aV R (.slice t) l):=⟨rfl,rfl,qW hR (.slice _) _,fun n Y=>yD _ _ (qW hR _),rfl,rfl⟩
omit hR in
theorem ai6 {k:IntKind}{x:Int}{tv:aA R.T}{v:V}(h:R9 R k tv=some x)(hr:aC R Z top tv v):v= .int k x:=by
 unfold R9 at h;split at h
 .split at h
  .rename_i e;cases e;cases h;exact hr.jB
  .cases h
 .cases h
omit hR in
theorem ai7 {x:Bool}{tv:aA R.T}{v:V}(h:Sb R tv=some x)(hr:aC R Z top tv v):v= .bool x:=by
 unfold Sb at h;split at h<;>cases h
 .exact hr.rR
 .exact hr.vL
omit hR in
theorem ai8 {x:List UInt8}{tv:aA R.T}{v:V}(h:Sc R tv=some x)(hr:aC R Z top tv v):v= .str x:=by unfold Sc at h;split at h<;>cases h;exact hr.qV
omit hR in
theorem vM {t u:Ty}{l:List (Den R.T t)}{m:List (Den R.T u)}(h:ug R l=some m):t=u/\HEq l m:=by
 unfold ug at h;split at h
 .rename_i e;subst e;cases h;exact⟨rfl,HEq.rfl⟩
 .cases h
omit hR in
theorem ai9 {t:Ty}{x:List (Den R.T t)}{tv:aA R.T}{v:V}(h:Fj R t tv=some x)(hr:aC R Z top tv v):∃c,v= .ak c (x.map (aV R t)):=by
 unfold Fj at h;split at h
 .obtain⟨e,e2⟩:=vM h;subst e;cases e2;obtain⟨c',hv,hc⟩:=hr.mY;exact⟨c',hv⟩
 .cases h;exact⟨.nil,hr.uy⟩
 .cases h
theorem Ji {t:Ty}{x:Den R.T t}{tv:aA R.T}{v:V}(h:uh R t tv=some x)(hr:aC R Z top tv v):Jh v (aV R t x):=by
 cases t with
 |int k=>rw[ai6 h hr];exact auw _ _|bool=>rw[ai7 h hr];exact auy _|str=>rw[ai8 h hr];exact auz _|slice t=>obtain⟨c,hv⟩:=ai9 h hr;rw[hv];exact auA hR _ _ _
 |st n=>cases h
theorem auB {t:Ty}{x:Den R.T t}{cs:List (aA R.T)}{vs:List V}(h:uh R t (hd1 R cs)=some x)(hr:aK R Z top cs vs):∃v,vs=[v]/\Jh v (aV R t x):=by
 cases cs with
 |nil=>cases t<;>cases h|cons c cs=>
  cases cs with
  |nil=>obtain⟨v,l,rfl,h1,h2⟩:=hr.fV;rw[h2.jw];exact⟨v,rfl,Ji hR h h1⟩
  |cons c' cs=>cases t<;>cases h
theorem aja:∀(l:List Ty)(p:qw R.T l)(cs:List (aA R.T))(vs:List V),CK R l cs=some p->aK R Z top cs vs->
 vs.map gH=encs R l p/\(∀n Y,vs.mapM (bA (n+2) Y)=some (encs R l p))/\cu (encs R l p)=true/\vs.all (fun v=>oneCell v)=true
 | [],p,cs,vs,h,hr=>by
   cases cs with
   |nil=>rw[hr.jw];exact⟨rfl,fun _ _=>rfl,by simp[encs,cu],rfl⟩
   |cons c cs=>cases h
 | [t],p,cs,vs,h,hr=>by obtain⟨v,rfl,a,b,c,d,e,_⟩:=auB hR (show uh R t (hd1 R cs)=some p from h) hr;exact⟨by simp[encs,a],fun n Y=>by simp[encs,d],by simp[encs,cu,c],G7⟩
 |t::u::l,p,cs,vs,h,hr=>by
  cases cs with
  |nil=>cases h|cons c cs=>
   obtain⟨v,vs,rfl,h1,h2⟩:=hr.fV;unfold CK at h;cases hu:uh R t c with
   |none=>simp only[hu] at h;cases h|some y=>
    cases hs:CK R (u::l) cs with
    |none=>simp only[hu,hs] at h;cases h|some q=>simp only[hu,hs] at h;obtain rfl:=kP h;obtain⟨a,b,c,d,e,_⟩:=Ji hR hu h1;obtain⟨a',d',c',o'⟩:=aja (u::l) q cs vs hs h2;exact⟨by simp[encs,a,a'],fun n Y=>by simp[encs,d,d'],by simp[encs,cu,c,c'],by simp[e,o']⟩
omit hR in
theorem Yk:∀(l:List Ty)(p:qw R.T l),(encs R l p).length=l.length
 | [],_=>rfl| [_],_=>rfl|_::u::l,p=>by show (encs R (u::l) p.2).length+1=_;rw[Yk];rfl
omit hR in
theorem Yl {n:Nat}{Y:ah}(cs:List V):bA (n+3) Y (.agg cs)=(cs.mapM (bA (n+2) Y)).map .agg:=by
 by_cases hp:aQ (.agg cs)=true
 .rw[oh hp];have:∀cs:List V,cu cs=true->cs.mapM (bA (n+2) Y)=some cs:=by
   intro cs;induction cs with
   |nil=>intro _;rfl|cons a l ih=>intro h;simp only[cu,bf] at h;rw[iM,oh h.1,ih h.2];rfl
  rw[this cs BZ];rfl
 .conv=>lhs;unfold bA
  simp only[hp,if_false,dI]
theorem ajb {t:Ty}{x:Den R.T t}{tv:aA R.T}{v:V}(h:A8 R t tv=some x)(hr:aC R Z top tv v):
 er v=aV R t x/\aQ (aV R t x)=true/\(∀n Y,bA (n+3) Y v=some (aV R t x))/\v.cells.length=dN R t/\dA v.cells=true:=by
 cases t with
 |st n=>
  change Fp R n tv=some x at h;unfold Fp at h;split at h
  .rename_i cs;split at h
   .rename_i p hp;obtain rfl:=kP h;obtain⟨l,hv,hl⟩:=hr.mX;subst hv;obtain⟨a,d,c,o⟩:=aja hR _ _ _ _ hp hl;have he:aV R (.st n) (R.to n p)= .agg (encs R (R.lf n) p):=(by show R.enc n (R.to n p)=_;rw[hR.enc,hR.Nh]);refine⟨?_,qW hR (.st n) _,fun k Y=>?_,?_,o⟩
    .rw[he];show V.agg (l.map gH)=_;rw[a]
    .rw[he,Yl,d k Y];rfl
    .show l.length=_;have:=congrArg List.length a;rw[fF] at this;rw[this];exact Yk _ _
   .cases h
  .cases h
 |int k=>obtain⟨a,b,c,d,e,f⟩:=Ji hR (t:=.int k) h hr;exact⟨b,c,fun n Y=>d (n+1) Y,by rw[f];rfl,Q6⟩
 |bool=>obtain⟨a,b,c,d,e,f⟩:=Ji hR (t:=.bool) h hr;exact⟨b,c,fun n Y=>d (n+1) Y,by rw[f];rfl,Q6⟩
 |str=>obtain⟨a,b,c,d,e,f⟩:=Ji hR (t:=.str) h hr;exact⟨b,c,fun n Y=>d (n+1) Y,by rw[f];rfl,Q6⟩
 |slice t=>obtain⟨a,b,c,d,e,f⟩:=Ji hR (t:=.slice t) h hr;exact⟨b,c,fun n Y=>d (n+1) Y,by rw[f];rfl,Q6⟩
end
end
end aR
end
section
namespace aR
open Go
theorem fQ {a b:Nat}(h:Nat.beq a b=true):a=b:=zo h
theorem Ym {a b:Nat}(h:Nat.beq a b=false):a≠b:=fun e=>by rw[e,zh] at h;cases h
theorem SV {a b:Nat}(h:a≠b):Nat.beq a b=false:=Bool.eq_false_iff.2 fun e=>h (fQ e)
section look
variable {U:Type}
theorem xA (f:U->U):∀(l:List (Nat×U))(i:Nat),look (o9 f l) i=(look l i).map f
 | [],_=>rfl| (j,x)::l,i=>by
   show (bif Nat.beq j i then some (f x) else look (o9 f l) i)=Option.map f (bif Nat.beq j i then some x else look l i);cases Nat.beq j i
   .exact xA f l i
   .rfl
theorem uD {i j:Nat}(h:j≠i):∀(l:List (Nat×U)),look (ku i l) j=look l j
 | []=>rfl| (k,x)::l=>by
   show look (bif Nat.beq k i then ku i l else (k,x)::ku i l) j=bif Nat.beq k j then some x else look l j;cases hk:Nat.beq k i
   .show (bif Nat.beq k j then some x else look (ku i l) j)=_;rw[uD h l]
   .have:=fQ hk;subst this;rw[SV (Ne.symm h)];exact uD h l
theorem nX (l:List (Nat×U))(i:Nat)(x:U):look ((i,x)::l) i=some x:=by show (bif Nat.beq i i then some x else look l i)=_;rw[zh];rfl
theorem kN (l:List (Nat×U)){i j:Nat}(x:U)(h:j≠i):look ((i,x)::l) j=look l j:=by show (bif Nat.beq i j then some x else look l j)=_;rw[SV (Ne.symm h)];rfl
end look
section
variable {R:jY}{E:Env}
theorem ajc {Z Z':bC}{top top':Nat->Nat}:∀(t:Ty)(x:Den R.T t)(v:V),aC R Z top (AZ R .any t x) v->aC R Z' top' (AZ R .any t x) v
 |.int _,_,_,h=>h|.bool,_,_,h=>h|.str,_,_,h=>h|.slice _,_,_,h=>h|.st _,_,_,h=>h
theorem Da {Z Z':bC}{top top':Nat->Nat}:∀(l:List Ty)(p:qw R.T l)(vs:List V),aK R Z top (mV R .any l p) vs->aK R Z' top' (mV R .any l p) vs
 | [],_,_,h=>h| [t],x,vs,h=>by obtain⟨v,l,rfl,h1,h2⟩:=h.fV;rw[h2.jw];exact .cons' (ajc t x v h1) rfl
 |t::u::l,p,vs,h=>by obtain⟨v,ws,rfl,h1,h2⟩:=h.fV;exact .cons' (ajc t p.1 v h1) (Da (u::l) p.2 ws h2)
theorem auC {Z Z':bC}{top top':Nat->Nat}{t:Ty}{x:Den R.T t}{vs:List V}(h:aK R Z top (jg R .any t x).cells vs):aK R Z' top' (jg R .any t x).cells vs:=by
 cases t with
 |st n=>exact Da _ _ _ h|int k=>exact Da [.int k] x vs h|bool=>exact Da [.bool] x vs h|str=>exact Da [.str] x vs h|slice t=>exact Da [.slice t] x vs h
theorem aK.split {Z:bC}{top:Nat->Nat}:∀{ts ts':List (aA R.T)}{vs:List V},aK R Z top (ts++ts') vs->∃a b,vs=a++b/\aK R Z top ts a/\aK R Z top ts' b
 | [],_,vs,h=>⟨[],vs,rfl,rfl,h⟩|t::ts,ts',vs,h=>by obtain⟨v,ws,rfl,h1,h2⟩:=aK.fV (ts:=ts++ts') h;obtain⟨a,b,rfl,h3,h4⟩:=aK.split h2;exact⟨v::a,b,rfl,.cons' h1 h3,h4⟩
theorem zN {Z Z':bC}{top top':Nat->Nat}{t:Ty}:∀(l:List (Den R.T t))(vs:List V),aK R Z top (l.flatMap fun x=>(jg R .any t x).cells) vs->aK R Z' top' (l.flatMap fun x=>(jg R .any t x).cells) vs
 | [],vs,h=>h|x::l,vs,h=>by rw[lu] at h⊢;obtain⟨a,b,rfl,h1,h2⟩:=h.split;exact(auC h1).append (zN l b h2)
def kD (fr:Fr)(Z:bC)(top:Nat->Nat):aA R.T->V->Prop
 |.opt j w y,v=>(fr.tm j= .bool w->aC R Z top y v)/\(fr.tm j= .bool (!w)\/fr.tm j=aP->v=aP)|x,v=>aC R Z top x v
theorem kD.of {fr:Fr}{Z:bC}{top:Nat->Nat}{x:aA R.T}{v:V}(h:aC R Z top x v):kD fr Z top x v:=by
 cases x<;>first|exact h|exact h.ai1.elim
def gK (Z:bC)(Y:ah)(o:Nat):bP R.T->Prop
 |.cells cs=>∃s l,Z.ob o=some s/\Y.dS (Z.aj.lc o) s=some l/\aK R Z Y.top cs l|.map k e m=>∃s,Z.ob o=some s/\Y.lg (Z.aj.lc o) s=some (m.map fun p=>aV R k p.1,m.map fun p=>aV R e p.2)
 |.smap ks vs=>∃s k l,Z.ob o=some s/\Y.lg (Z.aj.lc o) s=some (k,l)/\aK R Z Y.top ks k/\aK R Z Y.top vs l|.arr t l=>l.length=Z.ln o/\((l=[]/\Z.ob o=none)\/∃s cs,Z.ob o=some s/\Y.dS (Z.aj.lc o) s=some cs/\aK R Z Y.top (l.flatMap fun x=>(jg R .any t x).cells) cs)
 |.sg ss=>∃s,Z.ob o=some s/\Y.dS (Z.aj.lc o) s=some (dW ss)|.gone=>True|.ro b=>gK Z Y o b
theorem gK.strip {Z:bC}{Y:ah}{o:Nat}:∀{x:bP R.T},gK Z Y o x->gK Z Y o (XO x)
 |.cells _,h=>h|.map _ _ _,h=>h|.smap _ _,h=>h|.arr _ _,h=>h|.sg _,h=>h|.gone,h=>h|.ro b,h=>gK.strip (x:=b) h
structure aU (Z:bC)(b:Nat)(st:aO R.T)(fr:Fr)(Y:ah):Prop where
 d:fr.d=Z.aj.dp
 aj:fr.aj=Z.aj.aj
 fr:∀i v,look st.fr i=some v->kD fr Z Y.top v (fr.tm i)
 ob:∀o x,look st.ob o=some x->gK Z Y o x
 inj:∀t u s,Z.tk t=some s->Z.tk u=some s->t=u
 lt:∀t s,Z.tk t=some s->s<b
 ge:∀t s,Z.tk t=some s->Z.aj.lo<=s
 nx:Z.aj.lo<=b
variable {Z:bC}{b:Nat}{st:aO R.T}{fr:Fr}{Y:ah}
theorem aU.le {b':Nat}(h:aU Z b st fr Y)(hb:b<=b'):aU Z b' st fr Y:={h with lt:=fun t s ht=>nC (h.lt t s ht) hb,nx:=eX h.nx hb}
theorem gK.bump {o k:Nat}:∀{x:bP R.T},gK Z Y o x->gK Z (Y.bump k) o x
 |.cells _,h=>h|.map _ _ _,h=>h|.smap _ _,h=>h|.arr _ _,h=>h|.sg _,h=>h|.gone,h=>h|.ro b,h=>gK.bump (x:=b) h
theorem aU.next (h:aU Z b st fr Y)(k:Nat):aU Z b st fr (Y.bump k):={h with fr:=h.fr,ob:=fun o x hx=>(h.ob o x hx).bump}
theorem aU.rd (h:aU Z b st fr Y){o:Nat}{x:bP R.T}(hx:qy st o=some x):gK Z Y o x:=by
 unfold qy at hx;split at hx
 .rename_i y hy;cases hx;exact(h.ob _ _ hy).strip
 .cases hx
theorem auD {Z:bC}{top:Nat->Nat}{x:aA R.T}{u v:V}{i:Nat}(h:kD fr Z top x v):kD (fr.set i u) Z top (XL i x) v:=by
 cases x with
 |opt j w y=>
  show kD _ _ _ (bif Nat.beq j i then .gone else .opt j w y) v;cases hj:Nat.beq j i
  .have hs:(fr.set i u).tm j=fr.tm j:=MQ _ _ (by simpa using Ym hj);exact⟨fun hc=>h.1 (by rw[<-hs];exact hc),fun hc=>h.2 (by rw[<-hs];exact hc)⟩
  .exact kD.of (x:=.gone) (by unfold aC;trivial)
 |_=>exact h
theorem aU.put (h:aU Z b st fr Y)(i:Nat){x:aA R.T}{v:V}(hx:kD (fr.set i v) Z Y.top x v):aU Z b (st.put i x) (fr.set i v) Y where
 d:=h.d
 aj:=h.aj
 ob:=h.ob
 inj:=h.inj
 lt:=h.lt
 ge:=h.ge
 nx:=h.nx
 fr:=fun j y hy=>by
  by_cases e:j=i
  .subst e;have hy':some x=some y:=LC
   cases hy';rw[aix];exact hx
  .have hy':look (o9 (XL i) (ku i st.fr)) j=some y:=LD
   rw[xA,uD e,aZ] at hy';obtain⟨z,hz,rfl⟩:=hy';rw[MQ _ _ (by simpa using e)];exact auD (h.fr j z hz)
theorem aU.iF (h:aU Z b st fr Y)(d:Option Nat){x:aA R.T}{v:V}(hx:aC R Z Y.top x v):aU Z b (st.iF d x) (fr.put d v) Y:=by
 cases d with
 |none=>exact h|some i=>exact h.put i (.of hx)
theorem auE {Z:bC}{top:Nat->Nat}{x:aA R.T}{v:V}{i:Nat}{c:Bool}(hi:fr.tm i= .bool c)(h:kD fr Z top x v):kD fr Z top (XM i c x) v:=by
 cases x with
 |opt j w y=>
  show kD _ _ _ (bif Nat.beq j i then (bif (c==w) then y else .undef) else .opt j w y) v;cases hj:Nat.beq j i
  .exact h
  .have:=fQ hj;subst this;by_cases e:c=w
   .subst e;rw[beq_self_eq_true];exact kD.of (h.1 hi)
   .rw[show (c==w)=false by simpa using e];have e':c= !w:=(by cases c<;>cases w<;>first|rfl|exact absurd rfl e);have h':=h.2 (.inl (by rw[hi,e']));subst h';exact kD.of (x:=.undef) gX
 |_=>exact h
theorem aU.learn (h:aU Z b st fr Y){i:Nat}{c:Bool}(hc:fr.tm i= .bool c):aU Z b (st.learn i c) fr Y where
 d:=h.d
 aj:=h.aj
 ob:=h.ob
 inj:=h.inj
 lt:=h.lt
 ge:=h.ge
 nx:=h.nx
 fr:=fun j y hy=>by
  by_cases e:j=i
  .subst e;have hy':some (aA.jK c)=some y:=LC
   cases hy';exact kD.of (x:=.jK c) (by unfold aC;exact hc)
  .have hy':look (o9 (XM i c) (ku i st.fr)) j=some y:=LD
   rw[xA,uD e,aZ] at hy';obtain⟨z,hz,rfl⟩:=hy';exact auE hc (h.fr j z hz)
def bC.oo (Z:bC)(o s:Nat):bC:={Z with ob:=upd Z.ob o (some s)}
def bC.jQ (Z:bC)(t s:Nat):bC:={Z with tk:=upd Z.tk t (some s)}
theorem ajd {Z':bC}{top:Nat->Nat}{o:Nat}{x:aA R.T}{v:V}(ho:∀p,p≠o->Z'.ob p=Z.ob p/\Z'.ln p=Z.ln p)(ht:Z'.tk=Z.tk)(hx:Z'.aj=Z.aj)(h:kD fr Z top x v):kD fr Z' top (Fq o x) v:=by
 unfold Fq;cases hm:oz o x
 .cases x with
  |opt j w y=>exact⟨fun hc=>aC.kill o ho ht hx y v hm (h.1 hc),h.2⟩
  |_=>exact kD.of (aC.kill o ho ht hx _ v hm h)
 .exact kD.of (x:=.gone) (by unfold aC;trivial)
theorem Yn (c:eP){o p:Nat}(h:p≠o):rF (c.lc p) (c.lc o)=false:=by
 cases e:rF (c.lc p) (c.lc o)
 .rfl
 .unfold rF at e;rw[bf,beq_iff_eq,beq_iff_eq] at e;exact absurd (Prod.ext e.2 e.1) (c.aiZ h)
theorem GX {c:eP}{o p:Nat}(Y:ah)(s s':Nat)(x:kH)(h:p≠o):(Y.setObj (c.lc o) s' x).dS (c.lc p) s=Y.dS (c.lc p) s:=Fa Y s s' x (Yn c h)
theorem Jj {c:eP}{o p:Nat}(Y:ah)(s s':Nat)(x:kH)(h:p≠o):(Y.setObj (c.lc o) s' x).lg (c.lc p) s=Y.lg (c.lc p) s:=aiB Y s s' x (Yn c h)
theorem aK.Fu {Z':bC}{top:Nat->Nat}{o:Nat}(ho:∀p,p≠o->Z'.ob p=Z.ob p/\Z'.ln p=Z.ln p)(ht:Z'.tk=Z.tk)(hx:Z'.aj=Z.aj):∀{cs:List (aA R.T)}{l:List V},aK R Z top cs l->aK R Z' top (Fu o cs) l
 | [],_,h=>h|x::cs,_,h=>by
  obtain⟨v,ws,rfl,h1,h2⟩:=h.fV;refine .cons' ?_ (aK.Fu ho ht hx h2);unfold Fq;cases hm:oz o x
  .exact aC.kill o ho ht hx x v hm h1
  .unfold aC;trivial
theorem aje {Z':bC}{o p s':Nat}{a:kH}(hp:p≠o)(ho:∀p,p≠o->Z'.ob p=Z.ob p/\Z'.ln p=Z.ln p)(ht:Z'.tk=Z.tk)(hx:Z'.aj=Z.aj):∀{x:bP R.T},bP.oz o x=false->gK Z Y p x->gK Z' (Y.setObj (Z.aj.lc o) s' a) p x
 |.cells cs,hm,h=>by obtain⟨s,l,h1,h2,h3⟩:=h;exact⟨s,l,((ho p hp).1.trans h1),QL,aK.kill o ho ht hx _ _ hm h3⟩
 |.map k e m,_,h=>by obtain⟨s,h1,h2⟩:=h;exact⟨s,((ho p hp).1.trans h1),by rw[hx,Jj _ _ _ _ hp];exact h2⟩
 |.smap ks vs,hm,h=>by obtain⟨s,k,l,h1,h2,h3,h4⟩:=h;have hm':(qx o ks||qx o vs)=false:=hm;rw[sF] at hm';exact⟨s,k,l,((ho p hp).1.trans h1),by rw[hx,Jj _ _ _ _ hp];exact h2,aK.kill o ho ht hx _ _ hm'.1 h3,aK.kill o ho ht hx _ _ hm'.2 h4⟩
 |.arr t l,hm,h=>by
  refine⟨h.1.trans (ho p hp).2.symm,?_⟩;rcases h.2 with h| ⟨s,cs,h1,h2,h3⟩
  .exact .inl ⟨h.1,(ho p hp).1.trans h.2⟩
  .exact .inr ⟨s,cs,((ho p hp).1.trans h1),QL,zN l cs h3⟩
 |.sg ss,_,h=>by obtain⟨s,h1,h2⟩:=h;exact⟨s,((ho p hp).1.trans h1),QL⟩
 |.gone,_,_=>trivial|.ro b,hm,h=>aje hp ho ht hx (x:=b) hm h
theorem auF {Z':bC}{o p s':Nat}{a:kH}{x:bP R.T}(hp:p≠o)(ho:∀p,p≠o->Z'.ob p=Z.ob p/\Z'.ln p=Z.ln p)(ht:Z'.tk=Z.tk)(hx:Z'.aj=Z.aj)(h:gK Z Y p x):gK Z' (Y.setObj (Z.aj.lc o) s' a) p (bP.kill o x):=by
 by_cases hc:∃cs,x= .cells cs
 .obtain⟨cs,rfl⟩:=hc;obtain⟨s,l,h1,h2,h3⟩:=h;exact⟨s,l,((ho p hp).1.trans h1),QL,aK.Fu ho ht hx h3⟩
 .have e:bP.kill o x=bif bP.oz o x then .gone else x:=by cases x<;>first|rfl|exact absurd ⟨_,rfl⟩ hc
  rw[e];cases hm:bP.oz o x
  .exact aje hp ho ht hx hm h
  .trivial
theorem ajf {o p s:Nat}{a:kH}(hp:p≠o):∀{x:bP R.T},gK Z Y p x->gK Z (Y.setObj (Z.aj.lc o) s a) p x
 |.cells cs,h=>by obtain⟨s,l,h1,h2,h3⟩:=h;exact⟨s,l,h1,by rw[GX _ _ _ _ hp];exact h2,h3⟩
 |.map k e m,h=>by obtain⟨s,h1,h2⟩:=h;exact⟨s,h1,by rw[Jj _ _ _ _ hp];exact h2⟩
 |.smap ks vs,h=>by obtain⟨s,k,l,h1,h2,h3⟩:=h;exact⟨s,k,l,h1,by rw[Jj _ _ _ _ hp];exact h2,h3⟩
 |.arr t l,h=>by
  refine⟨h.1,?_⟩;rcases h.2 with h| ⟨s,cs,h1,h2,h3⟩
  .exact .inl h
  .exact .inr ⟨s,cs,h1,by rw[GX _ _ _ _ hp];exact h2,h3⟩
 |.sg ss,h=>by obtain⟨s,h1,h2⟩:=h;exact⟨s,h1,by rw[GX _ _ _ _ hp];exact h2⟩
 |.gone,_=>trivial|.ro b,h=>ajf hp (x:=b) h
theorem ajg {o t s n:Nat}(key:∀u s',u≠t->Z.tk u=some s'->(Z.jQ t s).tk u=some s'/\(Y.eB s n).top s'=Y.top s'):∀{x:bP R.T},gK Z Y o x->gK (Z.jQ t s) (Y.eB s n) o (bP.wk t x)
 |.cells cs,h=>by obtain⟨s',l,h1,h2,h3⟩:=h;exact⟨s',l,h1,h2,aK.wk (Z:=Z) (Z':=Z.jQ t s) (top:=Y.top) (top':=(Y.eB s n).top) t ⟨rfl,rfl,rfl⟩ key _ _ h3⟩
 |.map k e m,h=>h|.smap ks vs,h=>by obtain⟨s',k,l,h1,h2,h3,h4⟩:=h;exact⟨s',k,l,h1,h2,aK.wk (Z:=Z) (Z':=Z.jQ t s) (top:=Y.top) (top':=(Y.eB s n).top) t ⟨rfl,rfl,rfl⟩ key _ _ h3,aK.wk (Z:=Z) (Z':=Z.jQ t s) (top:=Y.top) (top':=(Y.eB s n).top) t ⟨rfl,rfl,rfl⟩ key _ _ h4⟩
 |.arr ty l,h=>by
  refine⟨h.1,?_⟩;rcases h.2 with h| ⟨s,cs,h1,h2,h3⟩
  .exact .inl h
  .exact .inr ⟨s,cs,h1,h2,zN l cs h3⟩
 |.sg ss,h=>h|.gone,_=>trivial|.ro b,h=>ajg key (x:=b) h
theorem Jk {o s:Nat}:∀p,p≠o->(Z.oo o s).ob p=Z.ob p/\(Z.oo o s).ln p=Z.ln p:=fun p h=>⟨by simp[bC.oo,upd,h],rfl⟩
def bC.FM (Z:bC)(o n:Nat):bC:={Z with ln:=upd Z.ln o n}
theorem ajh {o n:Nat}:∀p,p≠o->(Z.FM o n).ob p=Z.ob p/\(Z.FM o n).ln p=Z.ln p:=fun p h=>⟨rfl,by simp[bC.FM,upd,h]⟩
def bC.gh (Z:bC)(o:Nat):bC:={Z.FM o 0 with ob:=upd Z.ob o none}
theorem zO {o:Nat}:∀p,p≠o->(Z.gh o).ob p=Z.ob p/\(Z.gh o).ln p=Z.ln p:=fun p h=>⟨by simp[bC.gh,upd,h],(ajh (Z:=Z) (n:=0) p h).2⟩
theorem Db {o n:Nat}:(Z.FM o n).ln o=n:=by simp[bC.FM,upd]
def bC.Bg (Z:bC)(o s n:Nat):bC:=(Z.oo o s).FM o n
theorem Yo {o s n:Nat}:∀p,p≠o->(Z.Bg o s n).ob p=Z.ob p/\(Z.Bg o s n).ln p=Z.ln p:=fun p h=>⟨(Jk p h).1,(ajh p h).2⟩
theorem Aw {o s:Nat}:(Z.oo o s).ob o=some s:=by simp[bC.oo,upd]
theorem aU.new' {Z':bC}(h:aU Z b st fr Y)(o s:Nat){x:bP R.T}{a:kH}(Jk:∀p,p≠o->Z'.ob p=Z.ob p/\Z'.ln p=Z.ln p)(ht:Z'.tk=Z.tk)(bT:Z'.aj=Z.aj)(hx:gK Z' (Y.setObj (Z.aj.lc o) s a) o x):aU Z' b (st.new o x) fr (Y.setObj (Z.aj.lc o) s a) where
 d:=by rw[bT];exact h.d
 aj:=by rw[bT];exact h.aj
 fr:=fun j y hy=>by have hy':look (o9 (Fq o) st.fr) j=some y:=hy;rw[xA,aZ] at hy';obtain⟨z,hz,rfl⟩:=hy';exact ajd Jk ht bT (h.fr j z hz)
 ob:=fun p y hy=>by
  by_cases e:p=o
  .subst e;have hy':some x=some y:=LC
   cases hy';exact hx
  .have hy':look (o9 (bP.kill o) (ku o st.ob)) p=some y:=LD
   rw[xA,uD e,aZ] at hy';obtain⟨z,hz,rfl⟩:=hy';exact auF e Jk ht bT (h.ob p z hz)
 inj:=by rw[ht];exact h.inj
 lt:=by rw[ht];exact h.lt
 ge:=by rw[ht,bT];exact h.ge
 nx:=by rw[bT];exact h.nx
theorem aU.new (h:aU Z b st fr Y)(o s:Nat){x:bP R.T}{a:kH}(hx:gK (Z.oo o s) (Y.setObj (Z.aj.lc o) s a) o x):aU (Z.oo o s) b (st.new o x) fr (Y.setObj (Z.aj.lc o) s a):=h.new' o s Jk rfl rfl hx
theorem aU.Nk (h:aU Z b st fr Y)(o s n:Nat){x:bP R.T}{a:kH}(hx:gK (Z.Bg o s n) (Y.setObj (Z.aj.lc o) s a) o x):aU (Z.Bg o s n) b (st.new o x) fr (Y.setObj (Z.aj.lc o) s a):=h.new' o s Yo rfl rfl hx
theorem aji {Z':bC}{o p:Nat}(hp:p≠o)(ho:∀p,p≠o->Z'.ob p=Z.ob p/\Z'.ln p=Z.ln p)(ht:Z'.tk=Z.tk)(hx:Z'.aj=Z.aj):∀{x:bP R.T},bP.oz o x=false->gK Z Y p x->gK Z' Y p x
 |.cells cs,hm,h=>by obtain⟨s,l,h1,h2,h3⟩:=h;exact⟨s,l,((ho p hp).1.trans h1),LA,aK.kill o ho ht hx _ _ hm h3⟩
 |.map k e m,_,h=>by obtain⟨s,h1,h2⟩:=h;exact⟨s,((ho p hp).1.trans h1),LA⟩
 |.smap ks vs,hm,h=>by obtain⟨s,k,l,h1,h2,h3,h4⟩:=h;have hm':(qx o ks||qx o vs)=false:=hm;rw[sF] at hm';exact⟨s,k,l,((ho p hp).1.trans h1),LA,aK.kill o ho ht hx _ _ hm'.1 h3,aK.kill o ho ht hx _ _ hm'.2 h4⟩
 |.arr t l,hm,h=>by
  refine⟨h.1.trans (ho p hp).2.symm,?_⟩;rcases h.2 with h| ⟨s,cs,h1,h2,h3⟩
  .exact .inl ⟨h.1,(ho p hp).1.trans h.2⟩
  .exact .inr ⟨s,cs,((ho p hp).1.trans h1),LA,zN l cs h3⟩
 |.sg ss,_,h=>by obtain⟨s,h1,h2⟩:=h;exact⟨s,((ho p hp).1.trans h1),LA⟩
 |.gone,_,_=>trivial|.ro b,hm,h=>aji hp ho ht hx (x:=b) hm h
theorem aU.ghost (h:aU Z b st fr Y)(o:Nat)(t:Ty):aU (Z.gh o) b (st.new o (.arr t [])) fr Y where
 d:=h.d
 aj:=h.aj
 fr:=fun j y hy=>by have hy':look (o9 (Fq o) st.fr) j=some y:=hy;rw[xA,aZ] at hy';obtain⟨z,hz,rfl⟩:=hy';exact ajd zO rfl rfl (h.fr j z hz)
 ob:=fun p y hy=>by
  by_cases e:p=o
  .subst e;have hy':some (bP.arr t ([]:List (Den R.T t)))=some y:=LC
   cases hy';exact⟨(Db (Z:=Z) (n:=0)).symm,.inl ⟨rfl,by simp[bC.gh,upd]⟩⟩
  .have hy':look (o9 (bP.kill o) (ku o st.ob)) p=some y:=LD
   rw[xA,uD e,aZ] at hy';obtain⟨z,hz,rfl⟩:=hy';by_cases hc:∃cs,z= .cells cs
   .obtain⟨cs,rfl⟩:=hc;obtain⟨s,l,h1,h2,h3⟩:=h.ob p _ hz;exact⟨s,l,((zO (Z:=Z) p e).1.trans h1),h2,aK.Fu zO rfl rfl h3⟩
   .have e2:bP.kill o z=bif bP.oz o z then .gone else z:=(by cases z<;>first|rfl|exact absurd ⟨_,rfl⟩ hc);rw[e2];cases hm:bP.oz o z
    .exact aji e zO rfl rfl hm (h.ob p z hz)
    .trivial
 inj:=h.inj
 lt:=h.lt
 ge:=h.ge
 nx:=h.nx
theorem ajj {c:eP}{o p:Nat}(Y:ah)(h:p≠o):(Y.ko (c.lc o)).obj (c.lc p)=Y.obj (c.lc p):=by unfold ah.ko upd;dsimp only;rw[if_neg (c.aiZ h)]
theorem ajk {Y':ah}{p:Nat}(hp:Y'.obj (Z.aj.lc p)=Y.obj (Z.aj.lc p))(ht:Y'.top=Y.top):∀{x:bP R.T},gK Z Y p x->gK Z Y' p x
 |.cells cs,h=>by obtain⟨s,l,h1,h2,h3⟩:=h;exact⟨s,l,h1,GR,by rw[ht];exact h3⟩
 |.map k e m,h=>by obtain⟨s,h1,h2⟩:=h;exact⟨s,h1,QI⟩
 |.smap ks vs,h=>by obtain⟨s,k,l,h1,h2,h3,h4⟩:=h;exact⟨s,k,l,h1,QI,by rw[ht];exact h3,by rw[ht];exact h4⟩
 |.arr t l,h=>by
  refine⟨h.1,?_⟩;rcases h.2 with h| ⟨s,cs,h1,h2,h3⟩
  .exact .inl h
  .exact .inr ⟨s,cs,h1,GR,zN l cs h3⟩
 |.sg ss,h=>by obtain⟨s,h1,h2⟩:=h;exact⟨s,h1,GR⟩
 |.gone,_=>trivial|.ro b,h=>ajk hp ht (x:=b) h
theorem aU.del (h:aU Z b st fr Y)(o:Nat):aU Z b (st.del o) fr (Y.ko (Z.aj.lc o)) where
 d:=h.d
 aj:=h.aj
 fr:=h.fr
 ob:=fun p y hy=>by
  by_cases e:p=o
  .subst e;have:look (ku p st.ob) p=some y:=hy;have key:∀l:List (Nat×bP R.T),look (ku p l) p=none:=by
    intro l;induction l with
    |nil=>rfl|cons q l ih=>
     obtain⟨j,x⟩:=q;unfold ku;cases hj:Nat.beq j p
     .show (bif Nat.beq j p then some x else look (ku p l) p)=none;rw[hj];exact ih
     .exact ih
   rw[key] at this;cases this
  .have hy':look (ku o st.ob) p=some y:=hy;rw[uD e] at hy';exact ajk (ajj Y e) rfl (h.ob p y hy')
 inj:=h.inj
 lt:=h.lt
 ge:=h.ge
 nx:=h.nx
theorem aU.set (h:aU Z b st fr Y)(o s:Nat){x:bP R.T}{a:kH}(hx:gK Z (Y.setObj (Z.aj.lc o) s a) o x):aU Z b (st.set o x) fr (Y.setObj (Z.aj.lc o) s a) where
 d:=h.d
 aj:=h.aj
 fr:=h.fr
 ob:=fun p y hy=>by
  by_cases e:p=o
  .subst e;have hy':some x=some y:=LC
   cases hy';exact hx
  .have hy':look (ku o st.ob) p=some y:=LD
   rw[uD e] at hy';exact ajf e (h.ob p y hy')
 inj:=h.inj
 lt:=h.lt
 ge:=h.ge
 nx:=h.nx
theorem aU.wk (h:aU Z b st fr Y)(t s n:Nat){b':Nat}(hb:b<=b')(hs:s<b')(hl:Z.aj.lo<=s)(hf:∀u,u≠t->Z.tk u≠some s):aU (Z.jQ t s) b' (st.wk t) fr (Y.eB s n) where
 d:=h.d
 aj:=h.aj
 fr:=fun j y hy=>by
  have hy':look (o9 (aR.wk t) st.fr) j=some y:=hy;rw[xA,aZ] at hy';obtain⟨z,hz,rfl⟩:=hy';have hz':=h.fr j z hz;have key:∀u s',u≠t->Z.tk u=some s'->(Z.jQ t s).tk u=some s'/\(Y.eB s n).top s'=Y.top s':=fun u s' hu hs'=>
   ⟨by simp[bC.jQ,upd,hu,hs'],RY _ _ fun e=>hf u hu (by rw[hs',e])⟩
  cases z with
  |opt j' w y=>exact⟨fun hc=>aC.wk (Z:=Z) (Z':=Z.jQ t s) (top:=Y.top) (top':=(Y.eB s n).top) t ⟨rfl,rfl,rfl⟩ key y _ (hz'.1 hc),hz'.2⟩
  |_=>exact kD.of (aC.wk (Z:=Z) (Z':=Z.jQ t s) (top:=Y.top) (top':=(Y.eB s n).top) t ⟨rfl,rfl,rfl⟩ key _ _ hz')
 ob:=fun p y hy=>by
  have hy':look (o9 (bP.wk t) st.ob) p=some y:=hy;rw[xA,aZ] at hy';obtain⟨z,hz,rfl⟩:=hy';have hz':=h.ob p z hz;have key:∀u s',u≠t->Z.tk u=some s'->(Z.jQ t s).tk u=some s'/\(Y.eB s n).top s'=Y.top s':=fun u s' hu hs'=>
   ⟨by simp[bC.jQ,upd,hu,hs'],RY _ _ fun e=>hf u hu (by rw[hs',e])⟩
  exact ajg key hz'
 inj:=fun u v s' hu hv=>by
  by_cases e1:u=t<;>by_cases e2:v=t
  .rw[e1,e2]
  .simp[bC.jQ,upd,e1] at hu;simp[bC.jQ,upd,e2] at hv;exact absurd (hu▸hv) (hf v e2)
  .simp[bC.jQ,upd,e1] at hu;simp[bC.jQ,upd,e2] at hv;exact absurd (hv▸hu) (hf u e1)
  .simp[bC.jQ,upd,e1] at hu;simp[bC.jQ,upd,e2] at hv;exact h.inj u v s' hu hv
 lt:=fun u s' hu=>by
  by_cases e1:u=t
  .simp[bC.jQ,upd,e1] at hu;omega
  .simp[bC.jQ,upd,e1] at hu;exact nC (h.lt u s' hu) hb
 ge:=fun u s' hu=>by
  by_cases e1:u=t
  .simp[bC.jQ,upd,e1] at hu;rw[<-hu];exact hl
  .simp[bC.jQ,upd,e1] at hu;exact h.ge u s' hu
 nx:=eX h.nx hb
theorem ajl {top:Nat->Nat}{x:aA R.T}{v:Value}(h:Fv v=some x):∃y,lN v=some y/\aC R Z top x y:=by unfold Fv at h;split at h<;>cases h<;>exact⟨_,rfl,gX⟩
theorem ajm {top:Nat->Nat}:∀{vs:List Value}{l:List (aA R.T)},Iz vs=some l->∃y,vs.mapM lN=some y/\aK R Z top l y
 | [],l,h=>by cases h;exact⟨[],rfl,rfl⟩|v::vs,l,h=>by
  unfold Iz at h;cases h1:(Fv v:Option (aA R.T)) with
  |none=>simp only[h1] at h;cases h|some a=>
   cases h2:(Iz vs:Option (List (aA R.T))) with
   |none=>simp only[h1,h2] at h;cases h|some dP=>simp only[h1,h2] at h;cases h;obtain⟨y,hy,hr⟩:=ajl (Z:=Z) (top:=top) h1;obtain⟨ys,hys,hrs⟩:=ajm h2;exact⟨y::ys,by simp[hy,hys],.cons' hr hrs⟩
theorem ajn {top:Nat->Nat}{x:aA R.T}{v:Value}(h:IB v=some x):∃y,ofValue v=some y/\aC R Z top x y:=by
 unfold IB at h;split at h
 .rename_i cs;cases h2:(Iz cs.toList:Option (List (aA R.T))) with
  |none=>simp only[h2] at h;cases h|some l=>simp only[h2] at h;cases h;obtain⟨ys,hys,hrs⟩:=ajm (Z:=Z) (top:=top) h2;exact⟨.agg ys,by simp[ofValue,hys],by unfold aC;exact⟨_,rfl,hrs⟩⟩
 .obtain⟨y,hy,hr⟩:=ajl (Z:=Z) (top:=top) h;refine⟨y,?_,hr⟩;unfold Fv at h;split at h<;>first|exact hy|cases h
def sV (fr:Fr)(g:List (Nat×Bool)):Prop:=∀j u,look g j=some u->fr.tm j= .bool u
theorem sV.nil:sV fr []:=fun _ _ h=>dh
theorem sV.cons {g:List (Nat×Bool)}{j:Nat}{u:Bool}(h:fr.tm j= .bool u)(hg:sV fr g):sV fr ((j,u)::g):=fun i v hi=>by
 by_cases e:i=j
 .subst e;rw[nX] at hi;cases hi;exact h
 .rw[kN _ _ e] at hi;exact hg i v hi
theorem auG {fr:Fr}{top:Nat->Nat}{g:List (Nat×Bool)}(hg:sV fr g){y x:aA R.T}{v:V}(hy:kD fr Z top y v)(he:Sd g y=some x):aC R Z top x v:=by
 cases y with
 |opt j w z=>
  unfold Sd at he;dsimp only at he;split at he
  .rename_i u hu;cases he;have:=hg j u hu;by_cases e:u=w
   .subst e;rw[beq_self_eq_true];exact hy.1 this
   .rw[show (u==w)=false by simpa using e];have e':u= !w:=(by cases u<;>cases w<;>first|rfl|exact absurd rfl e);unfold aC;exact hy.2 (.inl (by rw[this,e']))
  .cases he
 |_=>cases he;exact hy
theorem bU (h:aU Z b st fr Y){g:List (Nat×Bool)}(hg:sV fr g){o:Operand}{x:aA R.T}(he:dG g st o=some x):aC R Z Y.top x (fr.ev E o):=by
 cases o with
 |tmp t=>
  rw[Iq];unfold dG at he;dsimp only at he;split at he
  .rename_i v hv;exact auG hg (h.fr _ _ hv) he
  .cases he
 |const v=>rw[aiy];obtain⟨y,hy,hr⟩:=ajn (Z:=Z) (top:=Y.top) (show IB v=some x from he);rw[hy];exact hr
 |func f=>cases he;rw[aiz];unfold aC;exact⟨[],[],rfl,rfl,rfl⟩|global i=>cases he
theorem zP (h:aU Z b st fr Y){g:List (Nat×Bool)}(hg:sV fr g):∀{l:List Operand}{xs:List (aA R.T)},qP g st l=some xs->aK R Z Y.top xs (l.map (fr.ev E))
 | [],xs,he=>by cases he;rfl|o::l,xs,he=>by
  unfold qP at he;cases h1:dG g st o with
  |none=>simp only[h1] at he;cases he|some a=>
   cases h2:qP g st l with
   |none=>simp only[h1,h2] at he;cases he|some dP=>simp only[h1,h2] at he;cases he;exact .cons' (bU h hg h1) (zP h hg h2)
theorem Yp (h:aU Z b st fr Y){g:List (Nat×Bool)}(hg:sV fr g):∀{l:List (Nat×Operand)}{xs:List (Nat×aA R.T)},IC g st l=some xs->xs.map (·.1)=l.map (·.1)/\aK R Z Y.top (xs.map (·.2)) (l.map fun p=>fr.ev E p.2)
 | [],xs,he=>by cases he;exact⟨rfl,rfl⟩| (i,o)::l,xs,he=>by
   unfold IC at he;cases h1:dG g st o with
   |none=>simp only[h1] at he;cases he|some a=>
    cases h2:IC g st l with
    |none=>simp only[h1,h2] at he;cases he|some dP=>simp only[h1,h2] at he;cases he;obtain⟨e1,e2⟩:=Yp h hg h2;exact⟨by simp[e1],.cons' (bU h hg h1) e2⟩
end
theorem auH {n m:Nat}{v:Vec n}{w:Vec m}(h:R8 v=some w):n=m/\HEq v w:=by
 unfold R8 at h;split at h
 .rename_i e;subst e;cases h;exact⟨rfl,HEq.rfl⟩
 .cases h
theorem ajo:∀{k:lV}{s:bX}{x:Ir k},Iu k s=some x->MW k x=s
 |.i k,.i k' y,x,h=>by
  have h':(if k'=k then some y else none)=some (x:Int):=h;by_cases e:k'=k
  .subst e;rw[if_pos rfl] at h';cases h';rfl
  .rw[if_neg e] at h';cases h'
 |.a k n,.a k' n' v,x,h=>by
  have h':(if k'=k then R8 (m:=n) v else none)=some (x:Vec n):=h;by_cases e:k'=k
  .subst e;rw[if_pos rfl] at h';obtain⟨e1,e2⟩:=auH h';subst e1;cases e2;rfl
  .rw[if_neg e] at h';cases h'
 |.i k,.a _ _ _,x,h=>dh|.a k n,.i _ _,x,h=>dh
theorem SX:∀{l:List lV}{ss:List bX}{x:Fe l},bO l ss=some x->yE l x=ss
 | [],ss,x,h=>by
   cases ss with
   |nil=>rfl|cons s ss=>cases h
 | [k],ss,x,h=>by
   cases ss with
   |nil=>cases h|cons s ss=>
    cases ss with
    |nil=>show [MW k x]=[s];rw[ajo (show Iu k s=some x from h)]|cons s' ss=>cases h
 |k::k'::l,ss,x,h=>by
  cases ss with
  |nil=>cases h|cons s ss=>
   have h':(match Iu k s with
    |some x=>match bO (k'::l) ss with
     |some p=>some (x,p)|none=>none
    |none=>none)=some x:=h
   cases hu:Iu k s with
   |none=>simp only[hu] at h';cases h'|some y=>
    cases hs:bO (k'::l) ss with
    |none=>simp only[hu,hs] at h';cases h'|some q=>simp only[hu,hs] at h';obtain rfl:=kP h';show MW k y::yE (k'::l) q=s::ss;rw[ajo hu,SX hs]
section
variable {R:jY}(hR:rQ R)
variable {Z:bC}{top:Nat->Nat}{b:Nat}{st:aO R.T}{fr:Fr}{Y:ah}
include hR
theorem FN {t:Ty}{x:Den R.T t}{tv:aA R.T}{v:V}(h:uh R t tv=some x)(hr:aC R Z top tv v):aC R Z top (AZ R .any t x) v:=by
 cases t with
 |int k=>rw[ai6 h hr];unfold aC;rfl|bool=>rw[ai7 h hr];unfold aC;rfl|str=>rw[ai8 h hr];unfold aC;rfl|slice t=>obtain⟨c,hv⟩:=ai9 h hr;rw[hv];unfold aC;exact⟨c,rfl,trivial⟩
 |st n=>cases h
theorem ajp:∀(l:List Ty)(p:qw R.T l)(cs:List (aA R.T))(vs:List V),CK R l cs=some p->aK R Z top cs vs->aK R Z top (mV R .any l p) vs
 | [],p,cs,vs,h,hr=>by
   cases cs with
   |nil=>rw[hr.jw];rfl|cons c cs=>cases h
 | [t],p,cs,vs,h,hr=>by
   have h':uh R t (hd1 R cs)=some p:=h;cases cs with
   |nil=>cases t<;>cases h'|cons c cs=>
    cases cs with
    |nil=>obtain⟨v,l,rfl,h1,h2⟩:=hr.fV;rw[h2.jw];exact .cons' (FN hR h' h1) rfl
    |cons c' cs=>cases t<;>cases h'
 |t::u::l,p,cs,vs,h,hr=>by
  cases cs with
  |nil=>cases h|cons c cs=>
   obtain⟨v,vs,rfl,h1,h2⟩:=hr.fV;unfold CK at h;cases hu:uh R t c with
   |none=>simp only[hu] at h;cases h|some y=>
    cases hs:CK R (u::l) cs with
    |none=>simp only[hu,hs] at h;cases h|some q=>simp only[hu,hs] at h;obtain rfl:=kP h;exact .cons' (FN hR hu h1) (ajp (u::l) q cs vs hs h2)
theorem SY {t:Ty}{x:Den R.T t}{tv:aA R.T}{v:V}(h:A8 R t tv=some x)(hr:aC R Z top tv v):aC R Z top (jg R .any t x) v:=by
 cases t with
 |st n=>
  change Fp R n tv=some x at h;unfold Fp at h;split at h
  .rename_i cs;split at h
   .rename_i p hp;obtain rfl:=kP h;obtain⟨l,hv,hl⟩:=hr.mX;subst hv;show aC R Z top (.agg (mV R .any (R.lf n) (R.of n (R.to n p)))) _;rw[hR.Nh];unfold aC;exact⟨l,rfl,ajp hR _ _ _ _ hp hl⟩
   .cases h
  .cases h
 |int k=>exact FN hR (t:=.int k) h hr|bool=>exact FN hR (t:=.bool) h hr|str=>exact FN hR (t:=.str) h hr|slice t=>exact FN hR (t:=.slice t) h hr
omit hR in
theorem ajq {sz n:Nat}{c c':Cp}{x:Cap}(h:II c c'=true)(hx:Je Z top sz n c x):Je Z top sz n c' x:=by
 cases c<;>cases c'<;>simp only[II,dI] at h<;>first|trivial|exact hx|exact .inl hx|exact .inr (.inl hx)| (rw[<-fQ h];exact hx)
omit hR in
theorem Yq {k e k' e':Ty}{m:List (Den R.T k'×Den R.T e')}{x:List (Den R.T k×Den R.T e)}(h:IJ R m=some x):k'=k/\e'=e/\HEq m x:=by
 unfold IJ at h;split at h
 .rename_i e;obtain⟨rfl,rfl⟩:=e;cases h;exact⟨rfl,rfl,HEq.rfl⟩
 .cases h
omit hR in
theorem ajr {c:Cp}{t:Ty}{x:List (Den R.T t)}{tv:aA R.T}{v:V}(h:Sj R c t tv=some x)(hr:aC R Z top tv v):aC R Z top (.ak c t x) v:=by
 unfold Sj at h;split at h
 .rename_i c' t' l;cases hc:II c' c
  .rw[hc] at h;cases h
  .rw[hc,cond_true] at h;obtain⟨e,e2⟩:=vM h;subst e;cases e2;obtain⟨c'',hv,hcc⟩:=hr.mY;unfold aC;exact⟨c'',hv,ajq hc hcc⟩
 .cases hc:II .nil c
  .rw[hc] at h;cases h
  .rw[hc,cond_true] at h;cases h;unfold aC;exact⟨.nil,hr.uy,ajq hc rfl⟩
 .cases h
mutual
theorem Yr:∀(k:bQ)(x:sM R.T k)(tv:aA R.T)(v:V),pk R k tv=some x->aC R Z top tv v->aC R Z top (up R .any k x) v
 |.d t,x,tv,v,h,hr=>SY hR (by unfold pk at h;exact h) hr|.l c t,x,tv,v,h,hr=>ajr (by unfold pk at h;exact h) hr|.agg l,x,tv,v,h,hr=>by
  cases tv<;>first| (exact absurd (show none=some x from h) aD)|skip
  rename_i cs;obtain⟨vs,rfl,hl⟩:=hr.mX;show aC R Z top (.agg (jL R .any l x)) _;unfold aC;exact⟨vs,rfl,Dc l x cs vs h hl⟩
 |.ref o off,x,tv,v,h,hr=>by
  cases tv<;>first| (exact absurd (show none=some x from h) aD)|skip
  rename_i p off';have h':(bif Nat.beq p o&& Nat.beq off' off then some () else none)=some x:=h;cases hb:(Nat.beq p o&& Nat.beq off' off)
  .rw[hb] at h';cases h'
  .rw[bf] at hb;rw[fQ hb.1,fQ hb.2] at hr;exact hr
 |.aY l off,x,tv,v,h,hr=>by
  cases tv<;>first| (exact absurd (show none=some x from h) aD)|skip
  rename_i cs off';have h':(bif Nat.beq off' off then jA R l cs else none)=some x:=h;cases hb:Nat.beq off' off
  .rw[hb] at h';cases h'
  .rw[hb,cond_true] at h';rw[fQ hb] at hr;obtain⟨vs,rfl,hl⟩:=hr.uz;show aC R Z top (.aY (jL R .any l x) off) _;unfold aC;exact⟨vs,rfl,Dc l x _ vs h' hl⟩
 |.fu o,x,tv,v,h,hr=>by
  cases tv<;>first| (exact absurd (show none=some x from h) aD)|skip
  rename_i p;have h':(bif Nat.beq p o then some () else none)=some x:=h;cases hb:Nat.beq p o
  .rw[hb] at h';cases h'
  .rw[fQ hb] at hr;exact hr
 |.fH k e,x,tv,v,h,hr=>by
  cases tv<;>first| (exact absurd (show none=some x from h) aD)|skip
  rename_i k' e' m;obtain⟨e1,e2,e3⟩:=Yq (show IJ R m=some x from h);subst e1;subst e2;cases e3;exact hr
 |.fn f a b,x,tv,v,h,hr=>by
  cases tv<;>first| (exact absurd (show none=some x from h) aD)|skip
  rename_i f' a' b';have h':(bif Nat.beq f' f then (match jA R a a' with
   |some x=>match jA R b b' with
    |some y=>some (x,y)|none=>none
   |none=>none) else none)=some x:=h
  cases hb:Nat.beq f' f
  .rw[hb] at h';cases h'
  .rw[hb,cond_true] at h';rw[fQ hb] at hr;obtain⟨va,vb,rfl,ha,hbb⟩:=hr.pE;cases h1:jA R a a' with
   |none=>simp only[h1] at h';cases h'|some y=>
    cases h2:jA R b b' with
    |none=>simp only[h1,h2] at h';cases h'|some z=>simp only[h1,h2] at h';cases h';show aC R Z top (.fn f (jL R .any a y) (jL R .any b z)) _;unfold aC;exact⟨va,vb,rfl,Dc a y _ va h1 ha,Dc b z _ vb h2 hbb⟩
 |.fU,x,tv,v,h,hr=>by
  cases tv<;>first| (exact absurd (show none=some x from h) aD)|skip
  exact hr
 |.aS o t,x,tv,v,h,hr=>by
  cases tv<;>first| (exact absurd (show none=some x from h) aD)|skip
  rename_i p t';have h':(bif Nat.beq p o then (if t'=t then some () else none) else none)=some x:=h;cases hb:Nat.beq p o
  .rw[hb] at h';cases h'
  .rw[hb,cond_true] at h';split at h'
   .rename_i e;rw[fQ hb,e] at hr;exact hr
   .cases h'
 |.sub o t,x,tv,v,h,hr=>by
  cases tv<;>first| (exact absurd (show none=some x from h) aD)|skip
  rename_i p t' a b;have h':(bif Nat.beq p o then (if t'=t then some (a,b) else none) else none)=some x:=h;cases hb:Nat.beq p o
  .rw[hb] at h';cases h'
  .rw[hb,cond_true] at h';split at h'
   .rename_i e;cases h';rw[fQ hb,e] at hr;exact hr
   .cases h'
 |.sg l,x,tv,v,h,hr=>by
  cases tv<;>first| (exact absurd (show none=some x from h) aD)|skip
  rename_i ss;show aC R Z top (.sg (yE l x)) v;rw[SX (show bO l ss=some x from h)];exact hr
 |.undef,x,tv,v,h,hr=>by
  cases tv<;>first| (exact absurd (show none=some x from h) aD)|skip
  exact hr
theorem Dc:∀(l:List bQ)(x:aT R.T l)(cs:List (aA R.T))(vs:List V),jA R l cs=some x->aK R Z top cs vs->aK R Z top (jL R .any l x) vs
 | [],x,cs,vs,h,hr=>by
   cases cs with
   |nil=>rw[hr.jw];rfl|cons c cs=>exact absurd (show none=some x from h) aD
 | [k],x,cs,vs,h,hr=>by
   cases cs with
   |nil=>exact absurd (show none=some x from h) aD|cons c cs=>
    cases cs with
    |nil=>obtain⟨v,l,rfl,h1,h2⟩:=hr.fV;rw[h2.jw];show aK R Z top [up R .any k x] _;exact .cons' (Yr k x _ v h h1) rfl
    |cons c' cs=>exact absurd (show none=some x from h) aD
 |k::k'::l,x,cs,vs,h,hr=>by
  cases cs with
  |nil=>exact absurd (show none=some x from h) aD|cons c cs=>
   have h':(match pk R k c with
    |some x=>match jA R (k'::l) cs with
     |some p=>some (x,p)|none=>none
    |none=>none)=some x:=h
   obtain⟨v,vs,rfl,h1,h2⟩:=hr.fV;cases hu:pk R k c with
   |none=>simp only[hu] at h';cases h'|some y=>
    cases hs:jA R (k'::l) cs with
    |none=>simp only[hu,hs] at h';cases h'|some q=>simp only[hu,hs] at h';obtain rfl:=kP h';show aK R Z top (up R .any k y::jL R .any (k'::l) q) _;exact .cons' (Yr k y _ v hu h1) (Dc (k'::l) q _ vs hs h2)
end
omit hR in
theorem auI {k:bQ}{j:Nat}{w:Bool}{y:aA R.T}{x:sM R.T k}(h:pk R k (.opt j w y)=some x):False:=by
 cases k with
 |d t=>cases t<;>(unfold pk at h;cases h)|_=>unfold pk at h;cases h
theorem kD.pk {k:bQ}{x:sM R.T k}{tv:aA R.T}{v:V}(h:pk R k tv=some x)(hr:kD fr Z top tv v):aC R Z top (up R .any k x) v:=by
 cases tv<;>first|exact Yr hR _ _ _ _ h hr|exact(auI h).elim
theorem Yt (h:aU Z b st fr Y):∀(l:List (Nat×bQ))(x:Fh R.T l),vI R st.fr l=some x->∀i v,look (M4 R l x) i=some v->aC R Z Y.top v (fr.tm i)
 | [],x,hx,i,v,hv=>Ey| [(j,k)],x,hx,i,v,hv=>by
   unfold vI at hx;split at hx
   .rename_i y hy;by_cases e:i=j
    .subst e;have hv':look [(i,up R .any k x)] i=some v:=hv;rw[nX] at hv';cases hv';exact kD.pk hR hx (h.fr _ _ hy)
    .have hv':look [(j,up R .any k x)] i=some v:=hv;rw[kN _ _ e] at hv';cases hv'
   .cases hx
 | (j,k)::q::l,x,hx,i,v,hv=>by
   unfold vI at hx;split at hx
   .rename_i y hy;cases hu:pk R k y with
    |none=>simp only[hu] at hx;cases hx|some z=>
     cases hs:vI R st.fr (q::l) with
     |none=>simp only[hu,hs] at hx;cases hx|some p=>
      simp only[hu,hs] at hx;obtain rfl:=kP hx;have hv':look ((j,up R .any k z)::M4 R (q::l) p) i=some v:=hv;by_cases e:i=j
      .subst e;rw[nX] at hv';cases hv';exact kD.pk hR hu (h.fr _ _ hy)
      .rw[kN _ _ e] at hv';exact Yt h (q::l) p hs i v hv'
   .cases hx
theorem S9 {o:Nat}{k:iD}{x:Fg R.T k}{y:bP R.T}(hx:CU R k y=some x)(hy:gK Z Y o y):gK Z Y o (pq R k x):=by
 cases k with
 |cells l=>
  cases y with
  |cells cs=>obtain⟨s,vs,h1,h2,h3⟩:=hy;exact⟨s,vs,h1,h2,Dc hR l x _ vs hx h3⟩
  |map k e m=>cases hx|smap _ _=>cases hx|arr _ _=>cases hx|sg _=>cases hx|gone=>cases hx|ro b=>cases hx
 |st n=>
  cases y with
  |cells cs=>obtain⟨s,vs,h1,h2,h3⟩:=hy;obtain⟨l,e,hl⟩:=(SY hR (t:=.st n) (show A8 R (.st n) (.agg cs)=some x from hx) (v:=.agg vs) ⟨vs,rfl,h3⟩).mX;cases e;exact⟨s,vs,h1,h2,hl⟩
  |map k e m=>cases hx|smap _ _=>cases hx|arr _ _=>cases hx|sg _=>cases hx|gone=>cases hx|ro b=>cases hx
 |arr t=>
  cases y with
  |arr t' l=>obtain⟨e,e2⟩:=vM hx;subst e;cases e2;exact hy
  |cells cs=>cases hx|map _ _ _=>cases hx|smap _ _=>cases hx|sg _=>cases hx|gone=>cases hx|ro b=>cases hx
 |sg l=>
  cases y with
  |sg ss=>show gK Z Y o (.sg (yE l x));rw[SX (show bO l ss=some x from hx)];exact hy|cells cs=>cases hx|map _ _ _=>cases hx|smap _ _=>cases hx|arr _ _=>cases hx|gone=>cases hx|ro b=>cases hx
 |map k e=>
  cases y with
  |map k' e' m=>obtain⟨e1,e2,e3⟩:=Yq hx;subst e1;subst e2;cases e3;exact hy
  |cells cs=>cases hx|smap _ _=>cases hx|arr _ _=>cases hx|sg _=>cases hx|gone=>cases hx|ro b=>cases hx
theorem ajs (h:aU Z b st fr Y):∀(l:List (Nat×iD))(x:lW R.T l),pz R st.ob l=some x->∀i v,look (mE R l x) i=some v->gK Z Y i v
 | [],x,hx,i,v,hv=>Ey| [(j,k)],x,hx,i,v,hv=>by
   unfold pz at hx;split at hx
   .rename_i y hy;by_cases e:i=j
    .subst e;have hv':look [(i,pq R k x)] i=some v:=hv;rw[nX] at hv';cases hv';exact S9 hR hx (h.ob _ _ hy)
    .have hv':look [(j,pq R k x)] i=some v:=hv;rw[kN _ _ e] at hv';cases hv'
   .cases hx
 | (j,k)::q::l,x,hx,i,v,hv=>by
   unfold pz at hx;split at hx
   .rename_i y hy;cases hu:CU R k y with
    |none=>simp only[hu] at hx;cases hx|some z=>
     cases hs:pz R st.ob (q::l) with
     |none=>simp only[hu,hs] at hx;cases hx|some p=>
      simp only[hu,hs] at hx;obtain rfl:=kP hx;have hv':look ((j,pq R k z)::mE R (q::l) p) i=some v:=hv;by_cases e:i=j
      .subst e;rw[nX] at hv';cases hv';exact S9 hR hu (h.ob _ _ hy)
      .rw[kN _ _ e] at hv';exact ajs h (q::l) p hs i v hv'
   .cases hx
theorem aU.pack (h:aU Z b st fr Y){s:Shape}{p:wZ R.T s}(hp:pack R st s=some p):aU Z b (unpack R s p) fr Y:=by
 obtain⟨sl,ob⟩:=s;cases ob with
 |nil=>have hp':vI R st.fr sl=some p:=hp;exact {h with fr:=fun i v hv=>.of (Yt hR h sl p hp' i v hv),ob:=fun i v hv=>Ey}
 |cons o os=>
  unfold aR.pack at hp;cases hu:vI R st.fr sl with
  |none=>simp only[hu] at hp;cases hp|some x=>
   cases hs:pz R st.ob (o::os) with
   |none=>simp only[hu,hs] at hp;cases hp|some y=>simp only[hu,hs] at hp;obtain rfl:=kP hp;exact {h with fr:=fun i v hv=>.of (Yt hR h sl x hu i v hv),ob:=fun i v hv=>ajs hR h (o::os) y hs i v hv}
omit hR in
theorem ajt {e x:Ex}(h:Fy e x=true):e=x:=by
 cases e<;>cases x<;>simp only[Fy,dI] at h<;>first|rfl|rw[fQ h]
omit hR in
def mI (st:aO R.T)(o:Nat):Prop:=∀x,look st.ob o=some x->vF x=true
omit hR in
theorem Yu {k:iD}{x:Fg R.T k}{y:bP R.T}(hx:CU R k y=some x)(hy:vF y=true):False:=by
 cases y with
 |cells _=>cases hy|map _ _ _=>cases hy|smap _ _=>cases hy|arr _ _=>cases hy|sg _=>cases hy|gone=>cases k<;>cases hx|ro b=>cases k<;>cases hx
omit hR in
theorem aju {i:Nat}(hr:mI st i):∀(l:List (Nat×iD))(x:lW R.T l),pz R st.ob l=some x->look (mE R l x) i=none
 | [],x,hx=>rfl| [(j,k)],x,hx=>by
   unfold pz at hx;split at hx
   .rename_i y hy;by_cases e:i=j
    .subst e;exact(Yu hx (hr _ hy)).elim
    .show look [(j,pq R k x)] i=none;rw[kN _ _ e];rfl
   .cases hx
 | (j,k)::q::l,x,hx=>by
   unfold pz at hx;split at hx
   .rename_i y hy;cases hu:CU R k y with
    |none=>simp only[hu] at hx;cases hx|some z=>
     cases hs:pz R st.ob (q::l) with
     |none=>simp only[hu,hs] at hx;cases hx|some p=>
      simp only[hu,hs] at hx;obtain rfl:=kP hx;show look ((j,pq R k z)::mE R (q::l) p) i=none;by_cases e:i=j
      .subst e;exact(Yu hu (hr _ hy)).elim
      .rw[kN _ _ e];exact aju hr (q::l) p hs
   .cases hx
omit hR in
theorem auJ {s:Shape}{p:wZ R.T s}{i:Nat}(hp:aR.pack R st s=some p)(hr:mI st i):look (unpack R s p).ob i=none:=by
 obtain⟨sl,ob⟩:=s;cases ob with
 |nil=>rfl|cons o os=>
  unfold aR.pack at hp;cases hu:vI R st.fr sl with
  |none=>simp only[hu] at hp;cases hp|some x=>
   cases hs:pz R st.ob (o::os) with
   |none=>simp only[hu,hs] at hp;cases hp|some y=>simp only[hu,hs] at hp;obtain rfl:=kP hp;exact aju hr (o::os) y hs
omit hR
theorem Df {U:Type}:∀(l m:List (Nat×U))(i:Nat),look (l++m) i=match look l i with|some x=>some x|none=>look m i
 | [],m,i=>rfl| (j,x)::l,m,i=>by
   show (bif Nat.beq j i then some x else look (l++m) i)=match (bif Nat.beq j i then some x else look l i) with|some x=>some x|none=>look m i
   cases Nat.beq j i
   .exact Df l m i
   .rfl
theorem aU.over {st':aO R.T}(h:aU Z b st fr Y)(h':aU Z b st' fr Y):aU Z b (st.over st') fr Y:={h with
 fr:=fun i v hv=>by
  have hv':look (st.fr++st'.fr) i=some v:=hv;rw[Df] at hv';split at hv'
  .rename_i x hx;cases hv';exact h.fr _ _ hx
  .exact h'.fr _ _ hv'
 ob:=fun i v hv=>by
  have hv':look (st.ob++st'.ob) i=some v:=hv;rw[Df] at hv';split at hv'
  .rename_i x hx;cases hv';exact h.ob _ _ hx
  .exact h'.ob _ _ hv'}
theorem Dh {U:Type}{p:Nat->U->Bool}{f:U->U}{l:List (Nat×U)}:∀{is:List Nat}{i:Nat}{y:U},look (sO p f l is) i=some y->∃x,look l i=some x/\p i x=true/\y=f x
 | [],i,y,h=>dh|j::is,i,y,h=>by
  unfold sO at h;split at h
  .rename_i x hx;cases hp:p j x
   .rw[hp] at h;exact Dh h
   .rw[hp,cond_true] at h;by_cases e:i=j
    .subst e;rw[nX] at h;cases h;exact⟨x,hx,hp,rfl⟩
    .rw[kN _ _ e] at h;exact Dh h
  .exact Dh h
mutual
theorem aC.solid {Z':bC}{top':Nat->Nat}{W:List Nat}(ho:∀o,bR o W=false->Z'.ob o=Z.ob o/\Z'.ln o=Z.ln o)(hx:Z'.aj=Z.aj):∀(x:aA R.T)(v:V),aR.solid W x=true->aC R Z top x v->aC R Z' top' x v
 |.ak c t l,v,hs,h=>by obtain⟨c',hv,hc⟩:=h;refine⟨c',hv,?_⟩;cases c<;>first|exact hc| (simp[aR.solid] at hs;done)
 |.ref o off,v,hs,h=>Lu
 |.fu o,v,hs,h=>Lu
 |.aS o t,v,hs,h=>by
  unfold aR.solid at hs;obtain⟨k1,k2⟩:=ho o ag0;rcases h with ⟨s,h1,h2⟩| ⟨h1,h2⟩
  .exact .inl ⟨s,by rw[k1];exact h1,by rw[k2,hx];exact h2⟩
  .exact .inr ⟨by rw[k2];exact h1,h2⟩
 |.sub o t a b,v,hs,h=>by
  unfold aR.solid at hs;obtain⟨k1,k2⟩:=ho o ag0;obtain⟨g0,g1,g2,h⟩:=h;refine⟨g0,g1,by rw[k2];exact g2,?_⟩;rcases h with ⟨s,cp,h1,h2,h3⟩|h
  .exact .inl ⟨s,cp,by rw[k1];exact h1,h2,by rw[hx];exact h3⟩
  .exact .inr h
 |.mU o t i off,v,hs,h=>Lu
 |.sv o _ _ _ _ _,v,hs,h=>Lu
 |.sel o _ _ _ _ _,v,hs,h=>Lu
 |.sg _,_,_,h=>h|.vE _ _ _ _,_,_,h=>h|.agg cs,v,hs,h=>by obtain⟨l,hv,hl⟩:=h;exact⟨l,hv,aK.solid ho hx cs l (by unfold aR.solid at hs;exact hs) hl⟩
 |.bW cs,v,hs,h=>by obtain⟨l,hv,hl⟩:=h;exact⟨l,hv,aK.solid ho hx cs l (by unfold aR.solid at hs;exact hs) hl⟩
 |.aY cs off,v,hs,h=>by obtain⟨l,hv,hl⟩:=h;exact⟨l,hv,aK.solid ho hx cs l (by unfold aR.solid at hs;exact hs) hl⟩
 |.fn f a b,v,hs,h=>by obtain⟨a',b',hv,ha,hb⟩:=h;unfold aR.solid at hs;rw[bf] at hs;exact⟨a',b',hv,aK.solid ho hx a a' hs.1 ha,aK.solid ho hx b b' hs.2 hb⟩
 |.opt _ _ _,_,_,h=>h.elim|.int _ _,_,_,h=>h|.bool _,_,_,h=>h|.jK _,_,_,h=>h|.str _,_,_,h=>h|.gY,_,_,h=>h|.gL,_,_,h=>h|.iq,_,_,h=>h|.iN,_,_,h=>h|.fU,_,_,h=>h|.fH _ _ _,_,_,h=>h|.undef,_,_,h=>h|.gone,_,_,h=>trivial
theorem aK.solid {Z':bC}{top':Nat->Nat}{W:List Nat}(ho:∀o,bR o W=false->Z'.ob o=Z.ob o/\Z'.ln o=Z.ln o)(hx:Z'.aj=Z.aj):∀(x:List (aA R.T))(v:List V),vG W x=true->aK R Z top x v->aK R Z' top' x v
 | [],_,_,h=>h|x::xs,_,hs,⟨v,vs,e,h1,h2⟩=>by unfold vG at hs;rw[bf] at hs;exact⟨v,vs,e,aC.solid ho hx x v hs.1 h1,aK.solid ho hx xs vs hs.2 h2⟩
end
theorem auK {x:aA R.T}{v:V}(h:kD fr Z top x v):kD fr Z top (XP x) v:=by
 cases x with
 |ak c t l=>
  cases c with
  |own u=>obtain⟨c',hv,_⟩:=aC.mY (show aC R Z top (.ak (.own u) t l) v from h);exact .of (x:=.ak .any t l) (by unfold aC;exact⟨c',hv,trivial⟩)
  |_=>exact h
 |_=>exact h
theorem auL {W:List Nat}{x:aA R.T}{v:V}(hs:aR.solid W x=true)(h:kD fr Z top x v):aC R Z top x v:=by
 cases x<;>first|exact h| (simp[aR.solid] at hs;done)
structure bV (nr:Bool)(o:Nat)(st:aO R.T)(Z:bC)(Y:ah)(st':aO R.T)(Z':bC)(Y':ah):Prop where
 ob:Z'.ob o=Z.ob o
 ln:Z'.ln o=Z.ln o
 aj:Z'.aj=Z.aj
 nx:Y.next<=Y'.next
 lp:(∀l,l<Y.next->Y'.loops l=Y.loops l)/\∀s,s<Z.aj.lo->Y'.top s=Y.top s
 dp:∀L,nr=true\/L.1<=Z.aj.dp->Z.aj.out L->Y'.obj L=Y.obj L
 ro:mI st o->mI st' o/\∀s,Y'.dS (Z.aj.lc o) s=Y.dS (Z.aj.lc o) s/\Y'.lg (Z.aj.lc o) s=Y.lg (Z.aj.lc o) s
structure Kp (nr:Bool)(W:List Nat)(st:aO R.T)(fr:Fr)(Y:ah)(Z:bC)(st':aO R.T)(fr':Fr)(Y':ah)(Z':bC):Prop where
 fr:∀i,bR i W=false->fr'.tm i=fr.tm i
 ob:∀o,bR o W=false->bV nr o st Z Y st' Z' Y'
section
variable {nr:Bool}
theorem Yv {c:eP}{o s:Nat}{x:kH}{L:Loc}(h:c.out L):(Y.setObj (c.lc o) s x).obj L=Y.obj L:=by unfold ah.setObj upd;dsimp only;rw[if_neg (h o)]
theorem auM {c:eP}{o:Nat}{L:Loc}(h:c.out L):(Y.ko (c.lc o)).obj L=Y.obj L:=by unfold ah.ko upd;dsimp only;rw[if_neg (h o)]
theorem bV.refl {o:Nat}:bV nr o st Z Y st Z Y:=⟨rfl,rfl,rfl,iR _,⟨fun _ _=>rfl,fun _ _=>rfl⟩,fun _ _ _=>rfl,fun h=>⟨h,fun _=>⟨rfl,rfl⟩⟩⟩
theorem bV.trans {o:Nat}{st' jN:aO R.T}{Z' sW:bC}{Y' pF:ah}(h:bV nr o st Z Y st' Z' Y')(g:bV nr o st' Z' Y' jN sW pF):bV nr o st Z Y jN sW pF:=
 ⟨g.ob.trans h.ob,g.ln.trans h.ln,g.aj.trans h.aj,eX h.nx g.nx,⟨fun l hl=>(g.lp.1 l (nC hl h.nx)).trans (h.lp.1 l hl),fun s hs=>(g.lp.2 s (by rw[h.aj];exact hs)).trans (h.lp.2 s hs)⟩,fun L hn hL=>(g.dp L (by rw[h.aj];exact hn) (by rw[h.aj];exact hL)).trans (h.dp L hn hL),fun hr=>by have g':=fun hr=>g.ro hr;rw[h.aj] at g';exact⟨(g' (h.ro hr).1).1,fun s=>⟨((g' (h.ro hr).1).2 s).1.trans ((h.ro hr).2 s).1,((g' (h.ro hr).1).2 s).2.trans ((h.ro hr).2 s).2⟩⟩⟩
theorem Kp.refl {W:List Nat}:Kp nr W st fr Y Z st fr Y Z:=⟨fun _ _=>rfl,fun _ _=>.refl⟩
theorem Kp.trans {W:List Nat}{st' jN:aO R.T}{fr' Di:Fr}{Z' sW:bC}{Y' pF:ah}(h:Kp nr W st fr Y Z st' fr' Y' Z')(g:Kp nr W st' fr' Y' Z' jN Di pF sW):Kp nr W st fr Y Z jN Di pF sW:=
 ⟨fun i hi=>(g.fr i hi).trans (h.fr i hi),fun o ho=>(h.ob o ho).trans (g.ob o ho)⟩
theorem Kp.mono {W W':List Nat}{st':aO R.T}{fr':Fr}{Z':bC}{Y':ah}(h:Kp nr W st fr Y Z st' fr' Y' Z')(hw:∀i,bR i W'=false->bR i W=false):Kp nr W' st fr Y Z st' fr' Y' Z':=
 ⟨fun i hi=>h.fr i (hw i hi),fun o ho=>h.ob o (hw o ho)⟩
theorem Yw:∀(i:Nat)(l m:List Nat),bR i (l++m)=(bR i l||bR i m)
 |i,[],m=>rfl|i,j::l,m=>by show (Nat.beq i j||bR i (l++m))=_;rw[Yw i l m,<-Bool.or_assoc];rfl
theorem ajv {o:Nat}{Z':bC}{Y':ah}{W:List Nat}(ho:∀o,bR o W=false->Z'.ob o=Z.ob o/\Z'.ln o=Z.ln o)(hx:Z'.aj=Z.aj)(hm:bR o W=false)(hc:∀s,Y'.dS (Z.aj.lc o) s=Y.dS (Z.aj.lc o) s/\Y'.lg (Z.aj.lc o) s=Y.lg (Z.aj.lc o) s):∀{x:bP R.T},sN W x=true->gK Z Y o x->gK Z' Y' o x
 |.cells cs,hs,h=>by obtain⟨s,l,h1,h2,h3⟩:=h;exact⟨s,l,LH,by rw[hx,(hc s).1];exact h2,aK.solid ho hx cs l hs h3⟩
 |.map k e m,_,h=>by obtain⟨s,h1,h2⟩:=h;exact⟨s,LH,by rw[hx,(hc s).2];exact h2⟩
 |.smap ks vs,hs,h=>by obtain⟨s,k,l,h1,h2,h3,h4⟩:=h;have hs':(vG W ks&& vG W vs)=true:=hs;rw[bf] at hs';exact⟨s,k,l,LH,by rw[hx,(hc s).2];exact h2,aK.solid ho hx ks k hs'.1 h3,aK.solid ho hx vs l hs'.2 h4⟩
 |.arr t l,_,h=>by
  refine⟨h.1.trans (ho o hm).2.symm,?_⟩;rcases h.2 with h| ⟨s,cs,h1,h2,h3⟩
  .exact .inl ⟨h.1,(ho o hm).1.trans h.2⟩
  .exact .inr ⟨s,cs,LH,by rw[hx,(hc s).1];exact h2,zN l cs h3⟩
 |.sg ss,_,h=>by obtain⟨s,h1,h2⟩:=h;exact⟨s,LH,by rw[hx,(hc s).1];exact h2⟩
 |.gone,_,_=>trivial|.ro b,hs,h=>ajv ho hx hm hc (x:=b) hs h
theorem Yx:∀W:List Nat,∃n,∀m,n<=m->bR m W=false
 | []=>⟨0,fun _ _=>rfl⟩
 |i::W=>by obtain⟨n,hn⟩:=Yx W;refine⟨n+i+1,fun m hm=>?_⟩;show (Nat.beq m i||bR m W)=false;rw[SV RS,hn m RS];rfl
theorem Kp.aj {W:List Nat}{st':aO R.T}{fr':Fr}{Z':bC}{Y':ah}(h:Kp nr W st fr Y Z st' fr' Y' Z'):Z'.aj=Z.aj:=by obtain⟨n,hn⟩:=Yx W;exact(h.ob n (hn n (iR _))).aj
theorem aU.base {W K O:List Nat}{mark:bP R.T->bP R.T}(hmark:∀Z Y o x,gK Z Y o x->gK (R:=R) Z Y o (mark x)){st0 st' jN:aO R.T}{fr':Fr}{Z':bC}{Y':ah}{b':Nat}(h:aU Z b st fr Y)(hk:Kp nr W st0 fr Y Z st' fr' Y' Z')(h':aU Z' b' jN fr' Y')(hro:∀o x,look st.ob o=some x->bR o W=false->bR o O=true->sN W x=true->mI st0 o):aU Z' b' (aR.base W K O mark st) fr' Y':={h' with
 fr:=fun i v hv=>by obtain⟨x,h1,h2,rfl⟩:=Dh hv;rw[bf,xZ] at h2;have:=auL h2.2 (auK (h.fr _ _ h1));rw[hk.fr i h2.1];exact .of (aC.solid (fun o ho=>⟨(hk.ob o ho).ob,(hk.ob o ho).ln⟩) hk.aj _ _ h2.2 this)
 ob:=fun o y hy=>by
  have hO:bR o O=true:=by
   have:∀{is:List Nat}{y:bP R.T},look (sO (fun o b=>!(bR o W)&& sN W b) mark st.ob is) o=some y->bR o is=true:=by
    intro is;induction is with
    |nil=>intro y h;cases h|cons j is ih=>
     intro y h;show (Nat.beq o j||bR o is)=true;unfold sO at h;by_cases e:o=j
     .subst e;rw[zh];rfl
     .split at h
      .rename_i x hx;cases hp:(!(bR j W)&& sN W x)
       .rw[hp] at h;rw[ih h,Bool.or_true]
       .rw[hp,cond_true,kN _ _ e] at h;rw[ih h,Bool.or_true]
      .rw[ih h,Bool.or_true]
   exact this hy
  obtain⟨x,h1,h2,rfl⟩:=Dh hy;rw[bf,xZ] at h2;have hc:=((hk.ob o h2.1).ro (hro o x h1 h2.1 hO h2.2)).2;exact hmark _ _ _ _ (ajv (fun o ho=>⟨(hk.ob o ho).ob,(hk.ob o ho).ln⟩) hk.aj h2.1 hc h2.2 (h.ob _ _ h1))}
theorem ajw {W K O:List Nat}{st':aO R.T}{o:Nat}{x:bP R.T}(h1:look st.ob o=some x)(h2:bR o W=false)(h3:bR o O=true)(h4:sN W x=true):mI ((aR.base W K O .ro st).over st') o:=by
 intro y hy;have hl:∃z,look (sO (fun o b=>!(bR o W)&& sN W b) bP.ro st.ob O) o=some (.ro z):=by
  have:∀is:List Nat,bR o is=true->∃z,look (sO (fun o b=>!(bR o W)&& sN W b) bP.ro st.ob is) o=some (.ro z):=by
   intro is;induction is with
   |nil=>intro h;cases h|cons j is ih=>
    intro h;by_cases e:o=j
    .subst e;unfold sO;rw[h1];dsimp only;rw[h2,h4];exact⟨x,nX _ _ _⟩
    .have h':(Nat.beq o j||bR o is)=true:=h;rw[SV e,Bool.false_or] at h';obtain⟨z,hz⟩:=ih h';refine⟨z,?_⟩;unfold sO;split
     .rename_i w hw;cases (!(bR j W)&& sN W w)
      .exact hz
      .rw[cond_true,kN _ _ e];exact hz
     .exact hz
  exact this O h3
 obtain⟨z,hz⟩:=hl;have hy':look (sO (fun o b=>!(bR o W)&& sN W b) bP.ro st.ob O++st'.ob) o=some y:=hy;rw[Df,hz] at hy';cases hy';rfl
theorem auN {t:Nat}:∀{x:bP R.T},vF x=true->vF (bP.wk t x)=true
 |.ro _,_=>rfl|.gone,_=>rfl|.cells _,h=>dh|.map _ _ _,h=>dh|.smap _ _,h=>dh|.arr _ _,h=>dh
theorem ajx {t:Nat}{x:bP R.T}(h:vF x=true):vF (bP.kill t x)=true:=by
 have e:bP.kill t x=bif bP.oz t x then .gone else x:=by cases x<;>first|rfl|cases h
 rw[e];cases bP.oz t x
 .exact h
 .rfl
theorem bV.wk {p t s n:Nat}(hl:Z.aj.lo<=s):bV nr p st Z Y (st.wk t) (Z.jQ t s) (Y.eB s n):=⟨rfl,rfl,rfl,iR _,⟨fun _ _=>rfl,fun s' hs'=>RY _ _ RS⟩,fun _ _ _=>rfl,fun hr=>⟨fun x hx=>by
 have hx':look (o9 (bP.wk t) st.ob) p=some x:=hx;rw[xA,aZ] at hx';obtain⟨z,hz,rfl⟩:=hx';exact auN (hr z hz),fun _=>⟨rfl,rfl⟩⟩⟩
theorem bV.set {o q s:Nat}{x y:bP R.T}{a:kH}(hl:look st.ob o=some y)(hy:vF y=false):bV nr q st Z Y (st.set o x) Z (Y.setObj (Z.aj.lc o) s a):=⟨rfl,rfl,rfl,iR _,⟨fun _ _=>rfl,fun _ _=>rfl⟩,fun _ _ hL=>Yv hL,fun hr=>by
 have hne:q≠o:=by rintro rfl;rw[hr y hl] at hy;cases hy
 refine⟨fun z hz=>?_,fun s'=>⟨GX _ _ _ _ hne,Jj _ _ _ _ hne⟩⟩;have hz':look ((o,x)::ku o st.ob) q=some z:=hz;rw[kN _ _ hne,uD hne] at hz';exact hr z hz'⟩
theorem bV.new {o q s:Nat}{x:bP R.T}{a:kH}(hne:q≠o):bV nr q st Z Y (st.new o x) (Z.oo o s) (Y.setObj (Z.aj.lc o) s a):=⟨by simp[bC.oo,upd,hne],rfl,rfl,iR _,⟨fun _ _=>rfl,fun _ _=>rfl⟩,fun _ _ hL=>Yv hL,fun hr=>by
 refine⟨fun z hz=>?_,fun s'=>⟨GX _ _ _ _ hne,Jj _ _ _ _ hne⟩⟩;have hz':look ((o,x)::o9 (bP.kill o) (ku o st.ob)) q=some z:=hz;rw[kN _ _ hne,xA,uD hne,aZ] at hz';obtain⟨w,hw,rfl⟩:=hz';exact ajx (hr w hw)⟩
theorem Av {d:Option Nat}{v:aA R.T}:(st.iF d v).ob=st.ob:=Cc
theorem bV.same {st':aO R.T}{o:Nat}(h:st'.ob=st.ob):bV nr o st Z Y st' Z Y:=⟨rfl,rfl,rfl,iR _,⟨fun _ _=>rfl,fun _ _=>rfl⟩,fun _ _ _=>rfl,fun hr=>⟨fun x hx=>hr x (by rw[<-h];exact hx),fun _=>⟨rfl,rfl⟩⟩⟩
theorem bV.congr {st' jN:aO R.T}{Z':bC}{Y':ah}{o:Nat}(h:bV nr o st Z Y st' Z' Y')(e:jN.ob=st'.ob):bV nr o st Z Y jN Z' Y':=⟨h.ob,h.ln,h.aj,h.nx,h.lp,h.dp,fun hr=>⟨fun x hx=>(h.ro hr).1 x (by rw[<-e];exact hx),(h.ro hr).2⟩⟩
theorem bV.from {st' jN:aO R.T}{Z':bC}{Y':ah}{o:Nat}(h:bV nr o st Z Y st' Z' Y')(e:st.ob=jN.ob):bV nr o jN Z Y st' Z' Y':=⟨h.ob,h.ln,h.aj,h.nx,h.lp,h.dp,fun hr=>h.ro fun x hx=>hr x (by rw[<-e];exact hx)⟩
theorem Kp.op {d:Option Nat}{W:List Nat}{y:V}{st':aO R.T}{Z':bC}{Y':ah}{Q:Nat->Prop}(hd:∀p,bR p W=false->d≠some p/\Q p)(h:∀p,Q p->bV nr p st Z Y st' Z' Y'):Kp nr W st fr Y Z st' (fr.put d y) Y' Z':=
 ⟨fun i hi=>by
   cases d with
   |none=>rfl|some j=>exact MQ _ _ (by have:=(hd i hi).1;simp at this;simpa using fun e=>this e.symm),fun p hp=>h p (hd p hp).2⟩
theorem auO {W K O:List Nat}{st':aO R.T}{o:Nat}(h:look st'.ob o=none):mI ((aR.base W K O .ro st).over st') o:=by
 intro y hy;have hy':look (sO (fun o b=>!(bR o W)&& sN W b) bP.ro st.ob O++st'.ob) o=some y:=hy;rw[Df] at hy';split at hy'
 .rename_i x hx;cases hy';obtain⟨z,_,_,rfl⟩:=Dh hx;rfl
 .rw[h] at hy';cases hy'
theorem Yy {st':aO R.T}{o:Nat}(h1:mI st o)(h2:mI st' o):mI (st.over st') o:=by
 intro y hy;have hy':look (st.ob++st'.ob) o=some y:=hy;rw[Df] at hy';split at hy'
 .rename_i x hx;cases hy';exact h1 _ hx
 .exact h2 _ hy'
theorem ajy {W K O:List Nat}{mark:bP R.T->bP R.T}{o:Nat}(hm:∀x,vF x=true->vF (mark x)=true)(h:mI st o):mI (aR.base W K O mark st) o:=by intro y hy;obtain⟨x,h1,_,rfl⟩:=Dh hy;exact hm _ (h _ h1)
theorem finish {W K O:List Nat}{H S' jN:aO R.T}{fr':Fr}{Z':bC}{Y':ah}{b':Nat}(hi:aU Z b st fr Y)(hH:∀o,bR o W=false->mI st o->mI H o)(hro:∀o x,look st.ob o=some x->bR o W=false->bR o O=true->sN W x=true->mI H o)(hk:Kp nr W H fr Y Z S' fr' Y' Z')(hi':aU Z' b' jN fr' Y')(hn:∀o,bR o W=false->mI H o->look jN.ob o=none):
 aU Z' b' ((aR.base W K O (fun b=>b) st).over jN) fr' Y'/\Kp nr W st fr Y Z ((aR.base W K O (fun b=>b) st).over jN) fr' Y' Z':=by
 have hk2:Kp nr W H fr Y Z jN fr' Y' Z':=⟨hk.fr,fun o ho=>⟨(hk.ob o ho).ob,(hk.ob o ho).ln,(hk.ob o ho).aj,(hk.ob o ho).nx,(hk.ob o ho).lp,(hk.ob o ho).dp,fun hr=>⟨fun x hx=>(by rw[hn o ho hr] at hx;cases hx),((hk.ob o ho).ro hr).2⟩⟩⟩;refine⟨(hi.base (fun _ _ _ _ h=>h) hk2 hi' hro).over hi',hk.fr,fun o ho=>⟨(hk.ob o ho).ob,(hk.ob o ho).ln,(hk.ob o ho).aj,(hk.ob o ho).nx,(hk.ob o ho).lp,(hk.ob o ho).dp,fun hr=>⟨?_,((hk.ob o ho).ro (hH o ho hr)).2⟩⟩⟩;exact Yy (ajy (fun _ h=>h) hr) fun x hx=>(by rw[hn o ho (hH o ho hr)] at hx;cases hx)
theorem ajz {x:aA R.T}{v:V}(hx:IK x=true)(h:kD fr Z top x v):v= .ak .nil []\/v= .ak .full []:=by
 cases x<;>first| (cases hx;done)|skip
 .exact .inl (aC.uy (R:=R) (show aC R Z top .fU v from h))
 .rename_i c t l;obtain⟨c',hv,hc⟩:=aC.mY (R:=R) (show aC R Z top (.ak c t l) v from h);cases c<;>first| (cases hx;done)|skip
  .have:l=[]:=by simpa [IK] using hx
   subst this;have hc':c'= .nil:=hc;rw[hc'] at hv;exact .inl hv
  .have:l=[]:=by simpa [IK] using hx
   subst this;have hc':c'= .full:=hc;rw[hc'] at hv;exact .inr hv
theorem Nl {W:List Nat}:∀(l:List (Nat×bQ))(st:aO R.T)(Z:bC),aU Z b st fr Y->∃Z',aU Z' b (uj W l st) fr Y/\Kp nr W st fr Y Z (uj W l st) fr Y Z'
 | [],st,Z,h=>⟨Z,h,.refl⟩| (i,k)::l,st,Z,h=>by
   have other:uj W ((i,k)::l) st=uj W l st->∃Z',aU Z' b (uj W ((i,k)::l) st) fr Y/\Kp nr W st fr Y Z (uj W ((i,k)::l) st) fr Y Z':=fun e=>by rw[e];exact Nl l st Z h
   cases k<;>first|exact other rfl|skip
   rename_i o t;unfold uj;split
   .rename_i v hv;cases hb:(IK v&& bR o W)
    .exact Nl l st Z h
    .rw[cond_true];rw[bf] at hb;have hg:=h.ghost o t;have hE:=ajz hb.1 (h.fr _ _ hv);have Yz:aU (Z.gh o) b (⟨(i,.aS o t)::(st.new o (.arr t [])).fr,(st.new o (.arr t [])).ob⟩:aO R.T) fr Y:={hg with
      fr:=fun j y hy=>by
       by_cases e:j=i
       .subst e;have hy':look ((j,aA.aS o t)::(st.new o (.arr t [])).fr) j=some y:=hy;rw[nX] at hy';cases hy';exact .of (by unfold aC;exact .inr ⟨Db (Z:=Z) (n:=0),hE⟩)
       .have hy':look ((i,aA.aS o t)::(st.new o (.arr t [])).fr) j=some y:=hy;rw[kN _ _ e] at hy';exact hg.fr j y hy'
      ob:=hg.ob}
     obtain⟨Z',h1,h2⟩:=Nl (W:=W) l _ _ Yz;refine⟨Z',h1,Kp.trans ⟨fun _ _=>rfl,fun p hp=>?_⟩ h2⟩;have hne:p≠o:=(by rintro rfl;rw[hb.2] at hp;cases hp);refine⟨(zO p hne).1,(zO p hne).2,rfl,iR _,⟨fun _ _=>rfl,fun _ _=>rfl⟩,fun _ _ _=>rfl,fun hr=>⟨fun x hx=>?_,fun _=>⟨rfl,rfl⟩⟩⟩;have hx':look ((o,bP.arr t [])::o9 (bP.kill o) (ku o st.ob)) p=some x:=hx;rw[kN _ _ hne,xA,uD hne,aZ] at hx';obtain⟨w,hw,rfl⟩:=hx';exact ajx (hr w hw)
   .exact Nl l st Z h
section
variable (hR:rQ R)
include hR
omit hR in
theorem ajA {W:List Nat}:∀{l:List (Nat×bQ)},st.fr=[]->uj W l st=st
 | [],_=>rfl| (i,k)::l,h=>by
   have:=ajA (W:=W) (l:=l) h;cases k<;>first|exact this|skip
   unfold uj;rw[h];exact this
omit hR in
theorem ajB:∀{l:List (Nat×bQ)}{p:Fh R.T l},vI R [] l=some p->l=[]
 | [],_,_=>rfl| [(i,k)],p,h=>dh| (i,k)::q::l,p,h=>dh
omit hR in
theorem auP {W:List Nat}(he:st.fr=[]){s:Shape}{p:wZ R.T s}(hp:aR.sQ R W st s=some p):(unpack R s p).fr=[]:=by
 unfold aR.sQ at hp;rw[ajA he] at hp;obtain⟨sl,ob⟩:=s;cases ob with
 |nil=>have hp':vI R st.fr sl=some p:=hp;rw[he] at hp';have:=ajB hp';subst this;rfl|cons o os=>
  unfold aR.pack at hp;rw[he] at hp;cases hu:vI R [] sl with
  |none=>simp only[hu] at hp;cases hp|some x=>have:=ajB hu;subst this;rfl
theorem aU.sQ {W:List Nat}(h:aU Z b st fr Y){s:Shape}{p:wZ R.T s}(hp:aR.sQ R W st s=some p):∃Z' S',aU Z' b (unpack R s p) fr Y/\Kp nr W st fr Y Z S' fr Y Z'/\(st.fr=[]->(unpack R s p).fr=[])/\∀i,bR i W=false->mI st i->look (unpack R s p).ob i=none:=by obtain⟨Z',h1,h2⟩:=Nl (W:=W) s.sl st Z h;exact⟨Z',_,h1.pack hR hp,h2,fun he=>auP he hp,fun i hi hr=>auJ hp ((h2.ob i hi).ro hr).1⟩
theorem Ta {β:Type}{W:List Nat}(h:aU Z b st fr Y){e:Ex}:∀{l:List (Ex×Shape)}{o:Out R.T l},Fz R W e st l=some o->∃Z' S' st',aU Z' b st' fr Y/\Kp nr W st fr Y Z S' fr Y Z'/\(st.fr=[]->st'.fr=[])/\(∀i,bR i W=false->mI st i->look st'.ob i=none)/\∀(k:Ex->aO R.T->Option β)(bs:aO R.T),FB R bs k l o=k e (bs.over st')
 | [],o,hp=>by cases hp| [(x,s)],o,hp=>by
   have hp':(bif Fy e x then aR.sQ R W st s else none)=some o:=hp;cases hb:Fy e x
   .rw[hb] at hp';cases hp'
   .rw[hb,cond_true] at hp';have:=ajt hb;subst this;obtain⟨Z',S',h1,h2,h0,h3⟩:=h.sQ hR hp';exact⟨Z',S',_,h1,h2,h0,h3,fun k bs=>rfl⟩
 | (x,s)::q::l,o,hp=>by
   unfold Fz at hp;cases hb:Fy e x
   .rw[hb,cond_false] at hp;cases hu:Fz R W e st (q::l) with
    |none=>simp only[hu] at hp;cases hp|some y=>simp only[hu] at hp;obtain rfl:=kP hp;obtain⟨Z',S',st',h1,h3,h0,h4,h2⟩:=Ta (β:=β) h hu;exact⟨Z',S',st',h1,h3,h0,h4,fun k bs=>h2 k bs⟩
   .rw[hb,cond_true] at hp;have:=ajt hb;subst this;cases hu:aR.sQ R W st s with
    |none=>simp only[hu] at hp;cases hp|some y=>simp only[hu] at hp;obtain rfl:=kP hp;obtain⟨Z',S',h1,h2,h0,h3⟩:=h.sQ hR hu;exact⟨Z',S',_,h1,h2,h0,h3,fun k bs=>rfl⟩
end
end
end
end aR
end
