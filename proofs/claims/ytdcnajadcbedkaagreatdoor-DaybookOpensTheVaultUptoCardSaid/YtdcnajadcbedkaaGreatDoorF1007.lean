import Derived.Test.YtdcnajadcbedkaaGreatDoorF1006
set_option linter.all false
section
namespace aQ
open Go
structure eP where
 aj:Bool
 dp:Nat
 lo:Nat
 fl:Nat->Option Loc
 lt:∀o L,fl o=some L->F0<=o/\L.1<dp
 inj:∀o p L,fl o=some L->fl p=some L->o=p
def eP.lc (c:eP)(o:Nat):Loc:=match c.fl o with
 |some L=>L|none=>(c.dp,o)
theorem eP.XT (c:eP){o:Nat}(h:o<F0):c.lc o=(c.dp,o):=by
 unfold eP.lc;split
 .rename_i L hL;have:=(c.lt _ _ hL).1;omega
 .rfl
theorem eP.XU (c:eP){o p:Nat}(h:c.lc o=c.lc p):o=p:=by
 unfold eP.lc at h;split at h<;>split at h
 .rename_i L h1 _ M h2;subst h;exact c.inj _ _ _ h1 h2
 .rename_i L h1 _ h2;have:=(c.lt _ _ h1).2;rw[h] at this;exact absurd this (Nat.lt_irrefl _)
 .rename_i h1 _ L h2;have:=(c.lt _ _ h2).2;rw[<-h] at this;exact absurd this (Nat.lt_irrefl _)
 .exact congrArg Prod.snd h
theorem eP.ah6 (c:eP){o p:Nat}(h:o≠p):c.lc o≠c.lc p:=fun e=>h (c.XU e)
theorem eP.Sv (c:eP)(o:Nat):(c.lc o).1<=c.dp:=by
 unfold eP.lc;split
 .rename_i L hL;exact Nat.le_of_lt (c.lt _ _ hL).2
 .exact iR _
def eP.out (c:eP)(L:Loc):Prop:=∀o,L≠c.lc o
structure bC where
 ob:Nat->Option Nat
 tk:Nat->Option Nat
 ln:Nat->Nat
 aj:eP
section
variable (R:jV)
def pX:Ty->Bool
 |.st _=>false|_=>true
structure rX:Prop where
 MS:∀n p,R.of n (R.to n p)=p
 enc:∀n x,R.enc n x= .agg (encs R (R.lf n) (R.of n x))
 leaf:∀n,(R.lf n).all pX=true
 pc:∀n x,aR (R.enc n x)=true
def IQ (Z:bC)(top:Nat->Nat)(sz len:Nat):Cp->Cap->Prop
 |.any,_=>True|.sh,c=>c= .sh|.nil,c=>c= .nil|.full,c=>c= .full|.own t,c=>c= .nil\/c= .full\/∃s,c= .own sz s/\Z.tk t=some s/\top s=len
mutual
def aC (Z:bC)(top:Nat->Nat):aA R.T->V->Prop
 |.int k n,v=>v= .int k n|.bool b,v=>v= .bool b|.jH b,v=>v= .bool b|.str s,v=>v= .str s|.gZ,v=>v= .gZ|.gL,v=>v= .gL|.iq,v=>v= .iq|.iO,v=>v= .iO|.fQ,v=>v= .ak .nil []|.agg cs,v=>∃l,v= .agg l/\aJ Z top cs l|.bV cs,v=>∃l,v= .bV l/\aJ Z top cs l|.ak c t l,v=>∃c',v= .ak c' (l.map (aU R t))/\IQ Z top (dL R t) l.length c c'|.ref o off,v=>∃s,Z.ob o=some s/\v= .ref (Z.aj.lc o) s off|.aW cs off,v=>∃l,v= .aW l off/\aJ Z top cs l
 |.fq o,v=>∃s,Z.ob o=some s/\v= .fq (Z.aj.lc o) s|.fD k e m,v=>v= .fD (m.map fun p=>aU R k p.1) (m.map fun p=>aU R e p.2)
 |.fn f a b,v=>∃a' b',v= .fn (.func f) a' b'/\aJ Z top a a'/\aJ Z top b b'|.opt _ _ _,_=>False|.aS o t,v=>(∃s,Z.ob o=some s/\v= .aS (Z.aj.lc o) s 0 (Z.ln o) (Z.ln o) (dL R t) (jJ t))\/(Z.ln o=0/\(v= .ak .nil []\/v= .ak .full []))|.sub o t a b,v=>0<=a/\a<=b/\b<=Z.ln o/\((∃s cp,Z.ob o=some s/\(b-a).toNat<=cp/\v= .aS (Z.aj.lc o) s (a.toNat*dL R t) (b-a).toNat cp (dL R t) (jJ t))\/(a=b/\∃c,v= .ak c []))
 |.mV o t i off,v=>∃s,Z.ob o=some s/\0<=i/\v= .ref (Z.aj.lc o) s (i.toNat*dL R t+off)|.sg ss,v=>v= .agg (dU ss)|.sv o off k n lo hi,v=>∃s,Z.ob o=some s/\qX n lo hi=true/\v= .aS (Z.aj.lc o) s (off+(fK lo).toNat) ((jf n hi).toNat-(fK lo).toNat) (n-(fK lo).toNat) 1 false|.sel o off k n i m,v=>∃s,Z.ob o=some s/\0<=i/\i.toNat+m<=n/\v= .ref (Z.aj.lc o) s (off+i.toNat)|.vH k n x i,v=>0<=i/\i<n/\v= .aW (x.l.map (V.int k)) i.toNat
 |.undef,v=>v=aP|.gone,_=>True
def aJ (Z:bC)(top:Nat->Nat):List (aA R.T)->List V->Prop
 | [],l=>l=[]|t::ts,l=>∃v vs,l=v::vs/\aC Z top t v/\aJ Z top ts vs
end
variable {R}
variable {Z Z':bC}{top top':Nat->Nat}
theorem aJ.jq {vs:List V}(h:aJ R Z top [] vs):vs=[]:=by unfold aJ at h;exact h
theorem aJ.fZ {t:aA R.T}{ts:List (aA R.T)}{vs:List V}(h:aJ R Z top (t::ts) vs):∃v l,vs=v::l/\aC R Z top t v/\aJ R Z top ts l:=by unfold aJ at h;exact h
theorem aC.jy {k:IntKind}{n:Int}{v:V}(h:aC R Z top (.int k n) v):v= .int k n:=nZ
theorem aC.rY {b:Bool}{v:V}(h:aC R Z top (.bool b) v):v= .bool b:=nZ
theorem aC.vO {b:Bool}{v:V}(h:aC R Z top (.jH b) v):v= .bool b:=nZ
theorem aC.q8 {b:List UInt8}{v:V}(h:aC R Z top (.str b) v):v= .str b:=nZ
theorem aC.uI {v:V}(h:aC R Z top .fQ v):v= .ak .nil []:=nZ
theorem aC.mY {cs:List (aA R.T)}{v:V}(h:aC R Z top (.agg cs) v):∃l,v= .agg l/\aJ R Z top cs l:=nZ
theorem aC.IU {cs:List (aA R.T)}{v:V}(h:aC R Z top (.bV cs) v):∃l,v= .bV l/\aJ R Z top cs l:=nZ
theorem aC.mZ {c:Cp}{t:Ty}{l:List (Den R.T t)}{v:V}(h:aC R Z top (.ak c t l) v):∃c',v= .ak c' (l.map (aU R t))/\IQ Z top (dL R t) l.length c c':=nZ
theorem aC.rZ {o off:Nat}{v:V}(h:aC R Z top (.ref o off) v):∃s,Z.ob o=some s/\v= .ref (Z.aj.lc o) s off:=nZ
theorem aC.uJ {cs:List (aA R.T)}{off:Nat}{v:V}(h:aC R Z top (.aW cs off) v):∃l,v= .aW l off/\aJ R Z top cs l:=nZ
theorem aC.MU {o:Nat}{v:V}(h:aC R Z top (.fq o) v):∃s,Z.ob o=some s/\v= .fq (Z.aj.lc o) s:=nZ
theorem aC.Fu {k e:Ty}{m:List (Den R.T k×Den R.T e)}{v:V}(h:aC R Z top (.fD k e m) v):v= .fD (m.map fun p=>aU R k p.1) (m.map fun p=>aU R e p.2):=nZ
theorem aC.pF {f:Nat}{a b:List (aA R.T)}{v:V}(h:aC R Z top (.fn f a b) v):∃a' b',v= .fn (.func f) a' b'/\aJ R Z top a a'/\aJ R Z top b b':=nZ
theorem aC.AY {o:Nat}{t:Ty}{v:V}(h:aC R Z top (.aS o t) v):(∃s,Z.ob o=some s/\v= .aS (Z.aj.lc o) s 0 (Z.ln o) (Z.ln o) (dL R t) (jJ t))\/(Z.ln o=0/\(v= .ak .nil []\/v= .ak .full [])):=nZ
theorem aC.Fv {o:Nat}{t:Ty}{a b:Int}{v:V}(h:aC R Z top (.sub o t a b) v):0<=a/\a<=b/\b<=Z.ln o/\((∃s cp,Z.ob o=some s/\(b-a).toNat<=cp/\v= .aS (Z.aj.lc o) s (a.toNat*dL R t) (b-a).toNat cp (dL R t) (jJ t))\/(a=b/\∃c,v= .ak c [])):=nZ
theorem aC.Fw {o off:Nat}{t:Ty}{i:Int}{v:V}(h:aC R Z top (.mV o t i off) v):∃s,Z.ob o=some s/\0<=i/\v= .ref (Z.aj.lc o) s (i.toNat*dL R t+off):=nZ
theorem aC.IV {ss:List bW}{v:V}(h:aC R Z top (.sg ss) v):v= .agg (dU ss):=nZ
theorem aC.CQ {o off n:Nat}{k:IntKind}{lo hi:Option Int}{v:V}(h:aC R Z top (.sv o off k n lo hi) v):∃s,Z.ob o=some s/\qX n lo hi=true/\v= .aS (Z.aj.lc o) s (off+(fK lo).toNat) ((jf n hi).toNat-(fK lo).toNat) (n-(fK lo).toNat) 1 false:=nZ
theorem aC.MV {o off n m:Nat}{k:IntKind}{i:Int}{v:V}(h:aC R Z top (.sel o off k n i m) v):∃s,Z.ob o=some s/\0<=i/\i.toNat+m<=n/\v= .ref (Z.aj.lc o) s (off+i.toNat):=nZ
theorem aC.Sw {n:Nat}{k:IntKind}{x:Vec n}{i:Int}{v:V}(h:aC R Z top (.vH k n x i) v):0<=i/\i<n/\v= .aW (x.l.map (V.int k)) i.toNat:=nZ
theorem aC.ah7 {v:V}(h:aC R Z top .undef v):v=aP:=nZ
theorem aC.ah8 {j:Nat}{w:Bool}{x:aA R.T}{v:V}(h:aC R Z top (.opt j w x) v):False:=nZ
theorem aJ.nil':aJ R Z top [] []:=rfl
theorem aJ.cons' {t:aA R.T}{ts:List (aA R.T)}{v:V}{vs:List V}(h:aC R Z top t v)(h':aJ R Z top ts vs):aJ R Z top (t::ts) (v::vs):=⟨v,vs,rfl,h,h'⟩
theorem aJ.length:∀{ts:List (aA R.T)}{vs:List V},aJ R Z top ts vs->vs.length=ts.length
 | [],_,h=>by cases h;rfl|_::ts,_,⟨v,vs,e,_,h'⟩=>by subst e;simp[aJ.length h']
theorem aJ.append:∀{ts ts':List (aA R.T)}{vs vs':List V},aJ R Z top ts vs->aJ R Z top ts' vs'->aJ R Z top (ts++ts') (vs++vs')
 | [],_,_,_,h,h2=>by cases h;exact h2|_::ts,_,_,_,⟨v,vs,e,h1,h'⟩,h2=>by subst e;exact .cons' h1 (aJ.append h' h2)
theorem aJ.drop:∀(n:Nat){ts:List (aA R.T)}{vs:List V},aJ R Z top ts vs->aJ R Z top (ts.drop n) (vs.drop n)
 |0,_,_,h=>ze|n+1,[],_,h=>by cases h;simp;rfl|n+1,_::ts,_,⟨v,vs,e,h1,h'⟩=>by subst e;simpa using aJ.drop n h'
theorem aJ.take:∀(n:Nat){ts:List (aA R.T)}{vs:List V},aJ R Z top ts vs->aJ R Z top (ts.take n) (vs.take n)
 |0,_,_,h=>by simp;rfl|n+1,[],_,h=>by cases h;simp;rfl|n+1,_::ts,_,⟨v,vs,e,h1,h'⟩=>by subst e;simpa using .cons' h1 (aJ.take n h')
theorem aJ.get:∀{ts:List (aA R.T)}{vs:List V}{i:Nat}{t:aA R.T},aJ R Z top ts vs->ts[i]? =some t->∃v,vs[i]? =some v/\aC R Z top t v
 | [],_,_,_,_,h=>wH|_::ts,_,0,_,⟨v,vs,e,h1,h'⟩,h=>by subst e;simp at h;subst h;exact⟨v,aD,h1⟩|_::ts,_,i+1,_,⟨v,vs,e,h1,h'⟩,h=>by subst e;simpa using aJ.get h' ze
mutual
theorem aC.wk (t:Nat)(ho:Z'.ob=Z.ob/\Z'.ln=Z.ln/\Z'.aj=Z.aj)(ht:∀u s,u≠t->Z.tk u=some s->Z'.tk u=some s/\top' s=top s):∀(x:aA R.T)(v:V),aC R Z top x v->aC R Z' top' (wk t x) v
 |.ak (.own u) ty l,v,h=>by
  obtain⟨c',hv,hc⟩:=h;unfold aQ.wk;by_cases e:Nat.beq u t=true
  .rw[e,cond_true];exact⟨c',hv,trivial⟩
  .have e':Nat.beq u t=false:=Bool.eq_false_iff.2 e;rw[e',cond_false];refine⟨c',hv,?_⟩;rcases hc with hc|hc| ⟨s,h1,h2,h3⟩
   .exact .inl hc
   .exact .inr (.inl hc)
   .have hne:u≠t:=fun h=>e (by rw[h];exact y9 t);have:=ht u s hne h2;exact .inr (.inr ⟨s,h1,this.1,by rw[this.2];exact h3⟩)
 |.ak .any ty l,v,h=>by obtain⟨c',hv,hc⟩:=h;exact⟨c',hv,trivial⟩
 |.ak .sh ty l,v,h=>by obtain⟨c',hv,hc⟩:=h;exact⟨c',hv,hc⟩
 |.ak .nil ty l,v,h=>by obtain⟨c',hv,hc⟩:=h;exact⟨c',hv,hc⟩
 |.ak .full ty l,v,h=>by obtain⟨c',hv,hc⟩:=h;exact⟨c',hv,hc⟩
 |.agg cs,v,h=>by obtain⟨l,hv,hl⟩:=h;exact⟨l,hv,aJ.wk t ho ht cs l hl⟩
 |.bV cs,v,h=>by obtain⟨l,hv,hl⟩:=h;exact⟨l,hv,aJ.wk t ho ht cs l hl⟩
 |.aW cs off,v,h=>by obtain⟨l,hv,hl⟩:=h;exact⟨l,hv,aJ.wk t ho ht cs l hl⟩
 |.fn f a b,v,h=>by obtain⟨a',b',hv,ha,hb⟩:=h;exact⟨a',b',hv,aJ.wk t ho ht a a' ha,aJ.wk t ho ht b b' hb⟩
 |.ref o off,v,h=>K8
 |.fq o,v,h=>K8
 |.aS o ty,v,h=>by
  rcases h with ⟨s,h1,h2⟩| ⟨h1,h2⟩
  .exact .inl ⟨s,af7,by rw[ho.2.1,ho.2.2];exact h2⟩
  .exact .inr ⟨by rw[ho.2.1];exact h1,h2⟩
 |.sub o ty a b,v,h=>by
  obtain⟨k0,k1,k2,h⟩:=h;refine⟨k0,k1,by rw[ho.2.1];exact k2,?_⟩;rcases h with ⟨s,cp,h1,h2,h3⟩|h
  .exact .inl ⟨s,cp,af7,h2,by rw[ho.2.2];exact h3⟩
  .exact .inr h
 |.mV o ty i off,v,h=>K8
 |.sv o _ _ _ _ _,v,h=>K8
 |.sel o _ _ _ _ _,v,h=>K8
 |.sg _,_,h=>h|.vH _ _ _ _,_,h=>h|.opt _ _ _,_,h=>h.elim|.int _ _,_,h=>h|.bool _,_,h=>h|.jH _,_,h=>h|.str _,_,h=>h|.gZ,_,h=>h|.gL,_,h=>h|.iq,_,h=>h|.iO,_,h=>h|.fQ,_,h=>h|.fD _ _ _,_,h=>h|.undef,_,h=>h|.gone,_,h=>h
theorem aJ.wk (t:Nat)(ho:Z'.ob=Z.ob/\Z'.ln=Z.ln/\Z'.aj=Z.aj)(ht:∀u s,u≠t->Z.tk u=some s->Z'.tk u=some s/\top' s=top s):∀(x:List (aA R.T))(v:List V),aJ R Z top x v->aJ R Z' top' (zA t x) v
 | [],_,h=>h|x::xs,_,⟨v,vs,e,h1,h2⟩=>⟨v,vs,e,aC.wk t ho ht x v h1,aJ.wk t ho ht xs vs h2⟩
end
mutual
theorem aC.kill (o:Nat)(ho:∀p,p≠o->Z'.ob p=Z.ob p/\Z'.ln p=Z.ln p)(ht:Z'.tk=Z.tk)(hx:Z'.aj=Z.aj):∀(x:aA R.T)(v:V),oH o x=false->aC R Z top x v->aC R Z' top x v
 |.ak c ty l,v,_,h=>by
  obtain⟨c',hv,hc⟩:=h;refine⟨c',hv,?_⟩;cases c<;>try exact hc
  rcases hc with hc|hc| ⟨s,h1,h2,h3⟩
  .exact .inl hc
  .exact .inr (.inl hc)
  .exact .inr (.inr ⟨s,h1,by rw[ht];exact h2,h3⟩)
 |.agg cs,v,hm,h=>by obtain⟨l,hv,hl⟩:=h;exact⟨l,hv,aJ.kill o ho ht hx cs l hm hl⟩
 |.bV cs,v,hm,h=>by obtain⟨l,hv,hl⟩:=h;exact⟨l,hv,aJ.kill o ho ht hx cs l hm hl⟩
 |.aW cs off,v,hm,h=>by obtain⟨l,hv,hl⟩:=h;exact⟨l,hv,aJ.kill o ho ht hx cs l hm hl⟩
 |.fn f a b,v,hm,h=>by obtain⟨a',b',hv,ha,hb⟩:=h;unfold oH at hm;rw[tY] at hm;exact⟨a',b',hv,aJ.kill o ho ht hx a a' hm.1 ha,aJ.kill o ho ht hx b b' hm.2 hb⟩
 |.ref p off,v,hm,h=>K6
 |.fq p,v,hm,h=>K6
 |.aS p ty,v,hm,h=>by
  unfold oH at hm;obtain⟨k1,k2⟩:=ho p (fun e=>af6);rcases h with ⟨s,h1,h2⟩| ⟨h1,h2⟩
  .exact .inl ⟨s,k1.trans h1,by rw[k2,hx];exact h2⟩
  .exact .inr ⟨by rw[k2];exact h1,h2⟩
 |.sub p ty a b,v,hm,h=>by
  unfold oH at hm;obtain⟨k1,k2⟩:=ho p (fun e=>af6);obtain⟨g0,g1,g2,h⟩:=h;refine⟨g0,g1,by rw[k2];exact g2,?_⟩;rcases h with ⟨s,cp,h1,h2,h3⟩|h
  .exact .inl ⟨s,cp,k1.trans h1,h2,by rw[hx];exact h3⟩
  .exact .inr h
 |.mV p ty i off,v,hm,h=>K6
 |.sv p _ _ _ _ _,v,hm,h=>K6
 |.sel p _ _ _ _ _,v,hm,h=>K6
 |.sg _,_,_,h=>h|.vH _ _ _ _,_,_,h=>h|.opt _ _ _,_,_,h=>h.elim|.int _ _,_,_,h=>h|.bool _,_,_,h=>h|.jH _,_,_,h=>h|.str _,_,_,h=>h|.gZ,_,_,h=>h|.gL,_,_,h=>h|.iq,_,_,h=>h|.iO,_,_,h=>h|.fQ,_,_,h=>h|.fD _ _ _,_,_,h=>h|.undef,_,_,h=>h|.gone,_,_,h=>h
theorem aJ.kill (o:Nat)(ho:∀p,p≠o->Z'.ob p=Z.ob p/\Z'.ln p=Z.ln p)(ht:Z'.tk=Z.tk)(hx:Z'.aj=Z.aj):∀(x:List (aA R.T))(v:List V),qC o x=false->aJ R Z top x v->aJ R Z' top x v
 | [],_,_,h=>h|x::xs,_,hm,⟨v,vs,e,h1,h2⟩=>by unfold qC at hm;rw[tY] at hm;exact⟨v,vs,e,aC.kill o ho ht hx x v hm.1 h1,aJ.kill o ho ht hx xs vs hm.2 h2⟩
end
section
variable (hR:rX R)
include hR
def IW (v w:V):Prop:=gH v=w/\er v=w/\aR w=true/\(∀n Y,bq (n+2) Y v=some w)/\oneCell v=true/\v.cells=[v]
omit hR in
theorem atA {v:V}(h:∀cs,v≠ .agg cs):er v=gH v:=by cases v<;>first|rfl|exact absurd rfl (h _)
theorem q9:∀(t:Ty)(x:Den R.T t),aR (aU R t x)=true
 |.int _,x=>by simp[aU,aR]|.bool,x=>by simp[aU,aR]|.str,x=>by simp[aU,aR]|.slice t,x=>Mw (q9 t) x|.st n,x=>hR.pc n x
theorem ah9 (c:Cp)(hc:IQ Z top 1 0 c .sh/\(c= .any\/c= .sh)):∀(t:Ty)(x:Den R.T t),pX t=true->aC R Z top (AL R c t x) (aU R t x)
 |.int _,x,_=>rfl|.bool,x,_=>rfl|.str,x,_=>rfl|.slice t,x,_=>⟨.sh,rfl,by rcases hc.2 with rfl|rfl<;>first|trivial|rfl⟩
 |.st n,x,h=>by simp[pX] at h
theorem aia (c:Cp)(hc:IQ Z top 1 0 c .sh/\(c= .any\/c= .sh)):∀(l:List Ty)(p:qB R.T l),l.all pX=true->aJ R Z top (mW R c l p) (encs R l p)
 | [],_,_=>rfl| [t],x,h=>.cons' (ah9 hR c hc t x ze) rfl|t::u::l,p,h=>by rw[List.all_cons,aZ] at h;exact .cons' (ah9 hR c hc t p.1 h.1) (aia c hc (u::l) p.2 h.2)
theorem aib (c:Cp)(hc:c= .any\/c= .sh):∀(t:Ty)(x:Den R.T t),aC R Z top (je R c t x) (aU R t x)
 |.int _,x=>rfl|.bool,x=>rfl|.str,x=>rfl|.slice t,x=>⟨.sh,rfl,by rcases hc with rfl|rfl<;>first|trivial|rfl⟩
 |.st n,x=>⟨_,hR.enc n x,aia hR c ⟨by rcases hc with rfl|rfl<;>first|trivial|rfl,hc⟩ _ _ (hR.leaf n)⟩
theorem aic (t:Ty)(x:Den R.T t):aC R Z top (je R .sh t x) (aU R t x):=aib hR .sh (.inr rfl) t x
omit hR in
theorem atB (k:IntKind)(n:Int):IW (.int k n) (.int k n):=⟨rfl,rfl,tV,fun n Y=>Xg (n+1) _ _,rfl,rfl⟩
omit hR in
theorem atC (b:Bool):IW (.bool b) (.bool b):=⟨rfl,rfl,tV,fun n Y=>Xh (n+1) _,rfl,rfl⟩
omit hR in
theorem atD (b:List UInt8):IW (.str b) (.str b):=⟨rfl,rfl,tV,fun n Y=>Xi (n+1) _,rfl,rfl⟩
theorem atE (c:Cap)(t:Ty)(l:List (Den R.T t)):IW (.ak c (l.map (aU R t))) (aU R (.slice t) l):=⟨rfl,rfl,q9 hR (.slice _) _,fun n Y=>yD _ _ (q9 hR _),rfl,rfl⟩
omit hR in
theorem aie {k:IntKind}{x:Int}{tv:aA R.T}{v:V}(h:RN R k tv=some x)(hr:aC R Z top tv v):v= .int k x:=by
 unfold RN at h;split at h
 .split at h
  .rename_i e;cases e;cases h;exact hr.jy
  .cases h
 .cases h
omit hR in
theorem aif {x:Bool}{tv:aA R.T}{v:V}(h:RO R tv=some x)(hr:aC R Z top tv v):v= .bool x:=by
 unfold RO at h;split at h<;>cases h
 .exact hr.rY
 .exact hr.vO
omit hR in
theorem aii {x:List UInt8}{tv:aA R.T}{v:V}(h:RP R tv=some x)(hr:aC R Z top tv v):v= .str x:=by unfold RP at h;split at h<;>cases h;exact hr.q8
omit hR in
theorem vP {t u:Ty}{l:List (Den R.T t)}{m:List (Den R.T u)}(h:uy R l=some m):t=u/\HEq l m:=by
 unfold uy at h;split at h
 .rename_i e;subst e;cases h;exact⟨rfl,HEq.rfl⟩
 .cases h
omit hR in
theorem aij {t:Ty}{x:List (Den R.T t)}{tv:aA R.T}{v:V}(h:EW R t tv=some x)(hr:aC R Z top tv v):∃c,v= .ak c (x.map (aU R t)):=by
 unfold EW at h;split at h
 .obtain⟨e,e2⟩:=vP h;subst e;cases e2;obtain⟨c',hv,hc⟩:=hr.mZ;exact⟨c',hv⟩
 .cases h;exact⟨.nil,hr.uI⟩
 .cases h
theorem IX {t:Ty}{x:Den R.T t}{tv:aA R.T}{v:V}(h:uz R t tv=some x)(hr:aC R Z top tv v):IW v (aU R t x):=by
 cases t with
 |int k=>rw[aie h hr];exact atB _ _|bool=>rw[aif h hr];exact atC _|str=>rw[aii h hr];exact atD _|slice t=>obtain⟨c,hv⟩:=aij h hr;rw[hv];exact atE hR _ _ _
 |st n=>cases h
theorem atF {t:Ty}{x:Den R.T t}{cs:List (aA R.T)}{vs:List V}(h:uz R t (hd1 R cs)=some x)(hr:aJ R Z top cs vs):∃v,vs=[v]/\IW v (aU R t x):=by
 cases cs with
 |nil=>cases t<;>cases h|cons c cs=>
  cases cs with
  |nil=>obtain⟨v,l,rfl,h1,h2⟩:=hr.fZ;rw[h2.jq];exact⟨v,rfl,IX hR h h1⟩
  |cons c' cs=>cases t<;>cases h
theorem aik:∀(l:List Ty)(p:qB R.T l)(cs:List (aA R.T))(vs:List V),Cv R l cs=some p->aJ R Z top cs vs->
 vs.map gH=encs R l p/\(∀n Y,vs.mapM (bq (n+2) Y)=some (encs R l p))/\bY (encs R l p)=true/\vs.all (fun v=>oneCell v)=true
 | [],p,cs,vs,h,hr=>by
   cases cs with
   |nil=>rw[hr.jq];exact⟨rfl,fun _ _=>rfl,by simp[encs,bY],rfl⟩
   |cons c cs=>cases h
 | [t],p,cs,vs,h,hr=>by obtain⟨v,rfl,a,b,c,d,e,_⟩:=atF hR (show uz R t (hd1 R cs)=some p from h) hr;exact⟨by simp[encs,a],fun n Y=>by simp[encs,d],by simp[encs,bY,c],GD⟩
 |t::u::l,p,cs,vs,h,hr=>by
  cases cs with
  |nil=>cases h|cons c cs=>
   obtain⟨v,vs,rfl,h1,h2⟩:=hr.fZ;unfold Cv at h;cases hu:uz R t c with
   |none=>simp only[hu] at h;cases h|some y=>
    cases hs:Cv R (u::l) cs with
    |none=>simp only[hu,hs] at h;cases h|some q=>simp only[hu,hs] at h;obtain rfl:=kS h;obtain⟨a,b,c,d,e,_⟩:=IX hR hu h1;obtain⟨a',d',c',o'⟩:=aik (u::l) q cs vs hs h2;exact⟨by simp[encs,a,a'],fun n Y=>by simp[encs,d,d'],by simp[encs,bY,c,c'],by simp[e,o']⟩
omit hR in
theorem XV:∀(l:List Ty)(p:qB R.T l),(encs R l p).length=l.length
 | [],_=>rfl| [_],_=>rfl|_::u::l,p=>by show (encs R (u::l) p.2).length+1=_;rw[XV];rfl
omit hR in
theorem XW {n:Nat}{Y:ah}(cs:List V):bq (n+3) Y (.agg cs)=(cs.mapM (bq (n+2) Y)).map .agg:=by
 by_cases hp:aR (.agg cs)=true
 .rw[ou hp];have:∀cs:List V,bY cs=true->cs.mapM (bq (n+2) Y)=some cs:=by
   intro cs;induction cs with
   |nil=>intro _;rfl|cons a l ih=>intro h;simp only[bY,aZ] at h;rw[iN,ou h.1,ih h.2];rfl
  rw[this cs BN];rfl
 .conv=>lhs;unfold bq
  simp only[hp,if_false,dG]
theorem ail {t:Ty}{x:Den R.T t}{tv:aA R.T}{v:V}(h:AO R t tv=some x)(hr:aC R Z top tv v):
 er v=aU R t x/\aR (aU R t x)=true/\(∀n Y,bq (n+3) Y v=some (aU R t x))/\v.cells.length=dL R t/\dx v.cells=true:=by
 cases t with
 |st n=>
  change EX R n tv=some x at h;unfold EX at h;split at h
  .rename_i cs;split at h
   .rename_i p hp;obtain rfl:=kS h;obtain⟨l,hv,hl⟩:=hr.mY;subst hv;obtain⟨a,d,c,o⟩:=aik hR _ _ _ _ hp hl;have he:aU R (.st n) (R.to n p)= .agg (encs R (R.lf n) p):=(by show R.enc n (R.to n p)=_;rw[hR.enc,hR.MS]);refine⟨?_,q9 hR (.st n) _,fun k Y=>?_,?_,o⟩
    .rw[he];show V.agg (l.map gH)=_;rw[a]
    .rw[he,XW,d k Y];rfl
    .show l.length=_;have:=congrArg List.length a;rw[fH] at this;rw[this];exact XV _ _
   .cases h
  .cases h
 |int k=>obtain⟨a,b,c,d,e,f⟩:=IX hR (t:=.int k) h hr;exact⟨b,c,fun n Y=>d (n+1) Y,by rw[f];rfl,QK⟩
 |bool=>obtain⟨a,b,c,d,e,f⟩:=IX hR (t:=.bool) h hr;exact⟨b,c,fun n Y=>d (n+1) Y,by rw[f];rfl,QK⟩
 |str=>obtain⟨a,b,c,d,e,f⟩:=IX hR (t:=.str) h hr;exact⟨b,c,fun n Y=>d (n+1) Y,by rw[f];rfl,QK⟩
 |slice t=>obtain⟨a,b,c,d,e,f⟩:=IX hR (t:=.slice t) h hr;exact⟨b,c,fun n Y=>d (n+1) Y,by rw[f];rfl,QK⟩
end
end
end aQ
end
section
namespace aQ
open Go
theorem fT {a b:Nat}(h:Nat.beq a b=true):a=b:=xZ h
theorem XY {a b:Nat}(h:Nat.beq a b=false):a≠b:=fun e=>by rw[e,y9] at h;cases h
theorem Sy {a b:Nat}(h:a≠b):Nat.beq a b=false:=Bool.eq_false_iff.2 fun e=>h (fT e)
section look
variable {U:Type}
theorem xk (f:U->U):∀(l:List (Nat×U))(i:Nat),look (pq f l) i=(look l i).map f
 | [],_=>rfl| (j,x)::l,i=>by
   show (bif Nat.beq j i then some (f x) else look (pq f l) i)=Option.map f (bif Nat.beq j i then some x else look l i);cases Nat.beq j i
   .exact xk f l i
   .rfl
theorem uK {i j:Nat}(h:j≠i):∀(l:List (Nat×U)),look (ku i l) j=look l j
 | []=>rfl| (k,x)::l=>by
   show look (bif Nat.beq k i then ku i l else (k,x)::ku i l) j=bif Nat.beq k j then some x else look l j;cases hk:Nat.beq k i
   .show (bif Nat.beq k j then some x else look (ku i l) j)=_;rw[uK h l]
   .have:=fT hk;subst this;rw[Sy (Ne.symm h)];exact uK h l
theorem oh (l:List (Nat×U))(i:Nat)(x:U):look ((i,x)::l) i=some x:=by show (bif Nat.beq i i then some x else look l i)=_;rw[y9];rfl
theorem kR (l:List (Nat×U)){i j:Nat}(x:U)(h:j≠i):look ((i,x)::l) j=look l j:=by show (bif Nat.beq i j then some x else look l j)=_;rw[Sy (Ne.symm h)];rfl
end look
section
variable {R:jV}{E:Env}
theorem ain {Z Z':bC}{top top':Nat->Nat}:∀(t:Ty)(x:Den R.T t)(v:V),aC R Z top (AL R .any t x) v->aC R Z' top' (AL R .any t x) v
 |.int _,_,_,h=>h|.bool,_,_,h=>h|.str,_,_,h=>h|.slice _,_,_,h=>h|.st _,_,_,h=>h
theorem CS {Z Z':bC}{top top':Nat->Nat}:∀(l:List Ty)(p:qB R.T l)(vs:List V),aJ R Z top (mW R .any l p) vs->aJ R Z' top' (mW R .any l p) vs
 | [],_,_,h=>h| [t],x,vs,h=>by obtain⟨v,l,rfl,h1,h2⟩:=h.fZ;rw[h2.jq];exact .cons' (ain t x v h1) rfl
 |t::u::l,p,vs,h=>by obtain⟨v,ws,rfl,h1,h2⟩:=h.fZ;exact .cons' (ain t p.1 v h1) (CS (u::l) p.2 ws h2)
theorem atG {Z Z':bC}{top top':Nat->Nat}{t:Ty}{x:Den R.T t}{vs:List V}(h:aJ R Z top (je R .any t x).cells vs):aJ R Z' top' (je R .any t x).cells vs:=by
 cases t with
 |st n=>exact CS _ _ _ h|int k=>exact CS [.int k] x vs h|bool=>exact CS [.bool] x vs h|str=>exact CS [.str] x vs h|slice t=>exact CS [.slice t] x vs h
theorem aJ.split {Z:bC}{top:Nat->Nat}:∀{ts ts':List (aA R.T)}{vs:List V},aJ R Z top (ts++ts') vs->∃a b,vs=a++b/\aJ R Z top ts a/\aJ R Z top ts' b
 | [],_,vs,h=>⟨[],vs,rfl,rfl,h⟩|t::ts,ts',vs,h=>by obtain⟨v,ws,rfl,h1,h2⟩:=aJ.fZ (ts:=ts++ts') h;obtain⟨a,b,rfl,h3,h4⟩:=aJ.split h2;exact⟨v::a,b,rfl,.cons' h1 h3,h4⟩
theorem zH {Z Z':bC}{top top':Nat->Nat}{t:Ty}:∀(l:List (Den R.T t))(vs:List V),aJ R Z top (l.flatMap fun x=>(je R .any t x).cells) vs->aJ R Z' top' (l.flatMap fun x=>(je R .any t x).cells) vs
 | [],vs,h=>h|x::l,vs,h=>by rw[kT] at h⊢;obtain⟨a,b,rfl,h1,h2⟩:=h.split;exact(atG h1).append (zH l b h2)
def kC (fr:Fr)(Z:bC)(top:Nat->Nat):aA R.T->V->Prop
 |.opt j w y,v=>(fr.tm j= .bool w->aC R Z top y v)/\(fr.tm j= .bool (!w)\/fr.tm j=aP->v=aP)|x,v=>aC R Z top x v
theorem kC.of {fr:Fr}{Z:bC}{top:Nat->Nat}{x:aA R.T}{v:V}(h:aC R Z top x v):kC fr Z top x v:=by
 cases x<;>first|exact h|exact h.ah8.elim
def gK (Z:bC)(Y:ah)(o:Nat):bL R.T->Prop
 |.cells cs=>∃s l,Z.ob o=some s/\Y.dQ (Z.aj.lc o) s=some l/\aJ R Z Y.top cs l|.map k e m=>∃s,Z.ob o=some s/\Y.lD (Z.aj.lc o) s=some (m.map fun p=>aU R k p.1,m.map fun p=>aU R e p.2)
 |.smap ks vs=>∃s k l,Z.ob o=some s/\Y.lD (Z.aj.lc o) s=some (k,l)/\aJ R Z Y.top ks k/\aJ R Z Y.top vs l|.arr t l=>l.length=Z.ln o/\((l=[]/\Z.ob o=none)\/∃s cs,Z.ob o=some s/\Y.dQ (Z.aj.lc o) s=some cs/\aJ R Z Y.top (l.flatMap fun x=>(je R .any t x).cells) cs)
 |.sg ss=>∃s,Z.ob o=some s/\Y.dQ (Z.aj.lc o) s=some (dU ss)|.gone=>True|.ro b=>gK Z Y o b
theorem gK.strip {Z:bC}{Y:ah}{o:Nat}:∀{x:bL R.T},gK Z Y o x->gK Z Y o (Xq x)
 |.cells _,h=>h|.map _ _ _,h=>h|.smap _ _,h=>h|.arr _ _,h=>h|.sg _,h=>h|.gone,h=>h|.ro b,h=>gK.strip (x:=b) h
structure aT (Z:bC)(b:Nat)(st:aO R.T)(fr:Fr)(Y:ah):Prop where
 d:fr.d=Z.aj.dp
 aj:fr.aj=Z.aj.aj
 fr:∀i v,look st.fr i=some v->kC fr Z Y.top v (fr.tm i)
 ob:∀o x,look st.ob o=some x->gK Z Y o x
 inj:∀t u s,Z.tk t=some s->Z.tk u=some s->t=u
 lt:∀t s,Z.tk t=some s->s<b
 ge:∀t s,Z.tk t=some s->Z.aj.lo<=s
 nx:Z.aj.lo<=b
variable {Z:bC}{b:Nat}{st:aO R.T}{fr:Fr}{Y:ah}
theorem aT.le {b':Nat}(h:aT Z b st fr Y)(hb:b<=b'):aT Z b' st fr Y:={h with lt:=fun t s ht=>nD (h.lt t s ht) hb,nx:=eZ h.nx hb}
theorem gK.bump {o k:Nat}:∀{x:bL R.T},gK Z Y o x->gK Z (Y.bump k) o x
 |.cells _,h=>h|.map _ _ _,h=>h|.smap _ _,h=>h|.arr _ _,h=>h|.sg _,h=>h|.gone,h=>h|.ro b,h=>gK.bump (x:=b) h
theorem aT.next (h:aT Z b st fr Y)(k:Nat):aT Z b st fr (Y.bump k):={h with fr:=h.fr,ob:=fun o x hx=>(h.ob o x hx).bump}
theorem aT.rd (h:aT Z b st fr Y){o:Nat}{x:bL R.T}(hx:qD st o=some x):gK Z Y o x:=by
 unfold qD at hx;split at hx
 .rename_i y hy;cases hx;exact(h.ob _ _ hy).strip
 .cases hx
theorem atH {Z:bC}{top:Nat->Nat}{x:aA R.T}{u v:V}{i:Nat}(h:kC fr Z top x v):kC (fr.set i u) Z top (Xo i x) v:=by
 cases x with
 |opt j w y=>
  show kC _ _ _ (bif Nat.beq j i then .gone else .opt j w y) v;cases hj:Nat.beq j i
  .have hs:(fr.set i u).tm j=fr.tm j:=Ms _ _ (by simpa using XY hj);exact⟨fun hc=>h.1 (by rw[<-hs];exact hc),fun hc=>h.2 (by rw[<-hs];exact hc)⟩
  .exact kC.of (x:=.gone) (by unfold aC;trivial)
 |_=>exact h
theorem aT.put (h:aT Z b st fr Y)(i:Nat){x:aA R.T}{v:V}(hx:kC (fr.set i v) Z Y.top x v):aT Z b (st.put i x) (fr.set i v) Y where
 d:=h.d
 aj:=h.aj
 ob:=h.ob
 inj:=h.inj
 lt:=h.lt
 ge:=h.ge
 nx:=h.nx
 fr:=fun j y hy=>by
  by_cases e:j=i
  .subst e;have hy':some x=some y:=Lb
   cases hy';rw[ahE];exact hx
  .have hy':look (pq (Xo i) (ku i st.fr)) j=some y:=Lc
   rw[xk,uK e,aY] at hy';obtain⟨z,hz,rfl⟩:=hy';rw[Ms _ _ (by simpa using e)];exact atH (h.fr j z hz)
theorem aT.iD (h:aT Z b st fr Y)(d:Option Nat){x:aA R.T}{v:V}(hx:aC R Z Y.top x v):aT Z b (st.iD d x) (fr.put d v) Y:=by
 cases d with
 |none=>exact h|some i=>exact h.put i (.of hx)
theorem atI {Z:bC}{top:Nat->Nat}{x:aA R.T}{v:V}{i:Nat}{c:Bool}(hi:fr.tm i= .bool c)(h:kC fr Z top x v):kC fr Z top (Xp i c x) v:=by
 cases x with
 |opt j w y=>
  show kC _ _ _ (bif Nat.beq j i then (bif (c==w) then y else .undef) else .opt j w y) v;cases hj:Nat.beq j i
  .exact h
  .have:=fT hj;subst this;by_cases e:c=w
   .subst e;rw[beq_self_eq_true];exact kC.of (h.1 hi)
   .rw[show (c==w)=false by simpa using e];have e':c= !w:=(by cases c<;>cases w<;>first|rfl|exact absurd rfl e);have h':=h.2 (.inl (by rw[hi,e']));subst h';exact kC.of (x:=.undef) gY
 |_=>exact h
theorem aT.learn (h:aT Z b st fr Y){i:Nat}{c:Bool}(hc:fr.tm i= .bool c):aT Z b (st.learn i c) fr Y where
 d:=h.d
 aj:=h.aj
 ob:=h.ob
 inj:=h.inj
 lt:=h.lt
 ge:=h.ge
 nx:=h.nx
 fr:=fun j y hy=>by
  by_cases e:j=i
  .subst e;have hy':some (aA.jH c)=some y:=Lb
   cases hy';exact kC.of (x:=.jH c) (by unfold aC;exact hc)
  .have hy':look (pq (Xp i c) (ku i st.fr)) j=some y:=Lc
   rw[xk,uK e,aY] at hy';obtain⟨z,hz,rfl⟩:=hy';exact atI hc (h.fr j z hz)
def bC.oz (Z:bC)(o s:Nat):bC:={Z with ob:=upd Z.ob o (some s)}
def bC.jN (Z:bC)(t s:Nat):bC:={Z with tk:=upd Z.tk t (some s)}
theorem aio {Z':bC}{top:Nat->Nat}{o:Nat}{x:aA R.T}{v:V}(ho:∀p,p≠o->Z'.ob p=Z.ob p/\Z'.ln p=Z.ln p)(ht:Z'.tk=Z.tk)(hx:Z'.aj=Z.aj)(h:kC fr Z top x v):kC fr Z' top (EY o x) v:=by
 unfold EY;cases hm:oH o x
 .cases x with
  |opt j w y=>exact⟨fun hc=>aC.kill o ho ht hx y v hm (h.1 hc),h.2⟩
  |_=>exact kC.of (aC.kill o ho ht hx _ v hm h)
 .exact kC.of (x:=.gone) (by unfold aC;trivial)
theorem XZ (c:eP){o p:Nat}(h:p≠o):rP (c.lc p) (c.lc o)=false:=by
 cases e:rP (c.lc p) (c.lc o)
 .rfl
 .unfold rP at e;rw[aZ,beq_iff_eq,beq_iff_eq] at e;exact absurd (Prod.ext e.2 e.1) (c.ah6 h)
theorem Gw {c:eP}{o p:Nat}(Y:ah)(s s':Nat)(x:kH)(h:p≠o):(Y.setObj (c.lc o) s' x).dQ (c.lc p) s=Y.dQ (c.lc p) s:=EP Y s s' x (XZ c h)
theorem IY {c:eP}{o p:Nat}(Y:ah)(s s':Nat)(x:kH)(h:p≠o):(Y.setObj (c.lc o) s' x).lD (c.lc p) s=Y.lD (c.lc p) s:=ahI Y s s' x (XZ c h)
theorem aJ.EZ {Z':bC}{top:Nat->Nat}{o:Nat}(ho:∀p,p≠o->Z'.ob p=Z.ob p/\Z'.ln p=Z.ln p)(ht:Z'.tk=Z.tk)(hx:Z'.aj=Z.aj):∀{cs:List (aA R.T)}{l:List V},aJ R Z top cs l->aJ R Z' top (EZ o cs) l
 | [],_,h=>h|x::cs,_,h=>by
  obtain⟨v,ws,rfl,h1,h2⟩:=h.fZ;refine .cons' ?_ (aJ.EZ ho ht hx h2);unfold EY;cases hm:oH o x
  .exact aC.kill o ho ht hx x v hm h1
  .unfold aC;trivial
theorem aip {Z':bC}{o p s':Nat}{a:kH}(hp:p≠o)(ho:∀p,p≠o->Z'.ob p=Z.ob p/\Z'.ln p=Z.ln p)(ht:Z'.tk=Z.tk)(hx:Z'.aj=Z.aj):∀{x:bL R.T},bL.oH o x=false->gK Z Y p x->gK Z' (Y.setObj (Z.aj.lc o) s' a) p x
 |.cells cs,hm,h=>by obtain⟨s,l,h1,h2,h3⟩:=h;exact⟨s,l,((ho p hp).1.trans h1),Qw,aJ.kill o ho ht hx _ _ hm h3⟩
 |.map k e m,_,h=>by obtain⟨s,h1,h2⟩:=h;exact⟨s,((ho p hp).1.trans h1),by rw[hx,IY _ _ _ _ hp];exact h2⟩
 |.smap ks vs,hm,h=>by obtain⟨s,k,l,h1,h2,h3,h4⟩:=h;have hm':(qC o ks||qC o vs)=false:=hm;rw[tY] at hm';exact⟨s,k,l,((ho p hp).1.trans h1),by rw[hx,IY _ _ _ _ hp];exact h2,aJ.kill o ho ht hx _ _ hm'.1 h3,aJ.kill o ho ht hx _ _ hm'.2 h4⟩
 |.arr t l,hm,h=>by
  refine⟨h.1.trans (ho p hp).2.symm,?_⟩;rcases h.2 with h| ⟨s,cs,h1,h2,h3⟩
  .exact .inl ⟨h.1,(ho p hp).1.trans h.2⟩
  .exact .inr ⟨s,cs,((ho p hp).1.trans h1),Qw,zH l cs h3⟩
 |.sg ss,_,h=>by obtain⟨s,h1,h2⟩:=h;exact⟨s,((ho p hp).1.trans h1),Qw⟩
 |.gone,_,_=>trivial|.ro b,hm,h=>aip hp ho ht hx (x:=b) hm h
theorem atJ {Z':bC}{o p s':Nat}{a:kH}{x:bL R.T}(hp:p≠o)(ho:∀p,p≠o->Z'.ob p=Z.ob p/\Z'.ln p=Z.ln p)(ht:Z'.tk=Z.tk)(hx:Z'.aj=Z.aj)(h:gK Z Y p x):gK Z' (Y.setObj (Z.aj.lc o) s' a) p (bL.kill o x):=by
 by_cases hc:∃cs,x= .cells cs
 .obtain⟨cs,rfl⟩:=hc;obtain⟨s,l,h1,h2,h3⟩:=h;exact⟨s,l,((ho p hp).1.trans h1),Qw,aJ.EZ ho ht hx h3⟩
 .have e:bL.kill o x=bif bL.oH o x then .gone else x:=by cases x<;>first|rfl|exact absurd ⟨_,rfl⟩ hc
  rw[e];cases hm:bL.oH o x
  .exact aip hp ho ht hx hm h
  .trivial
theorem aiq {o p s:Nat}{a:kH}(hp:p≠o):∀{x:bL R.T},gK Z Y p x->gK Z (Y.setObj (Z.aj.lc o) s a) p x
 |.cells cs,h=>by obtain⟨s,l,h1,h2,h3⟩:=h;exact⟨s,l,h1,by rw[Gw _ _ _ _ hp];exact h2,h3⟩
 |.map k e m,h=>by obtain⟨s,h1,h2⟩:=h;exact⟨s,h1,by rw[IY _ _ _ _ hp];exact h2⟩
 |.smap ks vs,h=>by obtain⟨s,k,l,h1,h2,h3⟩:=h;exact⟨s,k,l,h1,by rw[IY _ _ _ _ hp];exact h2,h3⟩
 |.arr t l,h=>by
  refine⟨h.1,?_⟩;rcases h.2 with h| ⟨s,cs,h1,h2,h3⟩
  .exact .inl h
  .exact .inr ⟨s,cs,h1,by rw[Gw _ _ _ _ hp];exact h2,h3⟩
 |.sg ss,h=>by obtain⟨s,h1,h2⟩:=h;exact⟨s,h1,by rw[Gw _ _ _ _ hp];exact h2⟩
 |.gone,_=>trivial|.ro b,h=>aiq hp (x:=b) h
theorem air {o t s n:Nat}(key:∀u s',u≠t->Z.tk u=some s'->(Z.jN t s).tk u=some s'/\(Y.eB s n).top s'=Y.top s'):∀{x:bL R.T},gK Z Y o x->gK (Z.jN t s) (Y.eB s n) o (bL.wk t x)
 |.cells cs,h=>by obtain⟨s',l,h1,h2,h3⟩:=h;exact⟨s',l,h1,h2,aJ.wk (Z:=Z) (Z':=Z.jN t s) (top:=Y.top) (top':=(Y.eB s n).top) t ⟨rfl,rfl,rfl⟩ key _ _ h3⟩
 |.map k e m,h=>h|.smap ks vs,h=>by obtain⟨s',k,l,h1,h2,h3,h4⟩:=h;exact⟨s',k,l,h1,h2,aJ.wk (Z:=Z) (Z':=Z.jN t s) (top:=Y.top) (top':=(Y.eB s n).top) t ⟨rfl,rfl,rfl⟩ key _ _ h3,aJ.wk (Z:=Z) (Z':=Z.jN t s) (top:=Y.top) (top':=(Y.eB s n).top) t ⟨rfl,rfl,rfl⟩ key _ _ h4⟩
 |.arr ty l,h=>by
  refine⟨h.1,?_⟩;rcases h.2 with h| ⟨s,cs,h1,h2,h3⟩
  .exact .inl h
  .exact .inr ⟨s,cs,h1,h2,zH l cs h3⟩
 |.sg ss,h=>h|.gone,_=>trivial|.ro b,h=>air key (x:=b) h
theorem IZ {o s:Nat}:∀p,p≠o->(Z.oz o s).ob p=Z.ob p/\(Z.oz o s).ln p=Z.ln p:=fun p h=>⟨by simp[bC.oz,upd,h],rfl⟩
def bC.Fx (Z:bC)(o n:Nat):bC:={Z with ln:=upd Z.ln o n}
theorem ais {o n:Nat}:∀p,p≠o->(Z.Fx o n).ob p=Z.ob p/\(Z.Fx o n).ln p=Z.ln p:=fun p h=>⟨rfl,by simp[bC.Fx,upd,h]⟩
def bC.gh (Z:bC)(o:Nat):bC:={Z.Fx o 0 with ob:=upd Z.ob o none}
theorem zI {o:Nat}:∀p,p≠o->(Z.gh o).ob p=Z.ob p/\(Z.gh o).ln p=Z.ln p:=fun p h=>⟨by simp[bC.gh,upd,h],(ais (Z:=Z) (n:=0) p h).2⟩
theorem CU {o n:Nat}:(Z.Fx o n).ln o=n:=by simp[bC.Fx,upd]
def bC.AZ (Z:bC)(o s n:Nat):bC:=(Z.oz o s).Fx o n
theorem X0 {o s n:Nat}:∀p,p≠o->(Z.AZ o s n).ob p=Z.ob p/\(Z.AZ o s n).ln p=Z.ln p:=fun p h=>⟨(IZ p h).1,(ais p h).2⟩
theorem Ak {o s:Nat}:(Z.oz o s).ob o=some s:=by simp[bC.oz,upd]
theorem aT.new' {Z':bC}(h:aT Z b st fr Y)(o s:Nat){x:bL R.T}{a:kH}(IZ:∀p,p≠o->Z'.ob p=Z.ob p/\Z'.ln p=Z.ln p)(ht:Z'.tk=Z.tk)(bQ:Z'.aj=Z.aj)(hx:gK Z' (Y.setObj (Z.aj.lc o) s a) o x):aT Z' b (st.new o x) fr (Y.setObj (Z.aj.lc o) s a) where
 d:=by rw[bQ];exact h.d
 aj:=by rw[bQ];exact h.aj
 fr:=fun j y hy=>by have hy':look (pq (EY o) st.fr) j=some y:=hy;rw[xk,aY] at hy';obtain⟨z,hz,rfl⟩:=hy';exact aio IZ ht bQ (h.fr j z hz)
 ob:=fun p y hy=>by
  by_cases e:p=o
  .subst e;have hy':some x=some y:=Lb
   cases hy';exact hx
  .have hy':look (pq (bL.kill o) (ku o st.ob)) p=some y:=Lc
   rw[xk,uK e,aY] at hy';obtain⟨z,hz,rfl⟩:=hy';exact atJ e IZ ht bQ (h.ob p z hz)
 inj:=by rw[ht];exact h.inj
 lt:=by rw[ht];exact h.lt
 ge:=by rw[ht,bQ];exact h.ge
 nx:=by rw[bQ];exact h.nx
theorem aT.new (h:aT Z b st fr Y)(o s:Nat){x:bL R.T}{a:kH}(hx:gK (Z.oz o s) (Y.setObj (Z.aj.lc o) s a) o x):aT (Z.oz o s) b (st.new o x) fr (Y.setObj (Z.aj.lc o) s a):=h.new' o s IZ rfl rfl hx
theorem aT.MW (h:aT Z b st fr Y)(o s n:Nat){x:bL R.T}{a:kH}(hx:gK (Z.AZ o s n) (Y.setObj (Z.aj.lc o) s a) o x):aT (Z.AZ o s n) b (st.new o x) fr (Y.setObj (Z.aj.lc o) s a):=h.new' o s X0 rfl rfl hx
theorem ait {Z':bC}{o p:Nat}(hp:p≠o)(ho:∀p,p≠o->Z'.ob p=Z.ob p/\Z'.ln p=Z.ln p)(ht:Z'.tk=Z.tk)(hx:Z'.aj=Z.aj):∀{x:bL R.T},bL.oH o x=false->gK Z Y p x->gK Z' Y p x
 |.cells cs,hm,h=>by obtain⟨s,l,h1,h2,h3⟩:=h;exact⟨s,l,((ho p hp).1.trans h1),K9,aJ.kill o ho ht hx _ _ hm h3⟩
 |.map k e m,_,h=>by obtain⟨s,h1,h2⟩:=h;exact⟨s,((ho p hp).1.trans h1),K9⟩
 |.smap ks vs,hm,h=>by obtain⟨s,k,l,h1,h2,h3,h4⟩:=h;have hm':(qC o ks||qC o vs)=false:=hm;rw[tY] at hm';exact⟨s,k,l,((ho p hp).1.trans h1),K9,aJ.kill o ho ht hx _ _ hm'.1 h3,aJ.kill o ho ht hx _ _ hm'.2 h4⟩
 |.arr t l,hm,h=>by
  refine⟨h.1.trans (ho p hp).2.symm,?_⟩;rcases h.2 with h| ⟨s,cs,h1,h2,h3⟩
  .exact .inl ⟨h.1,(ho p hp).1.trans h.2⟩
  .exact .inr ⟨s,cs,((ho p hp).1.trans h1),K9,zH l cs h3⟩
 |.sg ss,_,h=>by obtain⟨s,h1,h2⟩:=h;exact⟨s,((ho p hp).1.trans h1),K9⟩
 |.gone,_,_=>trivial|.ro b,hm,h=>ait hp ho ht hx (x:=b) hm h
theorem aT.ghost (h:aT Z b st fr Y)(o:Nat)(t:Ty):aT (Z.gh o) b (st.new o (.arr t [])) fr Y where
 d:=h.d
 aj:=h.aj
 fr:=fun j y hy=>by have hy':look (pq (EY o) st.fr) j=some y:=hy;rw[xk,aY] at hy';obtain⟨z,hz,rfl⟩:=hy';exact aio zI rfl rfl (h.fr j z hz)
 ob:=fun p y hy=>by
  by_cases e:p=o
  .subst e;have hy':some (bL.arr t ([]:List (Den R.T t)))=some y:=Lb
   cases hy';exact⟨(CU (Z:=Z) (n:=0)).symm,.inl ⟨rfl,by simp[bC.gh,upd]⟩⟩
  .have hy':look (pq (bL.kill o) (ku o st.ob)) p=some y:=Lc
   rw[xk,uK e,aY] at hy';obtain⟨z,hz,rfl⟩:=hy';by_cases hc:∃cs,z= .cells cs
   .obtain⟨cs,rfl⟩:=hc;obtain⟨s,l,h1,h2,h3⟩:=h.ob p _ hz;exact⟨s,l,((zI (Z:=Z) p e).1.trans h1),h2,aJ.EZ zI rfl rfl h3⟩
   .have e2:bL.kill o z=bif bL.oH o z then .gone else z:=(by cases z<;>first|rfl|exact absurd ⟨_,rfl⟩ hc);rw[e2];cases hm:bL.oH o z
    .exact ait e zI rfl rfl hm (h.ob p z hz)
    .trivial
 inj:=h.inj
 lt:=h.lt
 ge:=h.ge
 nx:=h.nx
theorem aiu {c:eP}{o p:Nat}(Y:ah)(h:p≠o):(Y.ko (c.lc o)).obj (c.lc p)=Y.obj (c.lc p):=by unfold ah.ko upd;dsimp only;rw[if_neg (c.ah6 h)]
theorem aiv {Y':ah}{p:Nat}(hp:Y'.obj (Z.aj.lc p)=Y.obj (Z.aj.lc p))(ht:Y'.top=Y.top):∀{x:bL R.T},gK Z Y p x->gK Z Y' p x
 |.cells cs,h=>by obtain⟨s,l,h1,h2,h3⟩:=h;exact⟨s,l,h1,Gt,by rw[ht];exact h3⟩
 |.map k e m,h=>by obtain⟨s,h1,h2⟩:=h;exact⟨s,h1,Qt⟩
 |.smap ks vs,h=>by obtain⟨s,k,l,h1,h2,h3,h4⟩:=h;exact⟨s,k,l,h1,Qt,by rw[ht];exact h3,by rw[ht];exact h4⟩
 |.arr t l,h=>by
  refine⟨h.1,?_⟩;rcases h.2 with h| ⟨s,cs,h1,h2,h3⟩
  .exact .inl h
  .exact .inr ⟨s,cs,h1,Gt,zH l cs h3⟩
 |.sg ss,h=>by obtain⟨s,h1,h2⟩:=h;exact⟨s,h1,Gt⟩
 |.gone,_=>trivial|.ro b,h=>aiv hp ht (x:=b) h
theorem aT.del (h:aT Z b st fr Y)(o:Nat):aT Z b (st.del o) fr (Y.ko (Z.aj.lc o)) where
 d:=h.d
 aj:=h.aj
 fr:=h.fr
 ob:=fun p y hy=>by
  by_cases e:p=o
  .subst e;have:look (ku p st.ob) p=some y:=hy;have key:∀l:List (Nat×bL R.T),look (ku p l) p=none:=by
    intro l;induction l with
    |nil=>rfl|cons q l ih=>
     obtain⟨j,x⟩:=q;unfold ku;cases hj:Nat.beq j p
     .show (bif Nat.beq j p then some x else look (ku p l) p)=none;rw[hj];exact ih
     .exact ih
   rw[key] at this;cases this
  .have hy':look (ku o st.ob) p=some y:=hy;rw[uK e] at hy';exact aiv (aiu Y e) rfl (h.ob p y hy')
 inj:=h.inj
 lt:=h.lt
 ge:=h.ge
 nx:=h.nx
theorem aT.set (h:aT Z b st fr Y)(o s:Nat){x:bL R.T}{a:kH}(hx:gK Z (Y.setObj (Z.aj.lc o) s a) o x):aT Z b (st.set o x) fr (Y.setObj (Z.aj.lc o) s a) where
 d:=h.d
 aj:=h.aj
 fr:=h.fr
 ob:=fun p y hy=>by
  by_cases e:p=o
  .subst e;have hy':some x=some y:=Lb
   cases hy';exact hx
  .have hy':look (ku o st.ob) p=some y:=Lc
   rw[uK e] at hy';exact aiq e (h.ob p y hy')
 inj:=h.inj
 lt:=h.lt
 ge:=h.ge
 nx:=h.nx
theorem aT.wk (h:aT Z b st fr Y)(t s n:Nat){b':Nat}(hb:b<=b')(hs:s<b')(hl:Z.aj.lo<=s)(hf:∀u,u≠t->Z.tk u≠some s):aT (Z.jN t s) b' (st.wk t) fr (Y.eB s n) where
 d:=h.d
 aj:=h.aj
 fr:=fun j y hy=>by
  have hy':look (pq (aQ.wk t) st.fr) j=some y:=hy;rw[xk,aY] at hy';obtain⟨z,hz,rfl⟩:=hy';have hz':=h.fr j z hz;have key:∀u s',u≠t->Z.tk u=some s'->(Z.jN t s).tk u=some s'/\(Y.eB s n).top s'=Y.top s':=fun u s' hu hs'=>
   ⟨by simp[bC.jN,upd,hu,hs'],RB _ _ fun e=>hf u hu (by rw[hs',e])⟩
  cases z with
  |opt j' w y=>exact⟨fun hc=>aC.wk (Z:=Z) (Z':=Z.jN t s) (top:=Y.top) (top':=(Y.eB s n).top) t ⟨rfl,rfl,rfl⟩ key y _ (hz'.1 hc),hz'.2⟩
  |_=>exact kC.of (aC.wk (Z:=Z) (Z':=Z.jN t s) (top:=Y.top) (top':=(Y.eB s n).top) t ⟨rfl,rfl,rfl⟩ key _ _ hz')
 ob:=fun p y hy=>by
  have hy':look (pq (bL.wk t) st.ob) p=some y:=hy;rw[xk,aY] at hy';obtain⟨z,hz,rfl⟩:=hy';have hz':=h.ob p z hz;have key:∀u s',u≠t->Z.tk u=some s'->(Z.jN t s).tk u=some s'/\(Y.eB s n).top s'=Y.top s':=fun u s' hu hs'=>
   ⟨by simp[bC.jN,upd,hu,hs'],RB _ _ fun e=>hf u hu (by rw[hs',e])⟩
  exact air key hz'
 inj:=fun u v s' hu hv=>by
  by_cases e1:u=t<;>by_cases e2:v=t
  .rw[e1,e2]
  .simp[bC.jN,upd,e1] at hu;simp[bC.jN,upd,e2] at hv;exact absurd (hu▸hv) (hf v e2)
  .simp[bC.jN,upd,e1] at hu;simp[bC.jN,upd,e2] at hv;exact absurd (hv▸hu) (hf u e1)
  .simp[bC.jN,upd,e1] at hu;simp[bC.jN,upd,e2] at hv;exact h.inj u v s' hu hv
 lt:=fun u s' hu=>by
  by_cases e1:u=t
  .simp[bC.jN,upd,e1] at hu;omega
  .simp[bC.jN,upd,e1] at hu;exact nD (h.lt u s' hu) hb
 ge:=fun u s' hu=>by
  by_cases e1:u=t
  .simp[bC.jN,upd,e1] at hu;rw[<-hu];exact hl
  .simp[bC.jN,upd,e1] at hu;exact h.ge u s' hu
 nx:=eZ h.nx hb
theorem aiw {top:Nat->Nat}{x:aA R.T}{v:Value}(h:E5 v=some x):∃y,lQ v=some y/\aC R Z top x y:=by unfold E5 at h;split at h<;>cases h<;>exact⟨_,rfl,gY⟩
theorem aix {top:Nat->Nat}:∀{vs:List Value}{l:List (aA R.T)},Ib vs=some l->∃y,vs.mapM lQ=some y/\aJ R Z top l y
 | [],l,h=>by cases h;exact⟨[],rfl,rfl⟩|v::vs,l,h=>by
  unfold Ib at h;cases h1:(E5 v:Option (aA R.T)) with
  |none=>simp only[h1] at h;cases h|some a=>
   cases h2:(Ib vs:Option (List (aA R.T))) with
   |none=>simp only[h1,h2] at h;cases h|some dN=>simp only[h1,h2] at h;cases h;obtain⟨y,hy,hr⟩:=aiw (Z:=Z) (top:=top) h1;obtain⟨ys,hys,hrs⟩:=aix h2;exact⟨y::ys,by simp[hy,hys],.cons' hr hrs⟩
theorem aiy {top:Nat->Nat}{x:aA R.T}{v:Value}(h:Ic v=some x):∃y,ofValue v=some y/\aC R Z top x y:=by
 unfold Ic at h;split at h
 .rename_i cs;cases h2:(Ib cs.toList:Option (List (aA R.T))) with
  |none=>simp only[h2] at h;cases h|some l=>simp only[h2] at h;cases h;obtain⟨ys,hys,hrs⟩:=aix (Z:=Z) (top:=top) h2;exact⟨.agg ys,by simp[ofValue,hys],by unfold aC;exact⟨_,rfl,hrs⟩⟩
 .obtain⟨y,hy,hr⟩:=aiw (Z:=Z) (top:=top) h;refine⟨y,?_,hr⟩;unfold E5 at h;split at h<;>first|exact hy|cases h
def tu (fr:Fr)(g:List (Nat×Bool)):Prop:=∀j u,look g j=some u->fr.tm j= .bool u
theorem tu.nil:tu fr []:=fun _ _ h=>cZ
theorem tu.cons {g:List (Nat×Bool)}{j:Nat}{u:Bool}(h:fr.tm j= .bool u)(hg:tu fr g):tu fr ((j,u)::g):=fun i v hi=>by
 by_cases e:i=j
 .subst e;rw[oh] at hi;cases hi;exact h
 .rw[kR _ _ e] at hi;exact hg i v hi
theorem atK {fr:Fr}{top:Nat->Nat}{g:List (Nat×Bool)}(hg:tu fr g){y x:aA R.T}{v:V}(hy:kC fr Z top y v)(he:RQ g y=some x):aC R Z top x v:=by
 cases y with
 |opt j w z=>
  unfold RQ at he;dsimp only at he;split at he
  .rename_i u hu;cases he;have:=hg j u hu;by_cases e:u=w
   .subst e;rw[beq_self_eq_true];exact hy.1 this
   .rw[show (u==w)=false by simpa using e];have e':u= !w:=(by cases u<;>cases w<;>first|rfl|exact absurd rfl e);unfold aC;exact hy.2 (.inl (by rw[this,e']))
  .cases he
 |_=>cases he;exact hy
theorem bS (h:aT Z b st fr Y){g:List (Nat×Bool)}(hg:tu fr g){o:Operand}{x:aA R.T}(he:dF g st o=some x):aC R Z Y.top x (fr.ev E o):=by
 cases o with
 |tmp t=>
  rw[H6];unfold dF at he;dsimp only at he;split at he
  .rename_i v hv;exact atK hg (h.fr _ _ hv) he
  .cases he
 |const v=>rw[ahF];obtain⟨y,hy,hr⟩:=aiy (Z:=Z) (top:=Y.top) (show Ic v=some x from he);rw[hy];exact hr
 |func f=>cases he;rw[ahG];unfold aC;exact⟨[],[],rfl,rfl,rfl⟩|global i=>cases he
theorem zJ (h:aT Z b st fr Y){g:List (Nat×Bool)}(hg:tu fr g):∀{l:List Operand}{xs:List (aA R.T)},qW g st l=some xs->aJ R Z Y.top xs (l.map (fr.ev E))
 | [],xs,he=>by cases he;rfl|o::l,xs,he=>by
  unfold qW at he;cases h1:dF g st o with
  |none=>simp only[h1] at he;cases he|some a=>
   cases h2:qW g st l with
   |none=>simp only[h1,h2] at he;cases he|some dN=>simp only[h1,h2] at he;cases he;exact .cons' (bS h hg h1) (zJ h hg h2)
theorem X3 (h:aT Z b st fr Y){g:List (Nat×Bool)}(hg:tu fr g):∀{l:List (Nat×Operand)}{xs:List (Nat×aA R.T)},Ie g st l=some xs->xs.map (·.1)=l.map (·.1)/\aJ R Z Y.top (xs.map (·.2)) (l.map fun p=>fr.ev E p.2)
 | [],xs,he=>by cases he;exact⟨rfl,rfl⟩| (i,o)::l,xs,he=>by
   unfold Ie at he;cases h1:dF g st o with
   |none=>simp only[h1] at he;cases he|some a=>
    cases h2:Ie g st l with
    |none=>simp only[h1,h2] at he;cases he|some dN=>simp only[h1,h2] at he;cases he;obtain⟨e1,e2⟩:=X3 h hg h2;exact⟨by simp[e1],.cons' (bS h hg h1) e2⟩
end
theorem atL {n m:Nat}{v:Vec n}{w:Vec m}(h:RL v=some w):n=m/\HEq v w:=by
 unfold RL at h;split at h
 .rename_i e;subst e;cases h;exact⟨rfl,HEq.rfl⟩
 .cases h
theorem aiz:∀{k:lW}{s:bW}{x:H7 k},H8 k s=some x->MB k x=s
 |.i k,.i k' y,x,h=>by
  have h':(if k'=k then some y else none)=some (x:Int):=h;by_cases e:k'=k
  .subst e;rw[if_pos rfl] at h';cases h';rfl
  .rw[if_neg e] at h';cases h'
 |.a k n,.a k' n' v,x,h=>by
  have h':(if k'=k then RL (m:=n) v else none)=some (x:Vec n):=h;by_cases e:k'=k
  .subst e;rw[if_pos rfl] at h';obtain⟨e1,e2⟩:=atL h';subst e1;cases e2;rfl
  .rw[if_neg e] at h';cases h'
 |.i k,.a _ _ _,x,h=>cZ|.a k n,.i _ _,x,h=>cZ
theorem Sz:∀{l:List lW}{ss:List bW}{x:ES l},bX l ss=some x->yE l x=ss
 | [],ss,x,h=>by
   cases ss with
   |nil=>rfl|cons s ss=>cases h
 | [k],ss,x,h=>by
   cases ss with
   |nil=>cases h|cons s ss=>
    cases ss with
    |nil=>show [MB k x]=[s];rw[aiz (show H8 k s=some x from h)]|cons s' ss=>cases h
 |k::k'::l,ss,x,h=>by
  cases ss with
  |nil=>cases h|cons s ss=>
   have h':(match H8 k s with
    |some x=>match bX (k'::l) ss with
     |some p=>some (x,p)|none=>none
    |none=>none)=some x:=h
   cases hu:H8 k s with
   |none=>simp only[hu] at h';cases h'|some y=>
    cases hs:bX (k'::l) ss with
    |none=>simp only[hu,hs] at h';cases h'|some q=>simp only[hu,hs] at h';obtain rfl:=kS h';show MB k y::yE (k'::l) q=s::ss;rw[aiz hu,Sz hs]
section
variable {R:jV}(hR:rX R)
variable {Z:bC}{top:Nat->Nat}{b:Nat}{st:aO R.T}{fr:Fr}{Y:ah}
include hR
theorem Fy {t:Ty}{x:Den R.T t}{tv:aA R.T}{v:V}(h:uz R t tv=some x)(hr:aC R Z top tv v):aC R Z top (AL R .any t x) v:=by
 cases t with
 |int k=>rw[aie h hr];unfold aC;rfl|bool=>rw[aif h hr];unfold aC;rfl|str=>rw[aii h hr];unfold aC;rfl|slice t=>obtain⟨c,hv⟩:=aij h hr;rw[hv];unfold aC;exact⟨c,rfl,trivial⟩
 |st n=>cases h
theorem aiA:∀(l:List Ty)(p:qB R.T l)(cs:List (aA R.T))(vs:List V),Cv R l cs=some p->aJ R Z top cs vs->aJ R Z top (mW R .any l p) vs
 | [],p,cs,vs,h,hr=>by
   cases cs with
   |nil=>rw[hr.jq];rfl|cons c cs=>cases h
 | [t],p,cs,vs,h,hr=>by
   have h':uz R t (hd1 R cs)=some p:=h;cases cs with
   |nil=>cases t<;>cases h'|cons c cs=>
    cases cs with
    |nil=>obtain⟨v,l,rfl,h1,h2⟩:=hr.fZ;rw[h2.jq];exact .cons' (Fy hR h' h1) rfl
    |cons c' cs=>cases t<;>cases h'
 |t::u::l,p,cs,vs,h,hr=>by
  cases cs with
  |nil=>cases h|cons c cs=>
   obtain⟨v,vs,rfl,h1,h2⟩:=hr.fZ;unfold Cv at h;cases hu:uz R t c with
   |none=>simp only[hu] at h;cases h|some y=>
    cases hs:Cv R (u::l) cs with
    |none=>simp only[hu,hs] at h;cases h|some q=>simp only[hu,hs] at h;obtain rfl:=kS h;exact .cons' (Fy hR hu h1) (aiA (u::l) q cs vs hs h2)
theorem SA {t:Ty}{x:Den R.T t}{tv:aA R.T}{v:V}(h:AO R t tv=some x)(hr:aC R Z top tv v):aC R Z top (je R .any t x) v:=by
 cases t with
 |st n=>
  change EX R n tv=some x at h;unfold EX at h;split at h
  .rename_i cs;split at h
   .rename_i p hp;obtain rfl:=kS h;obtain⟨l,hv,hl⟩:=hr.mY;subst hv;show aC R Z top (.agg (mW R .any (R.lf n) (R.of n (R.to n p)))) _;rw[hR.MS];unfold aC;exact⟨l,rfl,aiA hR _ _ _ _ hp hl⟩
   .cases h
  .cases h
 |int k=>exact Fy hR (t:=.int k) h hr|bool=>exact Fy hR (t:=.bool) h hr|str=>exact Fy hR (t:=.str) h hr|slice t=>exact Fy hR (t:=.slice t) h hr
omit hR in
theorem aiB {sz n:Nat}{c c':Cp}{x:Cap}(h:Ii c c'=true)(hx:IQ Z top sz n c x):IQ Z top sz n c' x:=by
 cases c<;>cases c'<;>simp only[Ii,dG] at h<;>first|trivial|exact hx|exact .inl hx|exact .inr (.inl hx)| (rw[<-fT h];exact hx)
omit hR in
theorem X4 {k e k' e':Ty}{m:List (Den R.T k'×Den R.T e')}{x:List (Den R.T k×Den R.T e)}(h:Ij R m=some x):k'=k/\e'=e/\HEq m x:=by
 unfold Ij at h;split at h
 .rename_i e;obtain⟨rfl,rfl⟩:=e;cases h;exact⟨rfl,rfl,HEq.rfl⟩
 .cases h
omit hR in
theorem aiC {c:Cp}{t:Ty}{x:List (Den R.T t)}{tv:aA R.T}{v:V}(h:RX R c t tv=some x)(hr:aC R Z top tv v):aC R Z top (.ak c t x) v:=by
 unfold RX at h;split at h
 .rename_i c' t' l;cases hc:Ii c' c
  .rw[hc] at h;cases h
  .rw[hc,cond_true] at h;obtain⟨e,e2⟩:=vP h;subst e;cases e2;obtain⟨c'',hv,hcc⟩:=hr.mZ;unfold aC;exact⟨c'',hv,aiB hc hcc⟩
 .cases hc:Ii .nil c
  .rw[hc] at h;cases h
  .rw[hc,cond_true] at h;cases h;unfold aC;exact⟨.nil,hr.uI,aiB hc rfl⟩
 .cases h
mutual
theorem X5:∀(k:bO)(x:sQ R.T k)(tv:aA R.T)(v:V),pk R k tv=some x->aC R Z top tv v->aC R Z top (up R .any k x) v
 |.d t,x,tv,v,h,hr=>SA hR (by unfold pk at h;exact h) hr|.l c t,x,tv,v,h,hr=>aiC (by unfold pk at h;exact h) hr|.agg l,x,tv,v,h,hr=>by
  cases tv<;>first| (exact absurd (show none=some x from h) aD)|skip
  rename_i cs;obtain⟨vs,rfl,hl⟩:=hr.mY;show aC R Z top (.agg (jI R .any l x)) _;unfold aC;exact⟨vs,rfl,CV l x cs vs h hl⟩
 |.ref o off,x,tv,v,h,hr=>by
  cases tv<;>first| (exact absurd (show none=some x from h) aD)|skip
  rename_i p off';have h':(bif Nat.beq p o&& Nat.beq off' off then some () else none)=some x:=h;cases hb:(Nat.beq p o&& Nat.beq off' off)
  .rw[hb] at h';cases h'
  .rw[aZ] at hb;rw[fT hb.1,fT hb.2] at hr;exact hr
 |.aW l off,x,tv,v,h,hr=>by
  cases tv<;>first| (exact absurd (show none=some x from h) aD)|skip
  rename_i cs off';have h':(bif Nat.beq off' off then jw R l cs else none)=some x:=h;cases hb:Nat.beq off' off
  .rw[hb] at h';cases h'
  .rw[hb,cond_true] at h';rw[fT hb] at hr;obtain⟨vs,rfl,hl⟩:=hr.uJ;show aC R Z top (.aW (jI R .any l x) off) _;unfold aC;exact⟨vs,rfl,CV l x _ vs h' hl⟩
 |.fq o,x,tv,v,h,hr=>by
  cases tv<;>first| (exact absurd (show none=some x from h) aD)|skip
  rename_i p;have h':(bif Nat.beq p o then some () else none)=some x:=h;cases hb:Nat.beq p o
  .rw[hb] at h';cases h'
  .rw[fT hb] at hr;exact hr
 |.fD k e,x,tv,v,h,hr=>by
  cases tv<;>first| (exact absurd (show none=some x from h) aD)|skip
  rename_i k' e' m;obtain⟨e1,e2,e3⟩:=X4 (show Ij R m=some x from h);subst e1;subst e2;cases e3;exact hr
 |.fn f a b,x,tv,v,h,hr=>by
  cases tv<;>first| (exact absurd (show none=some x from h) aD)|skip
  rename_i f' a' b';have h':(bif Nat.beq f' f then (match jw R a a' with
   |some x=>match jw R b b' with
    |some y=>some (x,y)|none=>none
   |none=>none) else none)=some x:=h
  cases hb:Nat.beq f' f
  .rw[hb] at h';cases h'
  .rw[hb,cond_true] at h';rw[fT hb] at hr;obtain⟨va,vb,rfl,ha,hbb⟩:=hr.pF;cases h1:jw R a a' with
   |none=>simp only[h1] at h';cases h'|some y=>
    cases h2:jw R b b' with
    |none=>simp only[h1,h2] at h';cases h'|some z=>simp only[h1,h2] at h';cases h';show aC R Z top (.fn f (jI R .any a y) (jI R .any b z)) _;unfold aC;exact⟨va,vb,rfl,CV a y _ va h1 ha,CV b z _ vb h2 hbb⟩
 |.fQ,x,tv,v,h,hr=>by
  cases tv<;>first| (exact absurd (show none=some x from h) aD)|skip
  exact hr
 |.aS o t,x,tv,v,h,hr=>by
  cases tv<;>first| (exact absurd (show none=some x from h) aD)|skip
  rename_i p t';have h':(bif Nat.beq p o then (if t'=t then some () else none) else none)=some x:=h;cases hb:Nat.beq p o
  .rw[hb] at h';cases h'
  .rw[hb,cond_true] at h';split at h'
   .rename_i e;rw[fT hb,e] at hr;exact hr
   .cases h'
 |.sub o t,x,tv,v,h,hr=>by
  cases tv<;>first| (exact absurd (show none=some x from h) aD)|skip
  rename_i p t' a b;have h':(bif Nat.beq p o then (if t'=t then some (a,b) else none) else none)=some x:=h;cases hb:Nat.beq p o
  .rw[hb] at h';cases h'
  .rw[hb,cond_true] at h';split at h'
   .rename_i e;cases h';rw[fT hb,e] at hr;exact hr
   .cases h'
 |.sg l,x,tv,v,h,hr=>by
  cases tv<;>first| (exact absurd (show none=some x from h) aD)|skip
  rename_i ss;show aC R Z top (.sg (yE l x)) v;rw[Sz (show bX l ss=some x from h)];exact hr
 |.undef,x,tv,v,h,hr=>by
  cases tv<;>first| (exact absurd (show none=some x from h) aD)|skip
  exact hr
theorem CV:∀(l:List bO)(x:aV R.T l)(cs:List (aA R.T))(vs:List V),jw R l cs=some x->aJ R Z top cs vs->aJ R Z top (jI R .any l x) vs
 | [],x,cs,vs,h,hr=>by
   cases cs with
   |nil=>rw[hr.jq];rfl|cons c cs=>exact absurd (show none=some x from h) aD
 | [k],x,cs,vs,h,hr=>by
   cases cs with
   |nil=>exact absurd (show none=some x from h) aD|cons c cs=>
    cases cs with
    |nil=>obtain⟨v,l,rfl,h1,h2⟩:=hr.fZ;rw[h2.jq];show aJ R Z top [up R .any k x] _;exact .cons' (X5 k x _ v h h1) rfl
    |cons c' cs=>exact absurd (show none=some x from h) aD
 |k::k'::l,x,cs,vs,h,hr=>by
  cases cs with
  |nil=>exact absurd (show none=some x from h) aD|cons c cs=>
   have h':(match pk R k c with
    |some x=>match jw R (k'::l) cs with
     |some p=>some (x,p)|none=>none
    |none=>none)=some x:=h
   obtain⟨v,vs,rfl,h1,h2⟩:=hr.fZ;cases hu:pk R k c with
   |none=>simp only[hu] at h';cases h'|some y=>
    cases hs:jw R (k'::l) cs with
    |none=>simp only[hu,hs] at h';cases h'|some q=>simp only[hu,hs] at h';obtain rfl:=kS h';show aJ R Z top (up R .any k y::jI R .any (k'::l) q) _;exact .cons' (X5 k y _ v hu h1) (CV (k'::l) q _ vs hs h2)
end
omit hR in
theorem atM {k:bO}{j:Nat}{w:Bool}{y:aA R.T}{x:sQ R.T k}(h:pk R k (.opt j w y)=some x):False:=by
 cases k with
 |d t=>cases t<;>(unfold pk at h;cases h)|_=>unfold pk at h;cases h
theorem kC.pk {k:bO}{x:sQ R.T k}{tv:aA R.T}{v:V}(h:pk R k tv=some x)(hr:kC fr Z top tv v):aC R Z top (up R .any k x) v:=by
 cases tv<;>first|exact X5 hR _ _ _ _ h hr|exact(atM h).elim
theorem X6 (h:aT Z b st fr Y):∀(l:List (Nat×bO))(x:EU R.T l),vL R st.fr l=some x->∀i v,look (MG R l x) i=some v->aC R Z Y.top v (fr.tm i)
 | [],x,hx,i,v,hv=>Ej| [(j,k)],x,hx,i,v,hv=>by
   unfold vL at hx;split at hx
   .rename_i y hy;by_cases e:i=j
    .subst e;have hv':look [(i,up R .any k x)] i=some v:=hv;rw[oh] at hv';cases hv';exact kC.pk hR hx (h.fr _ _ hy)
    .have hv':look [(j,up R .any k x)] i=some v:=hv;rw[kR _ _ e] at hv';cases hv'
   .cases hx
 | (j,k)::q::l,x,hx,i,v,hv=>by
   unfold vL at hx;split at hx
   .rename_i y hy;cases hu:pk R k y with
    |none=>simp only[hu] at hx;cases hx|some z=>
     cases hs:vL R st.fr (q::l) with
     |none=>simp only[hu,hs] at hx;cases hx|some p=>
      simp only[hu,hs] at hx;obtain rfl:=kS hx;have hv':look ((j,up R .any k z)::MG R (q::l) p) i=some v:=hv;by_cases e:i=j
      .subst e;rw[oh] at hv';cases hv';exact kC.pk hR hu (h.fr _ _ hy)
      .rw[kR _ _ e] at hv';exact X6 h (q::l) p hs i v hv'
   .cases hx
theorem SB {o:Nat}{k:iC}{x:ET R.T k}{y:bL R.T}(hx:CB R k y=some x)(hy:gK Z Y o y):gK Z Y o (pz R k x):=by
 cases k with
 |cells l=>
  cases y with
  |cells cs=>obtain⟨s,vs,h1,h2,h3⟩:=hy;exact⟨s,vs,h1,h2,CV hR l x _ vs hx h3⟩
  |map k e m=>cases hx|smap _ _=>cases hx|arr _ _=>cases hx|sg _=>cases hx|gone=>cases hx|ro b=>cases hx
 |st n=>
  cases y with
  |cells cs=>obtain⟨s,vs,h1,h2,h3⟩:=hy;obtain⟨l,e,hl⟩:=(SA hR (t:=.st n) (show AO R (.st n) (.agg cs)=some x from hx) (v:=.agg vs) ⟨vs,rfl,h3⟩).mY;cases e;exact⟨s,vs,h1,h2,hl⟩
  |map k e m=>cases hx|smap _ _=>cases hx|arr _ _=>cases hx|sg _=>cases hx|gone=>cases hx|ro b=>cases hx
 |arr t=>
  cases y with
  |arr t' l=>obtain⟨e,e2⟩:=vP hx;subst e;cases e2;exact hy
  |cells cs=>cases hx|map _ _ _=>cases hx|smap _ _=>cases hx|sg _=>cases hx|gone=>cases hx|ro b=>cases hx
 |sg l=>
  cases y with
  |sg ss=>show gK Z Y o (.sg (yE l x));rw[Sz (show bX l ss=some x from hx)];exact hy|cells cs=>cases hx|map _ _ _=>cases hx|smap _ _=>cases hx|arr _ _=>cases hx|gone=>cases hx|ro b=>cases hx
 |map k e=>
  cases y with
  |map k' e' m=>obtain⟨e1,e2,e3⟩:=X4 hx;subst e1;subst e2;cases e3;exact hy
  |cells cs=>cases hx|smap _ _=>cases hx|arr _ _=>cases hx|sg _=>cases hx|gone=>cases hx|ro b=>cases hx
theorem aiD (h:aT Z b st fr Y):∀(l:List (Nat×iC))(x:lX R.T l),pE R st.ob l=some x->∀i v,look (mE R l x) i=some v->gK Z Y i v
 | [],x,hx,i,v,hv=>Ej| [(j,k)],x,hx,i,v,hv=>by
   unfold pE at hx;split at hx
   .rename_i y hy;by_cases e:i=j
    .subst e;have hv':look [(i,pz R k x)] i=some v:=hv;rw[oh] at hv';cases hv';exact SB hR hx (h.ob _ _ hy)
    .have hv':look [(j,pz R k x)] i=some v:=hv;rw[kR _ _ e] at hv';cases hv'
   .cases hx
 | (j,k)::q::l,x,hx,i,v,hv=>by
   unfold pE at hx;split at hx
   .rename_i y hy;cases hu:CB R k y with
    |none=>simp only[hu] at hx;cases hx|some z=>
     cases hs:pE R st.ob (q::l) with
     |none=>simp only[hu,hs] at hx;cases hx|some p=>
      simp only[hu,hs] at hx;obtain rfl:=kS hx;have hv':look ((j,pz R k z)::mE R (q::l) p) i=some v:=hv;by_cases e:i=j
      .subst e;rw[oh] at hv';cases hv';exact SB hR hu (h.ob _ _ hy)
      .rw[kR _ _ e] at hv';exact aiD h (q::l) p hs i v hv'
   .cases hx
theorem aT.pack (h:aT Z b st fr Y){s:Shape}{p:wV R.T s}(hp:pack R st s=some p):aT Z b (unpack R s p) fr Y:=by
 obtain⟨sl,ob⟩:=s;cases ob with
 |nil=>have hp':vL R st.fr sl=some p:=hp;exact {h with fr:=fun i v hv=>.of (X6 hR h sl p hp' i v hv),ob:=fun i v hv=>Ej}
 |cons o os=>
  unfold aQ.pack at hp;cases hu:vL R st.fr sl with
  |none=>simp only[hu] at hp;cases hp|some x=>
   cases hs:pE R st.ob (o::os) with
   |none=>simp only[hu,hs] at hp;cases hp|some y=>simp only[hu,hs] at hp;obtain rfl:=kS hp;exact {h with fr:=fun i v hv=>.of (X6 hR h sl x hu i v hv),ob:=fun i v hv=>aiD hR h (o::os) y hs i v hv}
omit hR in
theorem aiE {e x:Ex}(h:Fa e x=true):e=x:=by
 cases e<;>cases x<;>simp only[Fa,dG] at h<;>first|rfl|rw[fT h]
omit hR in
def mI (st:aO R.T)(o:Nat):Prop:=∀x,look st.ob o=some x->vI x=true
omit hR in
theorem X7 {k:iC}{x:ET R.T k}{y:bL R.T}(hx:CB R k y=some x)(hy:vI y=true):False:=by
 cases y with
 |cells _=>cases hy|map _ _ _=>cases hy|smap _ _=>cases hy|arr _ _=>cases hy|sg _=>cases hy|gone=>cases k<;>cases hx|ro b=>cases k<;>cases hx
omit hR in
theorem aiF {i:Nat}(hr:mI st i):∀(l:List (Nat×iC))(x:lX R.T l),pE R st.ob l=some x->look (mE R l x) i=none
 | [],x,hx=>rfl| [(j,k)],x,hx=>by
   unfold pE at hx;split at hx
   .rename_i y hy;by_cases e:i=j
    .subst e;exact(X7 hx (hr _ hy)).elim
    .show look [(j,pz R k x)] i=none;rw[kR _ _ e];rfl
   .cases hx
 | (j,k)::q::l,x,hx=>by
   unfold pE at hx;split at hx
   .rename_i y hy;cases hu:CB R k y with
    |none=>simp only[hu] at hx;cases hx|some z=>
     cases hs:pE R st.ob (q::l) with
     |none=>simp only[hu,hs] at hx;cases hx|some p=>
      simp only[hu,hs] at hx;obtain rfl:=kS hx;show look ((j,pz R k z)::mE R (q::l) p) i=none;by_cases e:i=j
      .subst e;exact(X7 hu (hr _ hy)).elim
      .rw[kR _ _ e];exact aiF hr (q::l) p hs
   .cases hx
omit hR in
theorem atN {s:Shape}{p:wV R.T s}{i:Nat}(hp:aQ.pack R st s=some p)(hr:mI st i):look (unpack R s p).ob i=none:=by
 obtain⟨sl,ob⟩:=s;cases ob with
 |nil=>rfl|cons o os=>
  unfold aQ.pack at hp;cases hu:vL R st.fr sl with
  |none=>simp only[hu] at hp;cases hp|some x=>
   cases hs:pE R st.ob (o::os) with
   |none=>simp only[hu,hs] at hp;cases hp|some y=>simp only[hu,hs] at hp;obtain rfl:=kS hp;exact aiF hr (o::os) y hs
omit hR
theorem CW {U:Type}:∀(l m:List (Nat×U))(i:Nat),look (l++m) i=match look l i with|some x=>some x|none=>look m i
 | [],m,i=>rfl| (j,x)::l,m,i=>by
   show (bif Nat.beq j i then some x else look (l++m) i)=match (bif Nat.beq j i then some x else look l i) with|some x=>some x|none=>look m i
   cases Nat.beq j i
   .exact CW l m i
   .rfl
theorem aT.over {st':aO R.T}(h:aT Z b st fr Y)(h':aT Z b st' fr Y):aT Z b (st.over st') fr Y:={h with
 fr:=fun i v hv=>by
  have hv':look (st.fr++st'.fr) i=some v:=hv;rw[CW] at hv';split at hv'
  .rename_i x hx;cases hv';exact h.fr _ _ hx
  .exact h'.fr _ _ hv'
 ob:=fun i v hv=>by
  have hv':look (st.ob++st'.ob) i=some v:=hv;rw[CW] at hv';split at hv'
  .rename_i x hx;cases hv';exact h.ob _ _ hx
  .exact h'.ob _ _ hv'}
theorem CX {U:Type}{p:Nat->U->Bool}{f:U->U}{l:List (Nat×U)}:∀{is:List Nat}{i:Nat}{y:U},look (sU p f l is) i=some y->∃x,look l i=some x/\p i x=true/\y=f x
 | [],i,y,h=>cZ|j::is,i,y,h=>by
  unfold sU at h;split at h
  .rename_i x hx;cases hp:p j x
   .rw[hp] at h;exact CX h
   .rw[hp,cond_true] at h;by_cases e:i=j
    .subst e;rw[oh] at h;cases h;exact⟨x,hx,hp,rfl⟩
    .rw[kR _ _ e] at h;exact CX h
  .exact CX h
mutual
theorem aC.solid {Z':bC}{top':Nat->Nat}{W:List Nat}(ho:∀o,bM o W=false->Z'.ob o=Z.ob o/\Z'.ln o=Z.ln o)(hx:Z'.aj=Z.aj):∀(x:aA R.T)(v:V),aQ.solid W x=true->aC R Z top x v->aC R Z' top' x v
 |.ak c t l,v,hs,h=>by obtain⟨c',hv,hc⟩:=h;refine⟨c',hv,?_⟩;cases c<;>first|exact hc| (simp[aQ.solid] at hs;done)
 |.ref o off,v,hs,h=>K7
 |.fq o,v,hs,h=>K7
 |.aS o t,v,hs,h=>by
  unfold aQ.solid at hs;obtain⟨k1,k2⟩:=ho o af8;rcases h with ⟨s,h1,h2⟩| ⟨h1,h2⟩
  .exact .inl ⟨s,by rw[k1];exact h1,by rw[k2,hx];exact h2⟩
  .exact .inr ⟨by rw[k2];exact h1,h2⟩
 |.sub o t a b,v,hs,h=>by
  unfold aQ.solid at hs;obtain⟨k1,k2⟩:=ho o af8;obtain⟨g0,g1,g2,h⟩:=h;refine⟨g0,g1,by rw[k2];exact g2,?_⟩;rcases h with ⟨s,cp,h1,h2,h3⟩|h
  .exact .inl ⟨s,cp,by rw[k1];exact h1,h2,by rw[hx];exact h3⟩
  .exact .inr h
 |.mV o t i off,v,hs,h=>K7
 |.sv o _ _ _ _ _,v,hs,h=>K7
 |.sel o _ _ _ _ _,v,hs,h=>K7
 |.sg _,_,_,h=>h|.vH _ _ _ _,_,_,h=>h|.agg cs,v,hs,h=>by obtain⟨l,hv,hl⟩:=h;exact⟨l,hv,aJ.solid ho hx cs l (by unfold aQ.solid at hs;exact hs) hl⟩
 |.bV cs,v,hs,h=>by obtain⟨l,hv,hl⟩:=h;exact⟨l,hv,aJ.solid ho hx cs l (by unfold aQ.solid at hs;exact hs) hl⟩
 |.aW cs off,v,hs,h=>by obtain⟨l,hv,hl⟩:=h;exact⟨l,hv,aJ.solid ho hx cs l (by unfold aQ.solid at hs;exact hs) hl⟩
 |.fn f a b,v,hs,h=>by obtain⟨a',b',hv,ha,hb⟩:=h;unfold aQ.solid at hs;rw[aZ] at hs;exact⟨a',b',hv,aJ.solid ho hx a a' hs.1 ha,aJ.solid ho hx b b' hs.2 hb⟩
 |.opt _ _ _,_,_,h=>h.elim|.int _ _,_,_,h=>h|.bool _,_,_,h=>h|.jH _,_,_,h=>h|.str _,_,_,h=>h|.gZ,_,_,h=>h|.gL,_,_,h=>h|.iq,_,_,h=>h|.iO,_,_,h=>h|.fQ,_,_,h=>h|.fD _ _ _,_,_,h=>h|.undef,_,_,h=>h|.gone,_,_,h=>trivial
theorem aJ.solid {Z':bC}{top':Nat->Nat}{W:List Nat}(ho:∀o,bM o W=false->Z'.ob o=Z.ob o/\Z'.ln o=Z.ln o)(hx:Z'.aj=Z.aj):∀(x:List (aA R.T))(v:List V),vJ W x=true->aJ R Z top x v->aJ R Z' top' x v
 | [],_,_,h=>h|x::xs,_,hs,⟨v,vs,e,h1,h2⟩=>by unfold vJ at hs;rw[aZ] at hs;exact⟨v,vs,e,aC.solid ho hx x v hs.1 h1,aJ.solid ho hx xs vs hs.2 h2⟩
end
theorem atO {x:aA R.T}{v:V}(h:kC fr Z top x v):kC fr Z top (Xr x) v:=by
 cases x with
 |ak c t l=>
  cases c with
  |own u=>obtain⟨c',hv,_⟩:=aC.mZ (show aC R Z top (.ak (.own u) t l) v from h);exact .of (x:=.ak .any t l) (by unfold aC;exact⟨c',hv,trivial⟩)
  |_=>exact h
 |_=>exact h
theorem atP {W:List Nat}{x:aA R.T}{v:V}(hs:aQ.solid W x=true)(h:kC fr Z top x v):aC R Z top x v:=by
 cases x<;>first|exact h| (simp[aQ.solid] at hs;done)
structure bT (nr:Bool)(o:Nat)(st:aO R.T)(Z:bC)(Y:ah)(st':aO R.T)(Z':bC)(Y':ah):Prop where
 ob:Z'.ob o=Z.ob o
 ln:Z'.ln o=Z.ln o
 aj:Z'.aj=Z.aj
 nx:Y.next<=Y'.next
 lp:(∀l,l<Y.next->Y'.loops l=Y.loops l)/\∀s,s<Z.aj.lo->Y'.top s=Y.top s
 dp:∀L,nr=true\/L.1<=Z.aj.dp->Z.aj.out L->Y'.obj L=Y.obj L
 ro:mI st o->mI st' o/\∀s,Y'.dQ (Z.aj.lc o) s=Y.dQ (Z.aj.lc o) s/\Y'.lD (Z.aj.lc o) s=Y.lD (Z.aj.lc o) s
structure Kp (nr:Bool)(W:List Nat)(st:aO R.T)(fr:Fr)(Y:ah)(Z:bC)(st':aO R.T)(fr':Fr)(Y':ah)(Z':bC):Prop where
 fr:∀i,bM i W=false->fr'.tm i=fr.tm i
 ob:∀o,bM o W=false->bT nr o st Z Y st' Z' Y'
section
variable {nr:Bool}
theorem X8 {c:eP}{o s:Nat}{x:kH}{L:Loc}(h:c.out L):(Y.setObj (c.lc o) s x).obj L=Y.obj L:=by unfold ah.setObj upd;dsimp only;rw[if_neg (h o)]
theorem atQ {c:eP}{o:Nat}{L:Loc}(h:c.out L):(Y.ko (c.lc o)).obj L=Y.obj L:=by unfold ah.ko upd;dsimp only;rw[if_neg (h o)]
theorem bT.refl {o:Nat}:bT nr o st Z Y st Z Y:=⟨rfl,rfl,rfl,iR _,⟨fun _ _=>rfl,fun _ _=>rfl⟩,fun _ _ _=>rfl,fun h=>⟨h,fun _=>⟨rfl,rfl⟩⟩⟩
theorem bT.trans {o:Nat}{st' jK:aO R.T}{Z' tC:bC}{Y' pG:ah}(h:bT nr o st Z Y st' Z' Y')(g:bT nr o st' Z' Y' jK tC pG):bT nr o st Z Y jK tC pG:=
 ⟨g.ob.trans h.ob,g.ln.trans h.ln,g.aj.trans h.aj,eZ h.nx g.nx,⟨fun l hl=>(g.lp.1 l (nD hl h.nx)).trans (h.lp.1 l hl),fun s hs=>(g.lp.2 s (by rw[h.aj];exact hs)).trans (h.lp.2 s hs)⟩,fun L hn hL=>(g.dp L (by rw[h.aj];exact hn) (by rw[h.aj];exact hL)).trans (h.dp L hn hL),fun hr=>by have g':=fun hr=>g.ro hr;rw[h.aj] at g';exact⟨(g' (h.ro hr).1).1,fun s=>⟨((g' (h.ro hr).1).2 s).1.trans ((h.ro hr).2 s).1,((g' (h.ro hr).1).2 s).2.trans ((h.ro hr).2 s).2⟩⟩⟩
theorem Kp.refl {W:List Nat}:Kp nr W st fr Y Z st fr Y Z:=⟨fun _ _=>rfl,fun _ _=>.refl⟩
theorem Kp.trans {W:List Nat}{st' jK:aO R.T}{fr' CY:Fr}{Z' tC:bC}{Y' pG:ah}(h:Kp nr W st fr Y Z st' fr' Y' Z')(g:Kp nr W st' fr' Y' Z' jK CY pG tC):Kp nr W st fr Y Z jK CY pG tC:=
 ⟨fun i hi=>(g.fr i hi).trans (h.fr i hi),fun o ho=>(h.ob o ho).trans (g.ob o ho)⟩
theorem Kp.mono {W W':List Nat}{st':aO R.T}{fr':Fr}{Z':bC}{Y':ah}(h:Kp nr W st fr Y Z st' fr' Y' Z')(hw:∀i,bM i W'=false->bM i W=false):Kp nr W' st fr Y Z st' fr' Y' Z':=
 ⟨fun i hi=>h.fr i (hw i hi),fun o ho=>h.ob o (hw o ho)⟩
theorem X9:∀(i:Nat)(l m:List Nat),bM i (l++m)=(bM i l||bM i m)
 |i,[],m=>rfl|i,j::l,m=>by show (Nat.beq i j||bM i (l++m))=_;rw[X9 i l m,<-Bool.or_assoc];rfl
theorem aiG {o:Nat}{Z':bC}{Y':ah}{W:List Nat}(ho:∀o,bM o W=false->Z'.ob o=Z.ob o/\Z'.ln o=Z.ln o)(hx:Z'.aj=Z.aj)(hm:bM o W=false)(hc:∀s,Y'.dQ (Z.aj.lc o) s=Y.dQ (Z.aj.lc o) s/\Y'.lD (Z.aj.lc o) s=Y.lD (Z.aj.lc o) s):∀{x:bL R.T},sS W x=true->gK Z Y o x->gK Z' Y' o x
 |.cells cs,hs,h=>by obtain⟨s,l,h1,h2,h3⟩:=h;exact⟨s,l,Le,by rw[hx,(hc s).1];exact h2,aJ.solid ho hx cs l hs h3⟩
 |.map k e m,_,h=>by obtain⟨s,h1,h2⟩:=h;exact⟨s,Le,by rw[hx,(hc s).2];exact h2⟩
 |.smap ks vs,hs,h=>by obtain⟨s,k,l,h1,h2,h3,h4⟩:=h;have hs':(vJ W ks&& vJ W vs)=true:=hs;rw[aZ] at hs';exact⟨s,k,l,Le,by rw[hx,(hc s).2];exact h2,aJ.solid ho hx ks k hs'.1 h3,aJ.solid ho hx vs l hs'.2 h4⟩
 |.arr t l,_,h=>by
  refine⟨h.1.trans (ho o hm).2.symm,?_⟩;rcases h.2 with h| ⟨s,cs,h1,h2,h3⟩
  .exact .inl ⟨h.1,(ho o hm).1.trans h.2⟩
  .exact .inr ⟨s,cs,Le,by rw[hx,(hc s).1];exact h2,zH l cs h3⟩
 |.sg ss,_,h=>by obtain⟨s,h1,h2⟩:=h;exact⟨s,Le,by rw[hx,(hc s).1];exact h2⟩
 |.gone,_,_=>trivial|.ro b,hs,h=>aiG ho hx hm hc (x:=b) hs h
theorem Ya:∀W:List Nat,∃n,∀m,n<=m->bM m W=false
 | []=>⟨0,fun _ _=>rfl⟩
 |i::W=>by obtain⟨n,hn⟩:=Ya W;refine⟨n+i+1,fun m hm=>?_⟩;show (Nat.beq m i||bM m W)=false;rw[Sy RS,hn m RS];rfl
theorem Kp.aj {W:List Nat}{st':aO R.T}{fr':Fr}{Z':bC}{Y':ah}(h:Kp nr W st fr Y Z st' fr' Y' Z'):Z'.aj=Z.aj:=by obtain⟨n,hn⟩:=Ya W;exact(h.ob n (hn n (iR _))).aj
theorem aT.base {W K O:List Nat}{mark:bL R.T->bL R.T}(hmark:∀Z Y o x,gK Z Y o x->gK (R:=R) Z Y o (mark x)){st0 st' jK:aO R.T}{fr':Fr}{Z':bC}{Y':ah}{b':Nat}(h:aT Z b st fr Y)(hk:Kp nr W st0 fr Y Z st' fr' Y' Z')(h':aT Z' b' jK fr' Y')(hro:∀o x,look st.ob o=some x->bM o W=false->bM o O=true->sS W x=true->mI st0 o):aT Z' b' (aQ.base W K O mark st) fr' Y':={h' with
 fr:=fun i v hv=>by obtain⟨x,h1,h2,rfl⟩:=CX hv;rw[aZ,xY] at h2;have:=atP h2.2 (atO (h.fr _ _ h1));rw[hk.fr i h2.1];exact .of (aC.solid (fun o ho=>⟨(hk.ob o ho).ob,(hk.ob o ho).ln⟩) hk.aj _ _ h2.2 this)
 ob:=fun o y hy=>by
  have hO:bM o O=true:=by
   have:∀{is:List Nat}{y:bL R.T},look (sU (fun o b=>!(bM o W)&& sS W b) mark st.ob is) o=some y->bM o is=true:=by
    intro is;induction is with
    |nil=>intro y h;cases h|cons j is ih=>
     intro y h;show (Nat.beq o j||bM o is)=true;unfold sU at h;by_cases e:o=j
     .subst e;rw[y9];rfl
     .split at h
      .rename_i x hx;cases hp:(!(bM j W)&& sS W x)
       .rw[hp] at h;rw[ih h,Bool.or_true]
       .rw[hp,cond_true,kR _ _ e] at h;rw[ih h,Bool.or_true]
      .rw[ih h,Bool.or_true]
   exact this hy
  obtain⟨x,h1,h2,rfl⟩:=CX hy;rw[aZ,xY] at h2;have hc:=((hk.ob o h2.1).ro (hro o x h1 h2.1 hO h2.2)).2;exact hmark _ _ _ _ (aiG (fun o ho=>⟨(hk.ob o ho).ob,(hk.ob o ho).ln⟩) hk.aj h2.1 hc h2.2 (h.ob _ _ h1))}
theorem aiH {W K O:List Nat}{st':aO R.T}{o:Nat}{x:bL R.T}(h1:look st.ob o=some x)(h2:bM o W=false)(h3:bM o O=true)(h4:sS W x=true):mI ((aQ.base W K O .ro st).over st') o:=by
 intro y hy;have hl:∃z,look (sU (fun o b=>!(bM o W)&& sS W b) bL.ro st.ob O) o=some (.ro z):=by
  have:∀is:List Nat,bM o is=true->∃z,look (sU (fun o b=>!(bM o W)&& sS W b) bL.ro st.ob is) o=some (.ro z):=by
   intro is;induction is with
   |nil=>intro h;cases h|cons j is ih=>
    intro h;by_cases e:o=j
    .subst e;unfold sU;rw[h1];dsimp only;rw[h2,h4];exact⟨x,oh _ _ _⟩
    .have h':(Nat.beq o j||bM o is)=true:=h;rw[Sy e,Bool.false_or] at h';obtain⟨z,hz⟩:=ih h';refine⟨z,?_⟩;unfold sU;split
     .rename_i w hw;cases (!(bM j W)&& sS W w)
      .exact hz
      .rw[cond_true,kR _ _ e];exact hz
     .exact hz
  exact this O h3
 obtain⟨z,hz⟩:=hl;have hy':look (sU (fun o b=>!(bM o W)&& sS W b) bL.ro st.ob O++st'.ob) o=some y:=hy;rw[CW,hz] at hy';cases hy';rfl
theorem atS {t:Nat}:∀{x:bL R.T},vI x=true->vI (bL.wk t x)=true
 |.ro _,_=>rfl|.gone,_=>rfl|.cells _,h=>cZ|.map _ _ _,h=>cZ|.smap _ _,h=>cZ|.arr _ _,h=>cZ
theorem aiI {t:Nat}{x:bL R.T}(h:vI x=true):vI (bL.kill t x)=true:=by
 have e:bL.kill t x=bif bL.oH t x then .gone else x:=by cases x<;>first|rfl|cases h
 rw[e];cases bL.oH t x
 .exact h
 .rfl
theorem bT.wk {p t s n:Nat}(hl:Z.aj.lo<=s):bT nr p st Z Y (st.wk t) (Z.jN t s) (Y.eB s n):=⟨rfl,rfl,rfl,iR _,⟨fun _ _=>rfl,fun s' hs'=>RB _ _ RS⟩,fun _ _ _=>rfl,fun hr=>⟨fun x hx=>by
 have hx':look (pq (bL.wk t) st.ob) p=some x:=hx;rw[xk,aY] at hx';obtain⟨z,hz,rfl⟩:=hx';exact atS (hr z hz),fun _=>⟨rfl,rfl⟩⟩⟩
theorem bT.set {o q s:Nat}{x y:bL R.T}{a:kH}(hl:look st.ob o=some y)(hy:vI y=false):bT nr q st Z Y (st.set o x) Z (Y.setObj (Z.aj.lc o) s a):=⟨rfl,rfl,rfl,iR _,⟨fun _ _=>rfl,fun _ _=>rfl⟩,fun _ _ hL=>X8 hL,fun hr=>by
 have hne:q≠o:=by rintro rfl;rw[hr y hl] at hy;cases hy
 refine⟨fun z hz=>?_,fun s'=>⟨Gw _ _ _ _ hne,IY _ _ _ _ hne⟩⟩;have hz':look ((o,x)::ku o st.ob) q=some z:=hz;rw[kR _ _ hne,uK hne] at hz';exact hr z hz'⟩
theorem bT.new {o q s:Nat}{x:bL R.T}{a:kH}(hne:q≠o):bT nr q st Z Y (st.new o x) (Z.oz o s) (Y.setObj (Z.aj.lc o) s a):=⟨by simp[bC.oz,upd,hne],rfl,rfl,iR _,⟨fun _ _=>rfl,fun _ _=>rfl⟩,fun _ _ hL=>X8 hL,fun hr=>by
 refine⟨fun z hz=>?_,fun s'=>⟨Gw _ _ _ _ hne,IY _ _ _ _ hne⟩⟩;have hz':look ((o,x)::pq (bL.kill o) (ku o st.ob)) q=some z:=hz;rw[kR _ _ hne,xk,uK hne,aY] at hz';obtain⟨w,hw,rfl⟩:=hz';exact aiI (hr w hw)⟩
theorem Aj {d:Option Nat}{v:aA R.T}:(st.iD d v).ob=st.ob:=BQ
theorem bT.same {st':aO R.T}{o:Nat}(h:st'.ob=st.ob):bT nr o st Z Y st' Z Y:=⟨rfl,rfl,rfl,iR _,⟨fun _ _=>rfl,fun _ _=>rfl⟩,fun _ _ _=>rfl,fun hr=>⟨fun x hx=>hr x (by rw[<-h];exact hx),fun _=>⟨rfl,rfl⟩⟩⟩
theorem bT.congr {st' jK:aO R.T}{Z':bC}{Y':ah}{o:Nat}(h:bT nr o st Z Y st' Z' Y')(e:jK.ob=st'.ob):bT nr o st Z Y jK Z' Y':=⟨h.ob,h.ln,h.aj,h.nx,h.lp,h.dp,fun hr=>⟨fun x hx=>(h.ro hr).1 x (by rw[<-e];exact hx),(h.ro hr).2⟩⟩
theorem bT.from {st' jK:aO R.T}{Z':bC}{Y':ah}{o:Nat}(h:bT nr o st Z Y st' Z' Y')(e:st.ob=jK.ob):bT nr o jK Z Y st' Z' Y':=⟨h.ob,h.ln,h.aj,h.nx,h.lp,h.dp,fun hr=>h.ro fun x hx=>hr x (by rw[<-e];exact hx)⟩
theorem Kp.op {d:Option Nat}{W:List Nat}{y:V}{st':aO R.T}{Z':bC}{Y':ah}{Q:Nat->Prop}(hd:∀p,bM p W=false->d≠some p/\Q p)(h:∀p,Q p->bT nr p st Z Y st' Z' Y'):Kp nr W st fr Y Z st' (fr.put d y) Y' Z':=
 ⟨fun i hi=>by
   cases d with
   |none=>rfl|some j=>exact Ms _ _ (by have:=(hd i hi).1;simp at this;simpa using fun e=>this e.symm),fun p hp=>h p (hd p hp).2⟩
theorem atT {W K O:List Nat}{st':aO R.T}{o:Nat}(h:look st'.ob o=none):mI ((aQ.base W K O .ro st).over st') o:=by
 intro y hy;have hy':look (sU (fun o b=>!(bM o W)&& sS W b) bL.ro st.ob O++st'.ob) o=some y:=hy;rw[CW] at hy';split at hy'
 .rename_i x hx;cases hy';obtain⟨z,_,_,rfl⟩:=CX hx;rfl
 .rw[h] at hy';cases hy'
theorem Yb {st':aO R.T}{o:Nat}(h1:mI st o)(h2:mI st' o):mI (st.over st') o:=by
 intro y hy;have hy':look (st.ob++st'.ob) o=some y:=hy;rw[CW] at hy';split at hy'
 .rename_i x hx;cases hy';exact h1 _ hx
 .exact h2 _ hy'
theorem aiJ {W K O:List Nat}{mark:bL R.T->bL R.T}{o:Nat}(hm:∀x,vI x=true->vI (mark x)=true)(h:mI st o):mI (aQ.base W K O mark st) o:=by intro y hy;obtain⟨x,h1,_,rfl⟩:=CX hy;exact hm _ (h _ h1)
theorem finish {W K O:List Nat}{H S' jK:aO R.T}{fr':Fr}{Z':bC}{Y':ah}{b':Nat}(hi:aT Z b st fr Y)(hH:∀o,bM o W=false->mI st o->mI H o)(hro:∀o x,look st.ob o=some x->bM o W=false->bM o O=true->sS W x=true->mI H o)(hk:Kp nr W H fr Y Z S' fr' Y' Z')(hi':aT Z' b' jK fr' Y')(hn:∀o,bM o W=false->mI H o->look jK.ob o=none):
 aT Z' b' ((aQ.base W K O (fun b=>b) st).over jK) fr' Y'/\Kp nr W st fr Y Z ((aQ.base W K O (fun b=>b) st).over jK) fr' Y' Z':=by
 have hk2:Kp nr W H fr Y Z jK fr' Y' Z':=⟨hk.fr,fun o ho=>⟨(hk.ob o ho).ob,(hk.ob o ho).ln,(hk.ob o ho).aj,(hk.ob o ho).nx,(hk.ob o ho).lp,(hk.ob o ho).dp,fun hr=>⟨fun x hx=>(by rw[hn o ho hr] at hx;cases hx),((hk.ob o ho).ro hr).2⟩⟩⟩;refine⟨(hi.base (fun _ _ _ _ h=>h) hk2 hi' hro).over hi',hk.fr,fun o ho=>⟨(hk.ob o ho).ob,(hk.ob o ho).ln,(hk.ob o ho).aj,(hk.ob o ho).nx,(hk.ob o ho).lp,(hk.ob o ho).dp,fun hr=>⟨?_,((hk.ob o ho).ro (hH o ho hr)).2⟩⟩⟩;exact Yb (aiJ (fun _ h=>h) hr) fun x hx=>(by rw[hn o ho (hH o ho hr)] at hx;cases hx)
theorem aiK {x:aA R.T}{v:V}(hx:Ik x=true)(h:kC fr Z top x v):v= .ak .nil []\/v= .ak .full []:=by
 cases x<;>first| (cases hx;done)|skip
 .exact .inl (aC.uI (R:=R) (show aC R Z top .fQ v from h))
 .rename_i c t l;obtain⟨c',hv,hc⟩:=aC.mZ (R:=R) (show aC R Z top (.ak c t l) v from h);cases c<;>first| (cases hx;done)|skip
  .have:l=[]:=by simpa [Ik] using hx
   subst this;have hc':c'= .nil:=hc;rw[hc'] at hv;exact .inl hv
  .have:l=[]:=by simpa [Ik] using hx
   subst this;have hc':c'= .full:=hc;rw[hc'] at hv;exact .inr hv
theorem MX {W:List Nat}:∀(l:List (Nat×bO))(st:aO R.T)(Z:bC),aT Z b st fr Y->∃Z',aT Z' b (uD W l st) fr Y/\Kp nr W st fr Y Z (uD W l st) fr Y Z'
 | [],st,Z,h=>⟨Z,h,.refl⟩| (i,k)::l,st,Z,h=>by
   have other:uD W ((i,k)::l) st=uD W l st->∃Z',aT Z' b (uD W ((i,k)::l) st) fr Y/\Kp nr W st fr Y Z (uD W ((i,k)::l) st) fr Y Z':=fun e=>by rw[e];exact MX l st Z h
   cases k<;>first|exact other rfl|skip
   rename_i o t;unfold uD;split
   .rename_i v hv;cases hb:(Ik v&& bM o W)
    .exact MX l st Z h
    .rw[cond_true];rw[aZ] at hb;have hg:=h.ghost o t;have hE:=aiK hb.1 (h.fr _ _ hv);have Yc:aT (Z.gh o) b (⟨(i,.aS o t)::(st.new o (.arr t [])).fr,(st.new o (.arr t [])).ob⟩:aO R.T) fr Y:={hg with
      fr:=fun j y hy=>by
       by_cases e:j=i
       .subst e;have hy':look ((j,aA.aS o t)::(st.new o (.arr t [])).fr) j=some y:=hy;rw[oh] at hy';cases hy';exact .of (by unfold aC;exact .inr ⟨CU (Z:=Z) (n:=0),hE⟩)
       .have hy':look ((i,aA.aS o t)::(st.new o (.arr t [])).fr) j=some y:=hy;rw[kR _ _ e] at hy';exact hg.fr j y hy'
      ob:=hg.ob}
     obtain⟨Z',h1,h2⟩:=MX (W:=W) l _ _ Yc;refine⟨Z',h1,Kp.trans ⟨fun _ _=>rfl,fun p hp=>?_⟩ h2⟩;have hne:p≠o:=(by rintro rfl;rw[hb.2] at hp;cases hp);refine⟨(zI p hne).1,(zI p hne).2,rfl,iR _,⟨fun _ _=>rfl,fun _ _=>rfl⟩,fun _ _ _=>rfl,fun hr=>⟨fun x hx=>?_,fun _=>⟨rfl,rfl⟩⟩⟩;have hx':look ((o,bL.arr t [])::pq (bL.kill o) (ku o st.ob)) p=some x:=hx;rw[kR _ _ hne,xk,uK hne,aY] at hx';obtain⟨w,hw,rfl⟩:=hx';exact aiI (hr w hw)
   .exact MX l st Z h
section
variable (hR:rX R)
include hR
omit hR in
theorem aiL {W:List Nat}:∀{l:List (Nat×bO)},st.fr=[]->uD W l st=st
 | [],_=>rfl| (i,k)::l,h=>by
   have:=aiL (W:=W) (l:=l) h;cases k<;>first|exact this|skip
   unfold uD;rw[h];exact this
omit hR in
theorem aiM:∀{l:List (Nat×bO)}{p:EU R.T l},vL R [] l=some p->l=[]
 | [],_,_=>rfl| [(i,k)],p,h=>cZ| (i,k)::q::l,p,h=>cZ
omit hR in
theorem atU {W:List Nat}(he:st.fr=[]){s:Shape}{p:wV R.T s}(hp:aQ.sW R W st s=some p):(unpack R s p).fr=[]:=by
 unfold aQ.sW at hp;rw[aiL he] at hp;obtain⟨sl,ob⟩:=s;cases ob with
 |nil=>have hp':vL R st.fr sl=some p:=hp;rw[he] at hp';have:=aiM hp';subst this;rfl|cons o os=>
  unfold aQ.pack at hp;rw[he] at hp;cases hu:vL R [] sl with
  |none=>simp only[hu] at hp;cases hp|some x=>have:=aiM hu;subst this;rfl
theorem aT.sW {W:List Nat}(h:aT Z b st fr Y){s:Shape}{p:wV R.T s}(hp:aQ.sW R W st s=some p):∃Z' S',aT Z' b (unpack R s p) fr Y/\Kp nr W st fr Y Z S' fr Y Z'/\(st.fr=[]->(unpack R s p).fr=[])/\∀i,bM i W=false->mI st i->look (unpack R s p).ob i=none:=by obtain⟨Z',h1,h2⟩:=MX (W:=W) s.sl st Z h;exact⟨Z',_,h1.pack hR hp,h2,fun he=>atU he hp,fun i hi hr=>atN hp ((h2.ob i hi).ro hr).1⟩
theorem SC {β:Type}{W:List Nat}(h:aT Z b st fr Y){e:Ex}:∀{l:List (Ex×Shape)}{o:Out R.T l},Fb R W e st l=some o->∃Z' S' st',aT Z' b st' fr Y/\Kp nr W st fr Y Z S' fr Y Z'/\(st.fr=[]->st'.fr=[])/\(∀i,bM i W=false->mI st i->look st'.ob i=none)/\∀(k:Ex->aO R.T->Option β)(bs:aO R.T),Fe R bs k l o=k e (bs.over st')
 | [],o,hp=>by cases hp| [(x,s)],o,hp=>by
   have hp':(bif Fa e x then aQ.sW R W st s else none)=some o:=hp;cases hb:Fa e x
   .rw[hb] at hp';cases hp'
   .rw[hb,cond_true] at hp';have:=aiE hb;subst this;obtain⟨Z',S',h1,h2,h0,h3⟩:=h.sW hR hp';exact⟨Z',S',_,h1,h2,h0,h3,fun k bs=>rfl⟩
 | (x,s)::q::l,o,hp=>by
   unfold Fb at hp;cases hb:Fa e x
   .rw[hb,cond_false] at hp;cases hu:Fb R W e st (q::l) with
    |none=>simp only[hu] at hp;cases hp|some y=>simp only[hu] at hp;obtain rfl:=kS hp;obtain⟨Z',S',st',h1,h3,h0,h4,h2⟩:=SC (β:=β) h hu;exact⟨Z',S',st',h1,h3,h0,h4,fun k bs=>h2 k bs⟩
   .rw[hb,cond_true] at hp;have:=aiE hb;subst this;cases hu:aQ.sW R W st s with
    |none=>simp only[hu] at hp;cases hp|some y=>simp only[hu] at hp;obtain rfl:=kS hp;obtain⟨Z',S',h1,h2,h0,h3⟩:=h.sW hR hu;exact⟨Z',S',_,h1,h2,h0,h3,fun k bs=>rfl⟩
end
end
end
end aQ
end
