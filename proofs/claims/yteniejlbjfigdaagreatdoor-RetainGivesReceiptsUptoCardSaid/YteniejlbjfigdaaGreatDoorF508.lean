import Derived.Test.YteniejlbjfigdaaGreatDoorF507
set_option linter.all false
section
namespace aR
open Go
theorem fH {a b:Nat}(h:Nat.beq a b=true):a=b:=yS h
theorem Xf {a b:Nat}(h:Nat.beq a b=false):a≠b:=fun e=>by rw[e,yO] at h;cases h
theorem RO {a b:Nat}(h:a≠b):Nat.beq a b=false:=Bool.eq_false_iff.2 fun e=>h (fH e)
section look
variable {J:Type}
theorem wX (f:J->J):∀(l:List (Nat×J))(i:Nat),look (oJ f l) i=(look l i).map f
 | [],_=>rfl| (j,x)::l,i=>by
   show (bif Nat.beq j i then some (f x) else look (oJ f l) i)=Option.map f (bif Nat.beq j i then some x else look l i);cases Nat.beq j i
   .exact wX f l i
   .rfl
theorem uy {i j:Nat}(h:j≠i):∀(l:List (Nat×J)),look (j6 i l) j=look l j
 | []=>rfl| (k,x)::l=>by
   show look (bif Nat.beq k i then j6 i l else (k,x)::j6 i l) j=bif Nat.beq k j then some x else look l j;cases hk:Nat.beq k i
   .show (bif Nat.beq k j then some x else look (j6 i l) j)=_;rw[uy h l]
   .have:=fH hk;subst this;rw[RO (Ne.symm h)];exact uy h l
theorem nI (l:List (Nat×J))(i:Nat)(x:J):look ((i,x)::l) i=some x:=by show (bif Nat.beq i i then some x else look l i)=_;rw[yO];rfl
theorem kH (l:List (Nat×J)){i j:Nat}(x:J)(h:j≠i):look ((i,x)::l) j=look l j:=by show (bif Nat.beq i j then some x else look l j)=_;rw[RO (Ne.symm h)];rfl
end look
section
variable {R:kE}{E:Env}
theorem afR {C C':bA}{top top':Nat->Nat}:∀(t:Ty)(x:Den R.T t)(v:V),aA R C top (Ar R .any t x) v->aA R C' top' (Ar R .any t x) v
 |.int _,_,_,h=>h|.bool,_,_,h=>h|.str,_,_,h=>h|.slice _,_,_,h=>h|.st _,_,_,h=>h
theorem CG {C C':bA}{top top':Nat->Nat}:∀(l:List Ty)(p:qj R.T l)(vs:List V),aF R C top (l9 R .any l p) vs->aF R C' top' (l9 R .any l p) vs
 | [],_,_,h=>h| [t],x,vs,h=>by obtain⟨v,l,rfl,h1,h2⟩:=h.fB;rw[h2.iL];exact .cons' (afR t x v h1) rfl
 |t::u::l,p,vs,h=>by obtain⟨v,ws,rfl,h1,h2⟩:=h.fB;exact .cons' (afR t p.1 v h1) (CG (u::l) p.2 ws h2)
theorem aqo {C C':bA}{top top':Nat->Nat}{t:Ty}{x:Den R.T t}{vs:List V}(h:aF R C top (iI R .any t x).cells vs):aF R C' top' (iI R .any t x).cells vs:=by
 cases t with
 |st n=>exact CG _ _ _ h|int k=>exact CG [.int k] x vs h|bool=>exact CG [.bool] x vs h|str=>exact CG [.str] x vs h|slice t=>exact CG [.slice t] x vs h
theorem aF.split {C:bA}{top:Nat->Nat}:∀{ts ts':List (au R.T)}{vs:List V},aF R C top (ts++ts') vs->∃a b,vs=a++b/\aF R C top ts a/\aF R C top ts' b
 | [],_,vs,h=>⟨[],vs,rfl,rfl,h⟩|t::ts,ts',vs,h=>by obtain⟨v,ws,rfl,h1,h2⟩:=aF.fB (ts:=ts++ts') h;obtain⟨a,b,rfl,h3,h4⟩:=aF.split h2;exact⟨v::a,b,rfl,.cons' h1 h3,h4⟩
theorem zx {C C':bA}{top top':Nat->Nat}{t:Ty}:∀(l:List (Den R.T t))(vs:List V),aF R C top (l.flatMap fun x=>(iI R .any t x).cells) vs->aF R C' top' (l.flatMap fun x=>(iI R .any t x).cells) vs
 | [],vs,h=>h|x::l,vs,h=>by rw[lY] at h⊢;obtain⟨a,b,rfl,h1,h2⟩:=h.split;exact(aqo h1).append (zx l b h2)
def kg (fr:Fr)(C:bA)(top:Nat->Nat):au R.T->V->Prop
 |.opt j w y,v=>(fr.tm j= .bool w->aA R C top y v)/\(fr.tm j= .bool (!w)\/fr.tm j=aJ->v=aJ)|x,v=>aA R C top x v
theorem kg.of {fr:Fr}{C:bA}{top:Nat->Nat}{x:au R.T}{v:V}(h:aA R C top x v):kg fr C top x v:=by
 cases x<;>first|exact h|exact h.afL.elim
def gF (C:bA)(Z:ah)(o:Nat):bI R.T->Prop
 |.cells cs=>∃s l,C.ob o=some s/\Z.dK (C.aj.lc o) s=some l/\aF R C Z.top cs l|.map k e m=>∃s,C.ob o=some s/\Z.jh (C.aj.lc o) s=some (m.map fun p=>aO R k p.1,m.map fun p=>aO R e p.2)
 |.smap ks vs=>∃s k l,C.ob o=some s/\Z.jh (C.aj.lc o) s=some (k,l)/\aF R C Z.top ks k/\aF R C Z.top vs l|.arr t l=>l.length=C.ln o/\((l=[]/\C.ob o=none)\/∃s cs,C.ob o=some s/\Z.dK (C.aj.lc o) s=some cs/\aF R C Z.top (l.flatMap fun x=>(iI R .any t x).cells) cs)
 |.sg ss=>∃s,C.ob o=some s/\Z.dK (C.aj.lc o) s=some (dN ss)|.gone=>True|.ro b=>gF C Z o b
theorem gF.strip {C:bA}{Z:ah}{o:Nat}:∀{x:bI R.T},gF C Z o x->gF C Z o (Wu x)
 |.cells _,h=>h|.map _ _ _,h=>h|.smap _ _,h=>h|.arr _ _,h=>h|.sg _,h=>h|.gone,h=>h|.ro b,h=>gF.strip (x:=b) h
structure aT (C:bA)(b:Nat)(st:aM R.T)(fr:Fr)(Z:ah):Prop where
 d:fr.d=C.aj.dp
 aj:fr.aj=C.aj.aj
 fr:∀i v,look st.fr i=some v->kg fr C Z.top v (fr.tm i)
 ob:∀o x,look st.ob o=some x->gF C Z o x
 inj:∀t u s,C.tk t=some s->C.tk u=some s->t=u
 lt:∀t s,C.tk t=some s->s<b
 ge:∀t s,C.tk t=some s->C.aj.lo<=s
 nx:C.aj.lo<=b
variable {C:bA}{b:Nat}{st:aM R.T}{fr:Fr}{Z:ah}
theorem aT.le {b':Nat}(h:aT C b st fr Z)(hb:b<=b'):aT C b' st fr Z:={h with lt:=fun t s ht=>lW (h.lt t s ht) hb,nx:=eO h.nx hb}
theorem gF.bump {o k:Nat}:∀{x:bI R.T},gF C Z o x->gF C (Z.bump k) o x
 |.cells _,h=>h|.map _ _ _,h=>h|.smap _ _,h=>h|.arr _ _,h=>h|.sg _,h=>h|.gone,h=>h|.ro b,h=>gF.bump (x:=b) h
theorem aT.next (h:aT C b st fr Z)(k:Nat):aT C b st fr (Z.bump k):={h with fr:=h.fr,ob:=fun o x hx=>(h.ob o x hx).bump}
theorem aT.rd (h:aT C b st fr Z){o:Nat}{x:bI R.T}(hx:oK st o=some x):gF C Z o x:=by
 unfold oK at hx;split at hx
 .rename_i y hy;cases hx;exact(h.ob _ _ hy).strip
 .cases hx
theorem aqp {C:bA}{top:Nat->Nat}{x:au R.T}{u v:V}{i:Nat}(h:kg fr C top x v):kg (fr.set i u) C top (Ws i x) v:=by
 cases x with
 |opt j w y=>
  show kg _ _ _ (bif Nat.beq j i then .gone else .opt j w y) v;cases hj:Nat.beq j i
  .have hs:(fr.set i u).tm j=fr.tm j:=LP _ _ (by simpa using Xf hj);exact⟨fun hc=>h.1 (by rw[<-hs];exact hc),fun hc=>h.2 (by rw[<-hs];exact hc)⟩
  .exact kg.of (x:=.gone) (by unfold aA;trivial)
 |_=>exact h
theorem aT.put (h:aT C b st fr Z)(i:Nat){x:au R.T}{v:V}(hx:kg (fr.set i v) C Z.top x v):aT C b (st.put i x) (fr.set i v) Z where
 d:=h.d
 aj:=h.aj
 ob:=h.ob
 inj:=h.inj
 lt:=h.lt
 ge:=h.ge
 nx:=h.nx
 fr:=fun j y hy=>by
  by_cases e:j=i
  .subst e;have hy':some x=some y:=KI
   cases hy';rw[afh];exact hx
  .have hy':look (oJ (Ws i) (j6 i st.fr)) j=some y:=KJ
   rw[wX,uy e,aW] at hy';obtain⟨z,hz,rfl⟩:=hy';rw[LP _ _ (by simpa using e)];exact aqp (h.fr j z hz)
theorem aT.gZ (h:aT C b st fr Z)(d:Option Nat){x:au R.T}{v:V}(hx:aA R C Z.top x v):aT C b (st.gZ d x) (fr.put d v) Z:=by
 cases d with
 |none=>exact h|some i=>exact h.put i (.of hx)
theorem aqr {C:bA}{top:Nat->Nat}{x:au R.T}{v:V}{i:Nat}{c:Bool}(hi:fr.tm i= .bool c)(h:kg fr C top x v):kg fr C top (Wt i c x) v:=by
 cases x with
 |opt j w y=>
  show kg _ _ _ (bif Nat.beq j i then (bif (c==w) then y else .undef) else .opt j w y) v;cases hj:Nat.beq j i
  .exact h
  .have:=fH hj;subst this;by_cases e:c=w
   .subst e;rw[beq_self_eq_true];exact kg.of (h.1 hi)
   .rw[show (c==w)=false by simpa using e];have e':c= !w:=(by cases c<;>cases w<;>first|rfl|exact absurd rfl e);have h':=h.2 (.inl (by rw[hi,e']));subst h';exact kg.of (x:=.undef) fV
 |_=>exact h
theorem aT.learn (h:aT C b st fr Z){i:Nat}{c:Bool}(hc:fr.tm i= .bool c):aT C b (st.learn i c) fr Z where
 d:=h.d
 aj:=h.aj
 ob:=h.ob
 inj:=h.inj
 lt:=h.lt
 ge:=h.ge
 nx:=h.nx
 fr:=fun j y hy=>by
  by_cases e:j=i
  .subst e;have hy':some (au.jy c)=some y:=KI
   cases hy';exact kg.of (x:=.jy c) (by unfold aA;exact hc)
  .have hy':look (oJ (Wt i c) (j6 i st.fr)) j=some y:=KJ
   rw[wX,uy e,aW] at hy';obtain⟨z,hz,rfl⟩:=hy';exact aqr hc (h.fr j z hz)
def bA.nP (C:bA)(o s:Nat):bA:={C with ob:=upd C.ob o (some s)}
def bA.jJ (C:bA)(t s:Nat):bA:={C with tk:=upd C.tk t (some s)}
theorem afS {C':bA}{top:Nat->Nat}{o:Nat}{x:au R.T}{v:V}(ho:∀p,p≠o->C'.ob p=C.ob p/\C'.ln p=C.ln p)(ht:C'.tk=C.tk)(hx:C'.aj=C.aj)(h:kg fr C top x v):kg fr C' top (EK o x) v:=by
 unfold EK;cases hm:nU o x
 .cases x with
  |opt j w y=>exact⟨fun hc=>aA.kill o ho ht hx y v hm (h.1 hc),h.2⟩
  |_=>exact kg.of (aA.kill o ho ht hx _ v hm h)
 .exact kg.of (x:=.gone) (by unfold aA;trivial)
theorem Xg (c:eG){o p:Nat}(h:p≠o):ru (c.lc p) (c.lc o)=false:=by
 cases e:ru (c.lc p) (c.lc o)
 .rfl
 .unfold ru at e;rw[aZ,beq_iff_eq,beq_iff_eq] at e;exact absurd (Prod.ext e.2 e.1) (c.afJ h)
theorem Gd {c:eG}{o p:Nat}(Z:ah)(s s':Nat)(x:jZ)(h:p≠o):(Z.setObj (c.lc o) s' x).dK (c.lc p) s=Z.dK (c.lc p) s:=EC Z s s' x (Xg c h)
theorem Iz {c:eG}{o p:Nat}(Z:ah)(s s':Nat)(x:jZ)(h:p≠o):(Z.setObj (c.lc o) s' x).jh (c.lc p) s=Z.jh (c.lc p) s:=afl Z s s' x (Xg c h)
theorem aF.EL {C':bA}{top:Nat->Nat}{o:Nat}(ho:∀p,p≠o->C'.ob p=C.ob p/\C'.ln p=C.ln p)(ht:C'.tk=C.tk)(hx:C'.aj=C.aj):∀{cs:List (au R.T)}{l:List V},aF R C top cs l->aF R C' top (EL o cs) l
 | [],_,h=>h|x::cs,_,h=>by
  obtain⟨v,ws,rfl,h1,h2⟩:=h.fB;refine .cons' ?_ (aF.EL ho ht hx h2);unfold EK;cases hm:nU o x
  .exact aA.kill o ho ht hx x v hm h1
  .unfold aA;trivial
theorem afT {C':bA}{o p s':Nat}{a:jZ}(hp:p≠o)(ho:∀p,p≠o->C'.ob p=C.ob p/\C'.ln p=C.ln p)(ht:C'.tk=C.tk)(hx:C'.aj=C.aj):∀{x:bI R.T},bI.nU o x=false->gF C Z p x->gF C' (Z.setObj (C.aj.lc o) s' a) p x
 |.cells cs,hm,h=>by obtain⟨s,l,h1,h2,h3⟩:=h;exact⟨s,l,((ho p hp).1.trans h1),PU,aF.kill o ho ht hx _ _ hm h3⟩
 |.map k e m,_,h=>by obtain⟨s,h1,h2⟩:=h;exact⟨s,((ho p hp).1.trans h1),by rw[hx,Iz _ _ _ _ hp];exact h2⟩
 |.smap ks vs,hm,h=>by obtain⟨s,k,l,h1,h2,h3,h4⟩:=h;have hm':(ql o ks||ql o vs)=false:=hm;rw[tJ] at hm';exact⟨s,k,l,((ho p hp).1.trans h1),by rw[hx,Iz _ _ _ _ hp];exact h2,aF.kill o ho ht hx _ _ hm'.1 h3,aF.kill o ho ht hx _ _ hm'.2 h4⟩
 |.arr t l,hm,h=>by
  refine⟨h.1.trans (ho p hp).2.symm,?_⟩;rcases h.2 with h| ⟨s,cs,h1,h2,h3⟩
  .exact .inl ⟨h.1,(ho p hp).1.trans h.2⟩
  .exact .inr ⟨s,cs,((ho p hp).1.trans h1),PU,zx l cs h3⟩
 |.sg ss,_,h=>by obtain⟨s,h1,h2⟩:=h;exact⟨s,((ho p hp).1.trans h1),PU⟩
 |.gone,_,_=>trivial|.ro b,hm,h=>afT hp ho ht hx (x:=b) hm h
theorem aqs {C':bA}{o p s':Nat}{a:jZ}{x:bI R.T}(hp:p≠o)(ho:∀p,p≠o->C'.ob p=C.ob p/\C'.ln p=C.ln p)(ht:C'.tk=C.tk)(hx:C'.aj=C.aj)(h:gF C Z p x):gF C' (Z.setObj (C.aj.lc o) s' a) p (bI.kill o x):=by
 by_cases hc:∃cs,x= .cells cs
 .obtain⟨cs,rfl⟩:=hc;obtain⟨s,l,h1,h2,h3⟩:=h;exact⟨s,l,((ho p hp).1.trans h1),PU,aF.EL ho ht hx h3⟩
 .have e:bI.kill o x=bif bI.nU o x then .gone else x:=by cases x<;>first|rfl|exact absurd ⟨_,rfl⟩ hc
  rw[e];cases hm:bI.nU o x
  .exact afT hp ho ht hx hm h
  .trivial
theorem afU {o p s:Nat}{a:jZ}(hp:p≠o):∀{x:bI R.T},gF C Z p x->gF C (Z.setObj (C.aj.lc o) s a) p x
 |.cells cs,h=>by obtain⟨s,l,h1,h2,h3⟩:=h;exact⟨s,l,h1,by rw[Gd _ _ _ _ hp];exact h2,h3⟩
 |.map k e m,h=>by obtain⟨s,h1,h2⟩:=h;exact⟨s,h1,by rw[Iz _ _ _ _ hp];exact h2⟩
 |.smap ks vs,h=>by obtain⟨s,k,l,h1,h2,h3⟩:=h;exact⟨s,k,l,h1,by rw[Iz _ _ _ _ hp];exact h2,h3⟩
 |.arr t l,h=>by
  refine⟨h.1,?_⟩;rcases h.2 with h| ⟨s,cs,h1,h2,h3⟩
  .exact .inl h
  .exact .inr ⟨s,cs,h1,by rw[Gd _ _ _ _ hp];exact h2,h3⟩
 |.sg ss,h=>by obtain⟨s,h1,h2⟩:=h;exact⟨s,h1,by rw[Gd _ _ _ _ hp];exact h2⟩
 |.gone,_=>trivial|.ro b,h=>afU hp (x:=b) h
theorem afV {o t s n:Nat}(key:∀u s',u≠t->C.tk u=some s'->(C.jJ t s).tk u=some s'/\(Z.dY s n).top s'=Z.top s'):∀{x:bI R.T},gF C Z o x->gF (C.jJ t s) (Z.dY s n) o (bI.wk t x)
 |.cells cs,h=>by obtain⟨s',l,h1,h2,h3⟩:=h;exact⟨s',l,h1,h2,aF.wk (C:=C) (C':=C.jJ t s) (top:=Z.top) (top':=(Z.dY s n).top) t ⟨rfl,rfl,rfl⟩ key _ _ h3⟩
 |.map k e m,h=>h|.smap ks vs,h=>by obtain⟨s',k,l,h1,h2,h3,h4⟩:=h;exact⟨s',k,l,h1,h2,aF.wk (C:=C) (C':=C.jJ t s) (top:=Z.top) (top':=(Z.dY s n).top) t ⟨rfl,rfl,rfl⟩ key _ _ h3,aF.wk (C:=C) (C':=C.jJ t s) (top:=Z.top) (top':=(Z.dY s n).top) t ⟨rfl,rfl,rfl⟩ key _ _ h4⟩
 |.arr ty l,h=>by
  refine⟨h.1,?_⟩;rcases h.2 with h| ⟨s,cs,h1,h2,h3⟩
  .exact .inl h
  .exact .inr ⟨s,cs,h1,h2,zx l cs h3⟩
 |.sg ss,h=>h|.gone,_=>trivial|.ro b,h=>afV key (x:=b) h
theorem IB {o s:Nat}:∀p,p≠o->(C.nP o s).ob p=C.ob p/\(C.nP o s).ln p=C.ln p:=fun p h=>⟨by simp[bA.nP,upd,h],rfl⟩
def bA.E5 (C:bA)(o n:Nat):bA:={C with ln:=upd C.ln o n}
theorem afW {o n:Nat}:∀p,p≠o->(C.E5 o n).ob p=C.ob p/\(C.E5 o n).ln p=C.ln p:=fun p h=>⟨rfl,by simp[bA.E5,upd,h]⟩
def bA.gh (C:bA)(o:Nat):bA:={C.E5 o 0 with ob:=upd C.ob o none}
theorem zy {o:Nat}:∀p,p≠o->(C.gh o).ob p=C.ob p/\(C.gh o).ln p=C.ln p:=fun p h=>⟨by simp[bA.gh,upd,h],(afW (C:=C) (n:=0) p h).2⟩
theorem CJ {o n:Nat}:(C.E5 o n).ln o=n:=by simp[bA.E5,upd]
def bA.AL (C:bA)(o s n:Nat):bA:=(C.nP o s).E5 o n
theorem Xh {o s n:Nat}:∀p,p≠o->(C.AL o s n).ob p=C.ob p/\(C.AL o s n).ln p=C.ln p:=fun p h=>⟨(IB p h).1,(afW p h).2⟩
theorem Ae {o s:Nat}:(C.nP o s).ob o=some s:=by simp[bA.nP,upd]
theorem aT.new' {C':bA}(h:aT C b st fr Z)(o s:Nat){x:bI R.T}{a:jZ}(IB:∀p,p≠o->C'.ob p=C.ob p/\C'.ln p=C.ln p)(ht:C'.tk=C.tk)(bO:C'.aj=C.aj)(hx:gF C' (Z.setObj (C.aj.lc o) s a) o x):aT C' b (st.new o x) fr (Z.setObj (C.aj.lc o) s a) where
 d:=by rw[bO];exact h.d
 aj:=by rw[bO];exact h.aj
 fr:=fun j y hy=>by have hy':look (oJ (EK o) st.fr) j=some y:=hy;rw[wX,aW] at hy';obtain⟨z,hz,rfl⟩:=hy';exact afS IB ht bO (h.fr j z hz)
 ob:=fun p y hy=>by
  by_cases e:p=o
  .subst e;have hy':some x=some y:=KI
   cases hy';exact hx
  .have hy':look (oJ (bI.kill o) (j6 o st.ob)) p=some y:=KJ
   rw[wX,uy e,aW] at hy';obtain⟨z,hz,rfl⟩:=hy';exact aqs e IB ht bO (h.ob p z hz)
 inj:=by rw[ht];exact h.inj
 lt:=by rw[ht];exact h.lt
 ge:=by rw[ht,bO];exact h.ge
 nx:=by rw[bO];exact h.nx
theorem aT.new (h:aT C b st fr Z)(o s:Nat){x:bI R.T}{a:jZ}(hx:gF (C.nP o s) (Z.setObj (C.aj.lc o) s a) o x):aT (C.nP o s) b (st.new o x) fr (Z.setObj (C.aj.lc o) s a):=h.new' o s IB rfl rfl hx
theorem aT.Mr (h:aT C b st fr Z)(o s n:Nat){x:bI R.T}{a:jZ}(hx:gF (C.AL o s n) (Z.setObj (C.aj.lc o) s a) o x):aT (C.AL o s n) b (st.new o x) fr (Z.setObj (C.aj.lc o) s a):=h.new' o s Xh rfl rfl hx
theorem afX {C':bA}{o p:Nat}(hp:p≠o)(ho:∀p,p≠o->C'.ob p=C.ob p/\C'.ln p=C.ln p)(ht:C'.tk=C.tk)(hx:C'.aj=C.aj):∀{x:bI R.T},bI.nU o x=false->gF C Z p x->gF C' Z p x
 |.cells cs,hm,h=>by obtain⟨s,l,h1,h2,h3⟩:=h;exact⟨s,l,((ho p hp).1.trans h1),KG,aF.kill o ho ht hx _ _ hm h3⟩
 |.map k e m,_,h=>by obtain⟨s,h1,h2⟩:=h;exact⟨s,((ho p hp).1.trans h1),KG⟩
 |.smap ks vs,hm,h=>by obtain⟨s,k,l,h1,h2,h3,h4⟩:=h;have hm':(ql o ks||ql o vs)=false:=hm;rw[tJ] at hm';exact⟨s,k,l,((ho p hp).1.trans h1),KG,aF.kill o ho ht hx _ _ hm'.1 h3,aF.kill o ho ht hx _ _ hm'.2 h4⟩
 |.arr t l,hm,h=>by
  refine⟨h.1.trans (ho p hp).2.symm,?_⟩;rcases h.2 with h| ⟨s,cs,h1,h2,h3⟩
  .exact .inl ⟨h.1,(ho p hp).1.trans h.2⟩
  .exact .inr ⟨s,cs,((ho p hp).1.trans h1),KG,zx l cs h3⟩
 |.sg ss,_,h=>by obtain⟨s,h1,h2⟩:=h;exact⟨s,((ho p hp).1.trans h1),KG⟩
 |.gone,_,_=>trivial|.ro b,hm,h=>afX hp ho ht hx (x:=b) hm h
theorem aT.ghost (h:aT C b st fr Z)(o:Nat)(t:Ty):aT (C.gh o) b (st.new o (.arr t [])) fr Z where
 d:=h.d
 aj:=h.aj
 fr:=fun j y hy=>by have hy':look (oJ (EK o) st.fr) j=some y:=hy;rw[wX,aW] at hy';obtain⟨z,hz,rfl⟩:=hy';exact afS zy rfl rfl (h.fr j z hz)
 ob:=fun p y hy=>by
  by_cases e:p=o
  .subst e;have hy':some (bI.arr t ([]:List (Den R.T t)))=some y:=KI
   cases hy';exact⟨(CJ (C:=C) (n:=0)).symm,.inl ⟨rfl,by simp[bA.gh,upd]⟩⟩
  .have hy':look (oJ (bI.kill o) (j6 o st.ob)) p=some y:=KJ
   rw[wX,uy e,aW] at hy';obtain⟨z,hz,rfl⟩:=hy';by_cases hc:∃cs,z= .cells cs
   .obtain⟨cs,rfl⟩:=hc;obtain⟨s,l,h1,h2,h3⟩:=h.ob p _ hz;exact⟨s,l,((zy (C:=C) p e).1.trans h1),h2,aF.EL zy rfl rfl h3⟩
   .have e2:bI.kill o z=bif bI.nU o z then .gone else z:=(by cases z<;>first|rfl|exact absurd ⟨_,rfl⟩ hc);rw[e2];cases hm:bI.nU o z
    .exact afX e zy rfl rfl hm (h.ob p z hz)
    .trivial
 inj:=h.inj
 lt:=h.lt
 ge:=h.ge
 nx:=h.nx
theorem afY {c:eG}{o p:Nat}(Z:ah)(h:p≠o):(Z.j3 (c.lc o)).obj (c.lc p)=Z.obj (c.lc p):=by unfold ah.j3 upd;dsimp only;rw[if_neg (c.afJ h)]
theorem afZ {Z':ah}{p:Nat}(hp:Z'.obj (C.aj.lc p)=Z.obj (C.aj.lc p))(ht:Z'.top=Z.top):∀{x:bI R.T},gF C Z p x->gF C Z' p x
 |.cells cs,h=>by obtain⟨s,l,h1,h2,h3⟩:=h;exact⟨s,l,h1,Ga,by rw[ht];exact h3⟩
 |.map k e m,h=>by obtain⟨s,h1,h2⟩:=h;exact⟨s,h1,PK⟩
 |.smap ks vs,h=>by obtain⟨s,k,l,h1,h2,h3,h4⟩:=h;exact⟨s,k,l,h1,PK,by rw[ht];exact h3,by rw[ht];exact h4⟩
 |.arr t l,h=>by
  refine⟨h.1,?_⟩;rcases h.2 with h| ⟨s,cs,h1,h2,h3⟩
  .exact .inl h
  .exact .inr ⟨s,cs,h1,Ga,zx l cs h3⟩
 |.sg ss,h=>by obtain⟨s,h1,h2⟩:=h;exact⟨s,h1,Ga⟩
 |.gone,_=>trivial|.ro b,h=>afZ hp ht (x:=b) h
theorem aT.del (h:aT C b st fr Z)(o:Nat):aT C b (st.del o) fr (Z.j3 (C.aj.lc o)) where
 d:=h.d
 aj:=h.aj
 fr:=h.fr
 ob:=fun p y hy=>by
  by_cases e:p=o
  .subst e;have:look (j6 p st.ob) p=some y:=hy;have key:∀l:List (Nat×bI R.T),look (j6 p l) p=none:=by
    intro l;induction l with
    |nil=>rfl|cons q l ih=>
     obtain⟨j,x⟩:=q;unfold j6;cases hj:Nat.beq j p
     .show (bif Nat.beq j p then some x else look (j6 p l) p)=none;rw[hj];exact ih
     .exact ih
   rw[key] at this;cases this
  .have hy':look (j6 o st.ob) p=some y:=hy;rw[uy e] at hy';exact afZ (afY Z e) rfl (h.ob p y hy')
 inj:=h.inj
 lt:=h.lt
 ge:=h.ge
 nx:=h.nx
theorem aT.set (h:aT C b st fr Z)(o s:Nat){x:bI R.T}{a:jZ}(hx:gF C (Z.setObj (C.aj.lc o) s a) o x):aT C b (st.set o x) fr (Z.setObj (C.aj.lc o) s a) where
 d:=h.d
 aj:=h.aj
 fr:=h.fr
 ob:=fun p y hy=>by
  by_cases e:p=o
  .subst e;have hy':some x=some y:=KI
   cases hy';exact hx
  .have hy':look (j6 o st.ob) p=some y:=KJ
   rw[uy e] at hy';exact afU e (h.ob p y hy')
 inj:=h.inj
 lt:=h.lt
 ge:=h.ge
 nx:=h.nx
theorem aT.wk (h:aT C b st fr Z)(t s n:Nat){b':Nat}(hb:b<=b')(hs:s<b')(hl:C.aj.lo<=s)(hf:∀u,u≠t->C.tk u≠some s):aT (C.jJ t s) b' (st.wk t) fr (Z.dY s n) where
 d:=h.d
 aj:=h.aj
 fr:=fun j y hy=>by
  have hy':look (oJ (aR.wk t) st.fr) j=some y:=hy;rw[wX,aW] at hy';obtain⟨z,hz,rfl⟩:=hy';have hz':=h.fr j z hz;have key:∀u s',u≠t->C.tk u=some s'->(C.jJ t s).tk u=some s'/\(Z.dY s n).top s'=Z.top s':=fun u s' hu hs'=>
   ⟨by simp[bA.jJ,upd,hu,hs'],QW _ _ fun e=>hf u hu (by rw[hs',e])⟩
  cases z with
  |opt j' w y=>exact⟨fun hc=>aA.wk (C:=C) (C':=C.jJ t s) (top:=Z.top) (top':=(Z.dY s n).top) t ⟨rfl,rfl,rfl⟩ key y _ (hz'.1 hc),hz'.2⟩
  |_=>exact kg.of (aA.wk (C:=C) (C':=C.jJ t s) (top:=Z.top) (top':=(Z.dY s n).top) t ⟨rfl,rfl,rfl⟩ key _ _ hz')
 ob:=fun p y hy=>by
  have hy':look (oJ (bI.wk t) st.ob) p=some y:=hy;rw[wX,aW] at hy';obtain⟨z,hz,rfl⟩:=hy';have hz':=h.ob p z hz;have key:∀u s',u≠t->C.tk u=some s'->(C.jJ t s).tk u=some s'/\(Z.dY s n).top s'=Z.top s':=fun u s' hu hs'=>
   ⟨by simp[bA.jJ,upd,hu,hs'],QW _ _ fun e=>hf u hu (by rw[hs',e])⟩
  exact afV key hz'
 inj:=fun u v s' hu hv=>by
  by_cases e1:u=t<;>by_cases e2:v=t
  .rw[e1,e2]
  .simp[bA.jJ,upd,e1] at hu;simp[bA.jJ,upd,e2] at hv;exact absurd (hu▸hv) (hf v e2)
  .simp[bA.jJ,upd,e1] at hu;simp[bA.jJ,upd,e2] at hv;exact absurd (hv▸hu) (hf u e1)
  .simp[bA.jJ,upd,e1] at hu;simp[bA.jJ,upd,e2] at hv;exact h.inj u v s' hu hv
 lt:=fun u s' hu=>by
  by_cases e1:u=t
  .simp[bA.jJ,upd,e1] at hu;omega
  .simp[bA.jJ,upd,e1] at hu;exact lW (h.lt u s' hu) hb
 ge:=fun u s' hu=>by
  by_cases e1:u=t
  .simp[bA.jJ,upd,e1] at hu;rw[<-hu];exact hl
  .simp[bA.jJ,upd,e1] at hu;exact h.ge u s' hu
 nx:=eO h.nx hb
theorem af0 {top:Nat->Nat}{x:au R.T}{v:Value}(h:EM v=some x):∃y,kV v=some y/\aA R C top x y:=by unfold EM at h;split at h<;>cases h<;>exact⟨_,rfl,fV⟩
theorem af2 {top:Nat->Nat}:∀{vs:List Value}{l:List (au R.T)},Hr vs=some l->∃y,vs.mapM kV=some y/\aF R C top l y
 | [],l,h=>by cases h;exact⟨[],rfl,rfl⟩|v::vs,l,h=>by
  unfold Hr at h;cases h1:(EM v:Option (au R.T)) with
  |none=>simp only[h1] at h;cases h|some a=>
   cases h2:(Hr vs:Option (List (au R.T))) with
   |none=>simp only[h1,h2] at h;cases h|some cB=>simp only[h1,h2] at h;cases h;obtain⟨y,hy,hr⟩:=af0 (C:=C) (top:=top) h1;obtain⟨ys,hys,hrs⟩:=af2 h2;exact⟨y::ys,by simp[hy,hys],.cons' hr hrs⟩
theorem af3 {top:Nat->Nat}{x:au R.T}{v:Value}(h:Ht v=some x):∃y,ofValue v=some y/\aA R C top x y:=by
 unfold Ht at h;split at h
 .rename_i cs;cases h2:(Hr cs.toList:Option (List (au R.T))) with
  |none=>simp only[h2] at h;cases h|some l=>simp only[h2] at h;cases h;obtain⟨ys,hys,hrs⟩:=af2 (C:=C) (top:=top) h2;exact⟨.agg ys,by simp[ofValue,hys],by unfold aA;exact⟨_,rfl,hrs⟩⟩
 .obtain⟨y,hy,hr⟩:=af0 (C:=C) (top:=top) h;refine⟨y,?_,hr⟩;unfold EM at h;split at h<;>first|exact hy|cases h
def sK (fr:Fr)(g:List (Nat×Bool)):Prop:=∀j u,look g j=some u->fr.tm j= .bool u
theorem sK.nil:sK fr []:=fun _ _ h=>bU
theorem sK.cons {g:List (Nat×Bool)}{j:Nat}{u:Bool}(h:fr.tm j= .bool u)(hg:sK fr g):sK fr ((j,u)::g):=fun i v hi=>by
 by_cases e:i=j
 .subst e;rw[nI] at hi;cases hi;exact h
 .rw[kH _ _ e] at hi;exact hg i v hi
theorem aqt {fr:Fr}{top:Nat->Nat}{g:List (Nat×Bool)}(hg:sK fr g){y x:au R.T}{v:V}(hy:kg fr C top y v)(he:Ra g y=some x):aA R C top x v:=by
 cases y with
 |opt j w z=>
  unfold Ra at he;dsimp only at he;split at he
  .rename_i u hu;cases he;have:=hg j u hu;by_cases e:u=w
   .subst e;rw[beq_self_eq_true];exact hy.1 this
   .rw[show (u==w)=false by simpa using e];have e':u= !w:=(by cases u<;>cases w<;>first|rfl|exact absurd rfl e);unfold aA;exact hy.2 (.inl (by rw[this,e']))
  .cases he
 |_=>cases he;exact hy
theorem bM (h:aT C b st fr Z){g:List (Nat×Bool)}(hg:sK fr g){o:Operand}{x:au R.T}(he:cu g st o=some x):aA R C Z.top x (fr.ev E o):=by
 cases o with
 |tmp t=>
  rw[Hf];unfold cu at he;dsimp only at he;split at he
  .rename_i v hv;exact aqt hg (h.fr _ _ hv) he
  .cases he
 |const v=>rw[afi];obtain⟨y,hy,hr⟩:=af3 (C:=C) (top:=Z.top) (show Ht v=some x from he);rw[hy];exact hr
 |func f=>cases he;rw[afj];unfold aA;exact⟨[],[],rfl,rfl,rfl⟩|global i=>cases he
theorem zA (h:aT C b st fr Z){g:List (Nat×Bool)}(hg:sK fr g):∀{l:List Operand}{xs:List (au R.T)},qJ g st l=some xs->aF R C Z.top xs (l.map (fr.ev E))
 | [],xs,he=>by cases he;rfl|o::l,xs,he=>by
  unfold qJ at he;cases h1:cu g st o with
  |none=>simp only[h1] at he;cases he|some a=>
   cases h2:qJ g st l with
   |none=>simp only[h1,h2] at he;cases he|some cB=>simp only[h1,h2] at he;cases he;exact .cons' (bM h hg h1) (zA h hg h2)
theorem Xi (h:aT C b st fr Z){g:List (Nat×Bool)}(hg:sK fr g):∀{l:List (Nat×Operand)}{xs:List (Nat×au R.T)},Hu g st l=some xs->xs.map (·.1)=l.map (·.1)/\aF R C Z.top (xs.map (·.2)) (l.map fun p=>fr.ev E p.2)
 | [],xs,he=>by cases he;exact⟨rfl,rfl⟩| (i,o)::l,xs,he=>by
   unfold Hu at he;cases h1:cu g st o with
   |none=>simp only[h1] at he;cases he|some a=>
    cases h2:Hu g st l with
    |none=>simp only[h1,h2] at he;cases he|some cB=>simp only[h1,h2] at he;cases he;obtain⟨e1,e2⟩:=Xi h hg h2;exact⟨by simp[e1],.cons' (bM h hg h1) e2⟩
end
theorem aqu {n m:Nat}{v:Vec n}{w:Vec m}(h:Q6 v=some w):n=m/\HEq v w:=by
 unfold Q6 at h;split at h
 .rename_i e;subst e;cases h;exact⟨rfl,HEq.rfl⟩
 .cases h
theorem af4:∀{k:kY}{s:bS}{x:Hg k},Hl k s=some x->LX k x=s
 |.i k,.i k' y,x,h=>by
  have h':(if k'=k then some y else none)=some (x:Int):=h;by_cases e:k'=k
  .subst e;rw[if_pos rfl] at h';cases h';rfl
  .rw[if_neg e] at h';cases h'
 |.a k n,.a k' n' v,x,h=>by
  have h':(if k'=k then Q6 (m:=n) v else none)=some (x:Vec n):=h;by_cases e:k'=k
  .subst e;rw[if_pos rfl] at h';obtain⟨e1,e2⟩:=aqu h';subst e1;cases e2;rfl
  .rw[if_neg e] at h';cases h'
 |.i k,.a _ _ _,x,h=>bU|.a k n,.i _ _,x,h=>bU
theorem RP:∀{l:List kY}{ss:List bS}{x:EF l},dx l ss=some x->yc l x=ss
 | [],ss,x,h=>by
   cases ss with
   |nil=>rfl|cons s ss=>cases h
 | [k],ss,x,h=>by
   cases ss with
   |nil=>cases h|cons s ss=>
    cases ss with
    |nil=>show [LX k x]=[s];rw[af4 (show Hl k s=some x from h)]|cons s' ss=>cases h
 |k::k'::l,ss,x,h=>by
  cases ss with
  |nil=>cases h|cons s ss=>
   have h':(match Hl k s with
    |some x=>match dx (k'::l) ss with
     |some p=>some (x,p)|none=>none
    |none=>none)=some x:=h
   cases hu:Hl k s with
   |none=>simp only[hu] at h';cases h'|some y=>
    cases hs:dx (k'::l) ss with
    |none=>simp only[hu,hs] at h';cases h'|some q=>simp only[hu,hs] at h';obtain rfl:=jW h';show LX k y::yc (k'::l) q=s::ss;rw[af4 hu,RP hs]
section
variable {R:kE}(hR:rG R)
variable {C:bA}{top:Nat->Nat}{b:Nat}{st:aM R.T}{fr:Fr}{Z:ah}
include hR
theorem E8 {t:Ty}{x:Den R.T t}{tv:au R.T}{v:V}(h:tZ R t tv=some x)(hr:aA R C top tv v):aA R C top (Ar R .any t x) v:=by
 cases t with
 |int k=>rw[W9 h hr];unfold aA;rfl|bool=>rw[Xa h hr];unfold aA;rfl|str=>rw[Xb h hr];unfold aA;rfl|slice t=>obtain⟨c,hv⟩:=afP h hr;rw[hv];unfold aA;exact⟨c,rfl,trivial⟩
 |st n=>cases h
theorem af5:∀(l:List Ty)(p:qj R.T l)(cs:List (au R.T))(vs:List V),Ck R l cs=some p->aF R C top cs vs->aF R C top (l9 R .any l p) vs
 | [],p,cs,vs,h,hr=>by
   cases cs with
   |nil=>rw[hr.iL];rfl|cons c cs=>cases h
 | [t],p,cs,vs,h,hr=>by
   have h':tZ R t (hd1 R cs)=some p:=h;cases cs with
   |nil=>cases t<;>cases h'|cons c cs=>
    cases cs with
    |nil=>obtain⟨v,l,rfl,h1,h2⟩:=hr.fB;rw[h2.iL];exact .cons' (E8 hR h' h1) rfl
    |cons c' cs=>cases t<;>cases h'
 |t::u::l,p,cs,vs,h,hr=>by
  cases cs with
  |nil=>cases h|cons c cs=>
   obtain⟨v,vs,rfl,h1,h2⟩:=hr.fB;unfold Ck at h;cases hu:tZ R t c with
   |none=>simp only[hu] at h;cases h|some y=>
    cases hs:Ck R (u::l) cs with
    |none=>simp only[hu,hs] at h;cases h|some q=>simp only[hu,hs] at h;obtain rfl:=jW h;exact .cons' (E8 hR hu h1) (af5 (u::l) q cs vs hs h2)
theorem Ms {t:Ty}{x:Den R.T t}{tv:au R.T}{v:V}(h:uf R t tv=some x)(hr:aA R C top tv v):aA R C top (iI R .any t x) v:=by
 cases t with
 |st n=>
  change EJ R n tv=some x at h;unfold EJ at h;split at h
  .rename_i cs;split at h
   .rename_i p hp;obtain rfl:=jW h;obtain⟨l,hv,hl⟩:=hr.mh;subst hv;show aA R C top (.agg (l9 R .any (R.lf n) (R.of n (R.to n p)))) _;rw[hR.Ml];unfold aA;exact⟨l,rfl,af5 hR _ _ _ _ hp hl⟩
   .cases h
  .cases h
 |int k=>exact E8 hR (t:=.int k) h hr|bool=>exact E8 hR (t:=.bool) h hr|str=>exact E8 hR (t:=.str) h hr|slice t=>exact E8 hR (t:=.slice t) h hr
omit hR in
theorem af6 {sz n:Nat}{c c':Cp}{x:Cap}(h:Hz c c'=true)(hx:Iq C top sz n c x):Iq C top sz n c' x:=by
 cases c<;>cases c'<;>simp only[Hz,bZ] at h<;>first|trivial|exact hx|exact .inl hx|exact .inr (.inl hx)| (rw[<-fH h];exact hx)
omit hR in
theorem Xj {k e k' e':Ty}{m:List (Den R.T k'×Den R.T e')}{x:List (Den R.T k×Den R.T e)}(h:HV R m=some x):k'=k/\e'=e/\HEq m x:=by
 unfold HV at h;split at h
 .rename_i e;obtain⟨rfl,rfl⟩:=e;cases h;exact⟨rfl,rfl,HEq.rfl⟩
 .cases h
omit hR in
theorem af7 {c:Cp}{t:Ty}{x:List (Den R.T t)}{tv:au R.T}{v:V}(h:Rf R c t tv=some x)(hr:aA R C top tv v):aA R C top (.ak c t x) v:=by
 unfold Rf at h;split at h
 .rename_i c' t' l;cases hc:Hz c' c
  .rw[hc] at h;cases h
  .rw[hc,cond_true] at h;obtain⟨e,e2⟩:=vK h;subst e;cases e2;obtain⟨c'',hv,hcc⟩:=hr.mo;unfold aA;exact⟨c'',hv,af6 hc hcc⟩
 .cases hc:Hz .nil c
  .rw[hc] at h;cases h
  .rw[hc,cond_true] at h;cases h;unfold aA;exact⟨.nil,hr.uq,af6 hc rfl⟩
 .cases h
mutual
theorem Xk:∀(k:bR)(x:sw R.T k)(tv:au R.T)(v:V),pk R k tv=some x->aA R C top tv v->aA R C top (up R .any k x) v
 |.d t,x,tv,v,h,hr=>Ms hR (by unfold pk at h;exact h) hr|.l c t,x,tv,v,h,hr=>af7 (by unfold pk at h;exact h) hr|.agg l,x,tv,v,h,hr=>by
  cases tv<;>first| (exact absurd (show none=some x from h) aB)|skip
  rename_i cs;obtain⟨vs,rfl,hl⟩:=hr.mh;show aA R C top (.agg (jB R .any l x)) _;unfold aA;exact⟨vs,rfl,CK l x cs vs h hl⟩
 |.ref o off,x,tv,v,h,hr=>by
  cases tv<;>first| (exact absurd (show none=some x from h) aB)|skip
  rename_i p off';have h':(bif Nat.beq p o&& Nat.beq off' off then some () else none)=some x:=h;cases hb:(Nat.beq p o&& Nat.beq off' off)
  .rw[hb] at h';cases h'
  .rw[aZ] at hb;rw[fH hb.1,fH hb.2] at hr;exact hr
 |.aX l off,x,tv,v,h,hr=>by
  cases tv<;>first| (exact absurd (show none=some x from h) aB)|skip
  rename_i cs off';have h':(bif Nat.beq off' off then jl R l cs else none)=some x:=h;cases hb:Nat.beq off' off
  .rw[hb] at h';cases h'
  .rw[hb,cond_true] at h';rw[fH hb] at hr;obtain⟨vs,rfl,hl⟩:=hr.uw;show aA R C top (.aX (jB R .any l x) off) _;unfold aA;exact⟨vs,rfl,CK l x _ vs h' hl⟩
 |.dQ o,x,tv,v,h,hr=>by
  cases tv<;>first| (exact absurd (show none=some x from h) aB)|skip
  rename_i p;have h':(bif Nat.beq p o then some () else none)=some x:=h;cases hb:Nat.beq p o
  .rw[hb] at h';cases h'
  .rw[fH hb] at hr;exact hr
 |.eF k e,x,tv,v,h,hr=>by
  cases tv<;>first| (exact absurd (show none=some x from h) aB)|skip
  rename_i k' e' m;obtain⟨e1,e2,e3⟩:=Xj (show HV R m=some x from h);subst e1;subst e2;cases e3;exact hr
 |.fn f a b,x,tv,v,h,hr=>by
  cases tv<;>first| (exact absurd (show none=some x from h) aB)|skip
  rename_i f' a' b';have h':(bif Nat.beq f' f then (match jl R a a' with
   |some x=>match jl R b b' with
    |some y=>some (x,y)|none=>none
   |none=>none) else none)=some x:=h
  cases hb:Nat.beq f' f
  .rw[hb] at h';cases h'
  .rw[hb,cond_true] at h';rw[fH hb] at hr;obtain⟨va,vb,rfl,ha,hbb⟩:=hr.oO;cases h1:jl R a a' with
   |none=>simp only[h1] at h';cases h'|some y=>
    cases h2:jl R b b' with
    |none=>simp only[h1,h2] at h';cases h'|some z=>simp only[h1,h2] at h';cases h';show aA R C top (.fn f (jB R .any a y) (jB R .any b z)) _;unfold aA;exact⟨va,vb,rfl,CK a y _ va h1 ha,CK b z _ vb h2 hbb⟩
 |.fE,x,tv,v,h,hr=>by
  cases tv<;>first| (exact absurd (show none=some x from h) aB)|skip
  exact hr
 |.aU o t,x,tv,v,h,hr=>by
  cases tv<;>first| (exact absurd (show none=some x from h) aB)|skip
  rename_i p t';have h':(bif Nat.beq p o then (if t'=t then some () else none) else none)=some x:=h;cases hb:Nat.beq p o
  .rw[hb] at h';cases h'
  .rw[hb,cond_true] at h';split at h'
   .rename_i e;rw[fH hb,e] at hr;exact hr
   .cases h'
 |.sub o t,x,tv,v,h,hr=>by
  cases tv<;>first| (exact absurd (show none=some x from h) aB)|skip
  rename_i p t' a b;have h':(bif Nat.beq p o then (if t'=t then some (a,b) else none) else none)=some x:=h;cases hb:Nat.beq p o
  .rw[hb] at h';cases h'
  .rw[hb,cond_true] at h';split at h'
   .rename_i e;cases h';rw[fH hb,e] at hr;exact hr
   .cases h'
 |.sg l,x,tv,v,h,hr=>by
  cases tv<;>first| (exact absurd (show none=some x from h) aB)|skip
  rename_i ss;show aA R C top (.sg (yc l x)) v;rw[RP (show dx l ss=some x from h)];exact hr
 |.undef,x,tv,v,h,hr=>by
  cases tv<;>first| (exact absurd (show none=some x from h) aB)|skip
  exact hr
theorem CK:∀(l:List bR)(x:bB R.T l)(cs:List (au R.T))(vs:List V),jl R l cs=some x->aF R C top cs vs->aF R C top (jB R .any l x) vs
 | [],x,cs,vs,h,hr=>by
   cases cs with
   |nil=>rw[hr.iL];rfl|cons c cs=>exact absurd (show none=some x from h) aB
 | [k],x,cs,vs,h,hr=>by
   cases cs with
   |nil=>exact absurd (show none=some x from h) aB|cons c cs=>
    cases cs with
    |nil=>obtain⟨v,l,rfl,h1,h2⟩:=hr.fB;rw[h2.iL];show aF R C top [up R .any k x] _;exact .cons' (Xk k x _ v h h1) rfl
    |cons c' cs=>exact absurd (show none=some x from h) aB
 |k::k'::l,x,cs,vs,h,hr=>by
  cases cs with
  |nil=>exact absurd (show none=some x from h) aB|cons c cs=>
   have h':(match pk R k c with
    |some x=>match jl R (k'::l) cs with
     |some p=>some (x,p)|none=>none
    |none=>none)=some x:=h
   obtain⟨v,vs,rfl,h1,h2⟩:=hr.fB;cases hu:pk R k c with
   |none=>simp only[hu] at h';cases h'|some y=>
    cases hs:jl R (k'::l) cs with
    |none=>simp only[hu,hs] at h';cases h'|some q=>simp only[hu,hs] at h';obtain rfl:=jW h';show aF R C top (up R .any k y::jB R .any (k'::l) q) _;exact .cons' (Xk k y _ v hu h1) (CK (k'::l) q _ vs hs h2)
end
omit hR in
theorem aqv {k:bR}{j:Nat}{w:Bool}{y:au R.T}{x:sw R.T k}(h:pk R k (.opt j w y)=some x):False:=by
 cases k with
 |d t=>cases t<;>(unfold pk at h;cases h)|_=>unfold pk at h;cases h
theorem kg.pk {k:bR}{x:sw R.T k}{tv:au R.T}{v:V}(h:pk R k tv=some x)(hr:kg fr C top tv v):aA R C top (up R .any k x) v:=by
 cases tv<;>first|exact Xk hR _ _ _ _ h hr|exact(aqv h).elim
theorem Xl (h:aT C b st fr Z):∀(l:List (Nat×bR))(x:EH R.T l),vG R st.fr l=some x->∀i v,look (L8 R l x) i=some v->aA R C Z.top v (fr.tm i)
 | [],x,hx,i,v,hv=>Ec| [(j,k)],x,hx,i,v,hv=>by
   unfold vG at hx;split at hx
   .rename_i y hy;by_cases e:i=j
    .subst e;have hv':look [(i,up R .any k x)] i=some v:=hv;rw[nI] at hv';cases hv';exact kg.pk hR hx (h.fr _ _ hy)
    .have hv':look [(j,up R .any k x)] i=some v:=hv;rw[kH _ _ e] at hv';cases hv'
   .cases hx
 | (j,k)::q::l,x,hx,i,v,hv=>by
   unfold vG at hx;split at hx
   .rename_i y hy;cases hu:pk R k y with
    |none=>simp only[hu] at hx;cases hx|some z=>
     cases hs:vG R st.fr (q::l) with
     |none=>simp only[hu,hs] at hx;cases hx|some p=>
      simp only[hu,hs] at hx;obtain rfl:=jW hx;have hv':look ((j,up R .any k z)::L8 R (q::l) p) i=some v:=hv;by_cases e:i=j
      .subst e;rw[nI] at hv';cases hv';exact kg.pk hR hu (h.fr _ _ hy)
      .rw[kH _ _ e] at hv';exact Xl h (q::l) p hs i v hv'
   .cases hx
theorem RQ {o:Nat}{k:jA}{x:EG R.T k}{y:bI R.T}(hx:Cr R k y=some x)(hy:gF C Z o y):gF C Z o (oL R k x):=by
 cases k with
 |cells l=>
  cases y with
  |cells cs=>obtain⟨s,vs,h1,h2,h3⟩:=hy;exact⟨s,vs,h1,h2,CK hR l x _ vs hx h3⟩
  |map k e m=>cases hx|smap _ _=>cases hx|arr _ _=>cases hx|sg _=>cases hx|gone=>cases hx|ro b=>cases hx
 |st n=>
  cases y with
  |cells cs=>obtain⟨s,vs,h1,h2,h3⟩:=hy;obtain⟨l,e,hl⟩:=(Ms hR (t:=.st n) (show uf R (.st n) (.agg cs)=some x from hx) (v:=.agg vs) ⟨vs,rfl,h3⟩).mh;cases e;exact⟨s,vs,h1,h2,hl⟩
  |map k e m=>cases hx|smap _ _=>cases hx|arr _ _=>cases hx|sg _=>cases hx|gone=>cases hx|ro b=>cases hx
 |arr t=>
  cases y with
  |arr t' l=>obtain⟨e,e2⟩:=vK hx;subst e;cases e2;exact hy
  |cells cs=>cases hx|map _ _ _=>cases hx|smap _ _=>cases hx|sg _=>cases hx|gone=>cases hx|ro b=>cases hx
 |sg l=>
  cases y with
  |sg ss=>show gF C Z o (.sg (yc l x));rw[RP (show dx l ss=some x from hx)];exact hy|cells cs=>cases hx|map _ _ _=>cases hx|smap _ _=>cases hx|arr _ _=>cases hx|gone=>cases hx|ro b=>cases hx
 |map k e=>
  cases y with
  |map k' e' m=>obtain⟨e1,e2,e3⟩:=Xj hx;subst e1;subst e2;cases e3;exact hy
  |cells cs=>cases hx|smap _ _=>cases hx|arr _ _=>cases hx|sg _=>cases hx|gone=>cases hx|ro b=>cases hx
theorem af8 (h:aT C b st fr Z):∀(l:List (Nat×jA))(x:kZ R.T l),oM R st.ob l=some x->∀i v,look (lM R l x) i=some v->gF C Z i v
 | [],x,hx,i,v,hv=>Ec| [(j,k)],x,hx,i,v,hv=>by
   unfold oM at hx;split at hx
   .rename_i y hy;by_cases e:i=j
    .subst e;have hv':look [(i,oL R k x)] i=some v:=hv;rw[nI] at hv';cases hv';exact RQ hR hx (h.ob _ _ hy)
    .have hv':look [(j,oL R k x)] i=some v:=hv;rw[kH _ _ e] at hv';cases hv'
   .cases hx
 | (j,k)::q::l,x,hx,i,v,hv=>by
   unfold oM at hx;split at hx
   .rename_i y hy;cases hu:Cr R k y with
    |none=>simp only[hu] at hx;cases hx|some z=>
     cases hs:oM R st.ob (q::l) with
     |none=>simp only[hu,hs] at hx;cases hx|some p=>
      simp only[hu,hs] at hx;obtain rfl:=jW hx;have hv':look ((j,oL R k z)::lM R (q::l) p) i=some v:=hv;by_cases e:i=j
      .subst e;rw[nI] at hv';cases hv';exact RQ hR hu (h.ob _ _ hy)
      .rw[kH _ _ e] at hv';exact af8 h (q::l) p hs i v hv'
   .cases hx
theorem aT.pack (h:aT C b st fr Z){s:Shape}{p:wQ R.T s}(hp:pack R st s=some p):aT C b (unpack R s p) fr Z:=by
 obtain⟨sl,ob⟩:=s;cases ob with
 |nil=>have hp':vG R st.fr sl=some p:=hp;exact {h with fr:=fun i v hv=>.of (Xl hR h sl p hp' i v hv),ob:=fun i v hv=>Ec}
 |cons o os=>
  unfold aR.pack at hp;cases hu:vG R st.fr sl with
  |none=>simp only[hu] at hp;cases hp|some x=>
   cases hs:oM R st.ob (o::os) with
   |none=>simp only[hu,hs] at hp;cases hp|some y=>simp only[hu,hs] at hp;obtain rfl:=jW hp;exact {h with fr:=fun i v hv=>.of (Xl hR h sl x hu i v hv),ob:=fun i v hv=>af8 hR h (o::os) y hs i v hv}
omit hR in
theorem af9 {e x:Ex}(h:EP e x=true):e=x:=by
 cases e<;>cases x<;>simp only[EP,bZ] at h<;>first|rfl|rw[fH h]
omit hR in
def lS (st:aM R.T)(o:Nat):Prop:=∀x,look st.ob o=some x->vD x=true
omit hR in
theorem Xm {k:jA}{x:EG R.T k}{y:bI R.T}(hx:Cr R k y=some x)(hy:vD y=true):False:=by
 cases y with
 |cells _=>cases hy|map _ _ _=>cases hy|smap _ _=>cases hy|arr _ _=>cases hy|sg _=>cases hy|gone=>cases k<;>cases hx|ro b=>cases k<;>cases hx
omit hR in
theorem aga {i:Nat}(hr:lS st i):∀(l:List (Nat×jA))(x:kZ R.T l),oM R st.ob l=some x->look (lM R l x) i=none
 | [],x,hx=>rfl| [(j,k)],x,hx=>by
   unfold oM at hx;split at hx
   .rename_i y hy;by_cases e:i=j
    .subst e;exact(Xm hx (hr _ hy)).elim
    .show look [(j,oL R k x)] i=none;rw[kH _ _ e];rfl
   .cases hx
 | (j,k)::q::l,x,hx=>by
   unfold oM at hx;split at hx
   .rename_i y hy;cases hu:Cr R k y with
    |none=>simp only[hu] at hx;cases hx|some z=>
     cases hs:oM R st.ob (q::l) with
     |none=>simp only[hu,hs] at hx;cases hx|some p=>
      simp only[hu,hs] at hx;obtain rfl:=jW hx;show look ((j,oL R k z)::lM R (q::l) p) i=none;by_cases e:i=j
      .subst e;exact(Xm hu (hr _ hy)).elim
      .rw[kH _ _ e];exact aga hr (q::l) p hs
   .cases hx
omit hR in
theorem aqw {s:Shape}{p:wQ R.T s}{i:Nat}(hp:aR.pack R st s=some p)(hr:lS st i):look (unpack R s p).ob i=none:=by
 obtain⟨sl,ob⟩:=s;cases ob with
 |nil=>rfl|cons o os=>
  unfold aR.pack at hp;cases hu:vG R st.fr sl with
  |none=>simp only[hu] at hp;cases hp|some x=>
   cases hs:oM R st.ob (o::os) with
   |none=>simp only[hu,hs] at hp;cases hp|some y=>simp only[hu,hs] at hp;obtain rfl:=jW hp;exact aga hr (o::os) y hs
omit hR
theorem CO {J:Type}:∀(l m:List (Nat×J))(i:Nat),look (l++m) i=match look l i with|some x=>some x|none=>look m i
 | [],m,i=>rfl| (j,x)::l,m,i=>by
   show (bif Nat.beq j i then some x else look (l++m) i)=match (bif Nat.beq j i then some x else look l i) with|some x=>some x|none=>look m i
   cases Nat.beq j i
   .exact CO l m i
   .rfl
theorem aT.over {st':aM R.T}(h:aT C b st fr Z)(h':aT C b st' fr Z):aT C b (st.over st') fr Z:={h with
 fr:=fun i v hv=>by
  have hv':look (st.fr++st'.fr) i=some v:=hv;rw[CO] at hv';split at hv'
  .rename_i x hx;cases hv';exact h.fr _ _ hx
  .exact h'.fr _ _ hv'
 ob:=fun i v hv=>by
  have hv':look (st.ob++st'.ob) i=some v:=hv;rw[CO] at hv';split at hv'
  .rename_i x hx;cases hv';exact h.ob _ _ hx
  .exact h'.ob _ _ hv'}
theorem CP {J:Type}{p:Nat->J->Bool}{f:J->J}{l:List (Nat×J)}:∀{is:List Nat}{i:Nat}{y:J},look (sF p f l is) i=some y->∃x,look l i=some x/\p i x=true/\y=f x
 | [],i,y,h=>bU|j::is,i,y,h=>by
  unfold sF at h;split at h
  .rename_i x hx;cases hp:p j x
   .rw[hp] at h;exact CP h
   .rw[hp,cond_true] at h;by_cases e:i=j
    .subst e;rw[nI] at h;cases h;exact⟨x,hx,hp,rfl⟩
    .rw[kH _ _ e] at h;exact CP h
  .exact CP h
mutual
theorem aA.solid {C':bA}{top':Nat->Nat}{W:List Nat}(ho:∀o,bL o W=false->C'.ob o=C.ob o/\C'.ln o=C.ln o)(hx:C'.aj=C.aj):∀(x:au R.T)(v:V),aR.solid W x=true->aA R C top x v->aA R C' top' x v
 |.ak c t l,v,hs,h=>by obtain⟨c',hv,hc⟩:=h;refine⟨c',hv,?_⟩;cases c<;>first|exact hc| (simp[aR.solid] at hs;done)
 |.ref o off,v,hs,h=>KD
 |.dQ o,v,hs,h=>KD
 |.aU o t,v,hs,h=>by
  unfold aR.solid at hs;obtain⟨k1,k2⟩:=ho o adJ;rcases h with ⟨s,h1,h2⟩| ⟨h1,h2⟩
  .exact .inl ⟨s,by rw[k1];exact h1,by rw[k2,hx];exact h2⟩
  .exact .inr ⟨by rw[k2];exact h1,h2⟩
 |.sub o t a b,v,hs,h=>by
  unfold aR.solid at hs;obtain⟨k1,k2⟩:=ho o adJ;obtain⟨g0,g1,g2,h⟩:=h;refine⟨g0,g1,by rw[k2];exact g2,?_⟩;rcases h with ⟨s,cp,h1,h2,h3⟩|h
  .exact .inl ⟨s,cp,by rw[k1];exact h1,h2,by rw[hx];exact h3⟩
  .exact .inr h
 |.l8 o t i off,v,hs,h=>KD
 |.sv o _ _ _ _ _,v,hs,h=>KD
 |.sel o _ _ _ _ _,v,hs,h=>KD
 |.sg _,_,_,h=>h|.vC _ _ _ _,_,_,h=>h|.agg cs,v,hs,h=>by obtain⟨l,hv,hl⟩:=h;exact⟨l,hv,aF.solid ho hx cs l (by unfold aR.solid at hs;exact hs) hl⟩
 |.bK cs,v,hs,h=>by obtain⟨l,hv,hl⟩:=h;exact⟨l,hv,aF.solid ho hx cs l (by unfold aR.solid at hs;exact hs) hl⟩
 |.aX cs off,v,hs,h=>by obtain⟨l,hv,hl⟩:=h;exact⟨l,hv,aF.solid ho hx cs l (by unfold aR.solid at hs;exact hs) hl⟩
 |.fn f a b,v,hs,h=>by obtain⟨a',b',hv,ha,hb⟩:=h;unfold aR.solid at hs;rw[aZ] at hs;exact⟨a',b',hv,aF.solid ho hx a a' hs.1 ha,aF.solid ho hx b b' hs.2 hb⟩
 |.opt _ _ _,_,_,h=>h.elim|.int _ _,_,_,h=>h|.bool _,_,_,h=>h|.jy _,_,_,h=>h|.str _,_,_,h=>h|.gU,_,_,h=>h|.gH,_,_,h=>h|.gP,_,_,h=>h|.iH,_,_,h=>h|.fE,_,_,h=>h|.eF _ _ _,_,_,h=>h|.undef,_,_,h=>h|.gone,_,_,h=>trivial
theorem aF.solid {C':bA}{top':Nat->Nat}{W:List Nat}(ho:∀o,bL o W=false->C'.ob o=C.ob o/\C'.ln o=C.ln o)(hx:C'.aj=C.aj):∀(x:List (au R.T))(v:List V),vE W x=true->aF R C top x v->aF R C' top' x v
 | [],_,_,h=>h|x::xs,_,hs,⟨v,vs,e,h1,h2⟩=>by unfold vE at hs;rw[aZ] at hs;exact⟨v,vs,e,aA.solid ho hx x v hs.1 h1,aF.solid ho hx xs vs hs.2 h2⟩
end
theorem aqx {x:au R.T}{v:V}(h:kg fr C top x v):kg fr C top (Wv x) v:=by
 cases x with
 |ak c t l=>
  cases c with
  |own u=>obtain⟨c',hv,_⟩:=aA.mo (show aA R C top (.ak (.own u) t l) v from h);exact .of (x:=.ak .any t l) (by unfold aA;exact⟨c',hv,trivial⟩)
  |_=>exact h
 |_=>exact h
theorem aqy {W:List Nat}{x:au R.T}{v:V}(hs:aR.solid W x=true)(h:kg fr C top x v):aA R C top x v:=by
 cases x<;>first|exact h| (simp[aR.solid] at hs;done)
structure bN (nr:Bool)(o:Nat)(st:aM R.T)(C:bA)(Z:ah)(st':aM R.T)(C':bA)(Z':ah):Prop where
 ob:C'.ob o=C.ob o
 ln:C'.ln o=C.ln o
 aj:C'.aj=C.aj
 nx:Z.next<=Z'.next
 lp:(∀l,l<Z.next->Z'.loops l=Z.loops l)/\∀s,s<C.aj.lo->Z'.top s=Z.top s
 dp:∀L,nr=true\/L.1<=C.aj.dp->C.aj.out L->Z'.obj L=Z.obj L
 ro:lS st o->lS st' o/\∀s,Z'.dK (C.aj.lc o) s=Z.dK (C.aj.lc o) s/\Z'.jh (C.aj.lc o) s=Z.jh (C.aj.lc o) s
structure Kp (nr:Bool)(W:List Nat)(st:aM R.T)(fr:Fr)(Z:ah)(C:bA)(st':aM R.T)(fr':Fr)(Z':ah)(C':bA):Prop where
 fr:∀i,bL i W=false->fr'.tm i=fr.tm i
 ob:∀o,bL o W=false->bN nr o st C Z st' C' Z'
section
variable {nr:Bool}
theorem Xn {c:eG}{o s:Nat}{x:jZ}{L:Loc}(h:c.out L):(Z.setObj (c.lc o) s x).obj L=Z.obj L:=by unfold ah.setObj upd;dsimp only;rw[if_neg (h o)]
theorem aqz {c:eG}{o:Nat}{L:Loc}(h:c.out L):(Z.j3 (c.lc o)).obj L=Z.obj L:=by unfold ah.j3 upd;dsimp only;rw[if_neg (h o)]
theorem bN.refl {o:Nat}:bN nr o st C Z st C Z:=⟨rfl,rfl,rfl,mF _,⟨fun _ _=>rfl,fun _ _=>rfl⟩,fun _ _ _=>rfl,fun h=>⟨h,fun _=>⟨rfl,rfl⟩⟩⟩
theorem bN.trans {o:Nat}{st' jD:aM R.T}{C' sM:bA}{Z' oP:ah}(h:bN nr o st C Z st' C' Z')(g:bN nr o st' C' Z' jD sM oP):bN nr o st C Z jD sM oP:=
 ⟨g.ob.trans h.ob,g.ln.trans h.ln,g.aj.trans h.aj,eO h.nx g.nx,⟨fun l hl=>(g.lp.1 l (lW hl h.nx)).trans (h.lp.1 l hl),fun s hs=>(g.lp.2 s (by rw[h.aj];exact hs)).trans (h.lp.2 s hs)⟩,fun L hn hL=>(g.dp L (by rw[h.aj];exact hn) (by rw[h.aj];exact hL)).trans (h.dp L hn hL),fun hr=>by have g':=fun hr=>g.ro hr;rw[h.aj] at g';exact⟨(g' (h.ro hr).1).1,fun s=>⟨((g' (h.ro hr).1).2 s).1.trans ((h.ro hr).2 s).1,((g' (h.ro hr).1).2 s).2.trans ((h.ro hr).2 s).2⟩⟩⟩
theorem Kp.refl {W:List Nat}:Kp nr W st fr Z C st fr Z C:=⟨fun _ _=>rfl,fun _ _=>.refl⟩
theorem Kp.trans {W:List Nat}{st' jD:aM R.T}{fr' CQ:Fr}{C' sM:bA}{Z' oP:ah}(h:Kp nr W st fr Z C st' fr' Z' C')(g:Kp nr W st' fr' Z' C' jD CQ oP sM):Kp nr W st fr Z C jD CQ oP sM:=
 ⟨fun i hi=>(g.fr i hi).trans (h.fr i hi),fun o ho=>(h.ob o ho).trans (g.ob o ho)⟩
theorem Kp.mono {W W':List Nat}{st':aM R.T}{fr':Fr}{C':bA}{Z':ah}(h:Kp nr W st fr Z C st' fr' Z' C')(hw:∀i,bL i W'=false->bL i W=false):Kp nr W' st fr Z C st' fr' Z' C':=
 ⟨fun i hi=>h.fr i (hw i hi),fun o ho=>h.ob o (hw o ho)⟩
theorem Xo:∀(i:Nat)(l m:List Nat),bL i (l++m)=(bL i l||bL i m)
 |i,[],m=>rfl|i,j::l,m=>by show (Nat.beq i j||bL i (l++m))=_;rw[Xo i l m,<-Bool.or_assoc];rfl
theorem agb {o:Nat}{C':bA}{Z':ah}{W:List Nat}(ho:∀o,bL o W=false->C'.ob o=C.ob o/\C'.ln o=C.ln o)(hx:C'.aj=C.aj)(hm:bL o W=false)(hc:∀s,Z'.dK (C.aj.lc o) s=Z.dK (C.aj.lc o) s/\Z'.jh (C.aj.lc o) s=Z.jh (C.aj.lc o) s):∀{x:bI R.T},sD W x=true->gF C Z o x->gF C' Z' o x
 |.cells cs,hs,h=>by obtain⟨s,l,h1,h2,h3⟩:=h;exact⟨s,l,KL,by rw[hx,(hc s).1];exact h2,aF.solid ho hx cs l hs h3⟩
 |.map k e m,_,h=>by obtain⟨s,h1,h2⟩:=h;exact⟨s,KL,by rw[hx,(hc s).2];exact h2⟩
 |.smap ks vs,hs,h=>by obtain⟨s,k,l,h1,h2,h3,h4⟩:=h;have hs':(vE W ks&& vE W vs)=true:=hs;rw[aZ] at hs';exact⟨s,k,l,KL,by rw[hx,(hc s).2];exact h2,aF.solid ho hx ks k hs'.1 h3,aF.solid ho hx vs l hs'.2 h4⟩
 |.arr t l,_,h=>by
  refine⟨h.1.trans (ho o hm).2.symm,?_⟩;rcases h.2 with h| ⟨s,cs,h1,h2,h3⟩
  .exact .inl ⟨h.1,(ho o hm).1.trans h.2⟩
  .exact .inr ⟨s,cs,KL,by rw[hx,(hc s).1];exact h2,zx l cs h3⟩
 |.sg ss,_,h=>by obtain⟨s,h1,h2⟩:=h;exact⟨s,KL,by rw[hx,(hc s).1];exact h2⟩
 |.gone,_,_=>trivial|.ro b,hs,h=>agb ho hx hm hc (x:=b) hs h
theorem Xp:∀W:List Nat,∃n,∀m,n<=m->bL m W=false
 | []=>⟨0,fun _ _=>rfl⟩
 |i::W=>by obtain⟨n,hn⟩:=Xp W;refine⟨n+i+1,fun m hm=>?_⟩;show (Nat.beq m i||bL m W)=false;rw[RO RS,hn m RS];rfl
theorem Kp.aj {W:List Nat}{st':aM R.T}{fr':Fr}{C':bA}{Z':ah}(h:Kp nr W st fr Z C st' fr' Z' C'):C'.aj=C.aj:=by obtain⟨n,hn⟩:=Xp W;exact(h.ob n (hn n (mF _))).aj
theorem aT.base {W K O:List Nat}{mark:bI R.T->bI R.T}(hmark:∀C Z o x,gF C Z o x->gF (R:=R) C Z o (mark x)){st0 st' jD:aM R.T}{fr':Fr}{C':bA}{Z':ah}{b':Nat}(h:aT C b st fr Z)(hk:Kp nr W st0 fr Z C st' fr' Z' C')(h':aT C' b' jD fr' Z')(hro:∀o x,look st.ob o=some x->bL o W=false->bL o O=true->sD W x=true->lS st0 o):aT C' b' (aR.base W K O mark st) fr' Z':={h' with
 fr:=fun i v hv=>by obtain⟨x,h1,h2,rfl⟩:=CP hv;rw[aZ,xK] at h2;have:=aqy h2.2 (aqx (h.fr _ _ h1));rw[hk.fr i h2.1];exact .of (aA.solid (fun o ho=>⟨(hk.ob o ho).ob,(hk.ob o ho).ln⟩) hk.aj _ _ h2.2 this)
 ob:=fun o y hy=>by
  have hO:bL o O=true:=by
   have:∀{is:List Nat}{y:bI R.T},look (sF (fun o b=>!(bL o W)&& sD W b) mark st.ob is) o=some y->bL o is=true:=by
    intro is;induction is with
    |nil=>intro y h;cases h|cons j is ih=>
     intro y h;show (Nat.beq o j||bL o is)=true;unfold sF at h;by_cases e:o=j
     .subst e;rw[yO];rfl
     .split at h
      .rename_i x hx;cases hp:(!(bL j W)&& sD W x)
       .rw[hp] at h;rw[ih h,Bool.or_true]
       .rw[hp,cond_true,kH _ _ e] at h;rw[ih h,Bool.or_true]
      .rw[ih h,Bool.or_true]
   exact this hy
  obtain⟨x,h1,h2,rfl⟩:=CP hy;rw[aZ,xK] at h2;have hc:=((hk.ob o h2.1).ro (hro o x h1 h2.1 hO h2.2)).2;exact hmark _ _ _ _ (agb (fun o ho=>⟨(hk.ob o ho).ob,(hk.ob o ho).ln⟩) hk.aj h2.1 hc h2.2 (h.ob _ _ h1))}
theorem agc {W K O:List Nat}{st':aM R.T}{o:Nat}{x:bI R.T}(h1:look st.ob o=some x)(h2:bL o W=false)(h3:bL o O=true)(h4:sD W x=true):lS ((aR.base W K O .ro st).over st') o:=by
 intro y hy;have hl:∃z,look (sF (fun o b=>!(bL o W)&& sD W b) bI.ro st.ob O) o=some (.ro z):=by
  have:∀is:List Nat,bL o is=true->∃z,look (sF (fun o b=>!(bL o W)&& sD W b) bI.ro st.ob is) o=some (.ro z):=by
   intro is;induction is with
   |nil=>intro h;cases h|cons j is ih=>
    intro h;by_cases e:o=j
    .subst e;unfold sF;rw[h1];dsimp only;rw[h2,h4];exact⟨x,nI _ _ _⟩
    .have h':(Nat.beq o j||bL o is)=true:=h;rw[RO e,Bool.false_or] at h';obtain⟨z,hz⟩:=ih h';refine⟨z,?_⟩;unfold sF;split
     .rename_i w hw;cases (!(bL j W)&& sD W w)
      .exact hz
      .rw[cond_true,kH _ _ e];exact hz
     .exact hz
  exact this O h3
 obtain⟨z,hz⟩:=hl;have hy':look (sF (fun o b=>!(bL o W)&& sD W b) bI.ro st.ob O++st'.ob) o=some y:=hy;rw[CO,hz] at hy';cases hy';rfl
theorem aqA {t:Nat}:∀{x:bI R.T},vD x=true->vD (bI.wk t x)=true
 |.ro _,_=>rfl|.gone,_=>rfl|.cells _,h=>bU|.map _ _ _,h=>bU|.smap _ _,h=>bU|.arr _ _,h=>bU
theorem agd {t:Nat}{x:bI R.T}(h:vD x=true):vD (bI.kill t x)=true:=by
 have e:bI.kill t x=bif bI.nU t x then .gone else x:=by cases x<;>first|rfl|cases h
 rw[e];cases bI.nU t x
 .exact h
 .rfl
theorem bN.wk {p t s n:Nat}(hl:C.aj.lo<=s):bN nr p st C Z (st.wk t) (C.jJ t s) (Z.dY s n):=⟨rfl,rfl,rfl,mF _,⟨fun _ _=>rfl,fun s' hs'=>QW _ _ RS⟩,fun _ _ _=>rfl,fun hr=>⟨fun x hx=>by
 have hx':look (oJ (bI.wk t) st.ob) p=some x:=hx;rw[wX,aW] at hx';obtain⟨z,hz,rfl⟩:=hx';exact aqA (hr z hz),fun _=>⟨rfl,rfl⟩⟩⟩
theorem bN.set {o q s:Nat}{x y:bI R.T}{a:jZ}(hl:look st.ob o=some y)(hy:vD y=false):bN nr q st C Z (st.set o x) C (Z.setObj (C.aj.lc o) s a):=⟨rfl,rfl,rfl,mF _,⟨fun _ _=>rfl,fun _ _=>rfl⟩,fun _ _ hL=>Xn hL,fun hr=>by
 have hne:q≠o:=by rintro rfl;rw[hr y hl] at hy;cases hy
 refine⟨fun z hz=>?_,fun s'=>⟨Gd _ _ _ _ hne,Iz _ _ _ _ hne⟩⟩;have hz':look ((o,x)::j6 o st.ob) q=some z:=hz;rw[kH _ _ hne,uy hne] at hz';exact hr z hz'⟩
theorem bN.new {o q s:Nat}{x:bI R.T}{a:jZ}(hne:q≠o):bN nr q st C Z (st.new o x) (C.nP o s) (Z.setObj (C.aj.lc o) s a):=⟨by simp[bA.nP,upd,hne],rfl,rfl,mF _,⟨fun _ _=>rfl,fun _ _=>rfl⟩,fun _ _ hL=>Xn hL,fun hr=>by
 refine⟨fun z hz=>?_,fun s'=>⟨Gd _ _ _ _ hne,Iz _ _ _ _ hne⟩⟩;have hz':look ((o,x)::oJ (bI.kill o) (j6 o st.ob)) q=some z:=hz;rw[kH _ _ hne,wX,uy hne,aW] at hz';obtain⟨w,hw,rfl⟩:=hz';exact agd (hr w hw)⟩
theorem Ad {d:Option Nat}{v:au R.T}:(st.gZ d v).ob=st.ob:=Gh
theorem bN.same {st':aM R.T}{o:Nat}(h:st'.ob=st.ob):bN nr o st C Z st' C Z:=⟨rfl,rfl,rfl,mF _,⟨fun _ _=>rfl,fun _ _=>rfl⟩,fun _ _ _=>rfl,fun hr=>⟨fun x hx=>hr x (by rw[<-h];exact hx),fun _=>⟨rfl,rfl⟩⟩⟩
theorem bN.congr {st' jD:aM R.T}{C':bA}{Z':ah}{o:Nat}(h:bN nr o st C Z st' C' Z')(e:jD.ob=st'.ob):bN nr o st C Z jD C' Z':=⟨h.ob,h.ln,h.aj,h.nx,h.lp,h.dp,fun hr=>⟨fun x hx=>(h.ro hr).1 x (by rw[<-e];exact hx),(h.ro hr).2⟩⟩
theorem bN.from {st' jD:aM R.T}{C':bA}{Z':ah}{o:Nat}(h:bN nr o st C Z st' C' Z')(e:st.ob=jD.ob):bN nr o jD C Z st' C' Z':=⟨h.ob,h.ln,h.aj,h.nx,h.lp,h.dp,fun hr=>h.ro fun x hx=>hr x (by rw[<-e];exact hx)⟩
theorem Kp.op {d:Option Nat}{W:List Nat}{y:V}{st':aM R.T}{C':bA}{Z':ah}{Q:Nat->Prop}(hd:∀p,bL p W=false->d≠some p/\Q p)(h:∀p,Q p->bN nr p st C Z st' C' Z'):Kp nr W st fr Z C st' (fr.put d y) Z' C':=
 ⟨fun i hi=>by
   cases d with
   |none=>rfl|some j=>exact LP _ _ (by have:=(hd i hi).1;simp at this;simpa using fun e=>this e.symm),fun p hp=>h p (hd p hp).2⟩
theorem aqB {W K O:List Nat}{st':aM R.T}{o:Nat}(h:look st'.ob o=none):lS ((aR.base W K O .ro st).over st') o:=by
 intro y hy;have hy':look (sF (fun o b=>!(bL o W)&& sD W b) bI.ro st.ob O++st'.ob) o=some y:=hy;rw[CO] at hy';split at hy'
 .rename_i x hx;cases hy';obtain⟨z,_,_,rfl⟩:=CP hx;rfl
 .rw[h] at hy';cases hy'
theorem Xq {st':aM R.T}{o:Nat}(h1:lS st o)(h2:lS st' o):lS (st.over st') o:=by
 intro y hy;have hy':look (st.ob++st'.ob) o=some y:=hy;rw[CO] at hy';split at hy'
 .rename_i x hx;cases hy';exact h1 _ hx
 .exact h2 _ hy'
theorem agf {W K O:List Nat}{mark:bI R.T->bI R.T}{o:Nat}(hm:∀x,vD x=true->vD (mark x)=true)(h:lS st o):lS (aR.base W K O mark st) o:=by intro y hy;obtain⟨x,h1,_,rfl⟩:=CP hy;exact hm _ (h _ h1)
theorem finish {W K O:List Nat}{H S' jD:aM R.T}{fr':Fr}{C':bA}{Z':ah}{b':Nat}(hi:aT C b st fr Z)(hH:∀o,bL o W=false->lS st o->lS H o)(hro:∀o x,look st.ob o=some x->bL o W=false->bL o O=true->sD W x=true->lS H o)(hk:Kp nr W H fr Z C S' fr' Z' C')(hi':aT C' b' jD fr' Z')(hn:∀o,bL o W=false->lS H o->look jD.ob o=none):
 aT C' b' ((aR.base W K O (fun b=>b) st).over jD) fr' Z'/\Kp nr W st fr Z C ((aR.base W K O (fun b=>b) st).over jD) fr' Z' C':=by
 have hk2:Kp nr W H fr Z C jD fr' Z' C':=⟨hk.fr,fun o ho=>⟨(hk.ob o ho).ob,(hk.ob o ho).ln,(hk.ob o ho).aj,(hk.ob o ho).nx,(hk.ob o ho).lp,(hk.ob o ho).dp,fun hr=>⟨fun x hx=>(by rw[hn o ho hr] at hx;cases hx),((hk.ob o ho).ro hr).2⟩⟩⟩;refine⟨(hi.base (fun _ _ _ _ h=>h) hk2 hi' hro).over hi',hk.fr,fun o ho=>⟨(hk.ob o ho).ob,(hk.ob o ho).ln,(hk.ob o ho).aj,(hk.ob o ho).nx,(hk.ob o ho).lp,(hk.ob o ho).dp,fun hr=>⟨?_,((hk.ob o ho).ro (hH o ho hr)).2⟩⟩⟩;exact Xq (agf (fun _ h=>h) hr) fun x hx=>(by rw[hn o ho (hH o ho hr)] at hx;cases hx)
theorem agh {x:au R.T}{v:V}(hx:HY x=true)(h:kg fr C top x v):v= .ak .nil []\/v= .ak .full []:=by
 cases x<;>first| (cases hx;done)|skip
 .exact .inl (aA.uq (R:=R) (show aA R C top .fE v from h))
 .rename_i c t l;obtain⟨c',hv,hc⟩:=aA.mo (R:=R) (show aA R C top (.ak c t l) v from h);cases c<;>first| (cases hx;done)|skip
  .have:l=[]:=by simpa [HY] using hx
   subst this;have hc':c'= .nil:=hc;rw[hc'] at hv;exact .inl hv
  .have:l=[]:=by simpa [HY] using hx
   subst this;have hc':c'= .full:=hc;rw[hc'] at hv;exact .inr hv
theorem Mt {W:List Nat}:∀(l:List (Nat×bR))(st:aM R.T)(C:bA),aT C b st fr Z->∃C',aT C' b (ug W l st) fr Z/\Kp nr W st fr Z C (ug W l st) fr Z C'
 | [],st,C,h=>⟨C,h,.refl⟩| (i,k)::l,st,C,h=>by
   have other:ug W ((i,k)::l) st=ug W l st->∃C',aT C' b (ug W ((i,k)::l) st) fr Z/\Kp nr W st fr Z C (ug W ((i,k)::l) st) fr Z C':=fun e=>by rw[e];exact Mt l st C h
   cases k<;>first|exact other rfl|skip
   rename_i o t;unfold ug;split
   .rename_i v hv;cases hb:(HY v&& bL o W)
    .exact Mt l st C h
    .rw[cond_true];rw[aZ] at hb;have hg:=h.ghost o t;have hE:=agh hb.1 (h.fr _ _ hv);have Xr:aT (C.gh o) b (⟨(i,.aU o t)::(st.new o (.arr t [])).fr,(st.new o (.arr t [])).ob⟩:aM R.T) fr Z:={hg with
      fr:=fun j y hy=>by
       by_cases e:j=i
       .subst e;have hy':look ((j,au.aU o t)::(st.new o (.arr t [])).fr) j=some y:=hy;rw[nI] at hy';cases hy';exact .of (by unfold aA;exact .inr ⟨CJ (C:=C) (n:=0),hE⟩)
       .have hy':look ((i,au.aU o t)::(st.new o (.arr t [])).fr) j=some y:=hy;rw[kH _ _ e] at hy';exact hg.fr j y hy'
      ob:=hg.ob}
     obtain⟨C',h1,h2⟩:=Mt (W:=W) l _ _ Xr;refine⟨C',h1,Kp.trans ⟨fun _ _=>rfl,fun p hp=>?_⟩ h2⟩;have hne:p≠o:=(by rintro rfl;rw[hb.2] at hp;cases hp);refine⟨(zy p hne).1,(zy p hne).2,rfl,mF _,⟨fun _ _=>rfl,fun _ _=>rfl⟩,fun _ _ _=>rfl,fun hr=>⟨fun x hx=>?_,fun _=>⟨rfl,rfl⟩⟩⟩;have hx':look ((o,bI.arr t [])::oJ (bI.kill o) (j6 o st.ob)) p=some x:=hx;rw[kH _ _ hne,wX,uy hne,aW] at hx';obtain⟨w,hw,rfl⟩:=hx';exact agd (hr w hw)
   .exact Mt l st C h
section
variable (hR:rG R)
include hR
omit hR in
theorem agi {W:List Nat}:∀{l:List (Nat×bR)},st.fr=[]->ug W l st=st
 | [],_=>rfl| (i,k)::l,h=>by
   have:=agi (W:=W) (l:=l) h;cases k<;>first|exact this|skip
   unfold ug;rw[h];exact this
omit hR in
theorem agj:∀{l:List (Nat×bR)}{p:EH R.T l},vG R [] l=some p->l=[]
 | [],_,_=>rfl| [(i,k)],p,h=>bU| (i,k)::q::l,p,h=>bU
omit hR in
theorem aqC {W:List Nat}(he:st.fr=[]){s:Shape}{p:wQ R.T s}(hp:aR.sH R W st s=some p):(unpack R s p).fr=[]:=by
 unfold aR.sH at hp;rw[agi he] at hp;obtain⟨sl,ob⟩:=s;cases ob with
 |nil=>have hp':vG R st.fr sl=some p:=hp;rw[he] at hp';have:=agj hp';subst this;rfl|cons o os=>
  unfold aR.pack at hp;rw[he] at hp;cases hu:vG R [] sl with
  |none=>simp only[hu] at hp;cases hp|some x=>have:=agj hu;subst this;rfl
theorem aT.sH {W:List Nat}(h:aT C b st fr Z){s:Shape}{p:wQ R.T s}(hp:aR.sH R W st s=some p):∃C' S',aT C' b (unpack R s p) fr Z/\Kp nr W st fr Z C S' fr Z C'/\(st.fr=[]->(unpack R s p).fr=[])/\∀i,bL i W=false->lS st i->look (unpack R s p).ob i=none:=by obtain⟨C',h1,h2⟩:=Mt (W:=W) s.sl st C h;exact⟨C',_,h1.pack hR hp,h2,fun he=>aqC he hp,fun i hi hr=>aqw hp ((h2.ob i hi).ro hr).1⟩
theorem RU {β:Type}{W:List Nat}(h:aT C b st fr Z){e:Ex}:∀{l:List (Ex×Shape)}{o:Out R.T l},ER R W e st l=some o->∃C' S' st',aT C' b st' fr Z/\Kp nr W st fr Z C S' fr Z C'/\(st.fr=[]->st'.fr=[])/\(∀i,bL i W=false->lS st i->look st'.ob i=none)/\∀(k:Ex->aM R.T->Option β)(bs:aM R.T),ES R bs k l o=k e (bs.over st')
 | [],o,hp=>by cases hp| [(x,s)],o,hp=>by
   have hp':(bif EP e x then aR.sH R W st s else none)=some o:=hp;cases hb:EP e x
   .rw[hb] at hp';cases hp'
   .rw[hb,cond_true] at hp';have:=af9 hb;subst this;obtain⟨C',S',h1,h2,h0,h3⟩:=h.sH hR hp';exact⟨C',S',_,h1,h2,h0,h3,fun k bs=>rfl⟩
 | (x,s)::q::l,o,hp=>by
   unfold ER at hp;cases hb:EP e x
   .rw[hb,cond_false] at hp;cases hu:ER R W e st (q::l) with
    |none=>simp only[hu] at hp;cases hp|some y=>simp only[hu] at hp;obtain rfl:=jW hp;obtain⟨C',S',st',h1,h3,h0,h4,h2⟩:=RU (β:=β) h hu;exact⟨C',S',st',h1,h3,h0,h4,fun k bs=>h2 k bs⟩
   .rw[hb,cond_true] at hp;have:=af9 hb;subst this;cases hu:aR.sH R W st s with
    |none=>simp only[hu] at hp;cases hp|some y=>simp only[hu] at hp;obtain rfl:=jW hp;obtain⟨C',S',h1,h2,h0,h3⟩:=h.sH hR hu;exact⟨C',S',_,h1,h2,h0,h3,fun k bs=>rfl⟩
end
end
end
end aR
end
section
namespace aR
open Go
def qm (E:Env)(o:Oper)(p:Nat):Prop:=o.dst≠some p/\∀d,o.dst=some d->E.cn d≠p
section
variable {R:kE}{E:Env}
variable {C:bA}{b:Nat}{st:aM R.T}{fr:Fr}{Z:ah}
def yx (E:Env)(fr:Fr)(o:Oper):Bool:=match o.op with
 |.call c=>match c.callee with
  |.value f=>kX E fr o f|_=>false
 |_=>false
def nQ (E:Env)(fr:Fr)(Z:ah)(aI:Nat)(o:Oper)(x:V)(Z':ah):Prop:=
 (yx E fr o=false->∀all os Q,fD all fr o=some true->av E all (aI+1) os (fr.put o.dst x) Z' Q->av E all aI (o::os) fr Z Q)/\
 (yx E fr o=false->∀ms all os fs Q,fD all fr o=some true->dn E ms all (aI+1) os (fr.put o.dst x) Z' (fs++[dW E all fr o true]) Q->dn E ms all aI (o::os) fr Z fs Q)
theorem nQ.of {aI:Nat}{o:Oper}{x:V}{Z':ah}(h:∀S,opC E S fr Z aI o=some (x,fr,Z')):nQ E fr Z aI o x Z':=
 ⟨fun _ _ _ _ hw h'=>av.op hw h h',fun _ _ _ _ _ _ hw h'=>dn.op hw h h'⟩
theorem aqD {S:iN}{aI:Nat}{o:Oper}{x:V}{Z':ah}(h:dh E fr Z aI o=some (x,Z')):opC E S fr Z aI o=some (x,fr,Z'):=by
 unfold opC;split
 .rename_i c hc;unfold dh at h;rw[hc] at h;cases h
 .rename_i c hc;unfold dh at h;rw[hc] at h;cases h
 .rw[h];rfl
theorem agk {o:Oper}{c:Call}{f:Operand}{g:FuncId}{a b:List V}(ho:o.op= .call c)(fO:c.callee= .value f)(hf:fr.ev E f= .fn (.func g) a b)(h:yx E fr o=false):∀d,o.dst=some d->E.own g d=false:=by intro d hd;unfold yx at h;rw[ho] at h;dsimp only at h;rw[fO] at h;dsimp only at h;unfold kX at h;rw[hf,hd] at h;exact h
theorem nQ.jK {aI:Nat}{o:Oper}{x:V}{Z':ah}(h:dh E fr Z aI o=some (x,Z')):nQ E fr Z aI o x Z':=.of fun S=>aqD h
def sN (E:Env)(st:aM R.T)(C:bA)(aI:Nat)(fr:Fr)(Z:ah)(o:Oper):eY R->Prop
 |.t v=>∃x,nQ E fr Z aI o x Z/\aA R C Z.top v x|.c c v=>c=true->∃x,nQ E fr Z aI o x Z/\aA R C Z.top v x|.w v st'=>∃x Z' C',nQ E fr Z aI o x Z'/\aT C' (aI+1) st' fr Z'/\Z'.next=Z.next/\aA R C' Z'.top v x/\∀p,qm E o p->bN true p st C Z st' C' Z'|.wc c v st'=>c=true->∃x Z' C',nQ E fr Z aI o x Z'/\aT C' (aI+1) st' fr Z'/\Z'.next=Z.next/\aA R C' Z'.top v x/\∀p,qm E o p->bN true p st C Z st' C' Z'|.p _ _ o' f=>∀a,o'=some a->∃x,nQ E fr Z aI o x Z/\aA R C Z.top (f a) x
theorem yA {top:Nat->Nat}{x:au R.T}{v:V}(hg:wR x=true)(h:aA R C top x v):aF R C top x.cells v.cells/\fC v=true:=by
 cases x with
 |agg cs=>obtain⟨l,rfl,hl⟩:=h.mh;exact⟨hl,rfl⟩
 |int k n=>rw[h.iO];exact⟨.cons' fV rfl,rfl⟩|bool b=>rw[h.rH];exact⟨.cons' fV rfl,rfl⟩|jy b=>rw[h.vJ];exact⟨.cons' fV rfl,rfl⟩|str b=>rw[h.oN];exact⟨.cons' fV rfl,rfl⟩|fE=>rw[h.uq];exact⟨.cons' fV rfl,rfl⟩|bK cs=>obtain⟨l,rfl,hl⟩:=h.Ir;exact⟨.cons' h rfl,rfl⟩
 |ak c t l=>obtain⟨c',rfl,hl⟩:=h.mo;exact⟨.cons' h rfl,rfl⟩
 |ref o off=>obtain⟨s,hs,rfl⟩:=h.rJ;exact⟨.cons' h rfl,rfl⟩
 |aX o off=>obtain⟨s,rfl,hs⟩:=h.uw;exact⟨.cons' h rfl,rfl⟩
 |dQ o=>obtain⟨s,hs,rfl⟩:=h.AB;exact⟨.cons' h rfl,rfl⟩
 |eF k e m=>have:=h.CB;subst this;exact⟨.cons' h rfl,rfl⟩|fn f a b=>obtain⟨a',b',rfl,_⟩:=h.oO;exact⟨.cons' h rfl,rfl⟩
 |undef=>have:=h.afK;subst this;exact⟨.cons' h rfl,rfl⟩|aU o t=>rcases h.AJ with ⟨s,_,rfl⟩| ⟨_,rfl|rfl⟩<;>exact⟨.cons' h rfl,rfl⟩
 |sub o t a b=>rcases h.EY with ⟨_,_,_,⟨s,cp,_,_,rfl⟩| ⟨_,c,rfl⟩⟩<;>exact⟨.cons' h rfl,rfl⟩
 |l8 o t i off=>obtain⟨s,_,_,rfl⟩:=h.EZ;exact⟨.cons' h rfl,rfl⟩
 |sv o off k n lo hi=>obtain⟨s,_,_,rfl⟩:=h.CF;exact⟨.cons' h rfl,rfl⟩
 |sel o off k n i m=>obtain⟨s,_,_,_,rfl⟩:=h.Mq;exact⟨.cons' h rfl,rfl⟩
 |vC k n y i=>obtain⟨_,_,rfl⟩:=h.RL;exact⟨.cons' h rfl,rfl⟩
 |sg _=>cases hg|gU=>have h':=h;unfold aA at h';subst h';exact⟨.cons' h rfl,rfl⟩|gH=>have h':=h;unfold aA at h';subst h';exact⟨.cons' h rfl,rfl⟩|gP=>have h':=h;unfold aA at h';subst h';exact⟨.cons' h rfl,rfl⟩|iH=>have h':=h;unfold aA at h';subst h';exact⟨.cons' h rfl,rfl⟩|opt j w y=>cases hg|gone=>cases hg
theorem aqE {top:Nat->Nat}{x:au R.T}{v:V}(hg:Ww x=true)(h:aA R C top x v):oneCell v=true:=by
 cases x with
 |agg cs=>cases hg|int k n=>rw[h.iO];rfl|bool b=>rw[h.rH];rfl|jy b=>rw[h.vJ];rfl|str b=>rw[h.oN];rfl|fE=>rw[h.uq];rfl|bK cs=>cases hg|ak c t l=>obtain⟨c',rfl,hl⟩:=h.mo;rfl
 |ref o off=>obtain⟨s,hs,rfl⟩:=h.rJ;rfl
 |aX o off=>obtain⟨s,rfl,hs⟩:=h.uw;rfl
 |dQ o=>obtain⟨s,hs,rfl⟩:=h.AB;rfl
 |eF k e m=>have:=h.CB;subst this;rfl|fn f a b=>obtain⟨a',b',rfl,_⟩:=h.oO;rfl
 |undef=>cases hg|aU o t=>rcases h.AJ with ⟨s,_,rfl⟩| ⟨_,rfl|rfl⟩<;>rfl
 |sub o t a b=>rcases h.EY with ⟨_,_,_,⟨s,cp,_,_,rfl⟩| ⟨_,c,rfl⟩⟩<;>rfl
 |l8 o t i off=>obtain⟨s,_,_,rfl⟩:=h.EZ;rfl
 |sv o off k n lo hi=>obtain⟨s,_,_,rfl⟩:=h.CF;rfl
 |sel o off k n i m=>obtain⟨s,_,_,_,rfl⟩:=h.Mq;rfl
 |vC k n y i=>obtain⟨_,_,rfl⟩:=h.RL;rfl
 |sg _=>cases hg|gU=>unfold aA at h;subst h;rfl|gH=>unfold aA at h;subst h;rfl|gP=>unfold aA at h;subst h;rfl|iH=>unfold aA at h;subst h;rfl|opt j w y=>cases hg|gone=>cases hg
theorem Mv {top:Nat->Nat}:∀{x:List (au R.T)}{v:List V},Cn x=true->aF R C top x v->bY v=true
 | [],v,_,h=>KV|x::xs,v,hg,h=>by obtain⟨y,ys,rfl,h1,h2⟩:=h.fB;unfold Cn at hg;rw[aZ] at hg;rw[afp,aqE hg.1 h1,Mv hg.2 h2];rfl
theorem aqF {top:Nat->Nat}{ag:Bool}{n off:Nat}{cs:List (au R.T)}{l:List V}{x:au R.T}(h:aF R C top cs l)(hp:Rh ag n cs off=some x):∃v,q8 ag n l off=some v/\aA R C top x v:=by
 cases ag with
 |true=>
  have hp':(bif Nat.ble (off+n) cs.length then some (au.agg ((cs.drop off).take n)) else none)=some x:=hp;cases hb:Nat.ble (off+n) cs.length
  .rw[hb] at hp';cases hp'
  .rw[hb] at hp';cases hp';have hle:=nY hb;refine⟨.agg ((l.drop off).take n),?_,by unfold aA;exact⟨_,rfl,(h.drop off).take n⟩⟩;unfold q8;rw[if_pos rfl,if_pos (by rw[h.length];exact hle)]
 |false=>obtain⟨v,h1,h2⟩:=h.get (show cs[off]? =some x from hp);exact⟨v,by unfold q8;simpa using h1,h2⟩
theorem AO {top:Nat->Nat}{t:TypeId}{off:Nat}{cs:List (au R.T)}{l:List V}{x:au R.T}(h:aF R C top cs l)(hp:nO E t cs off=some x):∃v,gV E.P t l off=some v/\aA R C top x v:=by
 unfold nO at hp;cases h1:j5 E.P t with
 |none=>simp only[h1] at hp;cases hp|some a=>
  cases h2:dF E.P t with
  |none=>simp only[h1,h2] at hp;cases hp|some n=>simp only[h1,h2] at hp;unfold gV;rw[h1,h2];exact aqF h hp
theorem Xt {top:Nat->Nat}{cs vs:List (au R.T)}{l k:List V}(off:Nat)(h:aF R C top cs l)(h':aF R C top vs k):aF R C top (HZ cs off vs) (gI l off k):=by unfold HZ gI;rw[h'.length];exact((h.take off).append h').append (h.drop _)
theorem Mw {top:Nat->Nat}{t:TypeId}{z:au R.T}(h:Ct E t=some z):∃v,iM E.P t=some v/\aA R C top z v:=by
 unfold Ct at h;unfold iM;cases h1:E.P.info? t with
 |none=>simp only[h1] at h;cases h|some i=>
  cases h2:i.zero with
  |none=>simp only[h1,h2] at h;cases h|some z'=>simp only[h1,h2] at h;obtain⟨v,hv,hr⟩:=af3 (C:=C) (top:=top) h;exact⟨v,by simp[h2,hv],hr⟩
theorem agl {top:Nat->Nat}(place:Nat->Option (Nat×Nat)):∀{ps:List (Nat×au R.T)}{qs:List (Nat×V)}{cs:List (au R.T)}{l:List V}{cs':List (au R.T)},ps.map (·.1)=qs.map (·.1)->aF R C top (ps.map (·.2)) (qs.map (·.2))->
 aF R C top cs l->Ri place cs ps=some cs'->∃l',rY place l qs=some l'/\aF R C top cs' l'
 | [],[],cs,l,cs',_,_,h,hf=>by cases hf;exact⟨l,rfl,h⟩| [],_::_,_,_,_,h,_,_,_=>wz|_::_,[],_,_,_,h,_,_,_=>wz| (i,v)::ps,(j,w)::qs,cs,l,cs',hi,hr,h,hf=>by
   simp only[iA,rX] at hi;obtain⟨rfl,hi⟩:=hi;obtain⟨y,ys,e,h1,h2⟩:=hr.fB;simp only[iA,rX] at e;obtain⟨rfl,rfl⟩:=e;unfold Ri at hf;unfold rY;cases hp:place i with
   |none=>simp only[hp] at hf;cases hf|some q=>
    obtain⟨off,size⟩:=q;simp only[hp] at hf⊢;cases hb:(Nat.beq v.cells.length size&& Nat.ble (off+size) cs.length&& wR v)
    .rw[hb] at hf;cases hf
    .rw[hb,cond_true] at hf;simp only[aZ] at hb;obtain⟨⟨b1,b2⟩,b3⟩:=hb;obtain⟨hc,hn⟩:=yA b3 h1;rw[if_pos ⟨by rw[hc.length];exact fH b1,by rw[h.length];exact nY b2,hn⟩];exact agl place hi h2 (Xt off h hc) hf
theorem agm {top:Nat->Nat}{x:au R.T}{v:V}{a:Bool}(h:L9 x=some a)(hr:aA R C top x v):v= .bool a:=by
 cases x<;>cases h
 .exact hr.rH
 .exact hr.vJ
theorem agn {top:Nat->Nat}{x y:au R.T}{v w:V}{r:Bool}(h:Rj x y=some r)(hx:aA R C top x v)(hy:aA R C top y w):∃a b,v= .bool a/\w= .bool b/\r=(a==b):=by
 unfold Rj at h;cases h1:L9 x with
 |none=>simp only[h1] at h;cases h|some a=>
  cases h2:L9 y with
  |none=>simp only[h1,h2] at h;cases h|some b=>simp only[h1,h2] at h;cases h;exact⟨a,b,agm h1 hx,agm h2 hy,rfl⟩
theorem Xu {top:Nat->Nat}{AP:TypeId->au R.T->au R.T->Option Bool}{eqv:TypeId->V->V->Option Bool}(he:∀t x y v w r,AP t x y=some r->aA R C top x v->aA R C top y w->eqv t v w=some r){xs ys:List (au R.T)}{vs ws:List V}(hx:aF R C top xs vs)(hy:aF R C top ys ws):∀{fs:List Field}{r:Bool},H6 E AP xs ys fs=some r->En E.P eqv vs ws fs=some r
 | [],r,h=>by cases h;rfl|f::fs,r,h=>by
  unfold H6 at h;unfold En;split at h
  .rename_i hn;rw[if_pos hn];exact Xu he hx hy h
  .rename_i hn;rw[if_neg hn];cases h1:nO E f.type xs f.offset with
   |none=>simp only[h1] at h;cases h|some a=>
    cases h2:nO E f.type ys f.offset with
    |none=>simp only[h1,h2] at h;cases h|some c=>
     cases h3:AP f.type a c with
     |none=>simp only[h1,h2,h3] at h;cases h|some r1=>
      cases h4:H6 E AP xs ys fs with
      |none=>simp only[h1,h2,h3,h4] at h;cases h|some q=>simp only[h1,h2,h3,h4] at h;cases h;obtain⟨v1,e1,g1⟩:=AO hx h1;obtain⟨v2,e2,g2⟩:=AO hy h2;simp[e1,e2,he _ _ _ _ _ _ h3 g1 g2,Xu he hx hy h4]
theorem agp {top:Nat->Nat}{AP:TypeId->au R.T->au R.T->Option Bool}{eqv:TypeId->V->V->Option Bool}(he:∀t x y v w r,AP t x y=some r->aA R C top x v->aA R C top y w->eqv t v w=some r){e:TypeId}{sz:Nat}{xs ys:List (au R.T)}{vs ws:List V}(hx:aF R C top xs vs)(hy:aF R C top ys ws):∀{is:List Nat}{r:Bool},Ma E AP e sz xs ys is=some r->Gn E.P eqv e sz vs ws is=some r
 | [],r,h=>by cases h;rfl|i::is,r,h=>by
  unfold Ma at h;unfold Gn;cases h1:nO E e xs (i*sz) with
  |none=>simp only[h1] at h;cases h|some a=>
   cases h2:nO E e ys (i*sz) with
   |none=>simp only[h1,h2] at h;cases h|some c=>
    cases h3:AP e a c with
    |none=>simp only[h1,h2,h3] at h;cases h|some r1=>
     cases h4:Ma E AP e sz xs ys is with
     |none=>simp only[h1,h2,h3,h4] at h;cases h|some q=>simp only[h1,h2,h3,h4] at h;cases h;obtain⟨v1,e1,g1⟩:=AO hx h1;obtain⟨v2,e2,g2⟩:=AO hy h2;simp[e1,e2,he _ _ _ _ _ _ h3 g1 g2,agp he hx hy h4]
theorem RV {top:Nat->Nat}:∀(d:Nat)(t:TypeId)(x y:au R.T)(v w:V)(r:Bool),H7 E d t x y=some r->aA R C top x v->aA R C top y w->BL E.P d t v w=some r
 |0,_,_,_,_,_,_,h,_,_=>bU|d+1,t,x,y,v,w,r,h,hx,hy=>by
  unfold H7 at h;unfold BL;split at h
  .rename_i fs xs ys hu;obtain⟨l,rfl,h1⟩:=hx.mh;obtain⟨k,rfl,h2⟩:=hy.mh;rw[hu];dsimp only;split at h
   .cases h
   .rename_i hs;rw[if_neg hs];exact Xu (RV d) h1 h2 h
  .rename_i n e xs ys hu;obtain⟨l,rfl,h1⟩:=hx.mh;obtain⟨k,rfl,h2⟩:=hy.mh;rw[hu];dsimp only;cases hs:dF E.P e with
   |none=>simp only[hs] at h;cases h|some sz=>simp only[hs] at h;simp only[Option.bind_some];exact agp (RV d) h1 h2 h
  .cases h
  .cases h
  .rename_i hu;obtain⟨a,c,rfl,rfl,rfl⟩:=agn h hx hy;rw[hu]
  .rename_i k a k' c hu;rw[hx.iO,hy.iO,hu];exact h
  .rename_i a c hu;rw[hx.oN,hy.oN,hu];exact h
  .cases h
theorem agq {top:Nat->Nat}{t:TypeId}{x y:au R.T}{v w:V}{r:Bool}(h:Rk E t x y=some r)(hx:aA R C top x v)(hy:aA R C top y w):uX E.P t v w=some r:=by
 unfold Rk at h;unfold uX;split at h
 .rename_i fs xs ys hu;split at h
  .cases h
  .rename_i hs;have:=RV 8 t _ _ v w r h hx hy;obtain⟨l,rfl,h1⟩:=hx.mh;obtain⟨k,rfl,h2⟩:=hy.mh;rw[hu];dsimp only;rw[if_neg hs];exact this
 .rename_i fs xs ys hu;split at h
  .cases h
  .rename_i hs;have:=RV 8 t _ _ v w r h hx hy;obtain⟨l,rfl,h1⟩:=hx.mh;obtain⟨k,rfl,h2⟩:=hy.mh;rw[hu];dsimp only;rw[if_neg hs];exact this
 .rename_i hu;cases h;unfold aA at hx hy;subst hx;subst hy;rw[hu]
 .rename_i hu;cases h;obtain⟨a,b,rfl,_⟩:=hy.oO;unfold aA at hx;subst hx;rw[hu]
 .rename_i hu;cases h;obtain⟨a,b,rfl,_⟩:=hx.oO;unfold aA at hy;subst hy;rw[hu]
 .rename_i hu;obtain⟨a,c,rfl,rfl,rfl⟩:=agn h hx hy;rw[hu]
 .cases h
end
end aR
end
