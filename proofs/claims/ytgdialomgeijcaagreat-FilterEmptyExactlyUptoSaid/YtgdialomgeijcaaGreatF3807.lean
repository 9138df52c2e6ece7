import Derived.Test.YtgdialomgeijcaaGreatF3806
set_option linter.all false
section
namespace Aq
open Go
theorem bn {a b:Nat}(h:Nat.beq a b=true):a=b:=QJ h
theorem rO {a b:Nat}(h:Nat.beq a b=false):a≠b:=fun e=>by rw[e,Qt] at h;cases h
theorem rP {a b:Nat}(h:a≠b):Nat.beq a b=false:=Bool.eq_false_iff.2 fun e=>h (bn e)
section look
variable {U:Type}
theorem gV (f:U->U):∀(l:List (Nat×U))(i:Nat),look (U1 f l) i=(look l i).map f
 | [],_=>rfl| (j,x)::l,i=>by
   show (bif Nat.beq j i then some (f x) else look (U1 f l) i)=Option.map f (bif Nat.beq j i then some x else look l i);cases Nat.beq j i
   .exact gV f l i
   .rfl
theorem eP {i j:Nat}(h:j≠i):∀(l:List (Nat×U)),look (Tx i l) j=look l j
 | []=>rfl| (k,x)::l=>by
   show look (bif Nat.beq k i then Tx i l else (k,x)::Tx i l) j=bif Nat.beq k j then some x else look l j;cases hk:Nat.beq k i
   .show (bif Nat.beq k j then some x else look (Tx i l) j)=_;rw[eP h l]
   .have:=bn hk;subst this;rw[rP (Ne.symm h)];exact eP h l
theorem bL (l:List (Nat×U))(i:Nat)(x:U):look ((i,x)::l) i=some x:=by show (bif Nat.beq i i then some x else look l i)=_;rw[Qt];rfl
theorem aY (l:List (Nat×U)){i j:Nat}(x:U)(h:j≠i):look ((i,x)::l) j=look l j:=by show (bif Nat.beq i j then some x else look l j)=_;rw[rP (Ne.symm h)];rfl
end look
section
variable {R:Tq}{E:Env}
theorem Bv {Z Z':ak}{top top':Nat->Nat}:∀(t:Ty)(x:Den R.T t)(v:V),Rl R Z top (tv1 R .any t x) v->Rl R Z' top' (tv1 R .any t x) v
 |.int _,_,_,h=>h|.bool,_,_,h=>h|.str,_,_,h=>h|.slice _,_,_,h=>h|.st _,_,_,h=>h
theorem kD {Z Z':ak}{top top':Nat->Nat}:∀(l:List Ty)(p:Vm R.T l)(vs:List V),ah R Z top (TR R .any l p) vs->ah R Z' top' (TR R .any l p) vs
 | [],_,_,h=>h| [t],x,vs,h=>by obtain⟨v,l,rfl,h1,h2⟩:=h.aP;rw[h2.bg];exact .cons' (Bv t x v h1) rfl
 |t::u::l,p,vs,h=>by obtain⟨v,ws,rfl,h1,h2⟩:=h.aP;exact .cons' (Bv t p.1 v h1) (kD (u::l) p.2 ws h2)
theorem Lb {Z Z':ak}{top top':Nat->Nat}{t:Ty}{x:Den R.T t}{vs:List V}(h:ah R Z top (SV R .any t x).cells vs):ah R Z' top' (SV R .any t x).cells vs:=by
 cases t with
 |st n=>exact kD _ _ _ h|int k=>exact kD [.int k] x vs h|bool=>exact kD [.bool] x vs h|str=>exact kD [.str] x vs h|slice t=>exact kD [.slice t] x vs h
theorem ah.split {Z:ak}{top:Nat->Nat}:∀{ts ts':List (TV R.T)}{vs:List V},ah R Z top (ts++ts') vs->∃a b,vs=a++b/\ah R Z top ts a/\ah R Z top ts' b
 | [],_,vs,h=>⟨[],vs,rfl,rfl,h⟩|t::ts,ts',vs,h=>by obtain⟨v,ws,rfl,h1,h2⟩:=ah.aP (ts:=ts++ts') h;obtain⟨a,b,rfl,h3,h4⟩:=ah.split h2;exact⟨v::a,b,rfl,.cons' h1 h3,h4⟩
theorem iN {Z Z':ak}{top top':Nat->Nat}{t:Ty}:∀(l:List (Den R.T t))(vs:List V),ah R Z top (l.flatMap fun x=>(SV R .any t x).cells) vs->ah R Z' top' (l.flatMap fun x=>(SV R .any t x).cells) vs
 | [],vs,h=>h|x::l,vs,h=>by rw[P6] at h⊢;obtain⟨a,b,rfl,h1,h2⟩:=h.split;exact(Lb h1).append (iN l b h2)
def bI (fr:Fr)(Z:ak)(top:Nat->Nat):TV R.T->V->Prop
 |.opt j w y,v=>(fr.tm j= .bool w->Rl R Z top y v)/\(fr.tm j= .bool (!w)\/fr.tm j=FN->v=FN)|x,v=>Rl R Z top x v
theorem bI.of {fr:Fr}{Z:ak}{top:Nat->Nat}{x:TV R.T}{v:V}(h:Rl R Z top x v):bI fr Z top x v:=by
 cases x<;>first|exact h|exact h.Bo.elim
def aM (Z:ak)(Y:qd)(o:Nat):Ob R.T->Prop
 |.cells cs=>∃s l,Z.ob o=some s/\Y.Rq (Z.om.lc o) s=some l/\ah R Z Y.top cs l|.map k e m=>∃s,Z.ob o=some s/\Y.aW (Z.om.lc o) s=some (m.map fun p=>Q8 R k p.1,m.map fun p=>Q8 R e p.2)
 |.smap ks vs=>∃s k l,Z.ob o=some s/\Y.aW (Z.om.lc o) s=some (k,l)/\ah R Z Y.top ks k/\ah R Z Y.top vs l|.arr t l=>l.length=Z.ln o/\((l=[]/\Z.ob o=none)\/∃s cs,Z.ob o=some s/\Y.Rq (Z.om.lc o) s=some cs/\ah R Z Y.top (l.flatMap fun x=>(SV R .any t x).cells) cs)
 |.sg ss=>∃s,Z.ob o=some s/\Y.Rq (Z.om.lc o) s=some (Uu ss)|.gone=>True|.ro b=>aM Z Y o b
theorem aM.strip {Z:ak}{Y:qd}{o:Nat}:∀{x:Ob R.T},aM Z Y o x->aM Z Y o (af2 x)
 |.cells _,h=>h|.map _ _ _,h=>h|.smap _ _,h=>h|.arr _ _,h=>h|.sg _,h=>h|.gone,h=>h|.ro b,h=>aM.strip (x:=b) h
structure aj (Z:ak)(b:Nat)(st:MS R.T)(fr:Fr)(Y:qd):Prop where
 d:fr.d=Z.om.dp
 om:fr.om=Z.om.om
 fr:∀i v,look st.fr i=some v->bI fr Z Y.top v (fr.tm i)
 ob:∀o x,look st.ob o=some x->aM Z Y o x
 inj:∀t u s,Z.tk t=some s->Z.tk u=some s->t=u
 lt:∀t s,Z.tk t=some s->s<b
 ge:∀t s,Z.tk t=some s->Z.om.lo<=s
 nx:Z.om.lo<=b
variable {Z:ak}{b:Nat}{st:MS R.T}{fr:Fr}{Y:qd}
theorem aj.le {b':Nat}(h:aj Z b st fr Y)(hb:b<=b'):aj Z b' st fr Y:={h with lt:=fun t s ht=>PV (h.lt t s ht) hb,nx:=PD h.nx hb}
theorem aM.bump {o k:Nat}:∀{x:Ob R.T},aM Z Y o x->aM Z (Y.bump k) o x
 |.cells _,h=>h|.map _ _ _,h=>h|.smap _ _,h=>h|.arr _ _,h=>h|.sg _,h=>h|.gone,h=>h|.ro b,h=>aM.bump (x:=b) h
theorem aj.next (h:aj Z b st fr Y)(k:Nat):aj Z b st fr (Y.bump k):={h with fr:=h.fr,ob:=fun o x hx=>(h.ob o x hx).bump}
theorem aj.rd (h:aj Z b st fr Y){o:Nat}{x:Ob R.T}(hx:V6 st o=some x):aM Z Y o x:=by
 unfold V6 at hx;split at hx
 .rename_i y hy;cases hx;exact(h.ob _ _ hy).strip
 .cases hx
theorem Lc {Z:ak}{top:Nat->Nat}{x:TV R.T}{u v:V}{i:Nat}(h:bI fr Z top x v):bI (fr.set i u) Z top (afZ i x) v:=by
 cases x with
 |opt j w y=>
  show bI _ _ _ (bif Nat.beq j i then .gone else .opt j w y) v;cases hj:Nat.beq j i
  .have hs:(fr.set i u).tm j=fr.tm j:=Yq _ _ (by simpa using rO hj);exact⟨fun hc=>h.1 (by rw[<-hs];exact hc),fun hc=>h.2 (by rw[<-hs];exact hc)⟩
  .exact bI.of (x:=.gone) (by unfold Rl;trivial)
 |_=>exact h
theorem aj.put (h:aj Z b st fr Y)(i:Nat){x:TV R.T}{v:V}(hx:bI (fr.set i v) Z Y.top x v):aj Z b (st.put i x) (fr.set i v) Y where
 d:=h.d
 om:=h.om
 ob:=h.ob
 inj:=h.inj
 lt:=h.lt
 ge:=h.ge
 nx:=h.nx
 fr:=fun j y hy=>by
  by_cases e:j=i
  .subst e;have hy':some x=some y:=by rw[<-hy];exact(bL _ _ _).symm
   cases hy';rw[Vw];exact hx
  .have hy':look (U1 (afZ i) (Tx i st.fr)) j=some y:=by rw[<-hy];exact(aY _ _ e).symm
   rw[gV,eP e,Py] at hy';obtain⟨z,hz,rfl⟩:=hy';rw[Yq _ _ (by simpa using e)];exact Lc (h.fr j z hz)
theorem aj.SK (h:aj Z b st fr Y)(d:Option Nat){x:TV R.T}{v:V}(hx:Rl R Z Y.top x v):aj Z b (st.SK d x) (fr.put d v) Y:=by
 cases d with
 |none=>exact h|some i=>exact h.put i (.of hx)
theorem Ld {Z:ak}{top:Nat->Nat}{x:TV R.T}{v:V}{i:Nat}{c:Bool}(hi:fr.tm i= .bool c)(h:bI fr Z top x v):bI fr Z top (lrn i c x) v:=by
 cases x with
 |opt j w y=>
  show bI _ _ _ (bif Nat.beq j i then (bif (c==w) then y else .undef) else .opt j w y) v;cases hj:Nat.beq j i
  .exact h
  .have:=bn hj;subst this;by_cases e:c=w
   .subst e;rw[beq_self_eq_true];exact bI.of (h.1 hi)
   .rw[show (c==w)=false by simpa using e];have e':c= !w:=(by cases c<;>cases w<;>first|rfl|exact absurd rfl e);have h':=h.2 (.inl (by rw[hi,e']));subst h';exact bI.of (x:=.undef) (by unfold Rl;rfl)
 |_=>exact h
theorem aj.learn (h:aj Z b st fr Y){i:Nat}{c:Bool}(hc:fr.tm i= .bool c):aj Z b (st.learn i c) fr Y where
 d:=h.d
 om:=h.om
 ob:=h.ob
 inj:=h.inj
 lt:=h.lt
 ge:=h.ge
 nx:=h.nx
 fr:=fun j y hy=>by
  by_cases e:j=i
  .subst e;have hy':some (TV.Tn c)=some y:=by rw[<-hy];exact(bL _ _ _).symm
   cases hy';exact bI.of (x:=.Tn c) (by unfold Rl;exact hc)
  .have hy':look (U1 (lrn i c) (Tx i st.fr)) j=some y:=by rw[<-hy];exact(aY _ _ e).symm
   rw[gV,eP e,Py] at hy';obtain⟨z,hz,rfl⟩:=hy';exact Ld hc (h.fr j z hz)
def ak.dM (Z:ak)(o s:Nat):ak:={Z with ob:=upd Z.ob o (some s)}
def ak.bR (Z:ak)(t s:Nat):ak:={Z with tk:=upd Z.tk t (some s)}
theorem Bw {Z':ak}{top:Nat->Nat}{o:Nat}{x:TV R.T}{v:V}(ho:∀p,p≠o->Z'.ob p=Z.ob p/\Z'.ln p=Z.ln p)(ht:Z'.tk=Z.tk)(hx:Z'.om=Z.om)(h:bI fr Z top x v):bI fr Z' top (abl o x) v:=by
 unfold abl;cases hm:Uq o x
 .cases x with
  |opt j w y=>exact⟨fun hc=>Rl.kill o ho ht hx y v hm (h.1 hc),h.2⟩
  |_=>exact bI.of (Rl.kill o ho ht hx _ v hm h)
 .exact bI.of (x:=.gone) (by unfold Rl;trivial)
theorem wM (c:Cx){o p:Nat}(h:p≠o):fQ (c.lc p) (c.lc o)=false:=by
 cases e:fQ (c.lc p) (c.lc o)
 .rfl
 .unfold fQ at e;rw[Pz,beq_iff_eq,beq_iff_eq] at e;exact absurd (Prod.ext e.2 e.1) (c.Bl h)
theorem jI {c:Cx}{o p:Nat}(Y:qd)(s s':Nat)(x:Te)(h:p≠o):(Y.setObj (c.lc o) s' x).Rq (c.lc p) s=Y.Rq (c.lc p) s:=A9 Y s s' x (wM c h)
theorem nC {c:Cx}{o p:Nat}(Y:qd)(s s':Nat)(x:Te)(h:p≠o):(Y.setObj (c.lc o) s' x).aW (c.lc p) s=Y.aW (c.lc p) s:=Ba Y s s' x (wM c h)
theorem ah.abm {Z':ak}{top:Nat->Nat}{o:Nat}(ho:∀p,p≠o->Z'.ob p=Z.ob p/\Z'.ln p=Z.ln p)(ht:Z'.tk=Z.tk)(hx:Z'.om=Z.om):∀{cs:List (TV R.T)}{l:List V},ah R Z top cs l->ah R Z' top (abm o cs) l
 | [],_,h=>h|x::cs,_,h=>by
  obtain⟨v,ws,rfl,h1,h2⟩:=h.aP;refine .cons' ?_ (ah.abm ho ht hx h2);unfold abl;cases hm:Uq o x
  .exact Rl.kill o ho ht hx x v hm h1
  .unfold Rl;trivial
theorem Bz {Z':ak}{o p s':Nat}{a:Te}(hp:p≠o)(ho:∀p,p≠o->Z'.ob p=Z.ob p/\Z'.ln p=Z.ln p)(ht:Z'.tk=Z.tk)(hx:Z'.om=Z.om):∀{x:Ob R.T},Ob.Uq o x=false->aM Z Y p x->aM Z' (Y.setObj (Z.om.lc o) s' a) p x
 |.cells cs,hm,h=>by obtain⟨s,l,h1,h2,h3⟩:=h;exact⟨s,l,((ho p hp).1.trans h1),by rw[hx,jI _ _ _ _ hp];exact h2,ah.kill o ho ht hx _ _ hm h3⟩
 |.map k e m,_,h=>by obtain⟨s,h1,h2⟩:=h;exact⟨s,((ho p hp).1.trans h1),by rw[hx,nC _ _ _ _ hp];exact h2⟩
 |.smap ks vs,hm,h=>by obtain⟨s,k,l,h1,h2,h3,h4⟩:=h;have hm':(Vn o ks||Vn o vs)=false:=hm;rw[Qs] at hm';exact⟨s,k,l,((ho p hp).1.trans h1),by rw[hx,nC _ _ _ _ hp];exact h2,ah.kill o ho ht hx _ _ hm'.1 h3,ah.kill o ho ht hx _ _ hm'.2 h4⟩
 |.arr t l,hm,h=>by
  refine⟨h.1.trans (ho p hp).2.symm,?_⟩;rcases h.2 with h| ⟨s,cs,h1,h2,h3⟩
  .exact .inl ⟨h.1,(ho p hp).1.trans h.2⟩
  .exact .inr ⟨s,cs,((ho p hp).1.trans h1),by rw[hx,jI _ _ _ _ hp];exact h2,iN l cs h3⟩
 |.sg ss,_,h=>by obtain⟨s,h1,h2⟩:=h;exact⟨s,((ho p hp).1.trans h1),by rw[hx,jI _ _ _ _ hp];exact h2⟩
 |.gone,_,_=>trivial|.ro b,hm,h=>Bz hp ho ht hx (x:=b) hm h
theorem Le {Z':ak}{o p s':Nat}{a:Te}{x:Ob R.T}(hp:p≠o)(ho:∀p,p≠o->Z'.ob p=Z.ob p/\Z'.ln p=Z.ln p)(ht:Z'.tk=Z.tk)(hx:Z'.om=Z.om)(h:aM Z Y p x):aM Z' (Y.setObj (Z.om.lc o) s' a) p (Ob.kill o x):=by
 by_cases hc:∃cs,x= .cells cs
 .obtain⟨cs,rfl⟩:=hc;obtain⟨s,l,h1,h2,h3⟩:=h;exact⟨s,l,((ho p hp).1.trans h1),by rw[hx,jI _ _ _ _ hp];exact h2,ah.abm ho ht hx h3⟩
 .have e:Ob.kill o x=bif Ob.Uq o x then .gone else x:=by cases x<;>first|rfl|exact absurd ⟨_,rfl⟩ hc
  rw[e];cases hm:Ob.Uq o x
  .exact Bz hp ho ht hx hm h
  .trivial
theorem BA {o p s:Nat}{a:Te}(hp:p≠o):∀{x:Ob R.T},aM Z Y p x->aM Z (Y.setObj (Z.om.lc o) s a) p x
 |.cells cs,h=>by obtain⟨s,l,h1,h2,h3⟩:=h;exact⟨s,l,h1,by rw[jI _ _ _ _ hp];exact h2,h3⟩
 |.map k e m,h=>by obtain⟨s,h1,h2⟩:=h;exact⟨s,h1,by rw[nC _ _ _ _ hp];exact h2⟩
 |.smap ks vs,h=>by obtain⟨s,k,l,h1,h2,h3⟩:=h;exact⟨s,k,l,h1,by rw[nC _ _ _ _ hp];exact h2,h3⟩
 |.arr t l,h=>by
  refine⟨h.1,?_⟩;rcases h.2 with h| ⟨s,cs,h1,h2,h3⟩
  .exact .inl h
  .exact .inr ⟨s,cs,h1,by rw[jI _ _ _ _ hp];exact h2,h3⟩
 |.sg ss,h=>by obtain⟨s,h1,h2⟩:=h;exact⟨s,h1,by rw[jI _ _ _ _ hp];exact h2⟩
 |.gone,_=>trivial|.ro b,h=>BA hp (x:=b) h
theorem BD {o t s n:Nat}(key:∀u s',u≠t->Z.tk u=some s'->(Z.bR t s).tk u=some s'/\(Y.R9 s n).top s'=Y.top s'):∀{x:Ob R.T},aM Z Y o x->aM (Z.bR t s) (Y.R9 s n) o (Ob.wk t x)
 |.cells cs,h=>by obtain⟨s',l,h1,h2,h3⟩:=h;exact⟨s',l,h1,h2,ah.wk (Z:=Z) (Z':=Z.bR t s) (top:=Y.top) (top':=(Y.R9 s n).top) t ⟨rfl,rfl,rfl⟩ key _ _ h3⟩
 |.map k e m,h=>h|.smap ks vs,h=>by obtain⟨s',k,l,h1,h2,h3,h4⟩:=h;exact⟨s',k,l,h1,h2,ah.wk (Z:=Z) (Z':=Z.bR t s) (top:=Y.top) (top':=(Y.R9 s n).top) t ⟨rfl,rfl,rfl⟩ key _ _ h3,ah.wk (Z:=Z) (Z':=Z.bR t s) (top:=Y.top) (top':=(Y.R9 s n).top) t ⟨rfl,rfl,rfl⟩ key _ _ h4⟩
 |.arr ty l,h=>by
  refine⟨h.1,?_⟩;rcases h.2 with h| ⟨s,cs,h1,h2,h3⟩
  .exact .inl h
  .exact .inr ⟨s,cs,h1,h2,iN l cs h3⟩
 |.sg ss,h=>h|.gone,_=>trivial|.ro b,h=>BD key (x:=b) h
theorem nD {o s:Nat}:∀p,p≠o->(Z.dM o s).ob p=Z.ob p/\(Z.dM o s).ln p=Z.ln p:=fun p h=>⟨by simp[ak.dM,upd,h],rfl⟩
def ak.lS (Z:ak)(o n:Nat):ak:={Z with ln:=upd Z.ln o n}
theorem BF {o n:Nat}:∀p,p≠o->(Z.lS o n).ob p=Z.ob p/\(Z.lS o n).ln p=Z.ln p:=fun p h=>⟨rfl,by simp[ak.lS,upd,h]⟩
def ak.gh (Z:ak)(o:Nat):ak:={Z.lS o 0 with ob:=upd Z.ob o none}
theorem jf {o:Nat}:∀p,p≠o->(Z.gh o).ob p=Z.ob p/\(Z.gh o).ln p=Z.ln p:=fun p h=>⟨by simp[ak.gh,upd,h],(BF (Z:=Z) (n:=0) p h).2⟩
theorem kE {o n:Nat}:(Z.lS o n).ln o=n:=by simp[ak.lS,upd]
def ak.jJ (Z:ak)(o s n:Nat):ak:=(Z.dM o s).lS o n
theorem wN {o s n:Nat}:∀p,p≠o->(Z.jJ o s n).ob p=Z.ob p/\(Z.jJ o s n).ln p=Z.ln p:=fun p h=>⟨(nD p h).1,(BF p h).2⟩
theorem iO {o s:Nat}:(Z.dM o s).ob o=some s:=by simp[ak.dM,upd]
theorem aj.new' {Z':ak}(h:aj Z b st fr Y)(o s:Nat){x:Ob R.T}{a:Te}(nD:∀p,p≠o->Z'.ob p=Z.ob p/\Z'.ln p=Z.ln p)(ht:Z'.tk=Z.tk)(aC:Z'.om=Z.om)(hx:aM Z' (Y.setObj (Z.om.lc o) s a) o x):aj Z' b (st.new o x) fr (Y.setObj (Z.om.lc o) s a) where
 d:=by rw[aC];exact h.d
 om:=by rw[aC];exact h.om
 fr:=fun j y hy=>by have hy':look (U1 (abl o) st.fr) j=some y:=hy;rw[gV,Py] at hy';obtain⟨z,hz,rfl⟩:=hy';exact Bw nD ht aC (h.fr j z hz)
 ob:=fun p y hy=>by
  by_cases e:p=o
  .subst e;have hy':some x=some y:=by rw[<-hy];exact(bL _ _ _).symm
   cases hy';exact hx
  .have hy':look (U1 (Ob.kill o) (Tx o st.ob)) p=some y:=by rw[<-hy];exact(aY _ _ e).symm
   rw[gV,eP e,Py] at hy';obtain⟨z,hz,rfl⟩:=hy';exact Le e nD ht aC (h.ob p z hz)
 inj:=by rw[ht];exact h.inj
 lt:=by rw[ht];exact h.lt
 ge:=by rw[ht,aC];exact h.ge
 nx:=by rw[aC];exact h.nx
theorem aj.new (h:aj Z b st fr Y)(o s:Nat){x:Ob R.T}{a:Te}(hx:aM (Z.dM o s) (Y.setObj (Z.om.lc o) s a) o x):aj (Z.dM o s) b (st.new o x) fr (Y.setObj (Z.om.lc o) s a):=h.new' o s nD rfl rfl hx
theorem aj.pQ (h:aj Z b st fr Y)(o s n:Nat){x:Ob R.T}{a:Te}(hx:aM (Z.jJ o s n) (Y.setObj (Z.om.lc o) s a) o x):aj (Z.jJ o s n) b (st.new o x) fr (Y.setObj (Z.om.lc o) s a):=h.new' o s wN rfl rfl hx
theorem BG {Z':ak}{o p:Nat}(hp:p≠o)(ho:∀p,p≠o->Z'.ob p=Z.ob p/\Z'.ln p=Z.ln p)(ht:Z'.tk=Z.tk)(hx:Z'.om=Z.om):∀{x:Ob R.T},Ob.Uq o x=false->aM Z Y p x->aM Z' Y p x
 |.cells cs,hm,h=>by obtain⟨s,l,h1,h2,h3⟩:=h;exact⟨s,l,((ho p hp).1.trans h1),by rw[hx];exact h2,ah.kill o ho ht hx _ _ hm h3⟩
 |.map k e m,_,h=>by obtain⟨s,h1,h2⟩:=h;exact⟨s,((ho p hp).1.trans h1),by rw[hx];exact h2⟩
 |.smap ks vs,hm,h=>by obtain⟨s,k,l,h1,h2,h3,h4⟩:=h;have hm':(Vn o ks||Vn o vs)=false:=hm;rw[Qs] at hm';exact⟨s,k,l,((ho p hp).1.trans h1),by rw[hx];exact h2,ah.kill o ho ht hx _ _ hm'.1 h3,ah.kill o ho ht hx _ _ hm'.2 h4⟩
 |.arr t l,hm,h=>by
  refine⟨h.1.trans (ho p hp).2.symm,?_⟩;rcases h.2 with h| ⟨s,cs,h1,h2,h3⟩
  .exact .inl ⟨h.1,(ho p hp).1.trans h.2⟩
  .exact .inr ⟨s,cs,((ho p hp).1.trans h1),by rw[hx];exact h2,iN l cs h3⟩
 |.sg ss,_,h=>by obtain⟨s,h1,h2⟩:=h;exact⟨s,((ho p hp).1.trans h1),by rw[hx];exact h2⟩
 |.gone,_,_=>trivial|.ro b,hm,h=>BG hp ho ht hx (x:=b) hm h
theorem aj.ghost (h:aj Z b st fr Y)(o:Nat)(t:Ty):aj (Z.gh o) b (st.new o (.arr t [])) fr Y where
 d:=h.d
 om:=h.om
 fr:=fun j y hy=>by have hy':look (U1 (abl o) st.fr) j=some y:=hy;rw[gV,Py] at hy';obtain⟨z,hz,rfl⟩:=hy';exact Bw jf rfl rfl (h.fr j z hz)
 ob:=fun p y hy=>by
  by_cases e:p=o
  .subst e;have hy':some (Ob.arr t ([]:List (Den R.T t)))=some y:=by rw[<-hy];exact(bL _ _ _).symm
   cases hy';exact⟨(kE (Z:=Z) (n:=0)).symm,.inl ⟨rfl,by simp[ak.gh,upd]⟩⟩
  .have hy':look (U1 (Ob.kill o) (Tx o st.ob)) p=some y:=by rw[<-hy];exact(aY _ _ e).symm
   rw[gV,eP e,Py] at hy';obtain⟨z,hz,rfl⟩:=hy';by_cases hc:∃cs,z= .cells cs
   .obtain⟨cs,rfl⟩:=hc;obtain⟨s,l,h1,h2,h3⟩:=h.ob p _ hz;exact⟨s,l,((jf (Z:=Z) p e).1.trans h1),h2,ah.abm jf rfl rfl h3⟩
   .have e2:Ob.kill o z=bif Ob.Uq o z then .gone else z:=(by cases z<;>first|rfl|exact absurd ⟨_,rfl⟩ hc);rw[e2];cases hm:Ob.Uq o z
    .exact BG e jf rfl rfl hm (h.ob p z hz)
    .trivial
 inj:=h.inj
 lt:=h.lt
 ge:=h.ge
 nx:=h.nx
theorem BH {c:Cx}{o p:Nat}(Y:qd)(h:p≠o):(Y.bF (c.lc o)).obj (c.lc p)=Y.obj (c.lc p):=by unfold qd.bF upd;dsimp only;rw[if_neg (c.Bl h)]
theorem BI {Y':qd}{p:Nat}(hp:Y'.obj (Z.om.lc p)=Y.obj (Z.om.lc p))(ht:Y'.top=Y.top):∀{x:Ob R.T},aM Z Y p x->aM Z Y' p x
 |.cells cs,h=>by obtain⟨s,l,h1,h2,h3⟩:=h;exact⟨s,l,h1,by unfold qd.Rq at h2⊢;rw[hp];exact h2,by rw[ht];exact h3⟩
 |.map k e m,h=>by obtain⟨s,h1,h2⟩:=h;exact⟨s,h1,by unfold qd.aW at h2⊢;rw[hp];exact h2⟩
 |.smap ks vs,h=>by obtain⟨s,k,l,h1,h2,h3,h4⟩:=h;exact⟨s,k,l,h1,by unfold qd.aW at h2⊢;rw[hp];exact h2,by rw[ht];exact h3,by rw[ht];exact h4⟩
 |.arr t l,h=>by
  refine⟨h.1,?_⟩;rcases h.2 with h| ⟨s,cs,h1,h2,h3⟩
  .exact .inl h
  .exact .inr ⟨s,cs,h1,by unfold qd.Rq at h2⊢;rw[hp];exact h2,iN l cs h3⟩
 |.sg ss,h=>by obtain⟨s,h1,h2⟩:=h;exact⟨s,h1,by unfold qd.Rq at h2⊢;rw[hp];exact h2⟩
 |.gone,_=>trivial|.ro b,h=>BI hp ht (x:=b) h
theorem aj.del (h:aj Z b st fr Y)(o:Nat):aj Z b (st.del o) fr (Y.bF (Z.om.lc o)) where
 d:=h.d
 om:=h.om
 fr:=h.fr
 ob:=fun p y hy=>by
  by_cases e:p=o
  .subst e;have:look (Tx p st.ob) p=some y:=hy;have key:∀l:List (Nat×Ob R.T),look (Tx p l) p=none:=by
    intro l;induction l with
    |nil=>rfl|cons q l ih=>
     obtain⟨j,x⟩:=q;unfold Tx;cases hj:Nat.beq j p
     .show (bif Nat.beq j p then some x else look (Tx p l) p)=none;rw[hj];exact ih
     .exact ih
   rw[key] at this;cases this
  .have hy':look (Tx o st.ob) p=some y:=hy;rw[eP e] at hy';exact BI (BH Y e) rfl (h.ob p y hy')
 inj:=h.inj
 lt:=h.lt
 ge:=h.ge
 nx:=h.nx
theorem aj.set (h:aj Z b st fr Y)(o s:Nat){x:Ob R.T}{a:Te}(hx:aM Z (Y.setObj (Z.om.lc o) s a) o x):aj Z b (st.set o x) fr (Y.setObj (Z.om.lc o) s a) where
 d:=h.d
 om:=h.om
 fr:=h.fr
 ob:=fun p y hy=>by
  by_cases e:p=o
  .subst e;have hy':some x=some y:=by rw[<-hy];exact(bL _ _ _).symm
   cases hy';exact hx
  .have hy':look (Tx o st.ob) p=some y:=by rw[<-hy];exact(aY _ _ e).symm
   rw[eP e] at hy';exact BA e (h.ob p y hy')
 inj:=h.inj
 lt:=h.lt
 ge:=h.ge
 nx:=h.nx
theorem aj.wk (h:aj Z b st fr Y)(t s n:Nat){b':Nat}(hb:b<=b')(hs:s<b')(hl:Z.om.lo<=s)(hf:∀u,u≠t->Z.tk u≠some s):aj (Z.bR t s) b' (st.wk t) fr (Y.R9 s n) where
 d:=h.d
 om:=h.om
 fr:=fun j y hy=>by
  have hy':look (U1 (Aq.wk t) st.fr) j=some y:=hy;rw[gV,Py] at hy';obtain⟨z,hz,rfl⟩:=hy';have hz':=h.fr j z hz;have key:∀u s',u≠t->Z.tk u=some s'->(Z.bR t s).tk u=some s'/\(Y.R9 s n).top s'=Y.top s':=fun u s' hu hs'=>
   ⟨by simp[ak.bR,upd,hu,hs'],ac0 _ _ fun e=>hf u hu (by rw[hs',e])⟩
  cases z with
  |opt j' w y=>exact⟨fun hc=>Rl.wk (Z:=Z) (Z':=Z.bR t s) (top:=Y.top) (top':=(Y.R9 s n).top) t ⟨rfl,rfl,rfl⟩ key y _ (hz'.1 hc),hz'.2⟩
  |_=>exact bI.of (Rl.wk (Z:=Z) (Z':=Z.bR t s) (top:=Y.top) (top':=(Y.R9 s n).top) t ⟨rfl,rfl,rfl⟩ key _ _ hz')
 ob:=fun p y hy=>by
  have hy':look (U1 (Ob.wk t) st.ob) p=some y:=hy;rw[gV,Py] at hy';obtain⟨z,hz,rfl⟩:=hy';have hz':=h.ob p z hz;have key:∀u s',u≠t->Z.tk u=some s'->(Z.bR t s).tk u=some s'/\(Y.R9 s n).top s'=Y.top s':=fun u s' hu hs'=>
   ⟨by simp[ak.bR,upd,hu,hs'],ac0 _ _ fun e=>hf u hu (by rw[hs',e])⟩
  exact BD key hz'
 inj:=fun u v s' hu hv=>by
  by_cases e1:u=t<;>by_cases e2:v=t
  .rw[e1,e2]
  .simp[ak.bR,upd,e1] at hu;simp[ak.bR,upd,e2] at hv;exact absurd (hu▸hv) (hf v e2)
  .simp[ak.bR,upd,e1] at hu;simp[ak.bR,upd,e2] at hv;exact absurd (hv▸hu) (hf u e1)
  .simp[ak.bR,upd,e1] at hu;simp[ak.bR,upd,e2] at hv;exact h.inj u v s' hu hv
 lt:=fun u s' hu=>by
  by_cases e1:u=t
  .simp[ak.bR,upd,e1] at hu;omega
  .simp[ak.bR,upd,e1] at hu;exact PV (h.lt u s' hu) hb
 ge:=fun u s' hu=>by
  by_cases e1:u=t
  .simp[ak.bR,upd,e1] at hu;rw[<-hu];exact hl
  .simp[ak.bR,upd,e1] at hu;exact h.ge u s' hu
 nx:=PD h.nx hb
theorem BJ {top:Nat->Nat}{x:TV R.T}{v:Value}(h:abn v=some x):∃y,bP v=some y/\Rl R Z top x y:=by unfold abn at h;split at h<;>cases h<;>exact⟨_,rfl,by unfold Rl;rfl⟩
theorem BK {top:Nat->Nat}:∀{vs:List Value}{l:List (TV R.T)},abX vs=some l->∃y,vs.mapM bP=some y/\ah R Z top l y
 | [],l,h=>by cases h;exact⟨[],rfl,rfl⟩|v::vs,l,h=>by
  unfold abX at h;cases h1:(abn v:Option (TV R.T)) with
  |none=>simp only[h1] at h;cases h|some a=>
   cases h2:(abX vs:Option (List (TV R.T))) with
   |none=>simp only[h1,h2] at h;cases h|some az=>simp only[h1,h2] at h;cases h;obtain⟨y,hy,hr⟩:=BJ (Z:=Z) (top:=top) h1;obtain⟨ys,hys,hrs⟩:=BK h2;exact⟨y::ys,by simp[hy,hys],.cons' hr hrs⟩
theorem BL {top:Nat->Nat}{x:TV R.T}{v:Value}(h:abY v=some x):∃y,ofValue v=some y/\Rl R Z top x y:=by
 unfold abY at h;split at h
 .rename_i cs;cases h2:(abX cs.toList:Option (List (TV R.T))) with
  |none=>simp only[h2] at h;cases h|some l=>simp only[h2] at h;cases h;obtain⟨ys,hys,hrs⟩:=BK (Z:=Z) (top:=top) h2;exact⟨.agg ys,by simp[ofValue,hys],by unfold Rl;exact⟨_,rfl,hrs⟩⟩
 .obtain⟨y,hy,hr⟩:=BJ (Z:=Z) (top:=top) h;refine⟨y,?_,hr⟩;unfold abn at h;split at h<;>first|exact hy|cases h
def eX (fr:Fr)(g:List (Nat×Bool)):Prop:=∀j u,look g j=some u->fr.tm j= .bool u
theorem eX.nil:eX fr []:=fun _ _ h=>by cases h
theorem eX.cons {g:List (Nat×Bool)}{j:Nat}{u:Bool}(h:fr.tm j= .bool u)(hg:eX fr g):eX fr ((j,u)::g):=fun i v hi=>by
 by_cases e:i=j
 .subst e;rw[bL] at hi;cases hi;exact h
 .rw[aY _ _ e] at hi;exact hg i v hi
theorem Lf {fr:Fr}{top:Nat->Nat}{g:List (Nat×Bool)}(hg:eX fr g){y x:TV R.T}{v:V}(hy:bI fr Z top y v)(he:aeE g y=some x):Rl R Z top x v:=by
 cases y with
 |opt j w z=>
  unfold aeE at he;dsimp only at he;split at he
  .rename_i u hu;cases he;have:=hg j u hu;by_cases e:u=w
   .subst e;rw[beq_self_eq_true];exact hy.1 this
   .rw[show (u==w)=false by simpa using e];have e':u= !w:=(by cases u<;>cases w<;>first|rfl|exact absurd rfl e);unfold Rl;exact hy.2 (.inl (by rw[this,e']))
  .cases he
 |_=>cases he;exact hy
theorem aI (h:aj Z b st fr Y){g:List (Nat×Bool)}(hg:eX fr g){o:Operand}{x:TV R.T}(he:RG g st o=some x):Rl R Z Y.top x (fr.ev E o):=by
 cases o with
 |tmp t=>
  rw[pK];unfold RG at he;dsimp only at he;split at he
  .rename_i v hv;exact Lf hg (h.fr _ _ hv) he
  .cases he
 |const v=>rw[AY];obtain⟨y,hy,hr⟩:=BL (Z:=Z) (top:=Y.top) (show abY v=some x from he);rw[hy];exact hr
 |func f=>cases he;rw[AZ];unfold Rl;exact⟨[],[],rfl,rfl,rfl⟩|global i=>cases he
theorem lT (h:aj Z b st fr Y){g:List (Nat×Bool)}(hg:eX fr g):∀{l:List Operand}{xs:List (TV R.T)},V7 g st l=some xs->ah R Z Y.top xs (l.map (fr.ev E))
 | [],xs,he=>by cases he;rfl|o::l,xs,he=>by
  unfold V7 at he;cases h1:RG g st o with
  |none=>simp only[h1] at he;cases he|some a=>
   cases h2:V7 g st l with
   |none=>simp only[h1,h2] at he;cases he|some az=>simp only[h1,h2] at he;cases he;exact .cons' (aI h hg h1) (lT h hg h2)
theorem wO (h:aj Z b st fr Y){g:List (Nat×Bool)}(hg:eX fr g):∀{l:List (Nat×Operand)}{xs:List (Nat×TV R.T)},abZ g st l=some xs->xs.map (·.1)=l.map (·.1)/\ah R Z Y.top (xs.map (·.2)) (l.map fun p=>fr.ev E p.2)
 | [],xs,he=>by cases he;exact⟨rfl,rfl⟩| (i,o)::l,xs,he=>by
   unfold abZ at he;cases h1:RG g st o with
   |none=>simp only[h1] at he;cases he|some a=>
    cases h2:abZ g st l with
    |none=>simp only[h1,h2] at he;cases he|some az=>simp only[h1,h2] at he;cases he;obtain⟨e1,e2⟩:=wO h hg h2;exact⟨by simp[e1],.cons' (aI h hg h1) e2⟩
end
theorem Lg {n m:Nat}{v:Vec n}{w:Vec m}(h:aez v=some w):n=m/\HEq v w:=by
 unfold aez at h;split at h
 .rename_i e;subst e;cases h;exact⟨rfl,HEq.rfl⟩
 .cases h
theorem BM:∀{k:XF}{s:Sg}{x:abT k},pk1 k s=some x->up1 k x=s
 |.i k,.i k' y,x,h=>by
  have h':(if k'=k then some y else none)=some (x:Int):=h;by_cases e:k'=k
  .subst e;rw[if_pos rfl] at h';cases h';rfl
  .rw[if_neg e] at h';cases h'
 |.a k n,.a k' n' v,x,h=>by
  have h':(if k'=k then aez (m:=n) v else none)=some (x:Vec n):=h;by_cases e:k'=k
  .subst e;rw[if_pos rfl] at h';obtain⟨e1,e2⟩:=Lg h';subst e1;cases e2;rfl
  .rw[if_neg e] at h';cases h'
 |.i k,.a _ _ _,x,h=>by cases h|.a k n,.i _ _,x,h=>by cases h
theorem rQ:∀{l:List XF}{ss:List Sg}{x:abh l},RZ l ss=some x->XV l x=ss
 | [],ss,x,h=>by
   cases ss with
   |nil=>rfl|cons s ss=>cases h
 | [k],ss,x,h=>by
   cases ss with
   |nil=>cases h|cons s ss=>
    cases ss with
    |nil=>show [up1 k x]=[s];rw[BM (show pk1 k s=some x from h)]|cons s' ss=>cases h
 |k::k'::l,ss,x,h=>by
  cases ss with
  |nil=>cases h|cons s ss=>
   have h':(match pk1 k s with
    |some x=>match RZ (k'::l) ss with
     |some p=>some (x,p)|none=>none
    |none=>none)=some x:=h
   cases hu:pk1 k s with
   |none=>simp only[hu] at h';cases h'|some y=>
    cases hs:RZ (k'::l) ss with
    |none=>simp only[hu,hs] at h';cases h'|some q=>simp only[hu,hs] at h';obtain rfl:=P9 h';show up1 k y::XV (k'::l) q=s::ss;rw[BM hu,rQ hs]
section
variable {R:Tq}(hR:VH R)
variable {Z:ak}{top:Nat->Nat}{b:Nat}{st:MS R.T}{fr:Fr}{Y:qd}
include hR
theorem lU {t:Ty}{x:Den R.T t}{tv:TV R.T}{v:V}(h:Wo R t tv=some x)(hr:Rl R Z top tv v):Rl R Z top (tv1 R .any t x) v:=by
 cases t with
 |int k=>rw[wG h hr];unfold Rl;rfl|bool=>rw[wH h hr];unfold Rl;rfl|str=>rw[wI h hr];unfold Rl;rfl|slice t=>obtain⟨c,hv⟩:=Bt h hr;rw[hv];unfold Rl;exact⟨c,rfl,trivial⟩
 |st n=>cases h
theorem BN:∀(l:List Ty)(p:Vm R.T l)(cs:List (TV R.T))(vs:List V),uns R l cs=some p->ah R Z top cs vs->ah R Z top (TR R .any l p) vs
 | [],p,cs,vs,h,hr=>by
   cases cs with
   |nil=>rw[hr.bg];rfl|cons c cs=>cases h
 | [t],p,cs,vs,h,hr=>by
   have h':Wo R t (hd1 R cs)=some p:=h;cases cs with
   |nil=>cases t<;>cases h'|cons c cs=>
    cases cs with
    |nil=>obtain⟨v,l,rfl,h1,h2⟩:=hr.aP;rw[h2.bg];exact .cons' (lU hR h' h1) rfl
    |cons c' cs=>cases t<;>cases h'
 |t::u::l,p,cs,vs,h,hr=>by
  cases cs with
  |nil=>cases h|cons c cs=>
   obtain⟨v,vs,rfl,h1,h2⟩:=hr.aP;unfold uns at h;cases hu:Wo R t c with
   |none=>simp only[hu] at h;cases h|some y=>
    cases hs:uns R (u::l) cs with
    |none=>simp only[hu,hs] at h;cases h|some q=>simp only[hu,hs] at h;obtain rfl:=P9 h;exact .cons' (lU hR hu h1) (BN (u::l) q cs vs hs h2)
theorem nE {t:Ty}{x:Den R.T t}{tv:TV R.T}{v:V}(h:V5 R t tv=some x)(hr:Rl R Z top tv v):Rl R Z top (SV R .any t x) v:=by
 cases t with
 |st n=>
  change abk R n tv=some x at h;unfold abk at h;split at h
  .rename_i cs;split at h
   .rename_i p hp;obtain rfl:=P9 h;obtain⟨l,hv,hl⟩:=hr.cO;subst hv;show Rl R Z top (.agg (TR R .any (R.lf n) (R.of n (R.to n p)))) _;rw[hR.adg];unfold Rl;exact⟨l,rfl,BN hR _ _ _ _ hp hl⟩
   .cases h
  .cases h
 |int k=>exact lU hR (t:=.int k) h hr|bool=>exact lU hR (t:=.bool) h hr|str=>exact lU hR (t:=.str) h hr|slice t=>exact lU hR (t:=.slice t) h hr
omit hR in
theorem BO {sz n:Nat}{c c':Cp}{x:Cap}(h:ab1 c c'=true)(hx:nk Z top sz n c x):nk Z top sz n c' x:=by
 cases c<;>cases c'<;>simp only[ab1,PE] at h<;>first|trivial|exact hx|exact .inl hx|exact .inr (.inl hx)| (rw[<-bn h];exact hx)
omit hR in
theorem wP {k e k' e':Ty}{m:List (Den R.T k'×Den R.T e')}{x:List (Den R.T k×Den R.T e)}(h:ab2 R m=some x):k'=k/\e'=e/\HEq m x:=by
 unfold ab2 at h;split at h
 .rename_i e;obtain⟨rfl,rfl⟩:=e;cases h;exact⟨rfl,rfl,HEq.rfl⟩
 .cases h
omit hR in
theorem BP {c:Cp}{t:Ty}{x:List (Den R.T t)}{tv:TV R.T}{v:V}(h:aeH R c t tv=some x)(hr:Rl R Z top tv v):Rl R Z top (.tX c t x) v:=by
 unfold aeH at h;split at h
 .rename_i c' t' l;cases hc:ab1 c' c
  .rw[hc] at h;cases h
  .rw[hc,cond_true] at h;obtain⟨e,e2⟩:=gF h;subst e;cases e2;obtain⟨c'',hv,hcc⟩:=hr.dz;unfold Rl;exact⟨c'',hv,BO hc hcc⟩
 .cases hc:ab1 .nil c
  .rw[hc] at h;cases h
  .rw[hc,cond_true] at h;cases h;unfold Rl;exact⟨.nil,hr.je,BO hc rfl⟩
 .cases h
mutual
theorem wQ:∀(k:Sk)(x:VZ R.T k)(tv:TV R.T)(v:V),pk R k tv=some x->Rl R Z top tv v->Rl R Z top (up R .any k x) v
 |.d t,x,tv,v,h,hr=>nE hR (by unfold pk at h;exact h) hr|.l c t,x,tv,v,h,hr=>BP (by unfold pk at h;exact h) hr|.agg l,x,tv,v,h,hr=>by
  cases tv<;>first| (exact absurd (show none=some x from h) (by simp))|skip
  rename_i cs;obtain⟨vs,rfl,hl⟩:=hr.cO;show Rl R Z top (.agg (Ti R .any l x)) _;unfold Rl;exact⟨vs,rfl,kF l x cs vs h hl⟩
 |.ref o off,x,tv,v,h,hr=>by
  cases tv<;>first| (exact absurd (show none=some x from h) (by simp))|skip
  rename_i p off';have h':(bif Nat.beq p o&& Nat.beq off' off then some () else none)=some x:=h;cases hb:(Nat.beq p o&& Nat.beq off' off)
  .rw[hb] at h';cases h'
  .rw[Pz] at hb;rw[bn hb.1,bn hb.2] at hr;exact hr
 |.Q5 l off,x,tv,v,h,hr=>by
  cases tv<;>first| (exact absurd (show none=some x from h) (by simp))|skip
  rename_i cs off';have h':(bif Nat.beq off' off then TL R l cs else none)=some x:=h;cases hb:Nat.beq off' off
  .rw[hb] at h';cases h'
  .rw[hb,cond_true] at h';rw[bn hb] at hr;obtain⟨vs,rfl,hl⟩:=hr.gD;show Rl R Z top (.Q5 (Ti R .any l x) off) _;unfold Rl;exact⟨vs,rfl,kF l x _ vs h' hl⟩
 |.RA o,x,tv,v,h,hr=>by
  cases tv<;>first| (exact absurd (show none=some x from h) (by simp))|skip
  rename_i p;have h':(bif Nat.beq p o then some () else none)=some x:=h;cases hb:Nat.beq p o
  .rw[hb] at h';cases h'
  .rw[bn hb] at hr;exact hr
 |.RX k e,x,tv,v,h,hr=>by
  cases tv<;>first| (exact absurd (show none=some x from h) (by simp))|skip
  rename_i k' e' m;obtain⟨e1,e2,e3⟩:=wP (show ab2 R m=some x from h);subst e1;subst e2;cases e3;exact hr
 |.fn f a b,x,tv,v,h,hr=>by
  cases tv<;>first| (exact absurd (show none=some x from h) (by simp))|skip
  rename_i f' a' b';have h':(bif Nat.beq f' f then (match TL R a a' with
   |some x=>match TL R b b' with
    |some y=>some (x,y)|none=>none
   |none=>none) else none)=some x:=h
  cases hb:Nat.beq f' f
  .rw[hb] at h';cases h'
  .rw[hb,cond_true] at h';rw[bn hb] at hr;obtain⟨va,vb,rfl,ha,hbb⟩:=hr.dS;cases h1:TL R a a' with
   |none=>simp only[h1] at h';cases h'|some y=>
    cases h2:TL R b b' with
    |none=>simp only[h1,h2] at h';cases h'|some z=>simp only[h1,h2] at h';cases h';show Rl R Z top (.fn f (Ti R .any a y) (Ti R .any b z)) _;unfold Rl;exact⟨va,vb,rfl,kF a y _ va h1 ha,kF b z _ vb h2 hbb⟩
 |.TK,x,tv,v,h,hr=>by
  cases tv<;>first| (exact absurd (show none=some x from h) (by simp))|skip
  exact hr
 |.vw o t,x,tv,v,h,hr=>by
  cases tv<;>first| (exact absurd (show none=some x from h) (by simp))|skip
  rename_i p t';have h':(bif Nat.beq p o then (if t'=t then some () else none) else none)=some x:=h;cases hb:Nat.beq p o
  .rw[hb] at h';cases h'
  .rw[hb,cond_true] at h';split at h'
   .rename_i e;rw[bn hb,e] at hr;exact hr
   .cases h'
 |.sub o t,x,tv,v,h,hr=>by
  cases tv<;>first| (exact absurd (show none=some x from h) (by simp))|skip
  rename_i p t' a b;have h':(bif Nat.beq p o then (if t'=t then some (a,b) else none) else none)=some x:=h;cases hb:Nat.beq p o
  .rw[hb] at h';cases h'
  .rw[hb,cond_true] at h';split at h'
   .rename_i e;cases h';rw[bn hb,e] at hr;exact hr
   .cases h'
 |.sg l,x,tv,v,h,hr=>by
  cases tv<;>first| (exact absurd (show none=some x from h) (by simp))|skip
  rename_i ss;show Rl R Z top (.sg (XV l x)) v;rw[rQ (show RZ l ss=some x from h)];exact hr
 |.undef,x,tv,v,h,hr=>by
  cases tv<;>first| (exact absurd (show none=some x from h) (by simp))|skip
  exact hr
theorem kF:∀(l:List Sk)(x:Lv R.T l)(cs:List (TV R.T))(vs:List V),TL R l cs=some x->ah R Z top cs vs->ah R Z top (Ti R .any l x) vs
 | [],x,cs,vs,h,hr=>by
   cases cs with
   |nil=>rw[hr.bg];rfl|cons c cs=>exact absurd (show none=some x from h) (by simp)
 | [k],x,cs,vs,h,hr=>by
   cases cs with
   |nil=>exact absurd (show none=some x from h) (by simp)|cons c cs=>
    cases cs with
    |nil=>obtain⟨v,l,rfl,h1,h2⟩:=hr.aP;rw[h2.bg];show ah R Z top [up R .any k x] _;exact .cons' (wQ k x _ v h h1) rfl
    |cons c' cs=>exact absurd (show none=some x from h) (by simp)
 |k::k'::l,x,cs,vs,h,hr=>by
  cases cs with
  |nil=>exact absurd (show none=some x from h) (by simp)|cons c cs=>
   have h':(match pk R k c with
    |some x=>match TL R (k'::l) cs with
     |some p=>some (x,p)|none=>none
    |none=>none)=some x:=h
   obtain⟨v,vs,rfl,h1,h2⟩:=hr.aP;cases hu:pk R k c with
   |none=>simp only[hu] at h';cases h'|some y=>
    cases hs:TL R (k'::l) cs with
    |none=>simp only[hu,hs] at h';cases h'|some q=>simp only[hu,hs] at h';obtain rfl:=P9 h';show ah R Z top (up R .any k y::Ti R .any (k'::l) q) _;exact .cons' (wQ k y _ v hu h1) (kF (k'::l) q _ vs hs h2)
end
omit hR in
theorem Lh {k:Sk}{j:Nat}{w:Bool}{y:TV R.T}{x:VZ R.T k}(h:pk R k (.opt j w y)=some x):False:=by
 cases k with
 |d t=>cases t<;>(unfold pk at h;cases h)|_=>unfold pk at h;cases h
theorem bI.pk {k:Sk}{x:VZ R.T k}{tv:TV R.T}{v:V}(h:pk R k tv=some x)(hr:bI fr Z top tv v):Rl R Z top (up R .any k x) v:=by
 cases tv<;>first|exact wQ hR _ _ _ _ h hr|exact(Lh h).elim
theorem wR (h:aj Z b st fr Y):∀(l:List (Nat×Sk))(x:abj R.T l),WG R st.fr l=some x->∀i v,look (ac5 R l x) i=some v->Rl R Z Y.top v (fr.tm i)
 | [],x,hx,i,v,hv=>by cases hv| [(j,k)],x,hx,i,v,hv=>by
   unfold WG at hx;split at hx
   .rename_i y hy;by_cases e:i=j
    .subst e;have hv':look [(i,up R .any k x)] i=some v:=hv;rw[bL] at hv';cases hv';exact bI.pk hR hx (h.fr _ _ hy)
    .have hv':look [(j,up R .any k x)] i=some v:=hv;rw[aY _ _ e] at hv';cases hv'
   .cases hx
 | (j,k)::q::l,x,hx,i,v,hv=>by
   unfold WG at hx;split at hx
   .rename_i y hy;cases hu:pk R k y with
    |none=>simp only[hu] at hx;cases hx|some z=>
     cases hs:WG R st.fr (q::l) with
     |none=>simp only[hu,hs] at hx;cases hx|some p=>
      simp only[hu,hs] at hx;obtain rfl:=P9 hx;have hv':look ((j,up R .any k z)::ac5 R (q::l) p) i=some v:=hv;by_cases e:i=j
      .subst e;rw[bL] at hv';cases hv';exact bI.pk hR hu (h.fr _ _ hy)
      .rw[aY _ _ e] at hv';exact wR h (q::l) p hs i v hv'
   .cases hx
theorem rR {o:Nat}{k:Sy}{x:aaK R.T k}{y:Ob R.T}(hx:pkO R k y=some x)(hy:aM Z Y o y):aM Z Y o (Ux R k x):=by
 cases k with
 |cells l=>
  cases y with
  |cells cs=>obtain⟨s,vs,h1,h2,h3⟩:=hy;exact⟨s,vs,h1,h2,kF hR l x _ vs hx h3⟩
  |map k e m=>cases hx|smap _ _=>cases hx|arr _ _=>cases hx|sg _=>cases hx|gone=>cases hx|ro b=>cases hx
 |st n=>
  cases y with
  |cells cs=>obtain⟨s,vs,h1,h2,h3⟩:=hy;obtain⟨l,e,hl⟩:=(nE hR (t:=.st n) (show V5 R (.st n) (.agg cs)=some x from hx) (v:=.agg vs) ⟨vs,rfl,h3⟩).cO;cases e;exact⟨s,vs,h1,h2,hl⟩
  |map k e m=>cases hx|smap _ _=>cases hx|arr _ _=>cases hx|sg _=>cases hx|gone=>cases hx|ro b=>cases hx
 |arr t=>
  cases y with
  |arr t' l=>obtain⟨e,e2⟩:=gF hx;subst e;cases e2;exact hy
  |cells cs=>cases hx|map _ _ _=>cases hx|smap _ _=>cases hx|sg _=>cases hx|gone=>cases hx|ro b=>cases hx
 |sg l=>
  cases y with
  |sg ss=>show aM Z Y o (.sg (XV l x));rw[rQ (show RZ l ss=some x from hx)];exact hy|cells cs=>cases hx|map _ _ _=>cases hx|smap _ _=>cases hx|arr _ _=>cases hx|gone=>cases hx|ro b=>cases hx
 |map k e=>
  cases y with
  |map k' e' m=>obtain⟨e1,e2,e3⟩:=wP hx;subst e1;subst e2;cases e3;exact hy
  |cells cs=>cases hx|smap _ _=>cases hx|arr _ _=>cases hx|sg _=>cases hx|gone=>cases hx|ro b=>cases hx
theorem BQ (h:aj Z b st fr Y):∀(l:List (Nat×Sy))(x:Uc R.T l),U2 R st.ob l=some x->∀i v,look (Ud R l x) i=some v->aM Z Y i v
 | [],x,hx,i,v,hv=>by cases hv| [(j,k)],x,hx,i,v,hv=>by
   unfold U2 at hx;split at hx
   .rename_i y hy;by_cases e:i=j
    .subst e;have hv':look [(i,Ux R k x)] i=some v:=hv;rw[bL] at hv';cases hv';exact rR hR hx (h.ob _ _ hy)
    .have hv':look [(j,Ux R k x)] i=some v:=hv;rw[aY _ _ e] at hv';cases hv'
   .cases hx
 | (j,k)::q::l,x,hx,i,v,hv=>by
   unfold U2 at hx;split at hx
   .rename_i y hy;cases hu:pkO R k y with
    |none=>simp only[hu] at hx;cases hx|some z=>
     cases hs:U2 R st.ob (q::l) with
     |none=>simp only[hu,hs] at hx;cases hx|some p=>
      simp only[hu,hs] at hx;obtain rfl:=P9 hx;have hv':look ((j,Ux R k z)::Ud R (q::l) p) i=some v:=hv;by_cases e:i=j
      .subst e;rw[bL] at hv';cases hv';exact rR hR hu (h.ob _ _ hy)
      .rw[aY _ _ e] at hv';exact BQ h (q::l) p hs i v hv'
   .cases hx
theorem aj.pack (h:aj Z b st fr Y){s:Shape}{p:V3 R.T s}(hp:pack R st s=some p):aj Z b (unpack R s p) fr Y:=by
 obtain⟨sl,ob⟩:=s;cases ob with
 |nil=>have hp':WG R st.fr sl=some p:=hp;exact {h with fr:=fun i v hv=>.of (wR hR h sl p hp' i v hv),ob:=fun i v hv=>by cases hv}
 |cons o os=>
  unfold Aq.pack at hp;cases hu:WG R st.fr sl with
  |none=>simp only[hu] at hp;cases hp|some x=>
   cases hs:U2 R st.ob (o::os) with
   |none=>simp only[hu,hs] at hp;cases hp|some y=>simp only[hu,hs] at hp;obtain rfl:=P9 hp;exact {h with fr:=fun i v hv=>.of (wR hR h sl x hu i v hv),ob:=fun i v hv=>BQ hR h (o::os) y hs i v hv}
omit hR in
theorem BR {e x:Ex}(h:abp e x=true):e=x:=by
 cases e<;>cases x<;>simp only[abp,PE] at h<;>first|rfl|rw[bn h]
omit hR in
def RO (st:MS R.T)(o:Nat):Prop:=∀x,look st.ob o=some x->Vo x=true
omit hR in
theorem wS {k:Sy}{x:aaK R.T k}{y:Ob R.T}(hx:pkO R k y=some x)(hy:Vo y=true):False:=by
 cases y with
 |cells _=>cases hy|map _ _ _=>cases hy|smap _ _=>cases hy|arr _ _=>cases hy|sg _=>cases hy|gone=>cases k<;>cases hx|ro b=>cases k<;>cases hx
omit hR in
theorem BS {i:Nat}(hr:RO st i):∀(l:List (Nat×Sy))(x:Uc R.T l),U2 R st.ob l=some x->look (Ud R l x) i=none
 | [],x,hx=>rfl| [(j,k)],x,hx=>by
   unfold U2 at hx;split at hx
   .rename_i y hy;by_cases e:i=j
    .subst e;exact(wS hx (hr _ hy)).elim
    .show look [(j,Ux R k x)] i=none;rw[aY _ _ e];rfl
   .cases hx
 | (j,k)::q::l,x,hx=>by
   unfold U2 at hx;split at hx
   .rename_i y hy;cases hu:pkO R k y with
    |none=>simp only[hu] at hx;cases hx|some z=>
     cases hs:U2 R st.ob (q::l) with
     |none=>simp only[hu,hs] at hx;cases hx|some p=>
      simp only[hu,hs] at hx;obtain rfl:=P9 hx;show look ((j,Ux R k z)::Ud R (q::l) p) i=none;by_cases e:i=j
      .subst e;exact(wS hu (hr _ hy)).elim
      .rw[aY _ _ e];exact BS hr (q::l) p hs
   .cases hx
omit hR in
theorem Li {s:Shape}{p:V3 R.T s}{i:Nat}(hp:Aq.pack R st s=some p)(hr:RO st i):look (unpack R s p).ob i=none:=by
 obtain⟨sl,ob⟩:=s;cases ob with
 |nil=>rfl|cons o os=>
  unfold Aq.pack at hp;cases hu:WG R st.fr sl with
  |none=>simp only[hu] at hp;cases hp|some x=>
   cases hs:U2 R st.ob (o::os) with
   |none=>simp only[hu,hs] at hp;cases hp|some y=>simp only[hu,hs] at hp;obtain rfl:=P9 hp;exact BS hr (o::os) y hs
omit hR
theorem jK {U:Type}:∀(l m:List (Nat×U))(i:Nat),look (l++m) i=match look l i with|some x=>some x|none=>look m i
 | [],m,i=>rfl| (j,x)::l,m,i=>by
   show (bif Nat.beq j i then some x else look (l++m) i)=match (bif Nat.beq j i then some x else look l i) with|some x=>some x|none=>look m i
   cases Nat.beq j i
   .exact jK l m i
   .rfl
theorem aj.over {st':MS R.T}(h:aj Z b st fr Y)(h':aj Z b st' fr Y):aj Z b (st.over st') fr Y:={h with
 fr:=fun i v hv=>by
  have hv':look (st.fr++st'.fr) i=some v:=hv;rw[jK] at hv';split at hv'
  .rename_i x hx;cases hv';exact h.fr _ _ hx
  .exact h'.fr _ _ hv'
 ob:=fun i v hv=>by
  have hv':look (st.ob++st'.ob) i=some v:=hv;rw[jK] at hv';split at hv'
  .rename_i x hx;cases hv';exact h.ob _ _ hx
  .exact h'.ob _ _ hv'}
theorem jL {U:Type}{p:Nat->U->Bool}{f:U->U}{l:List (Nat×U)}:∀{is:List Nat}{i:Nat}{y:U},look (Vx p f l is) i=some y->∃x,look l i=some x/\p i x=true/\y=f x
 | [],i,y,h=>by cases h|j::is,i,y,h=>by
  unfold Vx at h;split at h
  .rename_i x hx;cases hp:p j x
   .rw[hp] at h;exact jL h
   .rw[hp,cond_true] at h;by_cases e:i=j
    .subst e;rw[bL] at h;cases h;exact⟨x,hx,hp,rfl⟩
    .rw[aY _ _ e] at h;exact jL h
  .exact jL h
mutual
theorem Rl.solid {Z':ak}{top':Nat->Nat}{W:List Nat}(ho:∀o,Rj o W=false->Z'.ob o=Z.ob o/\Z'.ln o=Z.ln o)(hx:Z'.om=Z.om):∀(x:TV R.T)(v:V),Aq.solid W x=true->Rl R Z top x v->Rl R Z' top' x v
 |.tX c t l,v,hs,h=>by obtain⟨c',hv,hc⟩:=h;refine⟨c',hv,?_⟩;cases c<;>first|exact hc| (simp[Aq.solid] at hs;done)
 |.ref o off,v,hs,h=>by obtain⟨s,h1,h2⟩:=h;unfold Aq.solid at hs;exact⟨s,by rw[(ho o (by simpa using hs)).1];exact h1,by rw[hx];exact h2⟩
 |.RA o,v,hs,h=>by obtain⟨s,h1,h2⟩:=h;unfold Aq.solid at hs;exact⟨s,by rw[(ho o (by simpa using hs)).1];exact h1,by rw[hx];exact h2⟩
 |.vw o t,v,hs,h=>by
  unfold Aq.solid at hs;obtain⟨k1,k2⟩:=ho o (by simpa using hs);rcases h with ⟨s,h1,h2⟩| ⟨h1,h2⟩
  .exact .inl ⟨s,by rw[k1];exact h1,by rw[k2,hx];exact h2⟩
  .exact .inr ⟨by rw[k2];exact h1,h2⟩
 |.sub o t a b,v,hs,h=>by
  unfold Aq.solid at hs;obtain⟨k1,k2⟩:=ho o (by simpa using hs);obtain⟨g0,g1,g2,h⟩:=h;refine⟨g0,g1,by rw[k2];exact g2,?_⟩;rcases h with ⟨s,cp,h1,h2,h3⟩|h
  .exact .inl ⟨s,cp,by rw[k1];exact h1,h2,by rw[hx];exact h3⟩
  .exact .inr h
 |.Uo o t i off,v,hs,h=>by obtain⟨s,h1,h2⟩:=h;unfold Aq.solid at hs;exact⟨s,by rw[(ho o (by simpa using hs)).1];exact h1,by rw[hx];exact h2⟩
 |.sv o _ _ _ _ _,v,hs,h=>by obtain⟨s,h1,h2⟩:=h;unfold Aq.solid at hs;exact⟨s,by rw[(ho o (by simpa using hs)).1];exact h1,by rw[hx];exact h2⟩
 |.sel o _ _ _ _ _,v,hs,h=>by obtain⟨s,h1,h2⟩:=h;unfold Aq.solid at hs;exact⟨s,by rw[(ho o (by simpa using hs)).1];exact h1,by rw[hx];exact h2⟩
 |.sg _,_,_,h=>h|.XY _ _ _ _,_,_,h=>h|.agg cs,v,hs,h=>by obtain⟨l,hv,hl⟩:=h;exact⟨l,hv,ah.solid ho hx cs l (by unfold Aq.solid at hs;exact hs) hl⟩
 |.Rm cs,v,hs,h=>by obtain⟨l,hv,hl⟩:=h;exact⟨l,hv,ah.solid ho hx cs l (by unfold Aq.solid at hs;exact hs) hl⟩
 |.Q5 cs off,v,hs,h=>by obtain⟨l,hv,hl⟩:=h;exact⟨l,hv,ah.solid ho hx cs l (by unfold Aq.solid at hs;exact hs) hl⟩
 |.fn f a b,v,hs,h=>by obtain⟨a',b',hv,ha,hb⟩:=h;unfold Aq.solid at hs;rw[Pz] at hs;exact⟨a',b',hv,ah.solid ho hx a a' hs.1 ha,ah.solid ho hx b b' hs.2 hb⟩
 |.opt _ _ _,_,_,h=>h.elim|.int _ _,_,_,h=>h|.bool _,_,_,h=>h|.Tn _,_,_,h=>h|.str _,_,_,h=>h|.SX,_,_,h=>h|.SQ,_,_,h=>h|.SF,_,_,h=>h|.Sw,_,_,h=>h|.TK,_,_,h=>h|.RX _ _ _,_,_,h=>h|.undef,_,_,h=>h|.gone,_,_,h=>trivial
theorem ah.solid {Z':ak}{top':Nat->Nat}{W:List Nat}(ho:∀o,Rj o W=false->Z'.ob o=Z.ob o/\Z'.ln o=Z.ln o)(hx:Z'.om=Z.om):∀(x:List (TV R.T))(v:List V),WB W x=true->ah R Z top x v->ah R Z' top' x v
 | [],_,_,h=>h|x::xs,_,hs,⟨v,vs,e,h1,h2⟩=>by unfold WB at hs;rw[Pz] at hs;exact⟨v,vs,e,Rl.solid ho hx x v hs.1 h1,ah.solid ho hx xs vs hs.2 h2⟩
end
theorem Lj {x:TV R.T}{v:V}(h:bI fr Z top x v):bI fr Z top (wkA x) v:=by
 cases x with
 |tX c t l=>
  cases c with
  |own u=>obtain⟨c',hv,_⟩:=Rl.dz (show Rl R Z top (.tX (.own u) t l) v from h);exact .of (x:=.tX .any t l) (by unfold Rl;exact⟨c',hv,trivial⟩)
  |_=>exact h
 |_=>exact h
theorem Ll {W:List Nat}{x:TV R.T}{v:V}(hs:Aq.solid W x=true)(h:bI fr Z top x v):Rl R Z top x v:=by
 cases x<;>first|exact h| (simp[Aq.solid] at hs;done)
structure aA (nr:Bool)(o:Nat)(st:MS R.T)(Z:ak)(Y:qd)(st':MS R.T)(Z':ak)(Y':qd):Prop where
 ob:Z'.ob o=Z.ob o
 ln:Z'.ln o=Z.ln o
 om:Z'.om=Z.om
 nx:Y.next<=Y'.next
 lp:(∀l,l<Y.next->Y'.loops l=Y.loops l)/\∀s,s<Z.om.lo->Y'.top s=Y.top s
 dp:∀L,nr=true\/L.1<=Z.om.dp->Z.om.out L->Y'.obj L=Y.obj L
 ro:RO st o->RO st' o/\∀s,Y'.Rq (Z.om.lc o) s=Y.Rq (Z.om.lc o) s/\Y'.aW (Z.om.lc o) s=Y.aW (Z.om.lc o) s
structure Kp (nr:Bool)(W:List Nat)(st:MS R.T)(fr:Fr)(Y:qd)(Z:ak)(st':MS R.T)(fr':Fr)(Y':qd)(Z':ak):Prop where
 fr:∀i,Rj i W=false->fr'.tm i=fr.tm i
 ob:∀o,Rj o W=false->aA nr o st Z Y st' Z' Y'
section
variable {nr:Bool}
theorem wT {c:Cx}{o s:Nat}{x:Te}{L:Loc}(h:c.out L):(Y.setObj (c.lc o) s x).obj L=Y.obj L:=by unfold qd.setObj upd;dsimp only;rw[if_neg (h o)]
theorem Lm {c:Cx}{o:Nat}{L:Loc}(h:c.out L):(Y.bF (c.lc o)).obj L=Y.obj L:=by unfold qd.bF upd;dsimp only;rw[if_neg (h o)]
theorem Cx.BU (c:Cx){L:Loc}(h:c.dp<L.1):c.out L:=fun o e=>by
 have:=c.ni o;rw[<-e] at this;omega
theorem aA.refl {o:Nat}:aA nr o st Z Y st Z Y:=⟨rfl,rfl,rfl,mF _,⟨fun _ _=>rfl,fun _ _=>rfl⟩,fun _ _ _=>rfl,fun h=>⟨h,fun _=>⟨rfl,rfl⟩⟩⟩
theorem aA.trans {o:Nat}{st' bA:MS R.T}{Z' eY:ak}{Y' dA:qd}(h:aA nr o st Z Y st' Z' Y')(g:aA nr o st' Z' Y' bA eY dA):aA nr o st Z Y bA eY dA:=
 ⟨g.ob.trans h.ob,g.ln.trans h.ln,g.om.trans h.om,PD h.nx g.nx,⟨fun l hl=>(g.lp.1 l (PV hl h.nx)).trans (h.lp.1 l hl),fun s hs=>(g.lp.2 s (by rw[h.om];exact hs)).trans (h.lp.2 s hs)⟩,fun L hn hL=>(g.dp L (by rw[h.om];exact hn) (by rw[h.om];exact hL)).trans (h.dp L hn hL),fun hr=>by have g':=fun hr=>g.ro hr;rw[h.om] at g';exact⟨(g' (h.ro hr).1).1,fun s=>⟨((g' (h.ro hr).1).2 s).1.trans ((h.ro hr).2 s).1,((g' (h.ro hr).1).2 s).2.trans ((h.ro hr).2 s).2⟩⟩⟩
theorem Kp.refl {W:List Nat}:Kp nr W st fr Y Z st fr Y Z:=⟨fun _ _=>rfl,fun _ _=>.refl⟩
theorem Kp.trans {W:List Nat}{st' bA:MS R.T}{fr' kG:Fr}{Z' eY:ak}{Y' dA:qd}(h:Kp nr W st fr Y Z st' fr' Y' Z')(g:Kp nr W st' fr' Y' Z' bA kG dA eY):Kp nr W st fr Y Z bA kG dA eY:=
 ⟨fun i hi=>(g.fr i hi).trans (h.fr i hi),fun o ho=>(h.ob o ho).trans (g.ob o ho)⟩
theorem Kp.mono {W W':List Nat}{st':MS R.T}{fr':Fr}{Z':ak}{Y':qd}(h:Kp nr W st fr Y Z st' fr' Y' Z')(hw:∀i,Rj i W'=false->Rj i W=false):Kp nr W' st fr Y Z st' fr' Y' Z':=
 ⟨fun i hi=>h.fr i (hw i hi),fun o ho=>h.ob o (hw o ho)⟩
theorem pR:∀(i:Nat)(l m:List Nat),Rj i (l++m)=(Rj i l||Rj i m)
 |i,[],m=>rfl|i,j::l,m=>by show (Nat.beq i j||Rj i (l++m))=_;rw[pR i l m,<-Bool.or_assoc];rfl
theorem BX {o:Nat}{Z':ak}{Y':qd}{W:List Nat}(ho:∀o,Rj o W=false->Z'.ob o=Z.ob o/\Z'.ln o=Z.ln o)(hx:Z'.om=Z.om)(hm:Rj o W=false)(hc:∀s,Y'.Rq (Z.om.lc o) s=Y.Rq (Z.om.lc o) s/\Y'.aW (Z.om.lc o) s=Y.aW (Z.om.lc o) s):∀{x:Ob R.T},Vp W x=true->aM Z Y o x->aM Z' Y' o x
 |.cells cs,hs,h=>by obtain⟨s,l,h1,h2,h3⟩:=h;exact⟨s,l,by rw[(ho o hm).1];exact h1,by rw[hx,(hc s).1];exact h2,ah.solid ho hx cs l hs h3⟩
 |.map k e m,_,h=>by obtain⟨s,h1,h2⟩:=h;exact⟨s,by rw[(ho o hm).1];exact h1,by rw[hx,(hc s).2];exact h2⟩
 |.smap ks vs,hs,h=>by obtain⟨s,k,l,h1,h2,h3,h4⟩:=h;have hs':(WB W ks&& WB W vs)=true:=hs;rw[Pz] at hs';exact⟨s,k,l,by rw[(ho o hm).1];exact h1,by rw[hx,(hc s).2];exact h2,ah.solid ho hx ks k hs'.1 h3,ah.solid ho hx vs l hs'.2 h4⟩
 |.arr t l,_,h=>by
  refine⟨h.1.trans (ho o hm).2.symm,?_⟩;rcases h.2 with h| ⟨s,cs,h1,h2,h3⟩
  .exact .inl ⟨h.1,(ho o hm).1.trans h.2⟩
  .exact .inr ⟨s,cs,by rw[(ho o hm).1];exact h1,by rw[hx,(hc s).1];exact h2,iN l cs h3⟩
 |.sg ss,_,h=>by obtain⟨s,h1,h2⟩:=h;exact⟨s,by rw[(ho o hm).1];exact h1,by rw[hx,(hc s).1];exact h2⟩
 |.gone,_,_=>trivial|.ro b,hs,h=>BX ho hx hm hc (x:=b) hs h
theorem lV:∀W:List Nat,∃n,∀m,n<=m->Rj m W=false
 | []=>⟨0,fun _ _=>rfl⟩
 |i::W=>by obtain⟨n,hn⟩:=lV W;refine⟨n+i+1,fun m hm=>?_⟩;show (Nat.beq m i||Rj m W)=false;rw[rP (by omega),hn m (by omega)];rfl
theorem Kp.om {W:List Nat}{st':MS R.T}{fr':Fr}{Z':ak}{Y':qd}(h:Kp nr W st fr Y Z st' fr' Y' Z'):Z'.om=Z.om:=by obtain⟨n,hn⟩:=lV W;exact(h.ob n (hn n (mF _))).om
theorem aj.base {W K O:List Nat}{mark:Ob R.T->Ob R.T}(hmark:∀Z Y o x,aM Z Y o x->aM (R:=R) Z Y o (mark x)){st0 st' bA:MS R.T}{fr':Fr}{Z':ak}{Y':qd}{b':Nat}(h:aj Z b st fr Y)(hk:Kp nr W st0 fr Y Z st' fr' Y' Z')(h':aj Z' b' bA fr' Y')(hro:∀o x,look st.ob o=some x->Rj o W=false->Rj o O=true->Vp W x=true->RO st0 o):aj Z' b' (Aq.base W K O mark st) fr' Y':={h' with
 fr:=fun i v hv=>by obtain⟨x,h1,h2,rfl⟩:=jL hv;rw[Pz,Qy] at h2;have:=Ll h2.2 (Lj (h.fr _ _ h1));rw[hk.fr i h2.1];exact .of (Rl.solid (fun o ho=>⟨(hk.ob o ho).ob,(hk.ob o ho).ln⟩) hk.om _ _ h2.2 this)
 ob:=fun o y hy=>by
  have hO:Rj o O=true:=by
   have:∀{is:List Nat}{y:Ob R.T},look (Vx (fun o b=>!(Rj o W)&& Vp W b) mark st.ob is) o=some y->Rj o is=true:=by
    intro is;induction is with
    |nil=>intro y h;cases h|cons j is ih=>
     intro y h;show (Nat.beq o j||Rj o is)=true;unfold Vx at h;by_cases e:o=j
     .subst e;rw[Qt];rfl
     .split at h
      .rename_i x hx;cases hp:(!(Rj j W)&& Vp W x)
       .rw[hp] at h;rw[ih h,Bool.or_true]
       .rw[hp,cond_true,aY _ _ e] at h;rw[ih h,Bool.or_true]
      .rw[ih h,Bool.or_true]
   exact this hy
  obtain⟨x,h1,h2,rfl⟩:=jL hy;rw[Pz,Qy] at h2;have hc:=((hk.ob o h2.1).ro (hro o x h1 h2.1 hO h2.2)).2;exact hmark _ _ _ _ (BX (fun o ho=>⟨(hk.ob o ho).ob,(hk.ob o ho).ln⟩) hk.om h2.1 hc h2.2 (h.ob _ _ h1))}
theorem wU {W K O:List Nat}{st':MS R.T}{o:Nat}{x:Ob R.T}(h1:look st.ob o=some x)(h2:Rj o W=false)(h3:Rj o O=true)(h4:Vp W x=true):RO ((Aq.base W K O .ro st).over st') o:=by
 intro y hy;have hl:∃z,look (Vx (fun o b=>!(Rj o W)&& Vp W b) Ob.ro st.ob O) o=some (.ro z):=by
  have:∀is:List Nat,Rj o is=true->∃z,look (Vx (fun o b=>!(Rj o W)&& Vp W b) Ob.ro st.ob is) o=some (.ro z):=by
   intro is;induction is with
   |nil=>intro h;cases h|cons j is ih=>
    intro h;by_cases e:o=j
    .subst e;unfold Vx;rw[h1];dsimp only;rw[h2,h4];exact⟨x,bL _ _ _⟩
    .have h':(Nat.beq o j||Rj o is)=true:=h;rw[rP e,Bool.false_or] at h';obtain⟨z,hz⟩:=ih h';refine⟨z,?_⟩;unfold Vx;split
     .rename_i w hw;cases (!(Rj j W)&& Vp W w)
      .exact hz
      .rw[cond_true,aY _ _ e];exact hz
     .exact hz
  exact this O h3
 obtain⟨z,hz⟩:=hl;have hy':look (Vx (fun o b=>!(Rj o W)&& Vp W b) Ob.ro st.ob O++st'.ob) o=some y:=hy;rw[jK,hz] at hy';cases hy';rfl
theorem Lp {t:Nat}:∀{x:Ob R.T},Vo x=true->Vo (Ob.wk t x)=true
 |.ro _,_=>rfl|.gone,_=>rfl|.cells _,h=>by cases h|.map _ _ _,h=>by cases h|.smap _ _,h=>by cases h|.arr _ _,h=>by cases h
theorem BZ {t:Nat}{x:Ob R.T}(h:Vo x=true):Vo (Ob.kill t x)=true:=by
 have e:Ob.kill t x=bif Ob.Uq t x then .gone else x:=by cases x<;>first|rfl|cases h
 rw[e];cases Ob.Uq t x
 .exact h
 .rfl
theorem aA.wk {p t s n:Nat}(hl:Z.om.lo<=s):aA nr p st Z Y (st.wk t) (Z.bR t s) (Y.R9 s n):=⟨rfl,rfl,rfl,mF _,⟨fun _ _=>rfl,fun s' hs'=>ac0 _ _ (by omega)⟩,fun _ _ _=>rfl,fun hr=>⟨fun x hx=>by
 have hx':look (U1 (Ob.wk t) st.ob) p=some x:=hx;rw[gV,Py] at hx';obtain⟨z,hz,rfl⟩:=hx';exact Lp (hr z hz),fun _=>⟨rfl,rfl⟩⟩⟩
theorem aA.set {o q s:Nat}{x y:Ob R.T}{a:Te}(hl:look st.ob o=some y)(hy:Vo y=false):aA nr q st Z Y (st.set o x) Z (Y.setObj (Z.om.lc o) s a):=⟨rfl,rfl,rfl,mF _,⟨fun _ _=>rfl,fun _ _=>rfl⟩,fun _ _ hL=>wT hL,fun hr=>by
 have hne:q≠o:=by rintro rfl;rw[hr y hl] at hy;cases hy
 refine⟨fun z hz=>?_,fun s'=>⟨jI _ _ _ _ hne,nC _ _ _ _ hne⟩⟩;have hz':look ((o,x)::Tx o st.ob) q=some z:=hz;rw[aY _ _ hne,eP hne] at hz';exact hr z hz'⟩
theorem aA.new {o q s:Nat}{x:Ob R.T}{a:Te}(hne:q≠o):aA nr q st Z Y (st.new o x) (Z.dM o s) (Y.setObj (Z.om.lc o) s a):=⟨by simp[ak.dM,upd,hne],rfl,rfl,mF _,⟨fun _ _=>rfl,fun _ _=>rfl⟩,fun _ _ hL=>wT hL,fun hr=>by
 refine⟨fun z hz=>?_,fun s'=>⟨jI _ _ _ _ hne,nC _ _ _ _ hne⟩⟩;have hz':look ((o,x)::U1 (Ob.kill o) (Tx o st.ob)) q=some z:=hz;rw[aY _ _ hne,gV,eP hne,Py] at hz';obtain⟨w,hw,rfl⟩:=hz';exact BZ (hr w hw)⟩
theorem dN {d:Option Nat}{v:TV R.T}:(st.SK d v).ob=st.ob:=by cases d<;>rfl
theorem aA.same {st':MS R.T}{o:Nat}(h:st'.ob=st.ob):aA nr o st Z Y st' Z Y:=⟨rfl,rfl,rfl,mF _,⟨fun _ _=>rfl,fun _ _=>rfl⟩,fun _ _ _=>rfl,fun hr=>⟨fun x hx=>hr x (by rw[<-h];exact hx),fun _=>⟨rfl,rfl⟩⟩⟩
theorem aA.congr {st' bA:MS R.T}{Z':ak}{Y':qd}{o:Nat}(h:aA nr o st Z Y st' Z' Y')(e:bA.ob=st'.ob):aA nr o st Z Y bA Z' Y':=⟨h.ob,h.ln,h.om,h.nx,h.lp,h.dp,fun hr=>⟨fun x hx=>(h.ro hr).1 x (by rw[<-e];exact hx),(h.ro hr).2⟩⟩
theorem aA.from {st' bA:MS R.T}{Z':ak}{Y':qd}{o:Nat}(h:aA nr o st Z Y st' Z' Y')(e:st.ob=bA.ob):aA nr o bA Z Y st' Z' Y':=⟨h.ob,h.ln,h.om,h.nx,h.lp,h.dp,fun hr=>h.ro fun x hx=>hr x (by rw[<-e];exact hx)⟩
theorem Kp.op {d:Option Nat}{W:List Nat}{y:V}{st':MS R.T}{Z':ak}{Y':qd}{Q:Nat->Prop}(hd:∀p,Rj p W=false->d≠some p/\Q p)(h:∀p,Q p->aA nr p st Z Y st' Z' Y'):Kp nr W st fr Y Z st' (fr.put d y) Y' Z':=
 ⟨fun i hi=>by
   cases d with
   |none=>rfl|some j=>exact Yq _ _ (by have:=(hd i hi).1;simp at this;simpa using fun e=>this e.symm),fun p hp=>h p (hd p hp).2⟩
theorem Ca {W K O:List Nat}{st':MS R.T}{o:Nat}(h:look st'.ob o=none):RO ((Aq.base W K O .ro st).over st') o:=by
 intro y hy;have hy':look (Vx (fun o b=>!(Rj o W)&& Vp W b) Ob.ro st.ob O++st'.ob) o=some y:=hy;rw[jK] at hy';split at hy'
 .rename_i x hx;cases hy';obtain⟨z,_,_,rfl⟩:=jL hx;rfl
 .rw[h] at hy';cases hy'
theorem rU {st':MS R.T}{o:Nat}(h1:RO st o)(h2:RO st' o):RO (st.over st') o:=by
 intro y hy;have hy':look (st.ob++st'.ob) o=some y:=hy;rw[jK] at hy';split at hy'
 .rename_i x hx;cases hy';exact h1 _ hx
 .exact h2 _ hy'
theorem Cb {W K O:List Nat}{mark:Ob R.T->Ob R.T}{o:Nat}(hm:∀x,Vo x=true->Vo (mark x)=true)(h:RO st o):RO (Aq.base W K O mark st) o:=by intro y hy;obtain⟨x,h1,_,rfl⟩:=jL hy;exact hm _ (h _ h1)
theorem finish {W K O:List Nat}{H S' bA:MS R.T}{fr':Fr}{Z':ak}{Y':qd}{b':Nat}(hi:aj Z b st fr Y)(hH:∀o,Rj o W=false->RO st o->RO H o)(hro:∀o x,look st.ob o=some x->Rj o W=false->Rj o O=true->Vp W x=true->RO H o)(hk:Kp nr W H fr Y Z S' fr' Y' Z')(hi':aj Z' b' bA fr' Y')(hn:∀o,Rj o W=false->RO H o->look bA.ob o=none):
 aj Z' b' ((Aq.base W K O (fun b=>b) st).over bA) fr' Y'/\Kp nr W st fr Y Z ((Aq.base W K O (fun b=>b) st).over bA) fr' Y' Z':=by
 have hk2:Kp nr W H fr Y Z bA fr' Y' Z':=⟨hk.fr,fun o ho=>⟨(hk.ob o ho).ob,(hk.ob o ho).ln,(hk.ob o ho).om,(hk.ob o ho).nx,(hk.ob o ho).lp,(hk.ob o ho).dp,fun hr=>⟨fun x hx=>(by rw[hn o ho hr] at hx;cases hx),((hk.ob o ho).ro hr).2⟩⟩⟩;refine⟨(hi.base (fun _ _ _ _ h=>h) hk2 hi' hro).over hi',hk.fr,fun o ho=>⟨(hk.ob o ho).ob,(hk.ob o ho).ln,(hk.ob o ho).om,(hk.ob o ho).nx,(hk.ob o ho).lp,(hk.ob o ho).dp,fun hr=>⟨?_,((hk.ob o ho).ro (hH o ho hr)).2⟩⟩⟩;exact rU (Cb (fun _ h=>h) hr) fun x hx=>(by rw[hn o ho (hH o ho hr)] at hx;cases hx)
theorem Cc {x:TV R.T}{v:V}(hx:isE x=true)(h:bI fr Z top x v):v= .tX .nil []\/v= .tX .full []:=by
 cases x<;>first| (cases hx;done)|skip
 .exact .inl (Rl.je (R:=R) (show Rl R Z top .TK v from h))
 .rename_i c t l;obtain⟨c',hv,hc⟩:=Rl.dz (R:=R) (show Rl R Z top (.tX c t l) v from h);cases c<;>first| (cases hx;done)|skip
  .have:l=[]:=by simpa [isE] using hx
   subst this;have hc':c'= .nil:=hc;rw[hc'] at hv;exact .inl hv
  .have:l=[]:=by simpa [isE] using hx
   subst this;have hc':c'= .full:=hc;rw[hc'] at hv;exact .inr hv
theorem pU {W:List Nat}:∀(l:List (Nat×Sk))(st:MS R.T)(Z:ak),aj Z b st fr Y->∃Z',aj Z' b (Wp W l st) fr Y/\Kp nr W st fr Y Z (Wp W l st) fr Y Z'
 | [],st,Z,h=>⟨Z,h,.refl⟩| (i,k)::l,st,Z,h=>by
   have other:Wp W ((i,k)::l) st=Wp W l st->∃Z',aj Z' b (Wp W ((i,k)::l) st) fr Y/\Kp nr W st fr Y Z (Wp W ((i,k)::l) st) fr Y Z':=fun e=>by rw[e];exact pU l st Z h
   cases k<;>first|exact other rfl|skip
   rename_i o t;unfold Wp;split
   .rename_i v hv;cases hb:(isE v&& Rj o W)
    .exact pU l st Z h
    .rw[cond_true];rw[Pz] at hb;have hg:=h.ghost o t;have hE:=Cc hb.1 (h.fr _ _ hv);have wV:aj (Z.gh o) b (⟨(i,.vw o t)::(st.new o (.arr t [])).fr,(st.new o (.arr t [])).ob⟩:MS R.T) fr Y:={hg with
      fr:=fun j y hy=>by
       by_cases e:j=i
       .subst e;have hy':look ((j,TV.vw o t)::(st.new o (.arr t [])).fr) j=some y:=hy;rw[bL] at hy';cases hy';exact .of (by unfold Rl;exact .inr ⟨kE (Z:=Z) (n:=0),hE⟩)
       .have hy':look ((i,TV.vw o t)::(st.new o (.arr t [])).fr) j=some y:=hy;rw[aY _ _ e] at hy';exact hg.fr j y hy'
      ob:=hg.ob}
     obtain⟨Z',h1,h2⟩:=pU (W:=W) l _ _ wV;refine⟨Z',h1,Kp.trans ⟨fun _ _=>rfl,fun p hp=>?_⟩ h2⟩;have hne:p≠o:=(by rintro rfl;rw[hb.2] at hp;cases hp);refine⟨(jf p hne).1,(jf p hne).2,rfl,mF _,⟨fun _ _=>rfl,fun _ _=>rfl⟩,fun _ _ _=>rfl,fun hr=>⟨fun x hx=>?_,fun _=>⟨rfl,rfl⟩⟩⟩;have hx':look ((o,Ob.arr t [])::U1 (Ob.kill o) (Tx o st.ob)) p=some x:=hx;rw[aY _ _ hne,gV,eP hne,Py] at hx';obtain⟨w,hw,rfl⟩:=hx';exact BZ (hr w hw)
   .exact pU l st Z h
section
variable (hR:VH R)
include hR
omit hR in
theorem Ce {W:List Nat}:∀{l:List (Nat×Sk)},st.fr=[]->Wp W l st=st
 | [],_=>rfl| (i,k)::l,h=>by
   have:=Ce (W:=W) (l:=l) h;cases k<;>first|exact this|skip
   unfold Wp;rw[h];exact this
omit hR in
theorem Cg:∀{l:List (Nat×Sk)}{p:abj R.T l},WG R [] l=some p->l=[]
 | [],_,_=>rfl| [(i,k)],p,h=>by cases h| (i,k)::q::l,p,h=>by cases h
omit hR in
theorem Lr {W:List Nat}(he:st.fr=[]){s:Shape}{p:V3 R.T s}(hp:Aq.UM R W st s=some p):(unpack R s p).fr=[]:=by
 unfold Aq.UM at hp;rw[Ce he] at hp;obtain⟨sl,ob⟩:=s;cases ob with
 |nil=>have hp':WG R st.fr sl=some p:=hp;rw[he] at hp';have:=Cg hp';subst this;rfl|cons o os=>
  unfold Aq.pack at hp;rw[he] at hp;cases hu:WG R [] sl with
  |none=>simp only[hu] at hp;cases hp|some x=>have:=Cg hu;subst this;rfl
theorem aj.UM {W:List Nat}(h:aj Z b st fr Y){s:Shape}{p:V3 R.T s}(hp:Aq.UM R W st s=some p):∃Z' S',aj Z' b (unpack R s p) fr Y/\Kp nr W st fr Y Z S' fr Y Z'/\(st.fr=[]->(unpack R s p).fr=[])/\∀i,Rj i W=false->RO st i->look (unpack R s p).ob i=none:=by obtain⟨Z',h1,h2⟩:=pU (W:=W) s.sl st Z h;exact⟨Z',_,h1.pack hR hp,h2,fun he=>Lr he hp,fun i hi hr=>Li hp ((h2.ob i hi).ro hr).1⟩
theorem nG {β:Type}{W:List Nat}(h:aj Z b st fr Y){e:Ex}:∀{l:List (Ex×Shape)}{o:Out R.T l},XH R W e st l=some o->∃Z' S' st',aj Z' b st' fr Y/\Kp nr W st fr Y Z S' fr Y Z'/\(st.fr=[]->st'.fr=[])/\(∀i,Rj i W=false->RO st i->look st'.ob i=none)/\∀(k:Ex->MS R.T->Option β)(bs:MS R.T),Yv R bs k l o=k e (bs.over st')
 | [],o,hp=>by cases hp| [(x,s)],o,hp=>by
   have hp':(bif abp e x then Aq.UM R W st s else none)=some o:=hp;cases hb:abp e x
   .rw[hb] at hp';cases hp'
   .rw[hb,cond_true] at hp';have:=BR hb;subst this;obtain⟨Z',S',h1,h2,h0,h3⟩:=h.UM hR hp';exact⟨Z',S',_,h1,h2,h0,h3,fun k bs=>rfl⟩
 | (x,s)::q::l,o,hp=>by
   unfold XH at hp;cases hb:abp e x
   .rw[hb,cond_false] at hp;cases hu:XH R W e st (q::l) with
    |none=>simp only[hu] at hp;cases hp|some y=>simp only[hu] at hp;obtain rfl:=P9 hp;obtain⟨Z',S',st',h1,h3,h0,h4,h2⟩:=nG (β:=β) h hu;exact⟨Z',S',st',h1,h3,h0,h4,fun k bs=>h2 k bs⟩
   .rw[hb,cond_true] at hp;have:=BR hb;subst this;cases hu:Aq.UM R W st s with
    |none=>simp only[hu] at hp;cases hp|some y=>simp only[hu] at hp;obtain rfl:=P9 hp;obtain⟨Z',S',h1,h2,h0,h3⟩:=h.UM hR hu;exact⟨Z',S',_,h1,h2,h0,h3,fun k bs=>rfl⟩
end
end
end
end Aq
end
section
namespace Aq
open Go
def ND (E:Env)(o:Oper)(p:Nat):Prop:=o.dst≠some p/\∀d,o.dst=some d->E.cn d≠p
section
variable {R:Tq}{E:Env}
variable {Z:ak}{b:Nat}{st:MS R.T}{fr:Fr}{Y:qd}
def iQ (E:Env)(fr:Fr)(o:Oper):Bool:=match o.op with
 |.call c=>match c.callee with
  |.value f=>Vk E fr o f|_=>false
 |_=>false
def dB (E:Env)(fr:Fr)(Y:qd)(L6:Nat)(o:Oper)(x:V)(Y':qd):Prop:=
 (iQ E fr o=false->∀all os Q,Sl all fr o=some true->OW E all (L6+1) os (fr.put o.dst x) Y' Q->OW E all L6 (o::os) fr Y Q)/\
 (iQ E fr o=false->∀ms all os fs Q,Sl all fr o=some true->bO E ms all (L6+1) os (fr.put o.dst x) Y' (fs++[aU E all fr o true]) Q->bO E ms all L6 (o::os) fr Y fs Q)
theorem dB.of {L6:Nat}{o:Oper}{x:V}{Y':qd}(h:∀S,opC E S fr Y L6 o=some (x,fr,Y')):dB E fr Y L6 o x Y':=
 ⟨fun _ _ _ _ hw h'=>OW.op hw h h',fun _ _ _ _ _ _ hw h'=>bO.op hw h h'⟩
theorem Ls {S:R7}{L6:Nat}{o:Oper}{x:V}{Y':qd}(h:aH E fr Y L6 o=some (x,Y')):opC E S fr Y L6 o=some (x,fr,Y'):=by
 unfold opC;split
 .rename_i c hc;unfold aH at h;rw[hc] at h;cases h
 .rename_i c hc;unfold aH at h;rw[hc] at h;cases h
 .rw[h];rfl
theorem Ch {o:Oper}{c:Call}{f:Operand}{g:FuncId}{a b:List V}(ho:o.op= .call c)(bD:c.callee= .value f)(hf:fr.ev E f= .fn (.func g) a b)(h:iQ E fr o=false):∀d,o.dst=some d->E.own g d=false:=by intro d hd;unfold iQ at h;rw[ho] at h;dsimp only at h;rw[bD] at h;dsimp only at h;unfold Vk at h;rw[hf,hd] at h;exact h
theorem dB.dh {L6:Nat}{o:Oper}{x:V}{Y':qd}(h:aH E fr Y L6 o=some (x,Y')):dB E fr Y L6 o x Y':=.of fun S=>Ls h
def eT (E:Env)(st:MS R.T)(Z:ak)(L6:Nat)(fr:Fr)(Y:qd)(o:Oper):R3 R->Prop
 |.t v=>∃x,dB E fr Y L6 o x Y/\Rl R Z Y.top v x|.c c v=>c=true->∃x,dB E fr Y L6 o x Y/\Rl R Z Y.top v x|.w v st'=>∃x Y' Z',dB E fr Y L6 o x Y'/\aj Z' (L6+1) st' fr Y'/\Y'.next=Y.next/\Rl R Z' Y'.top v x/\∀p,ND E o p->aA true p st Z Y st' Z' Y'|.wc c v st'=>c=true->∃x Y' Z',dB E fr Y L6 o x Y'/\aj Z' (L6+1) st' fr Y'/\Y'.next=Y.next/\Rl R Z' Y'.top v x/\∀p,ND E o p->aA true p st Z Y st' Z' Y'|.p _ _ o' f=>∀a,o'=some a->∃x,dB E fr Y L6 o x Y/\Rl R Z Y.top (f a) x
theorem gG {top:Nat->Nat}{x:TV R.T}{v:V}(hg:WC x=true)(h:Rl R Z top x v):ah R Z top x.cells v.cells/\SI v=true:=by
 cases x with
 |agg cs=>obtain⟨l,rfl,hl⟩:=h.cO;exact⟨hl,rfl⟩
 |int k n=>rw[h.bW];exact⟨.cons' (by unfold Rl;rfl) rfl,rfl⟩|bool b=>rw[h.eO];exact⟨.cons' (by unfold Rl;rfl) rfl,rfl⟩|Tn b=>rw[h.gB];exact⟨.cons' (by unfold Rl;rfl) rfl,rfl⟩|str b=>rw[h.dL];exact⟨.cons' (by unfold Rl;rfl) rfl,rfl⟩|TK=>rw[h.je];exact⟨.cons' (by unfold Rl;rfl) rfl,rfl⟩|Rm cs=>obtain⟨l,rfl,hl⟩:=h.nu;exact⟨.cons' h rfl,rfl⟩
 |tX c t l=>obtain⟨c',rfl,hl⟩:=h.dz;exact⟨.cons' h rfl,rfl⟩
 |ref o off=>obtain⟨s,hs,rfl⟩:=h.iM;exact⟨.cons' h rfl,rfl⟩
 |Q5 o off=>obtain⟨s,rfl,hs⟩:=h.gD;exact⟨.cons' h rfl,rfl⟩
 |RA o=>obtain⟨s,hs,rfl⟩:=h.jG;exact⟨.cons' h rfl,rfl⟩
 |RX k e m=>have:=h.ku;subst this;exact⟨.cons' h rfl,rfl⟩|fn f a b=>obtain⟨a',b',rfl,_⟩:=h.dS;exact⟨.cons' h rfl,rfl⟩
 |undef=>have:=h.Bn;subst this;exact⟨.cons' h rfl,rfl⟩|vw o t=>rcases h.jH with ⟨s,_,rfl⟩| ⟨_,rfl|rfl⟩<;>exact⟨.cons' h rfl,rfl⟩
 |sub o t a b=>rcases h.kC with ⟨_,_,_,⟨s,cp,_,_,rfl⟩| ⟨_,c,rfl⟩⟩<;>exact⟨.cons' h rfl,rfl⟩
 |Uo o t i off=>obtain⟨s,_,_,rfl⟩:=h.lQ;exact⟨.cons' h rfl,rfl⟩
 |sv o off k n lo hi=>obtain⟨s,_,_,rfl⟩:=h.rJ;exact⟨.cons' h rfl,rfl⟩
 |sel o off k n i m=>obtain⟨s,_,_,_,rfl⟩:=h.wE;exact⟨.cons' h rfl,rfl⟩
 |XY k n y i=>obtain⟨_,_,rfl⟩:=h.wF;exact⟨.cons' h rfl,rfl⟩
 |sg _=>cases hg|SX=>have h':=h;unfold Rl at h';subst h';exact⟨.cons' h rfl,rfl⟩|SQ=>have h':=h;unfold Rl at h';subst h';exact⟨.cons' h rfl,rfl⟩|SF=>have h':=h;unfold Rl at h';subst h';exact⟨.cons' h rfl,rfl⟩|Sw=>have h':=h;unfold Rl at h';subst h';exact⟨.cons' h rfl,rfl⟩|opt j w y=>cases hg|gone=>cases hg
theorem Lu {top:Nat->Nat}{x:TV R.T}{v:V}(hg:af4 x=true)(h:Rl R Z top x v):oneCell v=true:=by
 cases x with
 |agg cs=>cases hg|int k n=>rw[h.bW];rfl|bool b=>rw[h.eO];rfl|Tn b=>rw[h.gB];rfl|str b=>rw[h.dL];rfl|TK=>rw[h.je];rfl|Rm cs=>cases hg|tX c t l=>obtain⟨c',rfl,hl⟩:=h.dz;rfl
 |ref o off=>obtain⟨s,hs,rfl⟩:=h.iM;rfl
 |Q5 o off=>obtain⟨s,rfl,hs⟩:=h.gD;rfl
 |RA o=>obtain⟨s,hs,rfl⟩:=h.jG;rfl
 |RX k e m=>have:=h.ku;subst this;rfl|fn f a b=>obtain⟨a',b',rfl,_⟩:=h.dS;rfl
 |undef=>cases hg|vw o t=>rcases h.jH with ⟨s,_,rfl⟩| ⟨_,rfl|rfl⟩<;>rfl
 |sub o t a b=>rcases h.kC with ⟨_,_,_,⟨s,cp,_,_,rfl⟩| ⟨_,c,rfl⟩⟩<;>rfl
 |Uo o t i off=>obtain⟨s,_,_,rfl⟩:=h.lQ;rfl
 |sv o off k n lo hi=>obtain⟨s,_,_,rfl⟩:=h.rJ;rfl
 |sel o off k n i m=>obtain⟨s,_,_,_,rfl⟩:=h.wE;rfl
 |XY k n y i=>obtain⟨_,_,rfl⟩:=h.wF;rfl
 |sg _=>cases hg|SX=>unfold Rl at h;subst h;rfl|SQ=>unfold Rl at h;subst h;rfl|SF=>unfold Rl at h;subst h;rfl|Sw=>unfold Rl at h;subst h;rfl|opt j w y=>cases hg|gone=>cases hg
theorem nH {top:Nat->Nat}:∀{x:List (TV R.T)}{v:List V},aag x=true->ah R Z top x v->RN v=true
 | [],v,_,h=>by rw[h.bg];rfl|x::xs,v,hg,h=>by obtain⟨y,ys,rfl,h1,h2⟩:=h.aP;unfold aag at hg;rw[Pz] at hg;rw[Bf,Lu hg.1 h1,nH hg.2 h2];rfl
theorem Lx {top:Nat->Nat}{ag:Bool}{n off:Nat}{cs:List (TV R.T)}{l:List V}{x:TV R.T}(h:ah R Z top cs l)(hp:aeI ag n cs off=some x):∃v,jm ag n l off=some v/\Rl R Z top x v:=by
 cases ag with
 |true=>
  have hp':(bif Nat.ble (off+n) cs.length then some (TV.agg ((cs.drop off).take n)) else none)=some x:=hp;cases hb:Nat.ble (off+n) cs.length
  .rw[hb] at hp';cases hp'
  .rw[hb] at hp';cases hp';have hle:=Qp hb;refine⟨.agg ((l.drop off).take n),?_,by unfold Rl;exact⟨_,rfl,(h.drop off).take n⟩⟩;unfold jm;rw[if_pos rfl,if_pos (by rw[h.length];exact hle)]
 |false=>obtain⟨v,h1,h2⟩:=h.get (show cs[off]? =some x from hp);exact⟨v,by unfold jm;simpa using h1,h2⟩
theorem jM {top:Nat->Nat}{t:TypeId}{off:Nat}{cs:List (TV R.T)}{l:List V}{x:TV R.T}(h:ah R Z top cs l)(hp:UG E t cs off=some x):∃v,TB E.P t l off=some v/\Rl R Z top x v:=by
 unfold UG at hp;cases h1:U8 E.P t with
 |none=>simp only[h1] at hp;cases hp|some a=>
  cases h2:RI E.P t with
  |none=>simp only[h1,h2] at hp;cases hp|some n=>simp only[h1,h2] at hp;unfold TB;rw[h1,h2];exact Lx h hp
theorem wW {top:Nat->Nat}{cs vs:List (TV R.T)}{l k:List V}(off:Nat)(h:ah R Z top cs l)(h':ah R Z top vs k):ah R Z top (ab4 cs off vs) (Tf l off k):=by unfold ab4 Tf;rw[h'.length];exact((h.take off).append h').append (h.drop _)
theorem pV {top:Nat->Nat}{t:TypeId}{z:TV R.T}(h:aaO E t=some z):∃v,T9 E.P t=some v/\Rl R Z top z v:=by
 unfold aaO at h;unfold T9;cases h1:E.P.info? t with
 |none=>simp only[h1] at h;cases h|some i=>
  cases h2:i.zero with
  |none=>simp only[h1,h2] at h;cases h|some z'=>simp only[h1,h2] at h;obtain⟨v,hv,hr⟩:=BL (Z:=Z) (top:=top) h;exact⟨v,by simp[h2,hv],hr⟩
theorem Ci {top:Nat->Nat}(place:Nat->Option (Nat×Nat)):∀{ps:List (Nat×TV R.T)}{qs:List (Nat×V)}{cs:List (TV R.T)}{l:List V}{cs':List (TV R.T)},ps.map (·.1)=qs.map (·.1)->ah R Z top (ps.map (·.2)) (qs.map (·.2))->
 ah R Z top cs l->aeJ place cs ps=some cs'->∃l',fM place l qs=some l'/\ah R Z top cs' l'
 | [],[],cs,l,cs',_,_,h,hf=>by cases hf;exact⟨l,rfl,h⟩| [],_::_,_,_,_,h,_,_,_=>by simp at h|_::_,[],_,_,_,h,_,_,_=>by simp at h| (i,v)::ps,(j,w)::qs,cs,l,cs',hi,hr,h,hf=>by
   simp only[PO,Qa] at hi;obtain⟨rfl,hi⟩:=hi;obtain⟨y,ys,e,h1,h2⟩:=hr.aP;simp only[PO,Qa] at e;obtain⟨rfl,rfl⟩:=e;unfold aeJ at hf;unfold fM;cases hp:place i with
   |none=>simp only[hp] at hf;cases hf|some q=>
    obtain⟨off,size⟩:=q;simp only[hp] at hf⊢;cases hb:(Nat.beq v.cells.length size&& Nat.ble (off+size) cs.length&& WC v)
    .rw[hb] at hf;cases hf
    .rw[hb,cond_true] at hf;simp only[Pz] at hb;obtain⟨⟨b1,b2⟩,b3⟩:=hb;obtain⟨hc,hn⟩:=gG b3 h1;rw[if_pos ⟨by rw[hc.length];exact bn b1,by rw[h.length];exact Qp b2,hn⟩];exact Ci place hi h2 (wW off h hc) hf
theorem Cj {top:Nat->Nat}{x:TV R.T}{v:V}{a:Bool}(h:bM x=some a)(hr:Rl R Z top x v):v= .bool a:=by
 cases x<;>cases h
 .exact hr.eO
 .exact hr.gB
theorem Ck {top:Nat->Nat}{x y:TV R.T}{v w:V}{r:Bool}(h:aeK x y=some r)(hx:Rl R Z top x v)(hy:Rl R Z top y w):∃a b,v= .bool a/\w= .bool b/\r=(a==b):=by
 unfold aeK at h;cases h1:bM x with
 |none=>simp only[h1] at h;cases h|some a=>
  cases h2:bM y with
  |none=>simp only[h1,h2] at h;cases h|some b=>simp only[h1,h2] at h;cases h;exact⟨a,b,Cj h1 hx,Cj h2 hy,rfl⟩
theorem wX {top:Nat->Nat}{jN:TypeId->TV R.T->TV R.T->Option Bool}{eqv:TypeId->V->V->Option Bool}(he:∀t x y v w r,jN t x y=some r->Rl R Z top x v->Rl R Z top y w->eqv t v w=some r){xs ys:List (TV R.T)}{vs ws:List V}(hx:ah R Z top xs vs)(hy:ah R Z top ys ws):∀{fs:List Field}{r:Bool},ab5 E jN xs ys fs=some r->kR E.P eqv vs ws fs=some r
 | [],r,h=>by cases h;rfl|f::fs,r,h=>by
  unfold ab5 at h;unfold kR;split at h
  .rename_i hn;rw[if_pos hn];exact wX he hx hy h
  .rename_i hn;rw[if_neg hn];cases h1:UG E f.type xs f.offset with
   |none=>simp only[h1] at h;cases h|some a=>
    cases h2:UG E f.type ys f.offset with
    |none=>simp only[h1,h2] at h;cases h|some c=>
     cases h3:jN f.type a c with
     |none=>simp only[h1,h2,h3] at h;cases h|some r1=>
      cases h4:ab5 E jN xs ys fs with
      |none=>simp only[h1,h2,h3,h4] at h;cases h|some q=>simp only[h1,h2,h3,h4] at h;cases h;obtain⟨v1,e1,g1⟩:=jM hx h1;obtain⟨v2,e2,g2⟩:=jM hy h2;simp[e1,e2,he _ _ _ _ _ _ h3 g1 g2,wX he hx hy h4]
theorem Cm {top:Nat->Nat}{jN:TypeId->TV R.T->TV R.T->Option Bool}{eqv:TypeId->V->V->Option Bool}(he:∀t x y v w r,jN t x y=some r->Rl R Z top x v->Rl R Z top y w->eqv t v w=some r){e:TypeId}{sz:Nat}{xs ys:List (TV R.T)}{vs ws:List V}(hx:ah R Z top xs vs)(hy:ah R Z top ys ws):∀{is:List Nat}{r:Bool},ac6 E jN e sz xs ys is=some r->l9 E.P eqv e sz vs ws is=some r
 | [],r,h=>by cases h;rfl|i::is,r,h=>by
  unfold ac6 at h;unfold l9;cases h1:UG E e xs (i*sz) with
  |none=>simp only[h1] at h;cases h|some a=>
   cases h2:UG E e ys (i*sz) with
   |none=>simp only[h1,h2] at h;cases h|some c=>
    cases h3:jN e a c with
    |none=>simp only[h1,h2,h3] at h;cases h|some r1=>
     cases h4:ac6 E jN e sz xs ys is with
     |none=>simp only[h1,h2,h3,h4] at h;cases h|some q=>simp only[h1,h2,h3,h4] at h;cases h;obtain⟨v1,e1,g1⟩:=jM hx h1;obtain⟨v2,e2,g2⟩:=jM hy h2;simp[e1,e2,he _ _ _ _ _ _ h3 g1 g2,Cm he hx hy h4]
theorem rV {top:Nat->Nat}:∀(d:Nat)(t:TypeId)(x y:TV R.T)(v w:V)(r:Bool),ab6 E d t x y=some r->Rl R Z top x v->Rl R Z top y w->jP E.P d t v w=some r
 |0,_,_,_,_,_,_,h,_,_=>by cases h|d+1,t,x,y,v,w,r,h,hx,hy=>by
  unfold ab6 at h;unfold jP;split at h
  .rename_i fs xs ys hu;obtain⟨l,rfl,h1⟩:=hx.cO;obtain⟨k,rfl,h2⟩:=hy.cO;rw[hu];dsimp only;split at h
   .cases h
   .rename_i hs;rw[if_neg hs];exact wX (rV d) h1 h2 h
  .rename_i n e xs ys hu;obtain⟨l,rfl,h1⟩:=hx.cO;obtain⟨k,rfl,h2⟩:=hy.cO;rw[hu];dsimp only;cases hs:RI E.P e with
   |none=>simp only[hs] at h;cases h|some sz=>simp only[hs] at h;simp only[Option.bind_some];exact Cm (rV d) h1 h2 h
  .cases h
  .cases h
  .rename_i hu;obtain⟨a,c,rfl,rfl,rfl⟩:=Ck h hx hy;rw[hu]
  .rename_i k a k' c hu;rw[hx.bW,hy.bW,hu];exact h
  .rename_i a c hu;rw[hx.dL,hy.dL,hu];exact h
  .cases h
theorem Cn {top:Nat->Nat}{t:TypeId}{x y:TV R.T}{v w:V}{r:Bool}(h:eqM E t x y=some r)(hx:Rl R Z top x v)(hy:Rl R Z top y w):gL E.P t v w=some r:=by
 unfold eqM at h;unfold gL;split at h
 .rename_i fs xs ys hu;split at h
  .cases h
  .rename_i hs;have:=rV 8 t _ _ v w r h hx hy;obtain⟨l,rfl,h1⟩:=hx.cO;obtain⟨k,rfl,h2⟩:=hy.cO;rw[hu];dsimp only;rw[if_neg hs];exact this
 .rename_i fs xs ys hu;split at h
  .cases h
  .rename_i hs;have:=rV 8 t _ _ v w r h hx hy;obtain⟨l,rfl,h1⟩:=hx.cO;obtain⟨k,rfl,h2⟩:=hy.cO;rw[hu];dsimp only;rw[if_neg hs];exact this
 .rename_i hu;cases h;unfold Rl at hx hy;subst hx;subst hy;rw[hu]
 .rename_i hu;cases h;obtain⟨a,b,rfl,_⟩:=hy.dS;unfold Rl at hx;subst hx;rw[hu]
 .rename_i hu;cases h;obtain⟨a,b,rfl,_⟩:=hx.dS;unfold Rl at hy;subst hy;rw[hu]
 .rename_i hu;obtain⟨a,c,rfl,rfl,rfl⟩:=Ck h hx hy;rw[hu]
 .cases h
end
end Aq
end
