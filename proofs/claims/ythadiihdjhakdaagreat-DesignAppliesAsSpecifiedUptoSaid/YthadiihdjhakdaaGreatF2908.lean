import Derived.Test.YthadiihdjhakdaaGreatF2907
set_option linter.all false
section
namespace aY
open Go
theorem gG {a b:Nat}(h:Nat.beq a b=true):a=b:=xE h
theorem FD {a b:Nat}(h:Nat.beq a b=false):a≠b:=fun e=>by rw[e,xA] at h;cases h
theorem TQ {a b:Nat}(h:a≠b):Nat.beq a b=false:=Bool.eq_false_iff.2 fun e=>h (gG e)
section look
variable {α:Type}
theorem vD (f:α->α):∀(l:List (Nat×α))(i:Nat),look (mM f l) i=(look l i).map f
 | [],_=>rfl| (j,x)::l,i=>by
   show (bif Nat.beq j i then some (f x) else look (mM f l) i)=Option.map f (bif Nat.beq j i then some x else look l i);cases Nat.beq j i
   ·exact vD f l i
   ·rfl
theorem rH {i j:Nat}(h:j≠i):∀(l:List (Nat×α)),look (jE i l) j=look l j
 | []=>rfl| (k,x)::l=>by
   show look (bif Nat.beq k i then jE i l else (k,x)::jE i l) j=bif Nat.beq k j then some x else look l j;cases hk:Nat.beq k i
   ·show (bif Nat.beq k j then some x else look (jE i l) j)=_
    rw[rH h l]
   ·have:=gG hk
    subst this;rw[TQ (Ne.symm h)];exact rH h l
theorem lD (l:List (Nat×α))(i:Nat)(x:α):look ((i,x)::l) i=some x:=by show (bif Nat.beq i i then some x else look l i)=_;rw[xA];rfl
theorem je (l:List (Nat×α)){i j:Nat}(x:α)(h:j≠i):look ((i,x)::l) j=look l j:=by show (bif Nat.beq i j then some x else look l j)=_;rw[TQ (Ne.symm h)];rfl
end look
section
variable {R:gY}{E:Env}
theorem afZ {ρ ρ':aT}{top top':Nat->Nat}:∀(t:Ty)(x:Den R.T t)(v:V),av R ρ top (BM R .any t x) v->av R ρ' top' (BM R .any t x) v
 |.int _,_,_,h=>h|.bool,_,_,h=>h|.str,_,_,h=>h|.slice _,_,_,h=>h|.st _,_,_,h=>h
theorem DF {ρ ρ':aT}{top top':Nat->Nat}:∀(l:List Ty)(p:qx R.T l)(vs:List V),aF R ρ top (gq R .any l p) vs->aF R ρ' top' (gq R .any l p) vs
 | [],_,_,h=>h| [t],x,vs,h=>by obtain⟨v,l,rfl,h1,h2⟩:=h.dW;rw[h2.iJ];exact .cons' (afZ t x v h1) rfl
 |t::u::l,p,vs,h=>by obtain⟨v,ws,rfl,h1,h2⟩:=h.dW;exact .cons' (afZ t p.1 v h1) (DF (u::l) p.2 ws h2)
theorem ap8 {ρ ρ':aT}{top top':Nat->Nat}{t:Ty}{x:Den R.T t}{vs:List V}(h:aF R ρ top (jk R .any t x).cells vs):aF R ρ' top' (jk R .any t x).cells vs:=by
 cases t with
 |st n=>exact DF _ _ _ h|int k=>exact DF [.int k] x vs h|bool=>exact DF [.bool] x vs h|str=>exact DF [.str] x vs h|slice t=>exact DF [.slice t] x vs h
theorem aF.split {ρ:aT}{top:Nat->Nat}:∀{ts ts':List (ak R.T)}{vs:List V},aF R ρ top (ts++ts') vs->∃a b,vs=a++b/\aF R ρ top ts a/\aF R ρ top ts' b
 | [],_,vs,h=>⟨[],vs,rfl,rfl,h⟩|t::ts,ts',vs,h=>by obtain⟨v,ws,rfl,h1,h2⟩:=aF.dW (ts:=ts++ts') h;obtain⟨a,b,rfl,h3,h4⟩:=aF.split h2;exact⟨v::a,b,rfl,.cons' h1 h3,h4⟩
theorem yw {ρ ρ':aT}{top top':Nat->Nat}{t:Ty}:∀(l:List (Den R.T t))(vs:List V),aF R ρ top (l.flatMap fun x=>(jk R .any t x).cells) vs->aF R ρ' top' (l.flatMap fun x=>(jk R .any t x).cells) vs
 | [],vs,h=>h|x::l,vs,h=>by rw[ny] at h⊢;obtain⟨a,b,rfl,h1,h2⟩:=h.split;exact(ap8 h1).append (yw l b h2)
def j6 (fr:Fr)(ρ:aT)(top:Nat->Nat):ak R.T->V->Prop
 |.opt j w y,v=>(fr.tm j= .bool w->av R ρ top y v)/\(fr.tm j= .bool (!w)\/fr.tm j=aK->v=aK)|x,v=>av R ρ top x v
theorem j6.of {fr:Fr}{ρ:aT}{top:Nat->Nat}{x:ak R.T}{v:V}(h:av R ρ top x v):j6 fr ρ top x v:=by
 cases x<;>first|exact h|exact h.afO.elim
def eT (ρ:aT)(σ:au)(o:Nat):aG R.T->Prop
 |.cells cs=>∃s l,ρ.ob o=some s/\σ.dB (ρ.aj.lc o) s=some l/\aF R ρ σ.top cs l|.map k e m=>∃s,ρ.ob o=some s/\σ.jw (ρ.aj.lc o) s=some (m.map fun p=>aX R k p.1,m.map fun p=>aX R e p.2)
 |.smap ks vs=>∃s k l,ρ.ob o=some s/\σ.jw (ρ.aj.lc o) s=some (k,l)/\aF R ρ σ.top ks k/\aF R ρ σ.top vs l|.arr t l=>l.length=ρ.ln o/\((l=[]/\ρ.ob o=none)\/∃s cs,ρ.ob o=some s/\σ.dB (ρ.aj.lc o) s=some cs/\aF R ρ σ.top (l.flatMap fun x=>(jk R .any t x).cells) cs)
 |.sg ss=>∃s,ρ.ob o=some s/\σ.dB (ρ.aj.lc o) s=some (mK ss)|.gone=>True|.ro b=>eT ρ σ o b
theorem eT.strip {ρ:aT}{σ:au}{o:Nat}:∀{x:aG R.T},eT ρ σ o x->eT ρ σ o (Y3 x)
 |.cells _,h=>h|.map _ _ _,h=>h|.smap _ _,h=>h|.arr _ _,h=>h|.sg _,h=>h|.gone,h=>h|.ro b,h=>eT.strip (x:=b) h
structure aL (ρ:aT)(b:Nat)(st:aD R.T)(fr:Fr)(σ:au):Prop where
 d:fr.d=ρ.aj.dp
 aj:fr.aj=ρ.aj.aj
 fr:∀i v,look st.fr i=some v->j6 fr ρ σ.top v (fr.tm i)
 ob:∀o x,look st.ob o=some x->eT ρ σ o x
 inj:∀t u s,ρ.tk t=some s->ρ.tk u=some s->t=u
 lt:∀t s,ρ.tk t=some s->s<b
 ge:∀t s,ρ.tk t=some s->ρ.aj.lo<=s
 nx:ρ.aj.lo<=b
variable {ρ:aT}{b:Nat}{st:aD R.T}{fr:Fr}{σ:au}
theorem aL.le {b':Nat}(h:aL ρ b st fr σ)(hb:b<=b'):aL ρ b' st fr σ:={h with lt:=fun t s ht=>iq (h.lt t s ht) hb,nx:=bZ h.nx hb}
theorem eT.bump {o k:Nat}:∀{x:aG R.T},eT ρ σ o x->eT ρ (σ.bump k) o x
 |.cells _,h=>h|.map _ _ _,h=>h|.smap _ _,h=>h|.arr _ _,h=>h|.sg _,h=>h|.gone,h=>h|.ro b,h=>eT.bump (x:=b) h
theorem aL.next (h:aL ρ b st fr σ)(k:Nat):aL ρ b st fr (σ.bump k):={h with fr:=h.fr,ob:=fun o x hx=>(h.ob o x hx).bump}
theorem aL.rd (h:aL ρ b st fr σ){o:Nat}{x:aG R.T}(hx:nG st o=some x):eT ρ σ o x:=by
 unfold nG at hx;split at hx
 ·rename_i y hy;cases hx;exact(h.ob _ _ hy).strip
 ·cases hx
theorem ap9 {ρ:aT}{top:Nat->Nat}{x:ak R.T}{u v:V}{i:Nat}(h:j6 fr ρ top x v):j6 (fr.set i u) ρ top (Y1 i x) v:=by
 cases x with
 |opt j w y=>
  show j6 _ _ _ (bif Nat.beq j i then .gone else .opt j w y) v;cases hj:Nat.beq j i
  ·have hs:(fr.set i u).tm j=fr.tm j:=ze _ _ (by simpa using FD hj)
   exact⟨fun hc=>h.1 (by rw[<-hs];exact hc),fun hc=>h.2 (by rw[<-hs];exact hc)⟩
  ·exact j6.of (x:=.gone) (by unfold av;trivial)
 |_=>exact h
theorem aL.put (h:aL ρ b st fr σ)(i:Nat){x:ak R.T}{v:V}(hx:j6 (fr.set i v) ρ σ.top x v):aL ρ b (st.put i x) (fr.set i v) σ where
 d:=h.d
 aj:=h.aj
 ob:=h.ob
 inj:=h.inj
 lt:=h.lt
 ge:=h.ge
 nx:=h.nx
 fr:=fun j y hy=>by
  by_cases e:j=i
  ·subst e
   have hy':some x=some y:=Lb
   cases hy';rw[afj];exact hx
  ·have hy':look (mM (Y1 i) (jE i st.fr)) j=some y:=Lc
   rw[vD,rH e,aZ] at hy';obtain⟨z,hz,rfl⟩:=hy';rw[ze _ _ (by simpa using e)];exact ap9 (h.fr j z hz)
theorem aL.gU (h:aL ρ b st fr σ)(d:Option Nat){x:ak R.T}{v:V}(hx:av R ρ σ.top x v):aL ρ b (st.gU d x) (fr.put d v) σ:=by
 cases d with
 |none=>exact h|some i=>exact h.put i (.of hx)
theorem aqa {ρ:aT}{top:Nat->Nat}{x:ak R.T}{v:V}{i:Nat}{c:Bool}(hi:fr.tm i= .bool c)(h:j6 fr ρ top x v):j6 fr ρ top (Y2 i c x) v:=by
 cases x with
 |opt j w y=>
  show j6 _ _ _ (bif Nat.beq j i then (bif (c==w) then y else .undef) else .opt j w y) v;cases hj:Nat.beq j i
  ·exact h
  ·have:=gG hj
   subst this;by_cases e:c=w
   ·subst e
    rw[beq_self_eq_true];exact j6.of (h.1 hi)
   ·rw[show (c==w)=false by simpa using e]
    have e':c= !w:=(by cases c<;>cases w<;>first|rfl|exact absurd rfl e);have h':=h.2 (.inl (by rw[hi,e']));subst h';exact j6.of (x:=.undef) jJ
 |_=>exact h
theorem aL.learn (h:aL ρ b st fr σ){i:Nat}{c:Bool}(hc:fr.tm i= .bool c):aL ρ b (st.learn i c) fr σ where
 d:=h.d
 aj:=h.aj
 ob:=h.ob
 inj:=h.inj
 lt:=h.lt
 ge:=h.ge
 nx:=h.nx
 fr:=fun j y hy=>by
  by_cases e:j=i
  ·subst e
   have hy':some (ak.ji c)=some y:=Lb
   cases hy';exact j6.of (x:=.ji c) (by unfold av;exact hc)
  ·have hy':look (mM (Y2 i c) (jE i st.fr)) j=some y:=Lc
   rw[vD,rH e,aZ] at hy';obtain⟨z,hz,rfl⟩:=hy';exact aqa hc (h.fr j z hz)
def aT.mh (ρ:aT)(o s:Nat):aT:={ρ with ob:=upd ρ.ob o (some s)}
def aT.jU (ρ:aT)(t s:Nat):aT:={ρ with tk:=upd ρ.tk t (some s)}
theorem af0 {ρ':aT}{top:Nat->Nat}{o:Nat}{x:ak R.T}{v:V}(ho:∀p,p≠o->ρ'.ob p=ρ.ob p/\ρ'.ln p=ρ.ln p)(ht:ρ'.tk=ρ.tk)(hx:ρ'.aj=ρ.aj)(h:j6 fr ρ top x v):j6 fr ρ' top (BO o x) v:=by
 unfold BO;cases hm:nR o x
 ·cases x with
  |opt j w y=>exact⟨fun hc=>av.kill o ho ht hx y v hm (h.1 hc),h.2⟩
  |_=>exact j6.of (av.kill o ho ht hx _ v hm h)
 ·exact j6.of (x:=.gone) (by unfold av;trivial)
theorem Zz (c:cu){o p:Nat}(h:p≠o):vX (c.lc p) (c.lc o)=false:=by
 cases e:vX (c.lc p) (c.lc o)
 ·rfl
 ·unfold vX at e
  rw[iP,beq_iff_eq,beq_iff_eq] at e;exact absurd (Prod.ext e.2 e.1) (c.afM h)
theorem GR {c:cu}{o p:Nat}(σ:au)(s s':Nat)(x:jo)(h:p≠o):(σ.setObj (c.lc o) s' x).dB (c.lc p) s=σ.dB (c.lc p) s:=afn σ s s' x (Zz c h)
theorem Jg {c:cu}{o p:Nat}(σ:au)(s s':Nat)(x:jo)(h:p≠o):(σ.setObj (c.lc o) s' x).jw (c.lc p) s=σ.jw (c.lc p) s:=afo σ s s' x (Zz c h)
theorem aF.Fe {ρ':aT}{top:Nat->Nat}{o:Nat}(ho:∀p,p≠o->ρ'.ob p=ρ.ob p/\ρ'.ln p=ρ.ln p)(ht:ρ'.tk=ρ.tk)(hx:ρ'.aj=ρ.aj):∀{cs:List (ak R.T)}{l:List V},aF R ρ top cs l->aF R ρ' top (Fe o cs) l
 | [],_,h=>h|x::cs,_,h=>by
  obtain⟨v,ws,rfl,h1,h2⟩:=h.dW;refine .cons' ?_ (aF.Fe ho ht hx h2);unfold BO;cases hm:nR o x
  ·exact av.kill o ho ht hx x v hm h1
  ·unfold av;trivial
theorem af2 {ρ':aT}{o p s':Nat}{a:jo}(hp:p≠o)(ho:∀p,p≠o->ρ'.ob p=ρ.ob p/\ρ'.ln p=ρ.ln p)(ht:ρ'.tk=ρ.tk)(hx:ρ'.aj=ρ.aj):∀{x:aG R.T},aG.nR o x=false->eT ρ σ p x->eT ρ' (σ.setObj (ρ.aj.lc o) s' a) p x
 |.cells cs,hm,h=>by obtain⟨s,l,h1,h2,h3⟩:=h;exact⟨s,l,((ho p hp).1.trans h1),Rq,aF.kill o ho ht hx _ _ hm h3⟩
 |.map k e m,_,h=>by obtain⟨s,h1,h2⟩:=h;exact⟨s,((ho p hp).1.trans h1),by rw[hx,Jg _ _ _ _ hp];exact h2⟩
 |.smap ks vs,hm,h=>by obtain⟨s,k,l,h1,h2,h3,h4⟩:=h;have hm':(nE o ks||nE o vs)=false:=hm;rw[kP] at hm';exact⟨s,k,l,((ho p hp).1.trans h1),by rw[hx,Jg _ _ _ _ hp];exact h2,aF.kill o ho ht hx _ _ hm'.1 h3,aF.kill o ho ht hx _ _ hm'.2 h4⟩
 |.arr t l,hm,h=>by
  refine⟨h.1.trans (ho p hp).2.symm,?_⟩;rcases h.2 with h| ⟨s,cs,h1,h2,h3⟩
  ·exact .inl ⟨h.1,(ho p hp).1.trans h.2⟩
  ·exact .inr ⟨s,cs,((ho p hp).1.trans h1),Rq,yw l cs h3⟩
 |.sg ss,_,h=>by obtain⟨s,h1,h2⟩:=h;exact⟨s,((ho p hp).1.trans h1),Rq⟩
 |.gone,_,_=>trivial|.ro b,hm,h=>af2 hp ho ht hx (x:=b) hm h
theorem aqb {ρ':aT}{o p s':Nat}{a:jo}{x:aG R.T}(hp:p≠o)(ho:∀p,p≠o->ρ'.ob p=ρ.ob p/\ρ'.ln p=ρ.ln p)(ht:ρ'.tk=ρ.tk)(hx:ρ'.aj=ρ.aj)(h:eT ρ σ p x):eT ρ' (σ.setObj (ρ.aj.lc o) s' a) p (aG.kill o x):=by
 by_cases hc:∃cs,x= .cells cs
 ·obtain⟨cs,rfl⟩:=hc
  obtain⟨s,l,h1,h2,h3⟩:=h;exact⟨s,l,((ho p hp).1.trans h1),Rq,aF.Fe ho ht hx h3⟩
 ·have e:aG.kill o x=bif aG.nR o x then .gone else x:=by cases x<;>first|rfl|exact absurd ⟨_,rfl⟩ hc
  rw[e];cases hm:aG.nR o x
  ·exact af2 hp ho ht hx hm h
  ·trivial
theorem af3 {o p s:Nat}{a:jo}(hp:p≠o):∀{x:aG R.T},eT ρ σ p x->eT ρ (σ.setObj (ρ.aj.lc o) s a) p x
 |.cells cs,h=>by obtain⟨s,l,h1,h2,h3⟩:=h;exact⟨s,l,h1,by rw[GR _ _ _ _ hp];exact h2,h3⟩
 |.map k e m,h=>by obtain⟨s,h1,h2⟩:=h;exact⟨s,h1,by rw[Jg _ _ _ _ hp];exact h2⟩
 |.smap ks vs,h=>by obtain⟨s,k,l,h1,h2,h3⟩:=h;exact⟨s,k,l,h1,by rw[Jg _ _ _ _ hp];exact h2,h3⟩
 |.arr t l,h=>by
  refine⟨h.1,?_⟩;rcases h.2 with h| ⟨s,cs,h1,h2,h3⟩
  ·exact .inl h
  ·exact .inr ⟨s,cs,h1,by rw[GR _ _ _ _ hp];exact h2,h3⟩
 |.sg ss,h=>by obtain⟨s,h1,h2⟩:=h;exact⟨s,h1,by rw[GR _ _ _ _ hp];exact h2⟩
 |.gone,_=>trivial|.ro b,h=>af3 hp (x:=b) h
theorem af4 {o t s n:Nat}(key:∀u s',u≠t->ρ.tk u=some s'->(ρ.jU t s).tk u=some s'/\(σ.dZ s n).top s'=σ.top s'):∀{x:aG R.T},eT ρ σ o x->eT (ρ.jU t s) (σ.dZ s n) o (aG.wk t x)
 |.cells cs,h=>by obtain⟨s',l,h1,h2,h3⟩:=h;exact⟨s',l,h1,h2,aF.wk (ρ:=ρ) (ρ':=ρ.jU t s) (top:=σ.top) (top':=(σ.dZ s n).top) t ⟨rfl,rfl,rfl⟩ key _ _ h3⟩
 |.map k e m,h=>h|.smap ks vs,h=>by obtain⟨s',k,l,h1,h2,h3,h4⟩:=h;exact⟨s',k,l,h1,h2,aF.wk (ρ:=ρ) (ρ':=ρ.jU t s) (top:=σ.top) (top':=(σ.dZ s n).top) t ⟨rfl,rfl,rfl⟩ key _ _ h3,aF.wk (ρ:=ρ) (ρ':=ρ.jU t s) (top:=σ.top) (top':=(σ.dZ s n).top) t ⟨rfl,rfl,rfl⟩ key _ _ h4⟩
 |.arr ty l,h=>by
  refine⟨h.1,?_⟩;rcases h.2 with h| ⟨s,cs,h1,h2,h3⟩
  ·exact .inl h
  ·exact .inr ⟨s,cs,h1,h2,yw l cs h3⟩
 |.sg ss,h=>h|.gone,_=>trivial|.ro b,h=>af4 key (x:=b) h
theorem Jh {o s:Nat}:∀p,p≠o->(ρ.mh o s).ob p=ρ.ob p/\(ρ.mh o s).ln p=ρ.ln p:=fun p h=>⟨by simp[aT.mh,upd,h],rfl⟩
def aT.FE (ρ:aT)(o n:Nat):aT:={ρ with ln:=upd ρ.ln o n}
theorem af5 {o n:Nat}:∀p,p≠o->(ρ.FE o n).ob p=ρ.ob p/\(ρ.FE o n).ln p=ρ.ln p:=fun p h=>⟨rfl,by simp[aT.FE,upd,h]⟩
def aT.gh (ρ:aT)(o:Nat):aT:={ρ.FE o 0 with ob:=upd ρ.ob o none}
theorem oL {o:Nat}:∀p,p≠o->(ρ.gh o).ob p=ρ.ob p/\(ρ.gh o).ln p=ρ.ln p:=fun p h=>⟨by simp[aT.gh,upd,h],(af5 (ρ:=ρ) (n:=0) p h).2⟩
theorem um {o n:Nat}:(ρ.FE o n).ln o=n:=by simp[aT.FE,upd]
def aT.vE (ρ:aT)(o s n:Nat):aT:=(ρ.mh o s).FE o n
theorem ZA {o s n:Nat}:∀p,p≠o->(ρ.vE o s n).ob p=ρ.ob p/\(ρ.vE o s n).ln p=ρ.ln p:=fun p h=>⟨(Jh p h).1,(af5 p h).2⟩
theorem uO {o s:Nat}:(ρ.mh o s).ob o=some s:=by simp[aT.mh,upd]
theorem aL.new' {ρ':aT}(h:aL ρ b st fr σ)(o s:Nat){x:aG R.T}{a:jo}(Jh:∀p,p≠o->ρ'.ob p=ρ.ob p/\ρ'.ln p=ρ.ln p)(ht:ρ'.tk=ρ.tk)(bK:ρ'.aj=ρ.aj)(hx:eT ρ' (σ.setObj (ρ.aj.lc o) s a) o x):aL ρ' b (st.new o x) fr (σ.setObj (ρ.aj.lc o) s a) where
 d:=by rw[bK];exact h.d
 aj:=by rw[bK];exact h.aj
 fr:=fun j y hy=>by have hy':look (mM (BO o) st.fr) j=some y:=hy;rw[vD,aZ] at hy';obtain⟨z,hz,rfl⟩:=hy';exact af0 Jh ht bK (h.fr j z hz)
 ob:=fun p y hy=>by
  by_cases e:p=o
  ·subst e
   have hy':some x=some y:=Lb
   cases hy';exact hx
  ·have hy':look (mM (aG.kill o) (jE o st.ob)) p=some y:=Lc
   rw[vD,rH e,aZ] at hy';obtain⟨z,hz,rfl⟩:=hy';exact aqb e Jh ht bK (h.ob p z hz)
 inj:=by rw[ht];exact h.inj
 lt:=by rw[ht];exact h.lt
 ge:=by rw[ht,bK];exact h.ge
 nx:=by rw[bK];exact h.nx
theorem aL.new (h:aL ρ b st fr σ)(o s:Nat){x:aG R.T}{a:jo}(hx:eT (ρ.mh o s) (σ.setObj (ρ.aj.lc o) s a) o x):aL (ρ.mh o s) b (st.new o x) fr (σ.setObj (ρ.aj.lc o) s a):=h.new' o s Jh rfl rfl hx
theorem aL.BX (h:aL ρ b st fr σ)(o s n:Nat){x:aG R.T}{a:jo}(hx:eT (ρ.vE o s n) (σ.setObj (ρ.aj.lc o) s a) o x):aL (ρ.vE o s n) b (st.new o x) fr (σ.setObj (ρ.aj.lc o) s a):=h.new' o s ZA rfl rfl hx
theorem af6 {ρ':aT}{o p:Nat}(hp:p≠o)(ho:∀p,p≠o->ρ'.ob p=ρ.ob p/\ρ'.ln p=ρ.ln p)(ht:ρ'.tk=ρ.tk)(hx:ρ'.aj=ρ.aj):∀{x:aG R.T},aG.nR o x=false->eT ρ σ p x->eT ρ' σ p x
 |.cells cs,hm,h=>by obtain⟨s,l,h1,h2,h3⟩:=h;exact⟨s,l,((ho p hp).1.trans h1),K9,aF.kill o ho ht hx _ _ hm h3⟩
 |.map k e m,_,h=>by obtain⟨s,h1,h2⟩:=h;exact⟨s,((ho p hp).1.trans h1),K9⟩
 |.smap ks vs,hm,h=>by obtain⟨s,k,l,h1,h2,h3,h4⟩:=h;have hm':(nE o ks||nE o vs)=false:=hm;rw[kP] at hm';exact⟨s,k,l,((ho p hp).1.trans h1),K9,aF.kill o ho ht hx _ _ hm'.1 h3,aF.kill o ho ht hx _ _ hm'.2 h4⟩
 |.arr t l,hm,h=>by
  refine⟨h.1.trans (ho p hp).2.symm,?_⟩;rcases h.2 with h| ⟨s,cs,h1,h2,h3⟩
  ·exact .inl ⟨h.1,(ho p hp).1.trans h.2⟩
  ·exact .inr ⟨s,cs,((ho p hp).1.trans h1),K9,yw l cs h3⟩
 |.sg ss,_,h=>by obtain⟨s,h1,h2⟩:=h;exact⟨s,((ho p hp).1.trans h1),K9⟩
 |.gone,_,_=>trivial|.ro b,hm,h=>af6 hp ho ht hx (x:=b) hm h
theorem aL.ghost (h:aL ρ b st fr σ)(o:Nat)(t:Ty):aL (ρ.gh o) b (st.new o (.arr t [])) fr σ where
 d:=h.d
 aj:=h.aj
 fr:=fun j y hy=>by have hy':look (mM (BO o) st.fr) j=some y:=hy;rw[vD,aZ] at hy';obtain⟨z,hz,rfl⟩:=hy';exact af0 oL rfl rfl (h.fr j z hz)
 ob:=fun p y hy=>by
  by_cases e:p=o
  ·subst e
   have hy':some (aG.arr t ([]:List (Den R.T t)))=some y:=Lb
   cases hy';exact⟨(um (ρ:=ρ) (n:=0)).symm,.inl ⟨rfl,by simp[aT.gh,upd]⟩⟩
  ·have hy':look (mM (aG.kill o) (jE o st.ob)) p=some y:=Lc
   rw[vD,rH e,aZ] at hy';obtain⟨z,hz,rfl⟩:=hy';by_cases hc:∃cs,z= .cells cs
   ·obtain⟨cs,rfl⟩:=hc
    obtain⟨s,l,h1,h2,h3⟩:=h.ob p _ hz;exact⟨s,l,((oL (ρ:=ρ) p e).1.trans h1),h2,aF.Fe oL rfl rfl h3⟩
   ·have e2:aG.kill o z=bif aG.nR o z then .gone else z:=by cases z<;>first|rfl|exact absurd ⟨_,rfl⟩ hc
    rw[e2];cases hm:aG.nR o z
    ·exact af6 e oL rfl rfl hm (h.ob p z hz)
    ·trivial
 inj:=h.inj
 lt:=h.lt
 ge:=h.ge
 nx:=h.nx
theorem af7 {c:cu}{o p:Nat}(σ:au)(h:p≠o):(σ.eG (c.lc o)).obj (c.lc p)=σ.obj (c.lc p):=by unfold au.eG upd;dsimp only;rw[if_neg (c.afM h)]
theorem af8 {σ':au}{p:Nat}(hp:σ'.obj (ρ.aj.lc p)=σ.obj (ρ.aj.lc p))(ht:σ'.top=σ.top):∀{x:aG R.T},eT ρ σ p x->eT ρ σ' p x
 |.cells cs,h=>by obtain⟨s,l,h1,h2,h3⟩:=h;exact⟨s,l,h1,GL,by rw[ht];exact h3⟩
 |.map k e m,h=>by obtain⟨s,h1,h2⟩:=h;exact⟨s,h1,Rf⟩
 |.smap ks vs,h=>by obtain⟨s,k,l,h1,h2,h3,h4⟩:=h;exact⟨s,k,l,h1,Rf,by rw[ht];exact h3,by rw[ht];exact h4⟩
 |.arr t l,h=>by
  refine⟨h.1,?_⟩;rcases h.2 with h| ⟨s,cs,h1,h2,h3⟩
  ·exact .inl h
  ·exact .inr ⟨s,cs,h1,GL,yw l cs h3⟩
 |.sg ss,h=>by obtain⟨s,h1,h2⟩:=h;exact⟨s,h1,GL⟩
 |.gone,_=>trivial|.ro b,h=>af8 hp ht (x:=b) h
theorem aL.del (h:aL ρ b st fr σ)(o:Nat):aL ρ b (st.del o) fr (σ.eG (ρ.aj.lc o)) where
 d:=h.d
 aj:=h.aj
 fr:=h.fr
 ob:=fun p y hy=>by
  by_cases e:p=o
  ·subst e
   have:look (jE p st.ob) p=some y:=hy;have key:∀l:List (Nat×aG R.T),look (jE p l) p=none:=by
    intro l;induction l with
    |nil=>rfl|cons q l ih=>
     obtain⟨j,x⟩:=q;unfold jE;cases hj:Nat.beq j p
     ·show (bif Nat.beq j p then some x else look (jE p l) p)=none
      rw[hj];exact ih
     ·exact ih
   rw[key] at this;cases this
  ·have hy':look (jE o st.ob) p=some y:=hy
   rw[rH e] at hy';exact af8 (af7 σ e) rfl (h.ob p y hy')
 inj:=h.inj
 lt:=h.lt
 ge:=h.ge
 nx:=h.nx
theorem aL.set (h:aL ρ b st fr σ)(o s:Nat){x:aG R.T}{a:jo}(hx:eT ρ (σ.setObj (ρ.aj.lc o) s a) o x):aL ρ b (st.set o x) fr (σ.setObj (ρ.aj.lc o) s a) where
 d:=h.d
 aj:=h.aj
 fr:=h.fr
 ob:=fun p y hy=>by
  by_cases e:p=o
  ·subst e
   have hy':some x=some y:=Lb
   cases hy';exact hx
  ·have hy':look (jE o st.ob) p=some y:=Lc
   rw[rH e] at hy';exact af3 e (h.ob p y hy')
 inj:=h.inj
 lt:=h.lt
 ge:=h.ge
 nx:=h.nx
theorem aL.wk (h:aL ρ b st fr σ)(t s n:Nat){b':Nat}(hb:b<=b')(hs:s<b')(hl:ρ.aj.lo<=s)(hf:∀u,u≠t->ρ.tk u≠some s):aL (ρ.jU t s) b' (st.wk t) fr (σ.dZ s n) where
 d:=h.d
 aj:=h.aj
 fr:=fun j y hy=>by
  have hy':look (mM (aY.wk t) st.fr) j=some y:=hy;rw[vD,aZ] at hy';obtain⟨z,hz,rfl⟩:=hy';have hz':=h.fr j z hz;have key:∀u s',u≠t->ρ.tk u=some s'->(ρ.jU t s).tk u=some s'/\(σ.dZ s n).top s'=σ.top s':=fun u s' hu hs'=>
   ⟨by simp[aT.jU,upd,hu,hs'],SB _ _ fun e=>hf u hu (by rw[hs',e])⟩
  cases z with
  |opt j' w y=>exact⟨fun hc=>av.wk (ρ:=ρ) (ρ':=ρ.jU t s) (top:=σ.top) (top':=(σ.dZ s n).top) t ⟨rfl,rfl,rfl⟩ key y _ (hz'.1 hc),hz'.2⟩
  |_=>exact j6.of (av.wk (ρ:=ρ) (ρ':=ρ.jU t s) (top:=σ.top) (top':=(σ.dZ s n).top) t ⟨rfl,rfl,rfl⟩ key _ _ hz')
 ob:=fun p y hy=>by
  have hy':look (mM (aG.wk t) st.ob) p=some y:=hy;rw[vD,aZ] at hy';obtain⟨z,hz,rfl⟩:=hy';have hz':=h.ob p z hz;have key:∀u s',u≠t->ρ.tk u=some s'->(ρ.jU t s).tk u=some s'/\(σ.dZ s n).top s'=σ.top s':=fun u s' hu hs'=>
   ⟨by simp[aT.jU,upd,hu,hs'],SB _ _ fun e=>hf u hu (by rw[hs',e])⟩
  exact af4 key hz'
 inj:=fun u v s' hu hv=>by
  by_cases e1:u=t<;>by_cases e2:v=t
  ·rw[e1,e2]
  ·simp[aT.jU,upd,e1] at hu;simp[aT.jU,upd,e2] at hv;exact absurd (hu▸hv) (hf v e2)
  ·simp[aT.jU,upd,e1] at hu;simp[aT.jU,upd,e2] at hv;exact absurd (hv▸hu) (hf u e1)
  ·simp[aT.jU,upd,e1] at hu;simp[aT.jU,upd,e2] at hv;exact h.inj u v s' hu hv
 lt:=fun u s' hu=>by
  by_cases e1:u=t
  ·simp[aT.jU,upd,e1] at hu;omega
  ·simp[aT.jU,upd,e1] at hu;exact iq (h.lt u s' hu) hb
 ge:=fun u s' hu=>by
  by_cases e1:u=t
  ·simp[aT.jU,upd,e1] at hu;rw[<-hu];exact hl
  ·simp[aT.jU,upd,e1] at hu;exact h.ge u s' hu
 nx:=bZ h.nx hb
theorem af9 {top:Nat->Nat}{x:ak R.T}{v:Value}(h:Fg v=some x):∃y,kV v=some y/\av R ρ top x y:=by unfold Fg at h;split at h<;>cases h<;>exact⟨_,rfl,jJ⟩
theorem aga {top:Nat->Nat}:∀{vs:List Value}{l:List (ak R.T)},Iu vs=some l->∃y,vs.mapM kV=some y/\aF R ρ top l y
 | [],l,h=>by cases h;exact⟨[],rfl,rfl⟩|v::vs,l,h=>by
  unfold Iu at h;cases h1:(Fg v:Option (ak R.T)) with
  |none=>simp only[h1] at h;cases h|some a=>
   cases h2:(Iu vs:Option (List (ak R.T))) with
   |none=>simp only[h1,h2] at h;cases h|some bQ=>simp only[h1,h2] at h;cases h;obtain⟨y,hy,hr⟩:=af9 (ρ:=ρ) (top:=top) h1;obtain⟨ys,hys,hrs⟩:=aga h2;exact⟨y::ys,by simp[hy,hys],.cons' hr hrs⟩
theorem agb {top:Nat->Nat}{x:ak R.T}{v:Value}(h:Iw v=some x):∃y,ofValue v=some y/\av R ρ top x y:=by
 unfold Iw at h;split at h
 ·rename_i cs
  cases h2:(Iu cs.toList:Option (List (ak R.T))) with
  |none=>simp only[h2] at h;cases h|some l=>simp only[h2] at h;cases h;obtain⟨ys,hys,hrs⟩:=aga (ρ:=ρ) (top:=top) h2;exact⟨.agg ys,by simp[ofValue,hys],by unfold av;exact⟨_,rfl,hrs⟩⟩
 ·obtain⟨y,hy,hr⟩:=af9 (ρ:=ρ) (top:=top) h
  refine⟨y,?_,hr⟩;unfold Fg at h;split at h<;>first|exact hy|cases h
def uo (fr:Fr)(g:List (Nat×Bool)):Prop:=∀j u,look g j=some u->fr.tm j= .bool u
theorem uo.nil:uo fr []:=fun _ _ h=>bC
theorem uo.cons {g:List (Nat×Bool)}{j:Nat}{u:Bool}(h:fr.tm j= .bool u)(hg:uo fr g):uo fr ((j,u)::g):=fun i v hi=>by
 by_cases e:i=j
 ·subst e;rw[lD] at hi;cases hi;exact h
 ·rw[je _ _ e] at hi;exact hg i v hi
theorem aqc {fr:Fr}{top:Nat->Nat}{g:List (Nat×Bool)}(hg:uo fr g){y x:ak R.T}{v:V}(hy:j6 fr ρ top y v)(he:SL g y=some x):av R ρ top x v:=by
 cases y with
 |opt j w z=>
  unfold SL at he;dsimp only at he;split at he
  ·rename_i u hu
   cases he;have:=hg j u hu;by_cases e:u=w
   ·subst e;rw[beq_self_eq_true];exact hy.1 this
   ·rw[show (u==w)=false by simpa using e]
    have e':u= !w:=(by cases u<;>cases w<;>first|rfl|exact absurd rfl e);unfold av;exact hy.2 (.inl (by rw[this,e']))
  ·cases he
 |_=>cases he;exact hy
theorem dz (h:aL ρ b st fr σ){g:List (Nat×Bool)}(hg:uo fr g){o:Operand}{x:ak R.T}(he:dK g st o=some x):av R ρ σ.top x (fr.ev E o):=by
 cases o with
 |tmp t=>
  rw[MF];unfold dK at he;dsimp only at he;split at he
  ·rename_i v hv;exact aqc hg (h.fr _ _ hv) he
  ·cases he
 |const v=>rw[afk];obtain⟨y,hy,hr⟩:=agb (ρ:=ρ) (top:=σ.top) (show Iw v=some x from he);rw[hy];exact hr
 |func f=>cases he;rw[afl];unfold av;exact⟨[],[],rfl,rfl,rfl⟩|global i=>cases he
theorem AQ (h:aL ρ b st fr σ){g:List (Nat×Bool)}(hg:uo fr g):∀{l:List Operand}{xs:List (ak R.T)},lN g st l=some xs->aF R ρ σ.top xs (l.map (fr.ev E))
 | [],xs,he=>by cases he;rfl|o::l,xs,he=>by
  unfold lN at he;cases h1:dK g st o with
  |none=>simp only[h1] at he;cases he|some a=>
   cases h2:lN g st l with
   |none=>simp only[h1,h2] at he;cases he|some bQ=>simp only[h1,h2] at he;cases he;exact .cons' (dz h hg h1) (AQ h hg h2)
theorem ZB (h:aL ρ b st fr σ){g:List (Nat×Bool)}(hg:uo fr g):∀{l:List (Nat×Operand)}{xs:List (Nat×ak R.T)},Iy g st l=some xs->xs.map (·.1)=l.map (·.1)/\aF R ρ σ.top (xs.map (·.2)) (l.map fun p=>fr.ev E p.2)
 | [],xs,he=>by cases he;exact⟨rfl,rfl⟩| (i,o)::l,xs,he=>by
   unfold Iy at he;cases h1:dK g st o with
   |none=>simp only[h1] at he;cases he|some a=>
    cases h2:Iy g st l with
    |none=>simp only[h1,h2] at he;cases he|some bQ=>simp only[h1,h2] at he;cases he;obtain⟨e1,e2⟩:=ZB h hg h2;exact⟨by simp[e1],.cons' (dz h hg h1) e2⟩
end
theorem aqd {n m:Nat}{v:Vec n}{w:Vec m}(h:SG v=some w):n=m/\HEq v w:=by
 unfold SG at h;split at h
 ·rename_i e;subst e;cases h;exact⟨rfl,HEq.rfl⟩
 ·cases h
theorem agc:∀{k:xZ}{s:nY}{x:Im k},Io k s=some x->MJ k x=s
 |.i k,.i k' y,x,h=>by
  have h':(if k'=k then some y else none)=some (x:Int):=h;by_cases e:k'=k
  ·subst e;rw[if_pos rfl] at h';cases h';rfl
  ·rw[if_neg e] at h';cases h'
 |.a k n,.a k' n' v,x,h=>by
  have h':(if k'=k then SG (m:=n) v else none)=some (x:Vec n):=h;by_cases e:k'=k
  ·subst e;rw[if_pos rfl] at h'
   obtain⟨e1,e2⟩:=aqd h';subst e1;cases e2;rfl
  ·rw[if_neg e] at h';cases h'
 |.i k,.a _ _ _,x,h=>bC|.a k n,.i _ _,x,h=>bC
theorem TR:∀{l:List xZ}{ss:List nY}{x:E8 l},BL l ss=some x->zf l x=ss
 | [],ss,x,h=>by
   cases ss with
   |nil=>rfl|cons s ss=>cases h
 | [k],ss,x,h=>by
   cases ss with
   |nil=>cases h|cons s ss=>
    cases ss with
    |nil=>show [MJ k x]=[s];rw[agc (show Io k s=some x from h)]|cons s' ss=>cases h
 |k::k'::l,ss,x,h=>by
  cases ss with
  |nil=>cases h|cons s ss=>
   have h':(match Io k s with
    |some x=>match BL (k'::l) ss with
     |some p=>some (x,p)|none=>none
    |none=>none)=some x:=h
   cases hu:Io k s with
   |none=>simp only[hu] at h';cases h'|some y=>
    cases hs:BL (k'::l) ss with
    |none=>simp only[hu,hs] at h';cases h'|some q=>simp only[hu,hs] at h';obtain rfl:=lX h';show MJ k y::zf (k'::l) q=s::ss;rw[agc hu,TR hs]
section
variable {R:gY}(hR:rE R)
variable {ρ:aT}{top:Nat->Nat}{b:Nat}{st:aD R.T}{fr:Fr}{σ:au}
include hR
theorem FH {t:Ty}{x:Den R.T t}{tv:ak R.T}{v:V}(h:u7 R t tv=some x)(hr:av R ρ top tv v):av R ρ top (BM R .any t x) v:=by
 cases t with
 |int k=>rw[afT h hr];unfold av;rfl|bool=>rw[afU h hr];unfold av;rfl|str=>rw[afV h hr];unfold av;rfl|slice t=>obtain⟨c,hv⟩:=afW h hr;rw[hv];unfold av;exact⟨c,rfl,trivial⟩
 |st n=>cases h
theorem agd:∀(l:List Ty)(p:qx R.T l)(cs:List (ak R.T))(vs:List V),Dp R l cs=some p->aF R ρ top cs vs->aF R ρ top (gq R .any l p) vs
 | [],p,cs,vs,h,hr=>by
   cases cs with
   |nil=>rw[hr.iJ];rfl|cons c cs=>cases h
 | [t],p,cs,vs,h,hr=>by
   have h':u7 R t (hd1 R cs)=some p:=h;cases cs with
   |nil=>cases t<;>cases h'|cons c cs=>
    cases cs with
    |nil=>obtain⟨v,l,rfl,h1,h2⟩:=hr.dW;rw[h2.iJ];exact .cons' (FH hR h' h1) rfl
    |cons c' cs=>cases t<;>cases h'
 |t::u::l,p,cs,vs,h,hr=>by
  cases cs with
  |nil=>cases h|cons c cs=>
   obtain⟨v,vs,rfl,h1,h2⟩:=hr.dW;unfold Dp at h;cases hu:u7 R t c with
   |none=>simp only[hu] at h;cases h|some y=>
    cases hs:Dp R (u::l) cs with
    |none=>simp only[hu,hs] at h;cases h|some q=>simp only[hu,hs] at h;obtain rfl:=lX h;exact .cons' (FH hR hu h1) (agd (u::l) q cs vs hs h2)
theorem TS {t:Ty}{x:Den R.T t}{tv:ak R.T}{v:V}(h:BN R t tv=some x)(hr:av R ρ top tv v):av R ρ top (jk R .any t x) v:=by
 cases t with
 |st n=>
  change Fb R n tv=some x at h;unfold Fb at h;split at h
  ·rename_i cs
   split at h
   ·rename_i p hp
    obtain rfl:=lX h;obtain⟨l,hv,hl⟩:=hr.lT;subst hv;show av R ρ top (.agg (gq R .any (R.lf n) (R.of n (R.to n p)))) _;rw[hR.M9];unfold av;exact⟨l,rfl,agd hR _ _ _ _ hp hl⟩
   ·cases h
  ·cases h
 |int k=>exact FH hR (t:=.int k) h hr|bool=>exact FH hR (t:=.bool) h hr|str=>exact FH hR (t:=.str) h hr|slice t=>exact FH hR (t:=.slice t) h hr
omit hR in
theorem agf {sz n:Nat}{c c':Cp}{x:Cap}(h:IB c c'=true)(hx:Jc ρ top sz n c x):Jc ρ top sz n c' x:=by
 cases c<;>cases c'<;>simp only[IB,dO] at h<;>first|trivial|exact hx|exact .inl hx|exact .inr (.inl hx)| (rw[<-gG h];exact hx)
omit hR in
theorem ZC {k e k' e':Ty}{m:List (Den R.T k'×Den R.T e')}{x:List (Den R.T k×Den R.T e)}(h:IC R m=some x):k'=k/\e'=e/\HEq m x:=by
 unfold IC at h;split at h
 ·rename_i e;obtain⟨rfl,rfl⟩:=e;cases h;exact⟨rfl,rfl,HEq.rfl⟩
 ·cases h
omit hR in
theorem agh {c:Cp}{t:Ty}{x:List (Den R.T t)}{tv:ak R.T}{v:V}(h:SV R c t tv=some x)(hr:av R ρ top tv v):av R ρ top (.ay c t x) v:=by
 unfold SV at h;split at h
 ·rename_i c' t' l
  cases hc:IB c' c
  ·rw[hc] at h;cases h
  ·rw[hc,cond_true] at h
   obtain⟨e,e2⟩:=vC h;subst e;cases e2;obtain⟨c'',hv,hcc⟩:=hr.lU;unfold av;exact⟨c'',hv,agf hc hcc⟩
 ·cases hc:IB .nil c
  ·rw[hc] at h;cases h
  ·rw[hc,cond_true] at h;cases h
   unfold av;exact⟨.nil,hr.qB,agf hc rfl⟩
 ·cases h
mutual
theorem Nb:∀(k:aM)(x:ru R.T k)(tv:ak R.T)(v:V),pk R k tv=some x->av R ρ top tv v->av R ρ top (up R .any k x) v
 |.d t,x,tv,v,h,hr=>TS hR (by unfold pk at h;exact h) hr|.l c t,x,tv,v,h,hr=>agh (by unfold pk at h;exact h) hr|.agg l,x,tv,v,h,hr=>by
  cases tv<;>first| (exact absurd (show none=some x from h) aC)|skip
  rename_i cs;obtain⟨vs,rfl,hl⟩:=hr.lT;show av R ρ top (.agg (eY R .any l x)) _;unfold av;exact⟨vs,rfl,zx l x cs vs h hl⟩
 |.ref o off,x,tv,v,h,hr=>by
  cases tv<;>first| (exact absurd (show none=some x from h) aC)|skip
  rename_i p off';have h':(bif Nat.beq p o&& Nat.beq off' off then some () else none)=some x:=h;cases hb:(Nat.beq p o&& Nat.beq off' off)
  ·rw[hb] at h';cases h'
  ·rw[iP] at hb
   rw[gG hb.1,gG hb.2] at hr;exact hr
 |.aI l off,x,tv,v,h,hr=>by
  cases tv<;>first| (exact absurd (show none=some x from h) aC)|skip
  rename_i cs off';have h':(bif Nat.beq off' off then dV R l cs else none)=some x:=h;cases hb:Nat.beq off' off
  ·rw[hb] at h';cases h'
  ·rw[hb,cond_true] at h'
   rw[gG hb] at hr;obtain⟨vs,rfl,hl⟩:=hr.uj;show av R ρ top (.aI (eY R .any l x) off) _;unfold av;exact⟨vs,rfl,zx l x _ vs h' hl⟩
 |.kl l,x,tv,v,h,hr=>by
  cases tv<;>first| (exact absurd (show none=some x from h) aC)|skip
  rename_i cs;obtain⟨c,vs,rfl,hl⟩:=hr.DC;show av R ρ top (.kl (eY R .any l x)) _;unfold av;exact⟨c,vs,rfl,zx l x cs vs h hl⟩
 |.dF,x,tv,v,h,hr=>by
  cases tv<;>first| (exact absurd (show none=some x from h) aC)|skip
  exact hr
 |.cB,x,tv,v,h,hr=>by
  cases tv<;>first| (exact absurd (show none=some x from h) aC)|skip
  exact hr
 |.dJ o,x,tv,v,h,hr=>by
  cases tv<;>first| (exact absurd (show none=some x from h) aC)|skip
  rename_i p;have h':(bif Nat.beq p o then some () else none)=some x:=h;cases hb:Nat.beq p o
  ·rw[hb] at h';cases h'
  ·rw[gG hb] at hr
   exact hr
 |.eU k e,x,tv,v,h,hr=>by
  cases tv<;>first| (exact absurd (show none=some x from h) aC)|skip
  rename_i k' e' m;obtain⟨e1,e2,e3⟩:=ZC (show IC R m=some x from h);subst e1;subst e2;cases e3;exact hr
 |.fn f a b,x,tv,v,h,hr=>by
  cases tv<;>first| (exact absurd (show none=some x from h) aC)|skip
  rename_i f' a' b';have h':(bif Nat.beq f' f then (match dV R a a' with
   |some x=>match dV R b b' with
    |some y=>some (x,y)|none=>none
   |none=>none) else none)=some x:=h
  cases hb:Nat.beq f' f
  ·rw[hb] at h';cases h'
  ·rw[hb,cond_true] at h'
   rw[gG hb] at hr;obtain⟨va,vb,rfl,ha,hbb⟩:=hr.lg;cases h1:dV R a a' with
   |none=>simp only[h1] at h';cases h'|some y=>
    cases h2:dV R b b' with
    |none=>simp only[h1,h2] at h';cases h'|some z=>simp only[h1,h2] at h';cases h';show av R ρ top (.fn f (eY R .any a y) (eY R .any b z)) _;unfold av;exact⟨va,vb,rfl,zx a y _ va h1 ha,zx b z _ vb h2 hbb⟩
 |.gT,x,tv,v,h,hr=>by
  cases tv<;>first| (exact absurd (show none=some x from h) aC)|skip
  exact hr
 |.aJ o t,x,tv,v,h,hr=>by
  cases tv<;>first| (exact absurd (show none=some x from h) aC)|skip
  rename_i p t';have h':(bif Nat.beq p o then (if t'=t then some () else none) else none)=some x:=h;cases hb:Nat.beq p o
  ·rw[hb] at h';cases h'
  ·rw[hb,cond_true] at h'
   split at h'
   ·rename_i e
    rw[gG hb,e] at hr;exact hr
   ·cases h'
 |.sub o t,x,tv,v,h,hr=>by
  cases tv<;>first| (exact absurd (show none=some x from h) aC)|skip
  rename_i p t' a b;have h':(bif Nat.beq p o then (if t'=t then some (a,b) else none) else none)=some x:=h;cases hb:Nat.beq p o
  ·rw[hb] at h';cases h'
  ·rw[hb,cond_true] at h'
   split at h'
   ·rename_i e
    cases h';rw[gG hb,e] at hr;exact hr
   ·cases h'
 |.sg l,x,tv,v,h,hr=>by
  cases tv<;>first| (exact absurd (show none=some x from h) aC)|skip
  rename_i ss;show av R ρ top (.sg (zf l x)) v;rw[TR (show BL l ss=some x from h)];exact hr
 |.undef,x,tv,v,h,hr=>by
  cases tv<;>first| (exact absurd (show none=some x from h) aC)|skip
  exact hr
theorem zx:∀(l:List aM)(x:aW R.T l)(cs:List (ak R.T))(vs:List V),dV R l cs=some x->aF R ρ top cs vs->aF R ρ top (eY R .any l x) vs
 | [],x,cs,vs,h,hr=>by
   cases cs with
   |nil=>rw[hr.iJ];rfl|cons c cs=>exact absurd (show none=some x from h) aC
 | [k],x,cs,vs,h,hr=>by
   cases cs with
   |nil=>exact absurd (show none=some x from h) aC|cons c cs=>
    cases cs with
    |nil=>obtain⟨v,l,rfl,h1,h2⟩:=hr.dW;rw[h2.iJ];show aF R ρ top [up R .any k x] _;exact .cons' (Nb k x _ v h h1) rfl
    |cons c' cs=>exact absurd (show none=some x from h) aC
 |k::k'::l,x,cs,vs,h,hr=>by
  cases cs with
  |nil=>exact absurd (show none=some x from h) aC|cons c cs=>
   have h':(match pk R k c with
    |some x=>match dV R (k'::l) cs with
     |some p=>some (x,p)|none=>none
    |none=>none)=some x:=h
   obtain⟨v,vs,rfl,h1,h2⟩:=hr.dW;cases hu:pk R k c with
   |none=>simp only[hu] at h';cases h'|some y=>
    cases hs:dV R (k'::l) cs with
    |none=>simp only[hu,hs] at h';cases h'|some q=>simp only[hu,hs] at h';obtain rfl:=lX h';show aF R ρ top (up R .any k y::eY R .any (k'::l) q) _;exact .cons' (Nb k y _ v hu h1) (zx (k'::l) q _ vs hs h2)
end
omit hR in
theorem aqe {k:aM}{j:Nat}{w:Bool}{y:ak R.T}{x:ru R.T k}(h:pk R k (.opt j w y)=some x):False:=by
 cases k with
 |d t=>cases t<;>(unfold pk at h;cases h)|_=>unfold pk at h;cases h
theorem j6.pk {k:aM}{x:ru R.T k}{tv:ak R.T}{v:V}(h:pk R k tv=some x)(hr:j6 fr ρ top tv v):av R ρ top (up R .any k x) v:=by
 cases tv<;>first|exact Nb hR _ _ _ _ h hr|exact(aqe h).elim
theorem ZE (h:aL ρ b st fr σ):∀(l:List (Nat×aM))(x:E9 R.T l),wD R st.fr l=some x->∀i v,look (MQ R l x) i=some v->av R ρ σ.top v (fr.tm i)
 | [],x,hx,i,v,hv=>EC| [(j,k)],x,hx,i,v,hv=>by
   unfold wD at hx;split at hx
   ·rename_i y hy
    by_cases e:i=j
    ·subst e
     have hv':look [(i,up R .any k x)] i=some v:=hv;rw[lD] at hv';cases hv';exact j6.pk hR hx (h.fr _ _ hy)
    ·have hv':look [(j,up R .any k x)] i=some v:=hv
     rw[je _ _ e] at hv';cases hv'
   ·cases hx
 | (j,k)::q::l,x,hx,i,v,hv=>by
   unfold wD at hx;split at hx
   ·rename_i y hy
    cases hu:pk R k y with
    |none=>simp only[hu] at hx;cases hx|some z=>
     cases hs:wD R st.fr (q::l) with
     |none=>simp only[hu,hs] at hx;cases hx|some p=>
      simp only[hu,hs] at hx;obtain rfl:=lX hx;have hv':look ((j,up R .any k z)::MQ R (q::l) p) i=some v:=hv;by_cases e:i=j
      ·subst e
       rw[lD] at hv';cases hv';exact j6.pk hR hu (h.fr _ _ hy)
      ·rw[je _ _ e] at hv'
       exact ZE h (q::l) p hs i v hv'
   ·cases hx
theorem Nc {o:Nat}{k:d9}{x:Dn R.T k}{y:aG R.T}(hx:Du R k y=some x)(hy:eT ρ σ o y):eT ρ σ o (mY R k x):=by
 cases k with
 |cells l=>
  cases y with
  |cells cs=>obtain⟨s,vs,h1,h2,h3⟩:=hy;exact⟨s,vs,h1,h2,zx hR l x _ vs hx h3⟩
  |map k e m=>cases hx|smap _ _=>cases hx|arr _ _=>cases hx|sg _=>cases hx|gone=>cases hx|ro b=>cases hx
 |st n=>
  cases y with
  |cells cs=>obtain⟨s,vs,h1,h2,h3⟩:=hy;obtain⟨l,e,hl⟩:=(TS hR (t:=.st n) (show BN R (.st n) (.agg cs)=some x from hx) (v:=.agg vs) ⟨vs,rfl,h3⟩).lT;cases e;exact⟨s,vs,h1,h2,hl⟩
  |map k e m=>cases hx|smap _ _=>cases hx|arr _ _=>cases hx|sg _=>cases hx|gone=>cases hx|ro b=>cases hx
 |arr t=>
  cases y with
  |arr t' l=>obtain⟨e,e2⟩:=vC hx;subst e;cases e2;exact hy
  |cells cs=>cases hx|map _ _ _=>cases hx|smap _ _=>cases hx|sg _=>cases hx|gone=>cases hx|ro b=>cases hx
 |sg l=>
  cases y with
  |sg ss=>show eT ρ σ o (.sg (zf l x));rw[TR (show BL l ss=some x from hx)];exact hy|cells cs=>cases hx|map _ _ _=>cases hx|smap _ _=>cases hx|arr _ _=>cases hx|gone=>cases hx|ro b=>cases hx
 |map k e=>
  cases y with
  |map k' e' m=>obtain⟨e1,e2,e3⟩:=ZC hx;subst e1;subst e2;cases e3;exact hy
  |cells cs=>cases hx|smap _ _=>cases hx|arr _ _=>cases hx|sg _=>cases hx|gone=>cases hx|ro b=>cases hx
theorem agi (h:aL ρ b st fr σ):∀(l:List (Nat×d9))(x:cZ R.T l),lQ R st.ob l=some x->∀i v,look (gF R l x) i=some v->eT ρ σ i v
 | [],x,hx,i,v,hv=>EC| [(j,k)],x,hx,i,v,hv=>by
   unfold lQ at hx;split at hx
   ·rename_i y hy
    by_cases e:i=j
    ·subst e
     have hv':look [(i,mY R k x)] i=some v:=hv;rw[lD] at hv';cases hv';exact Nc hR hx (h.ob _ _ hy)
    ·have hv':look [(j,mY R k x)] i=some v:=hv
     rw[je _ _ e] at hv';cases hv'
   ·cases hx
 | (j,k)::q::l,x,hx,i,v,hv=>by
   unfold lQ at hx;split at hx
   ·rename_i y hy
    cases hu:Du R k y with
    |none=>simp only[hu] at hx;cases hx|some z=>
     cases hs:lQ R st.ob (q::l) with
     |none=>simp only[hu,hs] at hx;cases hx|some p=>
      simp only[hu,hs] at hx;obtain rfl:=lX hx;have hv':look ((j,mY R k z)::gF R (q::l) p) i=some v:=hv;by_cases e:i=j
      ·subst e
       rw[lD] at hv';cases hv';exact Nc hR hu (h.ob _ _ hy)
      ·rw[je _ _ e] at hv'
       exact agi h (q::l) p hs i v hv'
   ·cases hx
theorem aL.pack (h:aL ρ b st fr σ){s:Shape}{p:rz R.T s}(hp:pack R st s=some p):aL ρ b (unpack R s p) fr σ:=by
 obtain⟨sl,ob⟩:=s;cases ob with
 |nil=>have hp':wD R st.fr sl=some p:=hp;exact {h with fr:=fun i v hv=>.of (ZE hR h sl p hp' i v hv),ob:=fun i v hv=>EC}
 |cons o os=>
  unfold aY.pack at hp;cases hu:wD R st.fr sl with
  |none=>simp only[hu] at hp;cases hp|some x=>
   cases hs:lQ R st.ob (o::os) with
   |none=>simp only[hu,hs] at hp;cases hp|some y=>simp only[hu,hs] at hp;obtain rfl:=lX hp;exact {h with fr:=fun i v hv=>.of (ZE hR h sl x hu i v hv),ob:=fun i v hv=>agi hR h (o::os) y hs i v hv}
omit hR in
theorem agj {e x:Ex}(h:Fj e x=true):e=x:=by
 cases e<;>cases x<;>simp only[Fj,dO] at h<;>first|rfl|rw[gG h]
omit hR in
def jr (st:aD R.T)(o:Nat):Prop:=∀x,look st.ob o=some x->su x=true
omit hR in
theorem TT {k:d9}{x:Dn R.T k}{y:aG R.T}(hx:Du R k y=some x)(hy:su y=true):False:=by
 cases y with
 |cells _=>cases hy|map _ _ _=>cases hy|smap _ _=>cases hy|arr _ _=>cases hy|sg _=>cases hy|gone=>cases k<;>cases hx|ro b=>cases k<;>cases hx
omit hR in
theorem agk {i:Nat}(hr:jr st i):∀(l:List (Nat×d9))(x:cZ R.T l),lQ R st.ob l=some x->look (gF R l x) i=none
 | [],x,hx=>rfl| [(j,k)],x,hx=>by
   unfold lQ at hx;split at hx
   ·rename_i y hy
    by_cases e:i=j
    ·subst e;exact(TT hx (hr _ hy)).elim
    ·show look [(j,mY R k x)] i=none
     rw[je _ _ e];rfl
   ·cases hx
 | (j,k)::q::l,x,hx=>by
   unfold lQ at hx;split at hx
   ·rename_i y hy
    cases hu:Du R k y with
    |none=>simp only[hu] at hx;cases hx|some z=>
     cases hs:lQ R st.ob (q::l) with
     |none=>simp only[hu,hs] at hx;cases hx|some p=>
      simp only[hu,hs] at hx;obtain rfl:=lX hx;show look ((j,mY R k z)::gF R (q::l) p) i=none;by_cases e:i=j
      ·subst e;exact(TT hu (hr _ hy)).elim
      ·rw[je _ _ e];exact agk hr (q::l) p hs
   ·cases hx
omit hR in
theorem aqf {s:Shape}{p:rz R.T s}{i:Nat}(hp:aY.pack R st s=some p)(hr:jr st i):look (unpack R s p).ob i=none:=by
 obtain⟨sl,ob⟩:=s;cases ob with
 |nil=>rfl|cons o os=>
  unfold aY.pack at hp;cases hu:wD R st.fr sl with
  |none=>simp only[hu] at hp;cases hp|some x=>
   cases hs:lQ R st.ob (o::os) with
   |none=>simp only[hu,hs] at hp;cases hp|some y=>simp only[hu,hs] at hp;obtain rfl:=lX hp;exact agk hr (o::os) y hs
omit hR
theorem zy {α:Type}:∀(l m:List (Nat×α))(i:Nat),look (l++m) i=match look l i with|some x=>some x|none=>look m i
 | [],m,i=>rfl| (j,x)::l,m,i=>by
   show (bif Nat.beq j i then some x else look (l++m) i)=match (bif Nat.beq j i then some x else look l i) with|some x=>some x|none=>look m i
   cases Nat.beq j i
   ·exact zy l m i
   ·rfl
theorem aL.over {st':aD R.T}(h:aL ρ b st fr σ)(h':aL ρ b st' fr σ):aL ρ b (st.over st') fr σ:={h with
 fr:=fun i v hv=>by
  have hv':look (st.fr++st'.fr) i=some v:=hv;rw[zy] at hv';split at hv'
  ·rename_i x hx;cases hv';exact h.fr _ _ hx
  ·exact h'.fr _ _ hv'
 ob:=fun i v hv=>by
  have hv':look (st.ob++st'.ob) i=some v:=hv;rw[zy] at hv';split at hv'
  ·rename_i x hx;cases hv';exact h.ob _ _ hx
  ·exact h'.ob _ _ hv'}
theorem BZ {α:Type}{p:Nat->α->Bool}{f:α->α}{l:List (Nat×α)}:∀{is:List Nat}{i:Nat}{y:α},look (rA p f l is) i=some y->∃x,look l i=some x/\p i x=true/\y=f x
 | [],i,y,h=>bC|j::is,i,y,h=>by
  unfold rA at h;split at h
  ·rename_i x hx
   cases hp:p j x
   ·rw[hp] at h;exact BZ h
   ·rw[hp,cond_true] at h
    by_cases e:i=j
    ·subst e;rw[lD] at h;cases h;exact⟨x,hx,hp,rfl⟩
    ·rw[je _ _ e] at h;exact BZ h
  ·exact BZ h
mutual
theorem av.solid {ρ':aT}{top':Nat->Nat}{W:List Nat}(ho:∀o,bf o W=false->ρ'.ob o=ρ.ob o/\ρ'.ln o=ρ.ln o)(hx:ρ'.aj=ρ.aj):∀(x:ak R.T)(v:V),aY.solid W x=true->av R ρ top x v->av R ρ' top' x v
 |.ay c t l,v,hs,h=>by obtain⟨c',hv,hc⟩:=h;refine⟨c',hv,?_⟩;cases c<;>first|exact hc| (simp[aY.solid] at hs;done)
 |.ref o off,v,hs,h=>K4
 |.dJ o,v,hs,h=>K4
 |.aJ o t,v,hs,h=>by
  unfold aY.solid at hs;obtain⟨k1,k2⟩:=ho o adG;rcases h with ⟨s,h1,h2⟩| ⟨h1,h2⟩
  ·exact .inl ⟨s,by rw[k1];exact h1,by rw[k2,hx];exact h2⟩
  ·exact .inr ⟨by rw[k2];exact h1,h2⟩
 |.sub o t a b,v,hs,h=>by
  unfold aY.solid at hs;obtain⟨k1,k2⟩:=ho o adG;obtain⟨g0,g1,g2,h⟩:=h;refine⟨g0,g1,by rw[k2];exact g2,?_⟩;rcases h with ⟨s,cp,h1,h2,h3⟩|h
  ·exact .inl ⟨s,cp,by rw[k1];exact h1,h2,by rw[hx];exact h3⟩
  ·exact .inr h
 |.l9 o t i off,v,hs,h=>K4
 |.sv o _ _ _ _ _,v,hs,h=>K4
 |.sel o _ _ _ _ _,v,hs,h=>K4
 |.sg _,_,_,h=>h|.zh _ _ _ _,_,_,h=>h|.agg cs,v,hs,h=>by obtain⟨l,hv,hl⟩:=h;exact⟨l,hv,aF.solid ho hx cs l Rn hl⟩
 |.bq cs,v,hs,h=>by obtain⟨l,hv,hl⟩:=h;exact⟨l,hv,aF.solid ho hx cs l Rn hl⟩
 |.aI cs off,v,hs,h=>by obtain⟨l,hv,hl⟩:=h;exact⟨l,hv,aF.solid ho hx cs l Rn hl⟩
 |.kl cs,v,hs,h=>by obtain⟨c,l,hv,hl⟩:=h;exact⟨c,l,hv,aF.solid ho hx cs l Rn hl⟩
 |.fn f a b,v,hs,h=>by obtain⟨a',b',hv,ha,hb⟩:=h;unfold aY.solid at hs;rw[iP] at hs;exact⟨a',b',hv,aF.solid ho hx a a' hs.1 ha,aF.solid ho hx b b' hs.2 hb⟩
 |.opt _ _ _,_,_,h=>h.elim|.int _ _,_,_,h=>h|.bool _,_,_,h=>h|.ji _,_,_,h=>h|.str _,_,_,h=>h|.cB,_,_,h=>h|.dF,_,_,h=>h|.gL,_,_,h=>h|.iD,_,_,h=>h|.gT,_,_,h=>h|.eU _ _ _,_,_,h=>h|.undef,_,_,h=>h|.gone,_,_,h=>trivial
theorem aF.solid {ρ':aT}{top':Nat->Nat}{W:List Nat}(ho:∀o,bf o W=false->ρ'.ob o=ρ.ob o/\ρ'.ln o=ρ.ln o)(hx:ρ'.aj=ρ.aj):∀(x:List (ak R.T))(v:List V),vg W x=true->aF R ρ top x v->aF R ρ' top' x v
 | [],_,_,h=>h|x::xs,_,hs,⟨v,vs,e,h1,h2⟩=>by unfold vg at hs;rw[iP] at hs;exact⟨v,vs,e,av.solid ho hx x v hs.1 h1,aF.solid ho hx xs vs hs.2 h2⟩
end
theorem aqg {x:ak R.T}{v:V}(h:j6 fr ρ top x v):j6 fr ρ top (Y4 x) v:=by
 cases x with
 |ay c t l=>
  cases c with
  |own u=>obtain⟨c',hv,_⟩:=av.lU (show av R ρ top (.ay (.own u) t l) v from h);exact .of (x:=.ay .any t l) (by unfold av;exact⟨c',hv,trivial⟩)
  |_=>exact h
 |_=>exact h
theorem aqh {W:List Nat}{x:ak R.T}{v:V}(hs:aY.solid W x=true)(h:j6 fr ρ top x v):av R ρ top x v:=by
 cases x<;>first|exact h| (simp[aY.solid] at hs;done)
structure bB (nr:Bool)(o:Nat)(st:aD R.T)(ρ:aT)(σ:au)(st':aD R.T)(ρ':aT)(σ':au):Prop where
 ob:ρ'.ob o=ρ.ob o
 ln:ρ'.ln o=ρ.ln o
 aj:ρ'.aj=ρ.aj
 nx:σ.next<=σ'.next
 lp:(∀l,l<σ.next->σ'.loops l=σ.loops l)/\∀s,s<ρ.aj.lo->σ'.top s=σ.top s
 dp:∀L,nr=true\/L.1<=ρ.aj.dp->ρ.aj.out L->σ'.obj L=σ.obj L
 ro:jr st o->jr st' o/\∀s,σ'.dB (ρ.aj.lc o) s=σ.dB (ρ.aj.lc o) s/\σ'.jw (ρ.aj.lc o) s=σ.jw (ρ.aj.lc o) s
structure Kp (nr:Bool)(W:List Nat)(st:aD R.T)(fr:Fr)(σ:au)(ρ:aT)(st':aD R.T)(fr':Fr)(σ':au)(ρ':aT):Prop where
 fr:∀i,bf i W=false->fr'.tm i=fr.tm i
 ob:∀o,bf o W=false->bB nr o st ρ σ st' ρ' σ'
section
variable {nr:Bool}
theorem ZF {c:cu}{o s:Nat}{x:jo}{L:Loc}(h:c.out L):(σ.setObj (c.lc o) s x).obj L=σ.obj L:=by unfold au.setObj upd;dsimp only;rw[if_neg (h o)]
theorem aqi {c:cu}{o:Nat}{L:Loc}(h:c.out L):(σ.eG (c.lc o)).obj L=σ.obj L:=by unfold au.eG upd;dsimp only;rw[if_neg (h o)]
theorem cu.agl (c:cu){L:Loc}(h:c.dp<L.1):c.out L:=fun o e=>by
 have:=c.wJ o;rw[<-e] at this;omega
theorem bB.refl {o:Nat}:bB nr o st ρ σ st ρ σ:=⟨rfl,rfl,rfl,RS _,⟨fun _ _=>rfl,fun _ _=>rfl⟩,fun _ _ _=>rfl,fun h=>⟨h,fun _=>⟨rfl,rfl⟩⟩⟩
theorem bB.trans {o:Nat}{st' jF:aD R.T}{ρ' uq:aT}{σ' kr:au}(h:bB nr o st ρ σ st' ρ' σ')(g:bB nr o st' ρ' σ' jF uq kr):bB nr o st ρ σ jF uq kr:=
 ⟨g.ob.trans h.ob,g.ln.trans h.ln,g.aj.trans h.aj,bZ h.nx g.nx,⟨fun l hl=>(g.lp.1 l (iq hl h.nx)).trans (h.lp.1 l hl),fun s hs=>(g.lp.2 s (by rw[h.aj];exact hs)).trans (h.lp.2 s hs)⟩,fun L hn hL=>(g.dp L (by rw[h.aj];exact hn) (by rw[h.aj];exact hL)).trans (h.dp L hn hL),fun hr=>by have g':=fun hr=>g.ro hr;rw[h.aj] at g';exact⟨(g' (h.ro hr).1).1,fun s=>⟨((g' (h.ro hr).1).2 s).1.trans ((h.ro hr).2 s).1,((g' (h.ro hr).1).2 s).2.trans ((h.ro hr).2 s).2⟩⟩⟩
theorem Kp.refl {W:List Nat}:Kp nr W st fr σ ρ st fr σ ρ:=⟨fun _ _=>rfl,fun _ _=>.refl⟩
theorem Kp.trans {W:List Nat}{st' jF:aD R.T}{fr' DI:Fr}{ρ' uq:aT}{σ' kr:au}(h:Kp nr W st fr σ ρ st' fr' σ' ρ')(g:Kp nr W st' fr' σ' ρ' jF DI kr uq):Kp nr W st fr σ ρ jF DI kr uq:=
 ⟨fun i hi=>(g.fr i hi).trans (h.fr i hi),fun o ho=>(h.ob o ho).trans (g.ob o ho)⟩
theorem Kp.mono {W W':List Nat}{st':aD R.T}{fr':Fr}{ρ':aT}{σ':au}(h:Kp nr W st fr σ ρ st' fr' σ' ρ')(hw:∀i,bf i W'=false->bf i W=false):Kp nr W' st fr σ ρ st' fr' σ' ρ':=
 ⟨fun i hi=>h.fr i (hw i hi),fun o ho=>h.ob o (hw o ho)⟩
theorem Nf:∀(i:Nat)(l m:List Nat),bf i (l++m)=(bf i l||bf i m)
 |i,[],m=>rfl|i,j::l,m=>by show (Nat.beq i j||bf i (l++m))=_;rw[Nf i l m,<-Bool.or_assoc];rfl
theorem agm {o:Nat}{ρ':aT}{σ':au}{W:List Nat}(ho:∀o,bf o W=false->ρ'.ob o=ρ.ob o/\ρ'.ln o=ρ.ln o)(hx:ρ'.aj=ρ.aj)(hm:bf o W=false)(hc:∀s,σ'.dB (ρ.aj.lc o) s=σ.dB (ρ.aj.lc o) s/\σ'.jw (ρ.aj.lc o) s=σ.jw (ρ.aj.lc o) s):∀{x:aG R.T},qy W x=true->eT ρ σ o x->eT ρ' σ' o x
 |.cells cs,hs,h=>by obtain⟨s,l,h1,h2,h3⟩:=h;exact⟨s,l,Ld,by rw[hx,(hc s).1];exact h2,aF.solid ho hx cs l hs h3⟩
 |.map k e m,_,h=>by obtain⟨s,h1,h2⟩:=h;exact⟨s,Ld,by rw[hx,(hc s).2];exact h2⟩
 |.smap ks vs,hs,h=>by obtain⟨s,k,l,h1,h2,h3,h4⟩:=h;have hs':(vg W ks&& vg W vs)=true:=hs;rw[iP] at hs';exact⟨s,k,l,Ld,by rw[hx,(hc s).2];exact h2,aF.solid ho hx ks k hs'.1 h3,aF.solid ho hx vs l hs'.2 h4⟩
 |.arr t l,_,h=>by
  refine⟨h.1.trans (ho o hm).2.symm,?_⟩;rcases h.2 with h| ⟨s,cs,h1,h2,h3⟩
  ·exact .inl ⟨h.1,(ho o hm).1.trans h.2⟩
  ·exact .inr ⟨s,cs,Ld,by rw[hx,(hc s).1];exact h2,yw l cs h3⟩
 |.sg ss,_,h=>by obtain⟨s,h1,h2⟩:=h;exact⟨s,Ld,by rw[hx,(hc s).1];exact h2⟩
 |.gone,_,_=>trivial|.ro b,hs,h=>agm ho hx hm hc (x:=b) hs h
theorem Ca:∀W:List Nat,∃n,∀m,n<=m->bf m W=false
 | []=>⟨0,fun _ _=>rfl⟩
 |i::W=>by obtain⟨n,hn⟩:=Ca W;refine⟨n+i+1,fun m hm=>?_⟩;show (Nat.beq m i||bf m W)=false;rw[TQ ah,hn m ah];rfl
theorem Kp.aj {W:List Nat}{st':aD R.T}{fr':Fr}{ρ':aT}{σ':au}(h:Kp nr W st fr σ ρ st' fr' σ' ρ'):ρ'.aj=ρ.aj:=by obtain⟨n,hn⟩:=Ca W;exact(h.ob n (hn n (RS _))).aj
theorem aL.base {W K O:List Nat}{mark:aG R.T->aG R.T}(hmark:∀ρ σ o x,eT ρ σ o x->eT (R:=R) ρ σ o (mark x)){st0 st' jF:aD R.T}{fr':Fr}{ρ':aT}{σ':au}{b':Nat}(h:aL ρ b st fr σ)(hk:Kp nr W st0 fr σ ρ st' fr' σ' ρ')(h':aL ρ' b' jF fr' σ')(hro:∀o x,look st.ob o=some x->bf o W=false->bf o O=true->qy W x=true->jr st0 o):aL ρ' b' (aY.base W K O mark st) fr' σ':={h' with
 fr:=fun i v hv=>by obtain⟨x,h1,h2,rfl⟩:=BZ hv;rw[iP,rU] at h2;have:=aqh h2.2 (aqg (h.fr _ _ h1));rw[hk.fr i h2.1];exact .of (av.solid (fun o ho=>⟨(hk.ob o ho).ob,(hk.ob o ho).ln⟩) hk.aj _ _ h2.2 this)
 ob:=fun o y hy=>by
  have hO:bf o O=true:=by
   have:∀{is:List Nat}{y:aG R.T},look (rA (fun o b=>!(bf o W)&& qy W b) mark st.ob is) o=some y->bf o is=true:=by
    intro is;induction is with
    |nil=>intro y h;cases h|cons j is ih=>
     intro y h;show (Nat.beq o j||bf o is)=true;unfold rA at h;by_cases e:o=j
     ·subst e;rw[xA];rfl
     ·split at h
      ·rename_i x hx
       cases hp:(!(bf j W)&& qy W x)
       ·rw[hp] at h;rw[ih h,Bool.or_true]
       ·rw[hp,cond_true,je _ _ e] at h;rw[ih h,Bool.or_true]
      ·rw[ih h,Bool.or_true]
   exact this hy
  obtain⟨x,h1,h2,rfl⟩:=BZ hy;rw[iP,rU] at h2;have hc:=((hk.ob o h2.1).ro (hro o x h1 h2.1 hO h2.2)).2;exact hmark _ _ _ _ (agm (fun o ho=>⟨(hk.ob o ho).ob,(hk.ob o ho).ln⟩) hk.aj h2.1 hc h2.2 (h.ob _ _ h1))}
theorem ZG {W K O:List Nat}{st':aD R.T}{o:Nat}{x:aG R.T}(h1:look st.ob o=some x)(h2:bf o W=false)(h3:bf o O=true)(h4:qy W x=true):jr ((aY.base W K O .ro st).over st') o:=by
 intro y hy;have hl:∃z,look (rA (fun o b=>!(bf o W)&& qy W b) aG.ro st.ob O) o=some (.ro z):=by
  have:∀is:List Nat,bf o is=true->∃z,look (rA (fun o b=>!(bf o W)&& qy W b) aG.ro st.ob is) o=some (.ro z):=by
   intro is;induction is with
   |nil=>intro h;cases h|cons j is ih=>
    intro h;by_cases e:o=j
    ·subst e
     unfold rA;rw[h1];dsimp only;rw[h2,h4];exact⟨x,lD _ _ _⟩
    ·have h':(Nat.beq o j||bf o is)=true:=h
     rw[TQ e,Bool.false_or] at h';obtain⟨z,hz⟩:=ih h';refine⟨z,?_⟩;unfold rA;split
     ·rename_i w hw
      cases (!(bf j W)&& qy W w)
      ·exact hz
      ·rw[cond_true,je _ _ e];exact hz
     ·exact hz
  exact this O h3
 obtain⟨z,hz⟩:=hl;have hy':look (rA (fun o b=>!(bf o W)&& qy W b) aG.ro st.ob O++st'.ob) o=some y:=hy;rw[zy,hz] at hy';cases hy';rfl
theorem aqj {t:Nat}:∀{x:aG R.T},su x=true->su (aG.wk t x)=true
 |.ro _,_=>rfl|.gone,_=>rfl|.cells _,h=>bC|.map _ _ _,h=>bC|.smap _ _,h=>bC|.arr _ _,h=>bC
theorem TU {t:Nat}{x:aG R.T}(h:su x=true):su (aG.kill t x)=true:=by
 have e:aG.kill t x=bif aG.nR t x then .gone else x:=by cases x<;>first|rfl|cases h
 rw[e];cases aG.nR t x
 ·exact h
 ·rfl
theorem bB.wk {p t s n:Nat}(hl:ρ.aj.lo<=s):bB nr p st ρ σ (st.wk t) (ρ.jU t s) (σ.dZ s n):=⟨rfl,rfl,rfl,RS _,⟨fun _ _=>rfl,fun s' hs'=>SB _ _ ah⟩,fun _ _ _=>rfl,fun hr=>⟨fun x hx=>by
 have hx':look (mM (aG.wk t) st.ob) p=some x:=hx;rw[vD,aZ] at hx';obtain⟨z,hz,rfl⟩:=hx';exact aqj (hr z hz),fun _=>⟨rfl,rfl⟩⟩⟩
theorem bB.set {o q s:Nat}{x y:aG R.T}{a:jo}(hl:look st.ob o=some y)(hy:su y=false):bB nr q st ρ σ (st.set o x) ρ (σ.setObj (ρ.aj.lc o) s a):=⟨rfl,rfl,rfl,RS _,⟨fun _ _=>rfl,fun _ _=>rfl⟩,fun _ _ hL=>ZF hL,fun hr=>by
 have hne:q≠o:=by rintro rfl;rw[hr y hl] at hy;cases hy
 refine⟨fun z hz=>?_,fun s'=>⟨GR _ _ _ _ hne,Jg _ _ _ _ hne⟩⟩;have hz':look ((o,x)::jE o st.ob) q=some z:=hz;rw[je _ _ hne,rH hne] at hz';exact hr z hz'⟩
theorem bB.new {o q s:Nat}{x:aG R.T}{a:jo}(hne:q≠o):bB nr q st ρ σ (st.new o x) (ρ.mh o s) (σ.setObj (ρ.aj.lc o) s a):=⟨by simp[aT.mh,upd,hne],rfl,rfl,RS _,⟨fun _ _=>rfl,fun _ _=>rfl⟩,fun _ _ hL=>ZF hL,fun hr=>by
 refine⟨fun z hz=>?_,fun s'=>⟨GR _ _ _ _ hne,Jg _ _ _ _ hne⟩⟩;have hz':look ((o,x)::mM (aG.kill o) (jE o st.ob)) q=some z:=hz;rw[je _ _ hne,vD,rH hne,aZ] at hz';obtain⟨w,hw,rfl⟩:=hz';exact TU (hr w hw)⟩
theorem Bq {d:Option Nat}{v:ak R.T}:(st.gU d v).ob=st.ob:=GX
theorem bB.same {st':aD R.T}{o:Nat}(h:st'.ob=st.ob):bB nr o st ρ σ st' ρ σ:=⟨rfl,rfl,rfl,RS _,⟨fun _ _=>rfl,fun _ _=>rfl⟩,fun _ _ _=>rfl,fun hr=>⟨fun x hx=>hr x (by rw[<-h];exact hx),fun _=>⟨rfl,rfl⟩⟩⟩
theorem bB.congr {st' jF:aD R.T}{ρ':aT}{σ':au}{o:Nat}(h:bB nr o st ρ σ st' ρ' σ')(e:jF.ob=st'.ob):bB nr o st ρ σ jF ρ' σ':=⟨h.ob,h.ln,h.aj,h.nx,h.lp,h.dp,fun hr=>⟨fun x hx=>(h.ro hr).1 x (by rw[<-e];exact hx),(h.ro hr).2⟩⟩
theorem bB.from {st' jF:aD R.T}{ρ':aT}{σ':au}{o:Nat}(h:bB nr o st ρ σ st' ρ' σ')(e:st.ob=jF.ob):bB nr o jF ρ σ st' ρ' σ':=⟨h.ob,h.ln,h.aj,h.nx,h.lp,h.dp,fun hr=>h.ro fun x hx=>hr x (by rw[<-e];exact hx)⟩
theorem Kp.op {d:Option Nat}{W:List Nat}{y:V}{st':aD R.T}{ρ':aT}{σ':au}{Q:Nat->Prop}(hd:∀p,bf p W=false->d≠some p/\Q p)(h:∀p,Q p->bB nr p st ρ σ st' ρ' σ'):Kp nr W st fr σ ρ st' (fr.put d y) σ' ρ':=
 ⟨fun i hi=>by
   cases d with
   |none=>rfl|some j=>exact ze _ _ (by have:=(hd i hi).1;simp at this;simpa using fun e=>this e.symm),fun p hp=>h p (hd p hp).2⟩
theorem agn {W K O:List Nat}{st':aD R.T}{o:Nat}(h:look st'.ob o=none):jr ((aY.base W K O .ro st).over st') o:=by
 intro y hy;have hy':look (rA (fun o b=>!(bf o W)&& qy W b) aG.ro st.ob O++st'.ob) o=some y:=hy;rw[zy] at hy';split at hy'
 ·rename_i x hx
  cases hy';obtain⟨z,_,_,rfl⟩:=BZ hx;rfl
 ·rw[h] at hy';cases hy'
theorem Ng {st':aD R.T}{o:Nat}(h1:jr st o)(h2:jr st' o):jr (st.over st') o:=by
 intro y hy;have hy':look (st.ob++st'.ob) o=some y:=hy;rw[zy] at hy';split at hy'
 ·rename_i x hx;cases hy';exact h1 _ hx
 ·exact h2 _ hy'
theorem agp {W K O:List Nat}{mark:aG R.T->aG R.T}{o:Nat}(hm:∀x,su x=true->su (mark x)=true)(h:jr st o):jr (aY.base W K O mark st) o:=by intro y hy;obtain⟨x,h1,_,rfl⟩:=BZ hy;exact hm _ (h _ h1)
theorem finish {W K O:List Nat}{H S' jF:aD R.T}{fr':Fr}{ρ':aT}{σ':au}{b':Nat}(hi:aL ρ b st fr σ)(hH:∀o,bf o W=false->jr st o->jr H o)(hro:∀o x,look st.ob o=some x->bf o W=false->bf o O=true->qy W x=true->jr H o)(hk:Kp nr W H fr σ ρ S' fr' σ' ρ')(hi':aL ρ' b' jF fr' σ')(hn:∀o,bf o W=false->jr H o->look jF.ob o=none):
 aL ρ' b' ((aY.base W K O (fun b=>b) st).over jF) fr' σ'/\Kp nr W st fr σ ρ ((aY.base W K O (fun b=>b) st).over jF) fr' σ' ρ':=by
 have hk2:Kp nr W H fr σ ρ jF fr' σ' ρ':=⟨hk.fr,fun o ho=>⟨(hk.ob o ho).ob,(hk.ob o ho).ln,(hk.ob o ho).aj,(hk.ob o ho).nx,(hk.ob o ho).lp,(hk.ob o ho).dp,fun hr=>⟨fun x hx=>(by rw[hn o ho hr] at hx;cases hx),((hk.ob o ho).ro hr).2⟩⟩⟩;refine⟨(hi.base (fun _ _ _ _ h=>h) hk2 hi' hro).over hi',hk.fr,fun o ho=>⟨(hk.ob o ho).ob,(hk.ob o ho).ln,(hk.ob o ho).aj,(hk.ob o ho).nx,(hk.ob o ho).lp,(hk.ob o ho).dp,fun hr=>⟨?_,((hk.ob o ho).ro (hH o ho hr)).2⟩⟩⟩;exact Ng (agp (fun _ h=>h) hr) fun x hx=>(by rw[hn o ho (hH o ho hr)] at hx;cases hx)
theorem Nh {x:ak R.T}{v:V}(hx:vk x=true)(h:j6 fr ρ top x v):v= .ay .nil []\/v= .ay .full []:=by
 cases x<;>first| (cases hx;done)|skip
 ·exact .inl (av.qB (R:=R) (show av R ρ top .gT v from h))
 ·rename_i c t l
  obtain⟨c',hv,hc⟩:=av.lU (R:=R) (show av R ρ top (.ay c t l) v from h);cases c<;>first| (cases hx;done)|skip
  ·have:l=[]:=by simpa [vk] using hx
   subst this;have hc':c'= .nil:=hc;rw[hc'] at hv;exact .inl hv
  ·have:l=[]:=by simpa [vk] using hx
   subst this;have hc':c'= .full:=hc;rw[hc'] at hv;exact .inr hv
theorem Ni {W:List Nat}:∀(l:List (Nat×aM))(st:aD R.T)(ρ:aT),aL ρ b st fr σ->∃ρ',aL ρ' b (vo W l st) fr σ/\Kp nr W st fr σ ρ (vo W l st) fr σ ρ'
 | [],st,ρ,h=>⟨ρ,h,.refl⟩| (i,k)::l,st,ρ,h=>by
   have other:vo W ((i,k)::l) st=vo W l st->∃ρ',aL ρ' b (vo W ((i,k)::l) st) fr σ/\Kp nr W st fr σ ρ (vo W ((i,k)::l) st) fr σ ρ':=fun e=>by rw[e];exact Ni l st ρ h
   cases k<;>first|exact other rfl|skip
   rename_i o t;unfold vo;split
   ·rename_i v hv
    cases hb:(vk v&& bf o W)
    ·exact Ni l st ρ h
    ·rw[cond_true]
     rw[iP] at hb;have hg:=h.ghost o t;have hE:=Nh hb.1 (h.fr _ _ hv);have sG:aL (ρ.gh o) b (⟨(i,.aJ o t)::(st.new o (.arr t [])).fr,(st.new o (.arr t [])).ob⟩:aD R.T) fr σ:={hg with
      fr:=fun j y hy=>by
       by_cases e:j=i
       ·subst e
        have hy':look ((j,ak.aJ o t)::(st.new o (.arr t [])).fr) j=some y:=hy;rw[lD] at hy';cases hy';exact .of (by unfold av;exact .inr ⟨um (ρ:=ρ) (n:=0),hE⟩)
       ·have hy':look ((i,ak.aJ o t)::(st.new o (.arr t [])).fr) j=some y:=hy
        rw[je _ _ e] at hy';exact hg.fr j y hy'
      ob:=hg.ob}
     obtain⟨ρ',h1,h2⟩:=Ni (W:=W) l _ _ sG;refine⟨ρ',h1,Kp.trans ⟨fun _ _=>rfl,fun p hp=>?_⟩ h2⟩;have hne:p≠o:=(by rintro rfl;rw[hb.2] at hp;cases hp);refine⟨(oL p hne).1,(oL p hne).2,rfl,RS _,⟨fun _ _=>rfl,fun _ _=>rfl⟩,fun _ _ _=>rfl,fun hr=>⟨fun x hx=>?_,fun _=>⟨rfl,rfl⟩⟩⟩;have hx':look ((o,aG.arr t [])::mM (aG.kill o) (jE o st.ob)) p=some x:=hx;rw[je _ _ hne,vD,rH hne,aZ] at hx';obtain⟨w,hw,rfl⟩:=hx';exact TU (hr w hw)
   ·exact Ni l st ρ h
theorem aqk {W:List Nat}(o:Nat)(k:d9)(st:aD R.T)(ρ:aT)(h:aL ρ b st fr σ):∃ρ',aL ρ' b (IE W o k st) fr σ/\Kp nr W st fr σ ρ (IE W o k st) fr σ ρ':=by
 have same:∃ρ',aL ρ' b st fr σ/\Kp nr W st fr σ ρ st fr σ ρ':=⟨ρ,h,.refl⟩;unfold IE;split
 ·split
  ·rename_i p t
   split
   ·rename_i cs hv
    split
    ·rename_i v
     cases hb:(vk v&& bf p W&& !(Nat.beq o p))
     ·exact same
     ·rw[cond_true]
      rw[iP,iP,rU] at hb;have hop:o≠p:=FD hb.2;have hg:=h.ghost p t;obtain⟨s,cs,h1,h2,h3⟩:=h.ob _ _ hv;obtain⟨w,ws,rfl,h4,h5⟩:=h3.dW;have h6:=h5.iJ;subst h6;have hE:=Nh (fr:=fr) hb.1.1 (.of h4);refine⟨ρ.gh p,{hg with
       ob:=fun j y hy=>by
        by_cases e:j=o
        ·subst e
         have hy':look ((j,aG.cells [.aJ p t])::(st.new p (.arr t [])).ob) j=some y:=hy;rw[lD] at hy';cases hy';exact⟨s,[w],(oL j hop).1.trans h1,h2,.cons' (by unfold av;exact .inr ⟨um (ρ:=ρ) (n:=0),hE⟩) rfl⟩
        ·have hy':look ((o,aG.cells [.aJ p t])::(st.new p (.arr t [])).ob) j=some y:=hy
         rw[je _ _ e] at hy';exact hg.ob j y hy'},fun _ _=>rfl,fun q hq=>?_⟩
      have hne:q≠p:=(by rintro rfl;rw[hb.1.2] at hq;cases hq);refine⟨(oL q hne).1,(oL q hne).2,rfl,RS _,⟨fun _ _=>rfl,fun _ _=>rfl⟩,fun _ _ _=>rfl,fun hr=>⟨fun x hx=>?_,fun _=>⟨rfl,rfl⟩⟩⟩;have hqo:q≠o:=(by rintro rfl;have:=hr _ hv;cases this);have hx':look ((o,aG.cells [.aJ p t])::((p,aG.arr t [])::mM (aG.kill p) (jE p st.ob))) q=some x:=hx;rw[je _ _ hqo,je _ _ hne,vD,rH hne,aZ] at hx';obtain⟨w,hw,rfl⟩:=hx';exact TU (hr w hw)
    ·exact same
   ·exact same
  ·rename_i p t
   split
   ·rename_i cs hv
    split
    ·rename_i v
     cases hb:(vk v&& bf p W&& !(Nat.beq o p))
     ·exact same
     ·rw[cond_true]
      rw[iP,iP,rU] at hb;have hop:o≠p:=FD hb.2;have hg:=h.ghost p t;obtain⟨s,cs,h1,h2,h3⟩:=h.ob _ _ hv;obtain⟨w,ws,rfl,h4,h5⟩:=h3.dW;have h6:=h5.iJ;subst h6;have hE:=Nh (fr:=fr) hb.1.1 (.of h4);refine⟨ρ.gh p,{hg with
       ob:=fun j y hy=>by
        by_cases e:j=o
        ·subst e
         have hy':look ((j,aG.cells [.sub p t 0 0])::(st.new p (.arr t [])).ob) j=some y:=hy;rw[lD] at hy';cases hy';exact⟨s,[w],(oL j hop).1.trans h1,h2,.cons' (by unfold av;exact⟨Af _,Af _,Int.natCast_nonneg _,.inr ⟨rfl,by rcases hE with h|h<;>exact⟨_,h⟩⟩⟩) rfl⟩
        ·have hy':look ((o,aG.cells [.sub p t 0 0])::(st.new p (.arr t [])).ob) j=some y:=hy
         rw[je _ _ e] at hy';exact hg.ob j y hy'},fun _ _=>rfl,fun q hq=>?_⟩
      have hne:q≠p:=(by rintro rfl;rw[hb.1.2] at hq;cases hq);refine⟨(oL q hne).1,(oL q hne).2,rfl,RS _,⟨fun _ _=>rfl,fun _ _=>rfl⟩,fun _ _ _=>rfl,fun hr=>⟨fun x hx=>?_,fun _=>⟨rfl,rfl⟩⟩⟩;have hqo:q≠o:=(by rintro rfl;have:=hr _ hv;cases this);have hx':look ((o,aG.cells [.sub p t 0 0])::((p,aG.arr t [])::mM (aG.kill p) (jE p st.ob))) q=some x:=hx;rw[je _ _ hqo,je _ _ hne,vD,rH hne,aZ] at hx';obtain⟨w,hw,rfl⟩:=hx';exact TU (hr w hw)
    ·exact same
   ·exact same
  ·exact same
 ·exact same
theorem agq {W:List Nat}:∀(l:List (Nat×d9))(st:aD R.T)(ρ:aT),aL ρ b st fr σ->∃ρ',aL ρ' b (IG W l st) fr σ/\Kp nr W st fr σ ρ (IG W l st) fr σ ρ'
 | [],st,ρ,h=>⟨ρ,h,.refl⟩| (o,k)::l,st,ρ,h=>by obtain⟨jv,h1,h2⟩:=aqk (nr:=nr) (W:=W) o k st ρ h;obtain⟨wK,h3,h4⟩:=agq (W:=W) l _ _ h1;exact⟨wK,h3,h2.trans h4⟩
theorem aql {W:List Nat}{o:Nat}{k:d9}{st:aD R.T}(h:st.fr=[]):(IE W o k st).fr=[]:=by
 unfold IE;split
 ·split
  ·split
   ·split
    ·rename_i p t _ _ v _
     cases (vk v&& bf p W&& !(Nat.beq o p))
     ·exact h
     ·show mM (BO p) st.fr=[]
      rw[h];rfl
    ·exact h
   ·exact h
  ·split
   ·split
    ·rename_i p t _ _ v _
     cases (vk v&& bf p W&& !(Nat.beq o p))
     ·exact h
     ·show mM (BO p) st.fr=[]
      rw[h];rfl
    ·exact h
   ·exact h
  ·exact h
 ·exact h
theorem agr {W:List Nat}:∀{l:List (Nat×d9)}{st:aD R.T},st.fr=[]->(IG W l st).fr=[]
 | [],_,h=>h| (o,k)::l,st,h=>agr (l:=l) (aql h)
section
variable (hR:rE R)
include hR
omit hR in
theorem ags {W:List Nat}:∀{l:List (Nat×aM)},st.fr=[]->vo W l st=st
 | [],_=>rfl| (i,k)::l,h=>by
   have:=ags (W:=W) (l:=l) h;cases k<;>first|exact this|skip
   unfold vo;rw[h];exact this
omit hR in
theorem agt:∀{l:List (Nat×aM)}{p:E9 R.T l},wD R [] l=some p->l=[]
 | [],_,_=>rfl| [(i,k)],p,h=>bC| (i,k)::q::l,p,h=>bC
omit hR in
theorem aqm {W:List Nat}(he:st.fr=[]){s:Shape}{p:rz R.T s}(hp:aY.og R W st s=some p):(unpack R s p).fr=[]:=by
 unfold aY.og at hp;have he':=agr (W:=W) (l:=s.ob) he;rw[ags he'] at hp;generalize IG W s.ob st=st at hp he';replace he:=he';clear he';obtain⟨sl,ob⟩:=s;cases ob with
 |nil=>have hp':wD R st.fr sl=some p:=hp;rw[he] at hp';have:=agt hp';subst this;rfl|cons o os=>
  unfold aY.pack at hp;rw[he] at hp;cases hu:wD R [] sl with
  |none=>simp only[hu] at hp;cases hp|some x=>have:=agt hu;subst this;rfl
theorem aL.og {W:List Nat}(h:aL ρ b st fr σ){s:Shape}{p:rz R.T s}(hp:aY.og R W st s=some p):∃ρ' S',aL ρ' b (unpack R s p) fr σ/\Kp nr W st fr σ ρ S' fr σ ρ'/\(st.fr=[]->(unpack R s p).fr=[])/\∀i,bf i W=false->jr st i->look (unpack R s p).ob i=none:=by obtain⟨Ji,h01,h02⟩:=agq (nr:=nr) (W:=W) s.ob st ρ h;obtain⟨ρ',h1,h2'⟩:=Ni (nr:=nr) (W:=W) s.sl _ Ji h01;have h2:=h02.trans h2';exact⟨ρ',_,h1.pack hR hp,h2,fun he=>aqm he hp,fun i hi hr=>aqf hp ((h2.ob i hi).ro hr).1⟩
theorem Jj {β:Type}{W:List Nat}(h:aL ρ b st fr σ){e:Ex}:∀{l:List (Ex×Shape)}{o:Out R.T l},yh R W e st l=some o->∃ρ' S' st',aL ρ' b st' fr σ/\Kp nr W st fr σ ρ S' fr σ ρ'/\(st.fr=[]->st'.fr=[])/\(∀i,bf i W=false->jr st i->look st'.ob i=none)/\∀(k:Ex->aD R.T->Option β)(bs:aD R.T),Az R bs k l o=k e (bs.over st')
 | [],o,hp=>by cases hp| [(x,s)],o,hp=>by
   have hp':(bif Fj e x then aY.og R W st s else none)=some o:=hp;cases hb:Fj e x
   ·rw[hb] at hp';cases hp'
   ·rw[hb,cond_true] at hp'
    have:=agj hb;subst this;obtain⟨ρ',S',h1,h2,h0,h3⟩:=h.og hR hp';exact⟨ρ',S',_,h1,h2,h0,h3,fun k bs=>rfl⟩
 | (x,s)::q::l,o,hp=>by
   unfold yh at hp;cases hb:Fj e x
   ·rw[hb,cond_false] at hp
    cases hu:yh R W e st (q::l) with
    |none=>simp only[hu] at hp;cases hp|some y=>simp only[hu] at hp;obtain rfl:=lX hp;obtain⟨ρ',S',st',h1,h3,h0,h4,h2⟩:=Jj (β:=β) h hu;exact⟨ρ',S',st',h1,h3,h0,h4,fun k bs=>h2 k bs⟩
   ·rw[hb,cond_true] at hp
    have:=agj hb;subst this;cases hu:aY.og R W st s with
    |none=>simp only[hu] at hp;cases hp|some y=>simp only[hu] at hp;obtain rfl:=lX hp;obtain⟨ρ',S',h1,h2,h0,h3⟩:=h.og hR hu;exact⟨ρ',S',_,h1,h2,h0,h3,fun k bs=>rfl⟩
end
end
end
end aY
end
section
namespace aY
open Go
def nJ (E:Env)(o:Oper)(p:Nat):Prop:=o.dst≠some p/\∀d,o.dst=some d->E.cn d≠p
section
variable {R:gY}{E:Env}
variable {ρ:aT}{b:Nat}{st:aD R.T}{fr:Fr}{σ:au}
def yx (E:Env)(fr:Fr)(o:Oper):Bool:=match o.op with
 |.call c=>match c.callee with
  |.value f=>lI E fr o f|_=>false
 |_=>false
def mo (E:Env)(fr:Fr)(σ:au)(aH:Nat)(o:Oper)(x:V)(σ':au):Prop:=
 (yx E fr o=false->∀all os Q,iw all fr o=some true->bL E all (aH+1) os (fr.put o.dst x) σ' Q->bL E all aH (o::os) fr σ Q)/\
 (yx E fr o=false->∀ms all os fs Q,iw all fr o=some true->iZ E ms all (aH+1) os (fr.put o.dst x) σ' (fs++[iy E all fr o true]) Q->iZ E ms all aH (o::os) fr σ fs Q)
theorem mo.of {aH:Nat}{o:Oper}{x:V}{σ':au}(h:∀S,opC E S fr σ aH o=some (x,fr,σ')):mo E fr σ aH o x σ':=
 ⟨fun _ _ _ _ hw h'=>bL.op hw h h',fun _ _ _ _ _ _ hw h'=>iZ.op hw h h'⟩
theorem aqn {S:l5}{aH:Nat}{o:Oper}{x:V}{σ':au}(h:eP E fr σ aH o=some (x,σ')):opC E S fr σ aH o=some (x,fr,σ'):=by
 unfold opC;split
 ·rename_i c hc;unfold eP at h;rw[hc] at h;cases h
 ·rename_i c hc;unfold eP at h;rw[hc] at h;cases h
 ·rw[h];rfl
theorem agu {o:Oper}{c:Call}{f:Operand}{g:FuncId}{a b:List V}(ho:o.op= .call c)(fC:c.callee= .value f)(hf:fr.ev E f= .fn (.func g) a b)(h:yx E fr o=false):∀d,o.dst=some d->E.own g d=false:=by intro d hd;unfold yx at h;rw[ho] at h;dsimp only at h;rw[fC] at h;dsimp only at h;unfold lI at h;rw[hf,hd] at h;exact h
theorem mo.oM {aH:Nat}{o:Oper}{x:V}{σ':au}(h:eP E fr σ aH o=some (x,σ')):mo E fr σ aH o x σ':=.of fun S=>aqn h
def sH (E:Env)(st:aD R.T)(ρ:aT)(aH:Nat)(fr:Fr)(σ:au)(o:Oper):eZ R->Prop
 |.t v=>∃x,mo E fr σ aH o x σ/\av R ρ σ.top v x|.c c v=>c=true->∃x,mo E fr σ aH o x σ/\av R ρ σ.top v x|.w v st'=>∃x σ' ρ',mo E fr σ aH o x σ'/\aL ρ' (aH+1) st' fr σ'/\σ'.next=σ.next/\av R ρ' σ'.top v x/\∀p,nJ E o p->bB true p st ρ σ st' ρ' σ'|.wc c v st'=>c=true->∃x σ' ρ',mo E fr σ aH o x σ'/\aL ρ' (aH+1) st' fr σ'/\σ'.next=σ.next/\av R ρ' σ'.top v x/\∀p,nJ E o p->bB true p st ρ σ st' ρ' σ'|.p _ _ o' f=>∀a,o'=some a->∃x,mo E fr σ aH o x σ/\av R ρ σ.top (f a) x
 |.alt l=>∀(β:Type)(k:ak R.T->Option β)(r:β),zk k l=some r->∃v x,k v=some r/\mo E fr σ aH o x σ/\av R ρ σ.top v x
theorem zA {top:Nat->Nat}{x:ak R.T}{v:V}(hg:yc x=true)(h:av R ρ top x v):aF R ρ top x.cells v.cells/\fV v=true:=by
 cases x with
 |agg cs=>obtain⟨l,rfl,hl⟩:=h.lT;exact⟨hl,rfl⟩
 |int k n=>rw[h.kS];exact⟨.cons' jJ rfl,rfl⟩|bool b=>rw[h.rF];exact⟨.cons' jJ rfl,rfl⟩|ji b=>rw[h.vB];exact⟨.cons' jJ rfl,rfl⟩|str b=>rw[h.rG];exact⟨.cons' jJ rfl,rfl⟩|gT=>rw[h.qB];exact⟨.cons' jJ rfl,rfl⟩|bq cs=>obtain⟨l,rfl,hl⟩:=h.Jd;exact⟨.cons' h rfl,rfl⟩
 |ay c t l=>obtain⟨c',rfl,hl⟩:=h.lU;exact⟨.cons' h rfl,rfl⟩
 |ref o off=>obtain⟨s,hs,rfl⟩:=h.sF;exact⟨.cons' h rfl,rfl⟩
 |aI o off=>obtain⟨s,rfl,hs⟩:=h.uj;exact⟨.cons' h rfl,rfl⟩
 |kl cs=>obtain⟨c,s,rfl,hs⟩:=h.DC;exact⟨.cons' h rfl,rfl⟩
 |dJ o=>obtain⟨s,hs,rfl⟩:=h.Na;exact⟨.cons' h rfl,rfl⟩
 |eU k e m=>have:=h.FB;subst this;exact⟨.cons' h rfl,rfl⟩|fn f a b=>obtain⟨a',b',rfl,_⟩:=h.lg;exact⟨.cons' h rfl,rfl⟩
 |undef=>have:=h.afN;subst this;exact⟨.cons' h rfl,rfl⟩|aJ o t=>rcases h.zw with ⟨s,_,rfl⟩| ⟨_,rfl|rfl⟩<;>exact⟨.cons' h rfl,rfl⟩
 |sub o t a b=>rcases h.BU with ⟨_,_,_,⟨s,cp,_,_,rfl⟩| ⟨_,c,rfl⟩⟩<;>exact⟨.cons' h rfl,rfl⟩
 |l9 o t i off=>obtain⟨s,_,_,rfl⟩:=h.FC;exact⟨.cons' h rfl,rfl⟩
 |sv o off k n lo hi=>obtain⟨s,_,_,rfl⟩:=h.TN;exact⟨.cons' h rfl,rfl⟩
 |sel o off k n i m=>obtain⟨s,_,_,_,rfl⟩:=h.Zw;exact⟨.cons' h rfl,rfl⟩
 |zh k n y i=>obtain⟨_,_,rfl⟩:=h.Zx;exact⟨.cons' h rfl,rfl⟩
 |sg _=>cases hg|cB=>have h':=h;unfold av at h';subst h';exact⟨.cons' h rfl,rfl⟩|dF=>have h':=h;unfold av at h';subst h';exact⟨.cons' h rfl,rfl⟩|gL=>have h':=h;unfold av at h';subst h';exact⟨.cons' h rfl,rfl⟩|iD=>have h':=h;unfold av at h';subst h';exact⟨.cons' h rfl,rfl⟩|opt j w y=>cases hg|gone=>cases hg
theorem aqo {top:Nat->Nat}{x:ak R.T}{v:V}(hg:Y6 x=true)(h:av R ρ top x v):oneCell v=true:=by
 cases x with
 |agg cs=>cases hg|int k n=>rw[h.kS];rfl|bool b=>rw[h.rF];rfl|ji b=>rw[h.vB];rfl|str b=>rw[h.rG];rfl|gT=>rw[h.qB];rfl|bq cs=>cases hg|ay c t l=>obtain⟨c',rfl,hl⟩:=h.lU;rfl
 |ref o off=>obtain⟨s,hs,rfl⟩:=h.sF;rfl
 |aI o off=>obtain⟨s,rfl,hs⟩:=h.uj;rfl
 |kl cs=>obtain⟨c,s,rfl,hs⟩:=h.DC;rfl
 |dJ o=>obtain⟨s,hs,rfl⟩:=h.Na;rfl
 |eU k e m=>have:=h.FB;subst this;rfl|fn f a b=>obtain⟨a',b',rfl,_⟩:=h.lg;rfl
 |undef=>cases hg|aJ o t=>rcases h.zw with ⟨s,_,rfl⟩| ⟨_,rfl|rfl⟩<;>rfl
 |sub o t a b=>rcases h.BU with ⟨_,_,_,⟨s,cp,_,_,rfl⟩| ⟨_,c,rfl⟩⟩<;>rfl
 |l9 o t i off=>obtain⟨s,_,_,rfl⟩:=h.FC;rfl
 |sv o off k n lo hi=>obtain⟨s,_,_,rfl⟩:=h.TN;rfl
 |sel o off k n i m=>obtain⟨s,_,_,_,rfl⟩:=h.Zw;rfl
 |zh k n y i=>obtain⟨_,_,rfl⟩:=h.Zx;rfl
 |sg _=>cases hg|cB=>unfold av at h;subst h;rfl|dF=>unfold av at h;subst h;rfl|gL=>unfold av at h;subst h;rfl|iD=>unfold av at h;subst h;rfl|opt j w y=>cases hg|gone=>cases hg
theorem Nj {top:Nat->Nat}:∀{x:List (ak R.T)}{v:List V},Dr x=true->aF R ρ top x v->dD v=true
 | [],v,_,h=>Ls|x::xs,v,hg,h=>by obtain⟨y,ys,rfl,h1,h2⟩:=h.dW;unfold Dr at hg;rw[iP] at hg;rw[aft,aqo hg.1 h1,Nj hg.2 h2];rfl
theorem aqp {top:Nat->Nat}{ag:Bool}{n off:Nat}{cs:List (ak R.T)}{l:List V}{x:ak R.T}(h:aF R ρ top cs l)(hp:S9 ag n cs off=some x):∃v,Bw ag n l off=some v/\av R ρ top x v:=by
 cases ag with
 |true=>
  have hp':(bif Nat.ble (off+n) cs.length then some (ak.agg ((cs.drop off).take n)) else none)=some x:=hp;cases hb:Nat.ble (off+n) cs.length
  ·rw[hb] at hp';cases hp'
  ·rw[hb] at hp';cases hp'
   have hle:=kQ hb;refine⟨.agg ((l.drop off).take n),?_,by unfold av;exact⟨_,rfl,(h.drop off).take n⟩⟩;unfold Bw;rw[if_pos rfl,if_pos (by rw[h.length];exact hle)]
 |false=>obtain⟨v,h1,h2⟩:=h.get (show cs[off]? =some x from hp);exact⟨v,by unfold Bw;simpa using h1,h2⟩
theorem Cb {top:Nat->Nat}{t:TypeId}{off:Nat}{cs:List (ak R.T)}{l:List V}{x:ak R.T}(h:aF R ρ top cs l)(hp:nH E t cs off=some x):∃v,iN E.P t l off=some v/\av R ρ top x v:=by
 unfold nH at hp;cases h1:nU E.P t with
 |none=>simp only[h1] at hp;cases hp|some a=>
  cases h2:eX E.P t with
  |none=>simp only[h1,h2] at hp;cases hp|some n=>simp only[h1,h2] at hp;unfold iN;rw[h1,h2];exact aqp h hp
theorem ZH {top:Nat->Nat}{cs vs:List (ak R.T)}{l k:List V}(off:Nat)(h:aF R ρ top cs l)(h':aF R ρ top vs k):aF R ρ top (II cs off vs) (jN l off k):=by unfold II jN;rw[h'.length];exact((h.take off).append h').append (h.drop _)
theorem agv {top:Nat->Nat}{t:TypeId}{z:ak R.T}(h:MS E t=some z):∃v,kR E.P t=some v/\av R ρ top z v:=by
 unfold MS at h;unfold kR;cases h1:E.P.info? t with
 |none=>simp only[h1] at h;cases h|some i=>
  cases h2:i.zero with
  |none=>simp only[h1,h2] at h;cases h|some z'=>simp only[h1,h2] at h;obtain⟨v,hv,hr⟩:=agb (ρ:=ρ) (top:=top) h;exact⟨v,by simp[h2,hv],hr⟩
theorem agw {top:Nat->Nat}(place:Nat->Option (Nat×Nat)):∀{ps:List (Nat×ak R.T)}{qs:List (Nat×V)}{cs:List (ak R.T)}{l:List V}{cs':List (ak R.T)},ps.map (·.1)=qs.map (·.1)->aF R ρ top (ps.map (·.2)) (qs.map (·.2))->
 aF R ρ top cs l->Ta place cs ps=some cs'->∃l',rW place l qs=some l'/\aF R ρ top cs' l'
 | [],[],cs,l,cs',_,_,h,hf=>by cases hf;exact⟨l,rfl,h⟩| [],_::_,_,_,_,h,_,_,_=>xD|_::_,[],_,_,_,h,_,_,_=>xD| (i,v)::ps,(j,w)::qs,cs,l,cs',hi,hr,h,hf=>by
   simp only[fG,qb] at hi;obtain⟨rfl,hi⟩:=hi;obtain⟨y,ys,e,h1,h2⟩:=hr.dW;simp only[fG,qb] at e;obtain⟨rfl,rfl⟩:=e;unfold Ta at hf;unfold rW;cases hp:place i with
   |none=>simp only[hp] at hf;cases hf|some q=>
    obtain⟨off,size⟩:=q;simp only[hp] at hf⊢;cases hb:(Nat.beq v.cells.length size&& Nat.ble (off+size) cs.length&& yc v)
    ·rw[hb] at hf;cases hf
    ·rw[hb,cond_true] at hf
     simp only[iP] at hb;obtain⟨⟨b1,b2⟩,b3⟩:=hb;obtain⟨hc,hn⟩:=zA b3 h1;rw[if_pos ⟨by rw[hc.length];exact gG b1,by rw[h.length];exact kQ b2,hn⟩];exact agw place hi h2 (ZH off h hc) hf
theorem agx {top:Nat->Nat}{x:ak R.T}{v:V}{a:Bool}(h:MU x=some a)(hr:av R ρ top x v):v= .bool a:=by
 cases x<;>cases h
 ·exact hr.rF
 ·exact hr.vB
theorem agy {top:Nat->Nat}{x y:ak R.T}{v w:V}{r:Bool}(h:Tc x y=some r)(hx:av R ρ top x v)(hy:av R ρ top y w):∃a b,v= .bool a/\w= .bool b/\r=(a==b):=by
 unfold Tc at h;cases h1:MU x with
 |none=>simp only[h1] at h;cases h|some a=>
  cases h2:MU y with
  |none=>simp only[h1,h2] at h;cases h|some b=>simp only[h1,h2] at h;cases h;exact⟨a,b,agx h1 hx,agx h2 hy,rfl⟩
theorem ZI {top:Nat->Nat}{Cc:TypeId->ak R.T->ak R.T->Option Bool}{eqv:TypeId->V->V->Option Bool}(he:∀t x y v w r,Cc t x y=some r->av R ρ top x v->av R ρ top y w->eqv t v w=some r){xs ys:List (ak R.T)}{vs ws:List V}(hx:aF R ρ top xs vs)(hy:aF R ρ top ys ws):∀{fs:List Field}{r:Bool},IJ E Cc xs ys fs=some r->EG E.P eqv vs ws fs=some r
 | [],r,h=>by cases h;rfl|f::fs,r,h=>by
  unfold IJ at h;unfold EG;split at h
  ·rename_i hn;rw[if_pos hn];exact ZI he hx hy h
  ·rename_i hn
   rw[if_neg hn];cases h1:nH E f.type xs f.offset with
   |none=>simp only[h1] at h;cases h|some a=>
    cases h2:nH E f.type ys f.offset with
    |none=>simp only[h1,h2] at h;cases h|some c=>
     cases h3:Cc f.type a c with
     |none=>simp only[h1,h2,h3] at h;cases h|some r1=>
      cases h4:IJ E Cc xs ys fs with
      |none=>simp only[h1,h2,h3,h4] at h;cases h|some q=>simp only[h1,h2,h3,h4] at h;cases h;obtain⟨v1,e1,g1⟩:=Cb hx h1;obtain⟨v2,e2,g2⟩:=Cb hy h2;simp[e1,e2,he _ _ _ _ _ _ h3 g1 g2,ZI he hx hy h4]
theorem agz {top:Nat->Nat}{Cc:TypeId->ak R.T->ak R.T->Option Bool}{eqv:TypeId->V->V->Option Bool}(he:∀t x y v w r,Cc t x y=some r->av R ρ top x v->av R ρ top y w->eqv t v w=some r){e:TypeId}{sz:Nat}{xs ys:List (ak R.T)}{vs ws:List V}(hx:aF R ρ top xs vs)(hy:aF R ρ top ys ws):∀{is:List Nat}{r:Bool},MV E Cc e sz xs ys is=some r->G9 E.P eqv e sz vs ws is=some r
 | [],r,h=>by cases h;rfl|i::is,r,h=>by
  unfold MV at h;unfold G9;cases h1:nH E e xs (i*sz) with
  |none=>simp only[h1] at h;cases h|some a=>
   cases h2:nH E e ys (i*sz) with
   |none=>simp only[h1,h2] at h;cases h|some c=>
    cases h3:Cc e a c with
    |none=>simp only[h1,h2,h3] at h;cases h|some r1=>
     cases h4:MV E Cc e sz xs ys is with
     |none=>simp only[h1,h2,h3,h4] at h;cases h|some q=>simp only[h1,h2,h3,h4] at h;cases h;obtain⟨v1,e1,g1⟩:=Cb hx h1;obtain⟨v2,e2,g2⟩:=Cb hy h2;simp[e1,e2,he _ _ _ _ _ _ h3 g1 g2,agz he hx hy h4]
theorem TV {top:Nat->Nat}:∀(d:Nat)(t:TypeId)(x y:ak R.T)(v w:V)(r:Bool),IK E d t x y=some r->av R ρ top x v->av R ρ top y w->CS E.P d t v w=some r
 |0,_,_,_,_,_,_,h,_,_=>bC|d+1,t,x,y,v,w,r,h,hx,hy=>by
  unfold IK at h;unfold CS;split at h
  ·rename_i fs xs ys hu
   obtain⟨l,rfl,h1⟩:=hx.lT;obtain⟨k,rfl,h2⟩:=hy.lT;rw[hu];dsimp only;split at h
   ·cases h
   ·rename_i hs;rw[if_neg hs];exact ZI (TV d) h1 h2 h
  ·rename_i n e xs ys hu
   obtain⟨l,rfl,h1⟩:=hx.lT;obtain⟨k,rfl,h2⟩:=hy.lT;rw[hu];dsimp only;cases hs:eX E.P e with
   |none=>simp only[hs] at h;cases h|some sz=>simp only[hs] at h;simp only[Option.bind_some];exact agz (TV d) h1 h2 h
  ·cases h
  ·cases h
  ·rename_i hu
   obtain⟨a,c,rfl,rfl,rfl⟩:=agy h hx hy;rw[hu]
  ·rename_i k a k' c hu
   rw[hx.kS,hy.kS,hu];exact h
  ·rename_i a c hu
   rw[hx.rG,hy.rG,hu];exact h
  ·cases h
theorem agA {top:Nat->Nat}{t:TypeId}{x y:ak R.T}{v w:V}{r:Bool}(h:Td E t x y=some r)(hx:av R ρ top x v)(hy:av R ρ top y w):rX E.P t v w=some r:=by
 unfold Td at h;unfold rX;split at h
 ·rename_i fs xs ys hu
  split at h
  ·cases h
  ·rename_i hs
   have:=TV 8 t _ _ v w r h hx hy;obtain⟨l,rfl,h1⟩:=hx.lT;obtain⟨k,rfl,h2⟩:=hy.lT;rw[hu];dsimp only;rw[if_neg hs];exact this
 ·rename_i fs xs ys hu
  split at h
  ·cases h
  ·rename_i hs
   have:=TV 8 t _ _ v w r h hx hy;obtain⟨l,rfl,h1⟩:=hx.lT;obtain⟨k,rfl,h2⟩:=hy.lT;rw[hu];dsimp only;rw[if_neg hs];exact this
 ·rename_i hu;cases h;unfold av at hx hy;subst hx;subst hy;rw[hu]
 ·rename_i hu;cases h;obtain⟨a,b,rfl,_⟩:=hy.lg;unfold av at hx;subst hx;rw[hu]
 ·rename_i hu;cases h;obtain⟨a,b,rfl,_⟩:=hx.lg;unfold av at hy;subst hy;rw[hu]
 ·rename_i hu;cases h;unfold av at hx hy;subst hx;subst hy;rw[hu]
 ·rename_i hu;cases h;obtain⟨a,rfl,_⟩:=hy.uj;unfold av at hx;subst hx;rw[hu]
 ·rename_i hu;cases h;obtain⟨a,rfl,_⟩:=hx.uj;unfold av at hy;subst hy;rw[hu]
 ·rename_i hu;cases h;obtain⟨a,_,rfl⟩:=hy.sF;unfold av at hx;subst hx;rw[hu]
 ·rename_i hu;cases h;obtain⟨a,_,rfl⟩:=hx.sF;unfold av at hy;subst hy;rw[hu]
 ·rename_i hu;obtain⟨a,c,rfl,rfl,rfl⟩:=agy h hx hy;rw[hu]
 ·cases h
end
end aY
end
