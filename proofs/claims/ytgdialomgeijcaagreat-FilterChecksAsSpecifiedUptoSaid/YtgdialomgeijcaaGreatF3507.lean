import Derived.Test.YtgdialomgeijcaaGreatF3506
set_option linter.all false
section
namespace Aq
open Go
theorem bB {a b:Nat} (h:Nat.beq a b=true):a=b:=Q6 h
theorem rU {a b:Nat} (h:Nat.beq a b=false):a≠b:=fun e=>by rw[e,QH] at h;cases h
theorem rV {a b:Nat} (h:a≠b):Nat.beq a b=false:=Bool.eq_false_iff.2 fun e=>h (bB e)
section look
variable {U:Type}
theorem gZ (f:U->U):∀(l:List (Nat×U)) (i:Nat),look (mapF f l) i=(look l i).map f
 | [],_=>rfl
 | (j,x)::l,i=>by
   show (bif Nat.beq j i then some (f x) else look (mapF f l) i)=Option.map f (bif Nat.beq j i then some x else look l i)
   cases Nat.beq j i
   .exact gZ f l i
   .rfl
theorem fu {i j:Nat} (h:j≠i):∀(l:List (Nat×U)),look (delF i l) j=look l j
 | []=>rfl
 | (k,x)::l=>by
   show look (bif Nat.beq k i then delF i l else (k,x)::delF i l) j=bif Nat.beq k j then some x else look l j
   cases hk:Nat.beq k i
   .show (bif Nat.beq k j then some x else look (delF i l) j)=_
    rw[fu h l]
   .have:=bB hk
    subst this
    rw[rV (Ne.symm h)]
    exact fu h l
theorem bP (l:List (Nat×U)) (i:Nat) (x:U):look ((i,x)::l) i=some x:=by
 show (bif Nat.beq i i then some x else look l i)=_;rw[QH];rfl
theorem bg (l:List (Nat×U)) {i j:Nat} (x:U) (h:j≠i):look ((i,x)::l) j=look l j:=by
 show (bif Nat.beq i j then some x else look l j)=_;rw[rV (Ne.symm h)];rfl
end look
section
variable {R:Reg} {E:Env}
theorem BH {Z Z':ak} {top top':Nat->Nat}:∀(t:Ty) (x:Den R.T t) (v:V),Rl R Z top (tv1 R .any t x) v->Rl R Z' top' (tv1 R .any t x) v
 |.int _,_,_,h=>h
 |.bool,_,_,h=>h
 |.str,_,_,h=>h
 |.slice _,_,_,h=>h
 |.st _,_,_,h=>h
theorem kI {Z Z':ak} {top top':Nat->Nat}:∀(l:List Ty) (p:PayT R.T l) (vs:List V),ah R Z top (tvs R .any l p) vs->ah R Z' top' (tvs R .any l p) vs
 | [],_,_,h=>h
 | [t],x,vs,h=>by
   obtain⟨v,l,rfl,h1,h2⟩:=h.aS
   rw[h2.bA]
   exact .cons' (BH t x v h1) rfl
 |t::u::l,p,vs,h=>by
  obtain⟨v,ws,rfl,h1,h2⟩:=h.aS
  exact .cons' (BH t p.1 v h1) (kI (u::l) p.2 ws h2)
theorem LH {Z Z':ak} {top top':Nat->Nat} {t:Ty} {x:Den R.T t} {vs:List V} (h:ah R Z top (tvD R .any t x).cells vs):ah R Z' top' (tvD R .any t x).cells vs:=by
 cases t with
 |st n=>exact kI _ _ _ h
 |int k=>exact kI [.int k] x vs h
 |bool=>exact kI [.bool] x vs h
 |str=>exact kI [.str] x vs h
 |slice t=>exact kI [.slice t] x vs h
theorem ah.split {Z:ak} {top:Nat->Nat}:∀{ts ts':List (TV R.T)} {vs:List V},ah R Z top (ts++ts') vs->∃a b,vs=a++b/\ah R Z top ts a/\ah R Z top ts' b
 | [],_,vs,h=>⟨[],vs,rfl,rfl,h⟩
 |t::ts,ts',vs,h=>by
  obtain⟨v,ws,rfl,h1,h2⟩:=ah.aS (ts:=ts++ts') h
  obtain⟨a,b,rfl,h3,h4⟩:=ah.split h2
  exact⟨v::a,b,rfl,.cons' h1 h3,h4⟩
theorem iT {Z Z':ak} {top top':Nat->Nat} {t:Ty}:∀(l:List (Den R.T t)) (vs:List V),ah R Z top (l.flatMap fun x=>(tvD R .any t x).cells) vs->ah R Z' top' (l.flatMap fun x=>(tvD R .any t x).cells) vs
 | [],vs,h=>h
 |x::l,vs,h=>by
  rw[Qo] at h⊢
  obtain⟨a,b,rfl,h1,h2⟩:=h.split
  exact(LH h1).append (iT l b h2)
def bK (fr:Fr) (Z:ak) (top:Nat->Nat):TV R.T->V->Prop
 |.opt j w y,v=>(fr.tm j= .bool w->Rl R Z top y v)/\(fr.tm j= .bool (!w)\/fr.tm j=undefV->v=undefV)
 |x,v=>Rl R Z top x v
theorem bK.of {fr:Fr} {Z:ak} {top:Nat->Nat} {x:TV R.T} {v:V} (h:Rl R Z top x v):bK fr Z top x v:=by
 cases x<;>first|exact h|exact h.Bw.elim
def aQ (Z:ak) (Y:Sig) (o:Nat):Ob R.T->Prop
 |.cells cs=>∃s l,Z.ob o=some s/\Y.cellsAt (Z.om.lc o) s=some l/\ah R Z Y.top cs l
 |.map k e m=>∃s,Z.ob o=some s/\Y.aZ (Z.om.lc o) s=some (m.map fun p=>encD R k p.1,m.map fun p=>encD R e p.2)
 |.smap ks vs=>∃s k l,Z.ob o=some s/\Y.aZ (Z.om.lc o) s=some (k,l)/\ah R Z Y.top ks k/\ah R Z Y.top vs l
 |.arr t l=>l.length=Z.ln o/\((l=[]/\Z.ob o=none)\/∃s cs,Z.ob o=some s/\Y.cellsAt (Z.om.lc o) s=some cs/\ah R Z Y.top (l.flatMap fun x=>(tvD R .any t x).cells) cs)
 |.sg ss=>∃s,Z.ob o=some s/\Y.cellsAt (Z.om.lc o) s=some (sgV ss)
 |.gone=>True
 |.ro b=>aQ Z Y o b
theorem aQ.strip {Z:ak} {Y:Sig} {o:Nat}:∀{x:Ob R.T},aQ Z Y o x->aQ Z Y o (stripO x)
 |.cells _,h=>h
 |.map _ _ _,h=>h
 |.smap _ _,h=>h
 |.arr _ _,h=>h
 |.sg _,h=>h
 |.gone,h=>h
 |.ro b,h=>aQ.strip (x:=b) h
structure aj (Z:ak) (b:Nat) (st:MS R.T) (fr:Fr) (Y:Sig):Prop where
 d:fr.d=Z.om.dp
 om:fr.om=Z.om.om
 fr:∀i v,look st.fr i=some v->bK fr Z Y.top v (fr.tm i)
 ob:∀o x,look st.ob o=some x->aQ Z Y o x
 inj:∀t u s,Z.tk t=some s->Z.tk u=some s->t=u
 lt:∀t s,Z.tk t=some s->s<b
 ge:∀t s,Z.tk t=some s->Z.om.lo<=s
 nx:Z.om.lo<=b
variable {Z:ak} {b:Nat} {st:MS R.T} {fr:Fr} {Y:Sig}
theorem aj.le {b':Nat} (h:aj Z b st fr Y) (hb:b<=b'):aj Z b' st fr Y:={h with lt:=fun t s ht=>Qg (h.lt t s ht) hb,nx:=P7 h.nx hb}
theorem aQ.bump {o k:Nat}:∀{x:Ob R.T},aQ Z Y o x->aQ Z (Y.bump k) o x
 |.cells _,h=>h
 |.map _ _ _,h=>h
 |.smap _ _,h=>h
 |.arr _ _,h=>h
 |.sg _,h=>h
 |.gone,h=>h
 |.ro b,h=>aQ.bump (x:=b) h
theorem aj.next (h:aj Z b st fr Y) (k:Nat):aj Z b st fr (Y.bump k):={h with fr:=h.fr,ob:=fun o x hx=>(h.ob o x hx).bump}
theorem aj.rd (h:aj Z b st fr Y) {o:Nat} {x:Ob R.T} (hx:rdOb st o=some x):aQ Z Y o x:=by
 unfold rdOb at hx
 split at hx
 .rename_i y hy;cases hx;exact(h.ob _ _ hy).strip
 .cases hx
theorem LJ {Z:ak} {top:Nat->Nat} {x:TV R.T} {u v:V} {i:Nat} (h:bK fr Z top x v):bK (fr.set i u) Z top (unopt i x) v:=by
 cases x with
 |opt j w y=>
  show bK _ _ _ (bif Nat.beq j i then .gone else .opt j w y) v
  cases hj:Nat.beq j i
  .have hs:(fr.set i u).tm j=fr.tm j:=set_ne _ _ (by simpa using rU hj)
   exact⟨fun hc=>h.1 (by rw[<-hs];exact hc),fun hc=>h.2 (by rw[<-hs];exact hc)⟩
  .exact bK.of (x:=.gone) (by unfold Rl;trivial)
 |_=>exact h
theorem aj.put (h:aj Z b st fr Y) (i:Nat) {x:TV R.T} {v:V} (hx:bK (fr.set i v) Z Y.top x v):aj Z b (st.put i x) (fr.set i v) Y where
 d:=h.d
 om:=h.om
 ob:=h.ob
 inj:=h.inj
 lt:=h.lt
 ge:=h.ge
 nx:=h.nx
 fr:=fun j y hy=>by
  by_cases e:j=i
  .subst e
   have hy':some x=some y:=by rw[<-hy];exact(bP _ _ _).symm
   cases hy'
   rw[Bd]
   exact hx
  .have hy':look (mapF (unopt i) (delF i st.fr)) j=some y:=by rw[<-hy];exact(bg _ _ e).symm
   rw[gZ,fu e,PZ] at hy'
   obtain⟨z,hz,rfl⟩:=hy'
   rw[set_ne _ _ (by simpa using e)]
   exact LJ (h.fr j z hz)
theorem aj.putO (h:aj Z b st fr Y) (d:Option Nat) {x:TV R.T} {v:V} (hx:Rl R Z Y.top x v):aj Z b (st.putO d x) (fr.put d v) Y:=by
 cases d with
 |none=>exact h
 |some i=>exact h.put i (.of hx)
theorem LK {Z:ak} {top:Nat->Nat} {x:TV R.T} {v:V} {i:Nat} {c:Bool} (hi:fr.tm i= .bool c) (h:bK fr Z top x v):bK fr Z top (lrn i c x) v:=by
 cases x with
 |opt j w y=>
  show bK _ _ _ (bif Nat.beq j i then (bif (c==w) then y else .undef) else .opt j w y) v
  cases hj:Nat.beq j i
  .exact h
  .have:=bB hj
   subst this
   by_cases e:c=w
   .subst e
    rw[beq_self_eq_true]
    exact bK.of (h.1 hi)
   .rw[show (c==w)=false by simpa using e]
    have e':c= !w:=by cases c<;>cases w<;>first|rfl|exact absurd rfl e
    have h':=h.2 (.inl (by rw[hi,e']))
    subst h';exact bK.of (x:=.undef) (by unfold Rl;rfl)
 |_=>exact h
theorem aj.learn (h:aj Z b st fr Y) {i:Nat} {c:Bool} (hc:fr.tm i= .bool c):aj Z b (st.learn i c) fr Y where
 d:=h.d
 om:=h.om
 ob:=h.ob
 inj:=h.inj
 lt:=h.lt
 ge:=h.ge
 nx:=h.nx
 fr:=fun j y hy=>by
  by_cases e:j=i
  .subst e
   have hy':some (TV.blit c)=some y:=by rw[<-hy];exact(bP _ _ _).symm
   cases hy'
   exact bK.of (x:=.blit c) (by unfold Rl;exact hc)
  .have hy':look (mapF (lrn i c) (delF i st.fr)) j=some y:=by rw[<-hy];exact(bg _ _ e).symm
   rw[gZ,fu e,PZ] at hy'
   obtain⟨z,hz,rfl⟩:=hy'
   exact LK hc (h.fr j z hz)
def ak.dO (Z:ak) (o s:Nat):ak:={Z with ob:=upd Z.ob o (some s)}
def ak.bT (Z:ak) (t s:Nat):ak:={Z with tk:=upd Z.tk t (some s)}
theorem BI {Z':ak} {top:Nat->Nat} {o:Nat} {x:TV R.T} {v:V} (ho:∀p,p≠o->Z'.ob p=Z.ob p/\Z'.ln p=Z.ln p) (ht:Z'.tk=Z.tk) (hx:Z'.om=Z.om) (h:bK fr Z top x v):bK fr Z' top (killO o x) v:=by
 unfold killO
 cases hm:ment o x
 .cases x with
  |opt j w y=>exact⟨fun hc=>Rl.kill o ho ht hx y v hm (h.1 hc),h.2⟩
  |_=>exact bK.of (Rl.kill o ho ht hx _ v hm h)
 .exact bK.of (x:=.gone) (by unfold Rl;trivial)
theorem wP (c:Cx) {o p:Nat} (h:p≠o):fZ (c.lc p) (c.lc o)=false:=by
 cases e:fZ (c.lc p) (c.lc o)
 .rfl
 .unfold fZ at e
  rw[P6,beq_iff_eq,beq_iff_eq] at e
  exact absurd (Prod.ext e.2 e.1) (c.Bu h)
theorem jO {c:Cx} {o p:Nat} (Y:Sig) (s s':Nat) (x:AObj) (h:p≠o):(Y.setObj (c.lc o) s' x).cellsAt (c.lc p) s=Y.cellsAt (c.lc p) s:=Bj Y s s' x (wP c h)
theorem nL {c:Cx} {o p:Nat} (Y:Sig) (s s':Nat) (x:AObj) (h:p≠o):(Y.setObj (c.lc o) s' x).aZ (c.lc p) s=Y.aZ (c.lc p) s:=Bl Y s s' x (wP c h)
theorem ah.killC {Z':ak} {top:Nat->Nat} {o:Nat} (ho:∀p,p≠o->Z'.ob p=Z.ob p/\Z'.ln p=Z.ln p) (ht:Z'.tk=Z.tk) (hx:Z'.om=Z.om):∀{cs:List (TV R.T)} {l:List V},ah R Z top cs l->ah R Z' top (killC o cs) l
 | [],_,h=>h
 |x::cs,_,h=>by
  obtain⟨v,ws,rfl,h1,h2⟩:=h.aS
  refine .cons' ?_ (ah.killC ho ht hx h2)
  unfold killO
  cases hm:ment o x
  .exact Rl.kill o ho ht hx x v hm h1
  .unfold Rl;trivial
theorem BJ {Z':ak} {o p s':Nat} {a:AObj} (hp:p≠o) (ho:∀p,p≠o->Z'.ob p=Z.ob p/\Z'.ln p=Z.ln p) (ht:Z'.tk=Z.tk) (hx:Z'.om=Z.om):∀{x:Ob R.T},Ob.ment o x=false->aQ Z Y p x->aQ Z' (Y.setObj (Z.om.lc o) s' a) p x
 |.cells cs,hm,h=>by
  obtain⟨s,l,h1,h2,h3⟩:=h
  exact⟨s,l,((ho p hp).1.trans h1),by rw[hx,jO _ _ _ _ hp];exact h2,ah.kill o ho ht hx _ _ hm h3⟩
 |.map k e m,_,h=>by
  obtain⟨s,h1,h2⟩:=h
  exact⟨s,((ho p hp).1.trans h1),by rw[hx,nL _ _ _ _ hp];exact h2⟩
 |.smap ks vs,hm,h=>by
  obtain⟨s,k,l,h1,h2,h3,h4⟩:=h
  have hm':(mentL o ks||mentL o vs)=false:=hm
  rw[QG] at hm'
  exact⟨s,k,l,((ho p hp).1.trans h1),by rw[hx,nL _ _ _ _ hp];exact h2,ah.kill o ho ht hx _ _ hm'.1 h3,ah.kill o ho ht hx _ _ hm'.2 h4⟩
 |.arr t l,hm,h=>by
  refine⟨h.1.trans (ho p hp).2.symm,?_⟩
  rcases h.2 with h| ⟨s,cs,h1,h2,h3⟩
  .exact .inl ⟨h.1,(ho p hp).1.trans h.2⟩
  .exact .inr ⟨s,cs,((ho p hp).1.trans h1),by rw[hx,jO _ _ _ _ hp];exact h2,iT l cs h3⟩
 |.sg ss,_,h=>by
  obtain⟨s,h1,h2⟩:=h
  exact⟨s,((ho p hp).1.trans h1),by rw[hx,jO _ _ _ _ hp];exact h2⟩
 |.gone,_,_=>trivial
 |.ro b,hm,h=>BJ hp ho ht hx (x:=b) hm h
theorem LM {Z':ak} {o p s':Nat} {a:AObj} {x:Ob R.T} (hp:p≠o) (ho:∀p,p≠o->Z'.ob p=Z.ob p/\Z'.ln p=Z.ln p) (ht:Z'.tk=Z.tk) (hx:Z'.om=Z.om) (h:aQ Z Y p x):aQ Z' (Y.setObj (Z.om.lc o) s' a) p (Ob.kill o x):=by
 by_cases hc:∃cs,x= .cells cs
 .obtain⟨cs,rfl⟩:=hc
  obtain⟨s,l,h1,h2,h3⟩:=h
  exact⟨s,l,((ho p hp).1.trans h1),by rw[hx,jO _ _ _ _ hp];exact h2,ah.killC ho ht hx h3⟩
 .have e:Ob.kill o x=bif Ob.ment o x then .gone else x:=by cases x<;>first|rfl|exact absurd ⟨_,rfl⟩ hc
  rw[e]
  cases hm:Ob.ment o x
  .exact BJ hp ho ht hx hm h
  .trivial
theorem BK {o p s:Nat} {a:AObj} (hp:p≠o):∀{x:Ob R.T},aQ Z Y p x->aQ Z (Y.setObj (Z.om.lc o) s a) p x
 |.cells cs,h=>by obtain⟨s,l,h1,h2,h3⟩:=h;exact⟨s,l,h1,by rw[jO _ _ _ _ hp];exact h2,h3⟩
 |.map k e m,h=>by obtain⟨s,h1,h2⟩:=h;exact⟨s,h1,by rw[nL _ _ _ _ hp];exact h2⟩
 |.smap ks vs,h=>by obtain⟨s,k,l,h1,h2,h3⟩:=h;exact⟨s,k,l,h1,by rw[nL _ _ _ _ hp];exact h2,h3⟩
 |.arr t l,h=>by
  refine⟨h.1,?_⟩
  rcases h.2 with h| ⟨s,cs,h1,h2,h3⟩
  .exact .inl h
  .exact .inr ⟨s,cs,h1,by rw[jO _ _ _ _ hp];exact h2,h3⟩
 |.sg ss,h=>by obtain⟨s,h1,h2⟩:=h;exact⟨s,h1,by rw[jO _ _ _ _ hp];exact h2⟩
 |.gone,_=>trivial
 |.ro b,h=>BK hp (x:=b) h
theorem BL {o t s n:Nat} (key:∀u s',u≠t->Z.tk u=some s'->(Z.bT t s).tk u=some s'/\(Y.setTop s n).top s'=Y.top s'):∀{x:Ob R.T},aQ Z Y o x->aQ (Z.bT t s) (Y.setTop s n) o (Ob.wk t x)
 |.cells cs,h=>by obtain⟨s',l,h1,h2,h3⟩:=h;exact⟨s',l,h1,h2,ah.wk (Z:=Z) (Z':=Z.bT t s) (top:=Y.top) (top':=(Y.setTop s n).top) t ⟨rfl,rfl,rfl⟩ key _ _ h3⟩
 |.map k e m,h=>h
 |.smap ks vs,h=>by obtain⟨s',k,l,h1,h2,h3,h4⟩:=h;exact⟨s',k,l,h1,h2,ah.wk (Z:=Z) (Z':=Z.bT t s) (top:=Y.top) (top':=(Y.setTop s n).top) t ⟨rfl,rfl,rfl⟩ key _ _ h3,ah.wk (Z:=Z) (Z':=Z.bT t s) (top:=Y.top) (top':=(Y.setTop s n).top) t ⟨rfl,rfl,rfl⟩ key _ _ h4⟩
 |.arr ty l,h=>by
  refine⟨h.1,?_⟩
  rcases h.2 with h| ⟨s,cs,h1,h2,h3⟩
  .exact .inl h
  .exact .inr ⟨s,cs,h1,h2,iT l cs h3⟩
 |.sg ss,h=>h
 |.gone,_=>trivial
 |.ro b,h=>BL key (x:=b) h
theorem nM {o s:Nat}:∀p,p≠o->(Z.dO o s).ob p=Z.ob p/\(Z.dO o s).ln p=Z.ln p:=fun p h=>⟨by simp[ak.dO,upd,h],rfl⟩
def ak.lW (Z:ak) (o n:Nat):ak:={Z with ln:=upd Z.ln o n}
theorem BM {o n:Nat}:∀p,p≠o->(Z.lW o n).ob p=Z.ob p/\(Z.lW o n).ln p=Z.ln p:=fun p h=>⟨rfl,by simp[ak.lW,upd,h]⟩
def ak.gh (Z:ak) (o:Nat):ak:={Z.lW o 0 with ob:=upd Z.ob o none}
theorem ji {o:Nat}:∀p,p≠o->(Z.gh o).ob p=Z.ob p/\(Z.gh o).ln p=Z.ln p:=fun p h=>⟨by simp[ak.gh,upd,h],(BM (Z:=Z) (n:=0) p h).2⟩
theorem kJ {o n:Nat}:(Z.lW o n).ln o=n:=by simp[ak.lW,upd]
def ak.jP (Z:ak) (o s n:Nat):ak:=(Z.dO o s).lW o n
theorem wQ {o s n:Nat}:∀p,p≠o->(Z.jP o s n).ob p=Z.ob p/\(Z.jP o s n).ln p=Z.ln p:=fun p h=>⟨(nM p h).1,(BM p h).2⟩
theorem iU {o s:Nat}:(Z.dO o s).ob o=some s:=by simp[ak.dO,upd]
theorem aj.new' {Z':ak} (h:aj Z b st fr Y) (o s:Nat) {x:Ob R.T} {a:AObj} (nM:∀p,p≠o->Z'.ob p=Z.ob p/\Z'.ln p=Z.ln p) (ht:Z'.tk=Z.tk) (aD:Z'.om=Z.om) (hx:aQ Z' (Y.setObj (Z.om.lc o) s a) o x):aj Z' b (st.new o x) fr (Y.setObj (Z.om.lc o) s a) where
 d:=by rw[aD];exact h.d
 om:=by rw[aD];exact h.om
 fr:=fun j y hy=>by
  have hy':look (mapF (killO o) st.fr) j=some y:=hy
  rw[gZ,PZ] at hy'
  obtain⟨z,hz,rfl⟩:=hy'
  exact BI nM ht aD (h.fr j z hz)
 ob:=fun p y hy=>by
  by_cases e:p=o
  .subst e
   have hy':some x=some y:=by rw[<-hy];exact(bP _ _ _).symm
   cases hy'
   exact hx
  .have hy':look (mapF (Ob.kill o) (delF o st.ob)) p=some y:=by rw[<-hy];exact(bg _ _ e).symm
   rw[gZ,fu e,PZ] at hy'
   obtain⟨z,hz,rfl⟩:=hy'
   exact LM e nM ht aD (h.ob p z hz)
 inj:=by rw[ht];exact h.inj
 lt:=by rw[ht];exact h.lt
 ge:=by rw[ht,aD];exact h.ge
 nx:=by rw[aD];exact h.nx
theorem aj.new (h:aj Z b st fr Y) (o s:Nat) {x:Ob R.T} {a:AObj} (hx:aQ (Z.dO o s) (Y.setObj (Z.om.lc o) s a) o x):aj (Z.dO o s) b (st.new o x) fr (Y.setObj (Z.om.lc o) s a):=h.new' o s nM rfl rfl hx
theorem aj.p8 (h:aj Z b st fr Y) (o s n:Nat) {x:Ob R.T} {a:AObj} (hx:aQ (Z.jP o s n) (Y.setObj (Z.om.lc o) s a) o x):aj (Z.jP o s n) b (st.new o x) fr (Y.setObj (Z.om.lc o) s a):=h.new' o s wQ rfl rfl hx
theorem BN {Z':ak} {o p:Nat} (hp:p≠o) (ho:∀p,p≠o->Z'.ob p=Z.ob p/\Z'.ln p=Z.ln p) (ht:Z'.tk=Z.tk) (hx:Z'.om=Z.om):∀{x:Ob R.T},Ob.ment o x=false->aQ Z Y p x->aQ Z' Y p x
 |.cells cs,hm,h=>by
  obtain⟨s,l,h1,h2,h3⟩:=h
  exact⟨s,l,((ho p hp).1.trans h1),by rw[hx];exact h2,ah.kill o ho ht hx _ _ hm h3⟩
 |.map k e m,_,h=>by
  obtain⟨s,h1,h2⟩:=h
  exact⟨s,((ho p hp).1.trans h1),by rw[hx];exact h2⟩
 |.smap ks vs,hm,h=>by
  obtain⟨s,k,l,h1,h2,h3,h4⟩:=h
  have hm':(mentL o ks||mentL o vs)=false:=hm
  rw[QG] at hm'
  exact⟨s,k,l,((ho p hp).1.trans h1),by rw[hx];exact h2,ah.kill o ho ht hx _ _ hm'.1 h3,ah.kill o ho ht hx _ _ hm'.2 h4⟩
 |.arr t l,hm,h=>by
  refine⟨h.1.trans (ho p hp).2.symm,?_⟩
  rcases h.2 with h| ⟨s,cs,h1,h2,h3⟩
  .exact .inl ⟨h.1,(ho p hp).1.trans h.2⟩
  .exact .inr ⟨s,cs,((ho p hp).1.trans h1),by rw[hx];exact h2,iT l cs h3⟩
 |.sg ss,_,h=>by
  obtain⟨s,h1,h2⟩:=h
  exact⟨s,((ho p hp).1.trans h1),by rw[hx];exact h2⟩
 |.gone,_,_=>trivial
 |.ro b,hm,h=>BN hp ho ht hx (x:=b) hm h
theorem aj.ghost (h:aj Z b st fr Y) (o:Nat) (t:Ty):aj (Z.gh o) b (st.new o (.arr t [])) fr Y where
 d:=h.d
 om:=h.om
 fr:=fun j y hy=>by
  have hy':look (mapF (killO o) st.fr) j=some y:=hy
  rw[gZ,PZ] at hy'
  obtain⟨z,hz,rfl⟩:=hy'
  exact BI ji rfl rfl (h.fr j z hz)
 ob:=fun p y hy=>by
  by_cases e:p=o
  .subst e
   have hy':some (Ob.arr t ([]:List (Den R.T t)))=some y:=by rw[<-hy];exact(bP _ _ _).symm
   cases hy'
   exact⟨(kJ (Z:=Z) (n:=0)).symm,.inl ⟨rfl,by simp[ak.gh,upd]⟩⟩
  .have hy':look (mapF (Ob.kill o) (delF o st.ob)) p=some y:=by rw[<-hy];exact(bg _ _ e).symm
   rw[gZ,fu e,PZ] at hy'
   obtain⟨z,hz,rfl⟩:=hy'
   by_cases hc:∃cs,z= .cells cs
   .obtain⟨cs,rfl⟩:=hc
    obtain⟨s,l,h1,h2,h3⟩:=h.ob p _ hz
    exact⟨s,l,((ji (Z:=Z) p e).1.trans h1),h2,ah.killC ji rfl rfl h3⟩
   .have e2:Ob.kill o z=bif Ob.ment o z then .gone else z:=by cases z<;>first|rfl|exact absurd ⟨_,rfl⟩ hc
    rw[e2]
    cases hm:Ob.ment o z
    .exact BN e ji rfl rfl hm (h.ob p z hz)
    .trivial
 inj:=h.inj
 lt:=h.lt
 ge:=h.ge
 nx:=h.nx
theorem BO {c:Cx} {o p:Nat} (Y:Sig) (h:p≠o):(Y.bI (c.lc o)).obj (c.lc p)=Y.obj (c.lc p):=by
 unfold Sig.bI upd
 dsimp only
 rw[if_neg (c.Bu h)]
theorem BP {Y':Sig} {p:Nat} (hp:Y'.obj (Z.om.lc p)=Y.obj (Z.om.lc p)) (ht:Y'.top=Y.top):∀{x:Ob R.T},aQ Z Y p x->aQ Z Y' p x
 |.cells cs,h=>by
  obtain⟨s,l,h1,h2,h3⟩:=h
  exact⟨s,l,h1,by unfold Sig.cellsAt at h2⊢;rw[hp];exact h2,by rw[ht];exact h3⟩
 |.map k e m,h=>by
  obtain⟨s,h1,h2⟩:=h
  exact⟨s,h1,by unfold Sig.aZ at h2⊢;rw[hp];exact h2⟩
 |.smap ks vs,h=>by
  obtain⟨s,k,l,h1,h2,h3,h4⟩:=h
  exact⟨s,k,l,h1,by unfold Sig.aZ at h2⊢;rw[hp];exact h2,by rw[ht];exact h3,by rw[ht];exact h4⟩
 |.arr t l,h=>by
  refine⟨h.1,?_⟩
  rcases h.2 with h| ⟨s,cs,h1,h2,h3⟩
  .exact .inl h
  .exact .inr ⟨s,cs,h1,by unfold Sig.cellsAt at h2⊢;rw[hp];exact h2,iT l cs h3⟩
 |.sg ss,h=>by
  obtain⟨s,h1,h2⟩:=h
  exact⟨s,h1,by unfold Sig.cellsAt at h2⊢;rw[hp];exact h2⟩
 |.gone,_=>trivial
 |.ro b,h=>BP hp ht (x:=b) h
theorem aj.del (h:aj Z b st fr Y) (o:Nat):aj Z b (st.del o) fr (Y.bI (Z.om.lc o)) where
 d:=h.d
 om:=h.om
 fr:=h.fr
 ob:=fun p y hy=>by
  by_cases e:p=o
  .subst e
   have:look (delF p st.ob) p=some y:=hy
   have key:∀l:List (Nat×Ob R.T),look (delF p l) p=none:=by
    intro l
    induction l with
    |nil=>rfl
    |cons q l ih=>
     obtain⟨j,x⟩:=q
     unfold delF
     cases hj:Nat.beq j p
     .show (bif Nat.beq j p then some x else look (delF p l) p)=none
      rw[hj];exact ih
     .exact ih
   rw[key] at this;cases this
  .have hy':look (delF o st.ob) p=some y:=hy
   rw[fu e] at hy'
   exact BP (BO Y e) rfl (h.ob p y hy')
 inj:=h.inj
 lt:=h.lt
 ge:=h.ge
 nx:=h.nx
theorem aj.set (h:aj Z b st fr Y) (o s:Nat) {x:Ob R.T} {a:AObj} (hx:aQ Z (Y.setObj (Z.om.lc o) s a) o x):aj Z b (st.set o x) fr (Y.setObj (Z.om.lc o) s a) where
 d:=h.d
 om:=h.om
 fr:=h.fr
 ob:=fun p y hy=>by
  by_cases e:p=o
  .subst e
   have hy':some x=some y:=by rw[<-hy];exact(bP _ _ _).symm
   cases hy'
   exact hx
  .have hy':look (delF o st.ob) p=some y:=by rw[<-hy];exact(bg _ _ e).symm
   rw[fu e] at hy'
   exact BK e (h.ob p y hy')
 inj:=h.inj
 lt:=h.lt
 ge:=h.ge
 nx:=h.nx
theorem aj.wk (h:aj Z b st fr Y) (t s n:Nat) {b':Nat} (hb:b<=b') (hs:s<b') (hl:Z.om.lo<=s) (hf:∀u,u≠t->Z.tk u≠some s):aj (Z.bT t s) b' (st.wk t) fr (Y.setTop s n) where
 d:=h.d
 om:=h.om
 fr:=fun j y hy=>by
  have hy':look (mapF (Aq.wk t) st.fr) j=some y:=hy
  rw[gZ,PZ] at hy'
  obtain⟨z,hz,rfl⟩:=hy'
  have hz':=h.fr j z hz
  have key:∀u s',u≠t->Z.tk u=some s'->(Z.bT t s).tk u=some s'/\(Y.setTop s n).top s'=Y.top s':=fun u s' hu hs'=>
   ⟨by simp[ak.bT,upd,hu,hs'],top_setTop_ne _ _ fun e=>hf u hu (by rw[hs',e])⟩
  cases z with
  |opt j' w y=>exact⟨fun hc=>Rl.wk (Z:=Z) (Z':=Z.bT t s) (top:=Y.top) (top':=(Y.setTop s n).top) t ⟨rfl,rfl,rfl⟩ key y _ (hz'.1 hc),hz'.2⟩
  |_=>exact bK.of (Rl.wk (Z:=Z) (Z':=Z.bT t s) (top:=Y.top) (top':=(Y.setTop s n).top) t ⟨rfl,rfl,rfl⟩ key _ _ hz')
 ob:=fun p y hy=>by
  have hy':look (mapF (Ob.wk t) st.ob) p=some y:=hy
  rw[gZ,PZ] at hy'
  obtain⟨z,hz,rfl⟩:=hy'
  have hz':=h.ob p z hz
  have key:∀u s',u≠t->Z.tk u=some s'->(Z.bT t s).tk u=some s'/\(Y.setTop s n).top s'=Y.top s':=fun u s' hu hs'=>
   ⟨by simp[ak.bT,upd,hu,hs'],top_setTop_ne _ _ fun e=>hf u hu (by rw[hs',e])⟩
  exact BL key hz'
 inj:=fun u v s' hu hv=>by
  by_cases e1:u=t<;>by_cases e2:v=t
  .rw[e1,e2]
  .simp[ak.bT,upd,e1] at hu;simp[ak.bT,upd,e2] at hv;exact absurd (hu▸hv) (hf v e2)
  .simp[ak.bT,upd,e1] at hu;simp[ak.bT,upd,e2] at hv;exact absurd (hv▸hu) (hf u e1)
  .simp[ak.bT,upd,e1] at hu;simp[ak.bT,upd,e2] at hv;exact h.inj u v s' hu hv
 lt:=fun u s' hu=>by
  by_cases e1:u=t
  .simp[ak.bT,upd,e1] at hu;omega
  .simp[ak.bT,upd,e1] at hu;exact Qg (h.lt u s' hu) hb
 ge:=fun u s' hu=>by
  by_cases e1:u=t
  .simp[ak.bT,upd,e1] at hu;rw[<-hu];exact hl
  .simp[ak.bT,upd,e1] at hu;exact h.ge u s' hu
 nx:=P7 h.nx hb
theorem BQ {top:Nat->Nat} {x:TV R.T} {v:Value} (h:ofScalarM v=some x):∃y,bR v=some y/\Rl R Z top x y:=by
 unfold ofScalarM at h
 split at h<;>cases h<;>exact⟨_,rfl,by unfold Rl;rfl⟩
theorem BR {top:Nat->Nat}:∀{vs:List Value} {l:List (TV R.T)},ofScalarsM vs=some l->∃y,vs.mapM bR=some y/\ah R Z top l y
 | [],l,h=>by cases h;exact⟨[],rfl,rfl⟩
 |v::vs,l,h=>by
  unfold ofScalarsM at h
  cases h1:(ofScalarM v:Option (TV R.T)) with
  |none=>simp only[h1] at h;cases h
  |some a=>
   cases h2:(ofScalarsM vs:Option (List (TV R.T))) with
   |none=>simp only[h1,h2] at h;cases h
   |some as=>
    simp only[h1,h2] at h;cases h
    obtain⟨y,hy,hr⟩:=BQ (Z:=Z) (top:=top) h1
    obtain⟨ys,hys,hrs⟩:=BR h2
    exact⟨y::ys,by simp[hy,hys],.cons' hr hrs⟩
theorem BS {top:Nat->Nat} {x:TV R.T} {v:Value} (h:ofValueM v=some x):∃y,ofValue v=some y/\Rl R Z top x y:=by
 unfold ofValueM at h
 split at h
 .rename_i cs
  cases h2:(ofScalarsM cs.toList:Option (List (TV R.T))) with
  |none=>simp only[h2] at h;cases h
  |some l=>
   simp only[h2] at h;cases h
   obtain⟨ys,hys,hrs⟩:=BR (Z:=Z) (top:=top) h2
   exact⟨.agg ys,by simp[ofValue,hys],by unfold Rl;exact⟨_,rfl,hrs⟩⟩
 .obtain⟨y,hy,hr⟩:=BQ (Z:=Z) (top:=top) h
  refine⟨y,?_,hr⟩
  unfold ofScalarM at h
  split at h<;>first|exact hy|cases h
def fF (fr:Fr) (g:List (Nat×Bool)):Prop:=∀j u,look g j=some u->fr.tm j= .bool u
theorem fF.nil:fF fr []:=fun _ _ h=>by cases h
theorem fF.cons {g:List (Nat×Bool)} {j:Nat} {u:Bool} (h:fr.tm j= .bool u) (hg:fF fr g):fF fr ((j,u)::g):=fun i v hi=>by
 by_cases e:i=j
 .subst e;rw[bP] at hi;cases hi;exact h
 .rw[bg _ _ e] at hi;exact hg i v hi
theorem LP {fr:Fr} {top:Nat->Nat} {g:List (Nat×Bool)} (hg:fF fr g) {y x:TV R.T} {v:V} (hy:bK fr Z top y v) (he:resG g y=some x):Rl R Z top x v:=by
 cases y with
 |opt j w z=>
  unfold resG at he
  dsimp only at he
  split at he
  .rename_i u hu
   cases he
   have:=hg j u hu
   by_cases e:u=w
   .subst e;rw[beq_self_eq_true];exact hy.1 this
   .rw[show (u==w)=false by simpa using e]
    have e':u= !w:=by cases u<;>cases w<;>first|rfl|exact absurd rfl e
    unfold Rl;exact hy.2 (.inl (by rw[this,e']))
  .cases he
 |_=>cases he;exact hy
theorem aI (h:aj Z b st fr Y) {g:List (Nat×Bool)} (hg:fF fr g) {o:Operand} {x:TV R.T} (he:evM g st o=some x):Rl R Z Y.top x (fr.ev E o):=by
 cases o with
 |tmp t=>
  rw[pW]
  unfold evM at he
  dsimp only at he
  split at he
  .rename_i v hv;exact LP hg (h.fr _ _ hv) he
  .cases he
 |const v=>
  rw[Bf]
  obtain⟨y,hy,hr⟩:=BS (Z:=Z) (top:=Y.top) (show ofValueM v=some x from he)
  rw[hy];exact hr
 |func f=>cases he;rw[Bg];unfold Rl;exact⟨[],[],rfl,rfl,rfl⟩
 |global i=>cases he
theorem lX (h:aj Z b st fr Y) {g:List (Nat×Bool)} (hg:fF fr g):∀{l:List Operand} {xs:List (TV R.T)},evMs g st l=some xs->ah R Z Y.top xs (l.map (fr.ev E))
 | [],xs,he=>by cases he;rfl
 |o::l,xs,he=>by
  unfold evMs at he
  cases h1:evM g st o with
  |none=>simp only[h1] at he;cases he
  |some a=>
   cases h2:evMs g st l with
   |none=>simp only[h1,h2] at he;cases he
   |some as=>simp only[h1,h2] at he;cases he;exact .cons' (aI h hg h1) (lX h hg h2)
theorem wR (h:aj Z b st fr Y) {g:List (Nat×Bool)} (hg:fF fr g):∀{l:List (Nat×Operand)} {xs:List (Nat×TV R.T)},evPs g st l=some xs->xs.map (·.1)=l.map (·.1)/\ah R Z Y.top (xs.map (·.2)) (l.map fun p=>fr.ev E p.2)
 | [],xs,he=>by cases he;exact⟨rfl,rfl⟩
 | (i,o)::l,xs,he=>by
   unfold evPs at he
   cases h1:evM g st o with
   |none=>simp only[h1] at he;cases he
   |some a=>
    cases h2:evPs g st l with
    |none=>simp only[h1,h2] at he;cases he
    |some as=>
     simp only[h1,h2] at he;cases he
     obtain⟨e1,e2⟩:=wR h hg h2
     exact⟨by simp[e1],.cons' (aI h hg h1) e2⟩
end
theorem LQ {n m:Nat} {v:Vec n} {w:Vec m} (h:castV v=some w):n=m/\HEq v w:=by
 unfold castV at h
 split at h
 .rename_i e;subst e;cases h;exact⟨rfl,HEq.rfl⟩
 .cases h
theorem BU:∀{k:SgK} {s:Sg} {x:PayG1 k},pk1 k s=some x->up1 k x=s
 |.i k,.i k' y,x,h=>by
  have h':(if k'=k then some y else none)=some (x:Int):=h
  by_cases e:k'=k
  .subst e;rw[if_pos rfl] at h';cases h';rfl
  .rw[if_neg e] at h';cases h'
 |.a k n,.a k' n' v,x,h=>by
  have h':(if k'=k then castV (m:=n) v else none)=some (x:Vec n):=h
  by_cases e:k'=k
  .subst e;rw[if_pos rfl] at h'
   obtain⟨e1,e2⟩:=LQ h'
   subst e1;cases e2;rfl
  .rw[if_neg e] at h';cases h'
 |.i k,.a _ _ _,x,h=>by cases h
 |.a k n,.i _ _,x,h=>by cases h
theorem rW:∀{l:List SgK} {ss:List Sg} {x:PayG l},pkG l ss=some x->upG l x=ss
 | [],ss,x,h=>by
   cases ss with
   |nil=>rfl
   |cons s ss=>cases h
 | [k],ss,x,h=>by
   cases ss with
   |nil=>cases h
   |cons s ss=>
    cases ss with
    |nil=>
     show [up1 k x]=[s]
     rw[BU (show pk1 k s=some x from h)]
    |cons s' ss=>cases h
 |k::k'::l,ss,x,h=>by
  cases ss with
  |nil=>cases h
  |cons s ss=>
   have h':(match pk1 k s with
    |some x=>match pkG (k'::l) ss with
     |some p=>some (x,p)
     |none=>none
    |none=>none)=some x:=h
   cases hu:pk1 k s with
   |none=>simp only[hu] at h';cases h'
   |some y=>
    cases hs:pkG (k'::l) ss with
    |none=>simp only[hu,hs] at h';cases h'
    |some q=>
     simp only[hu,hs] at h'
     obtain rfl:=Qn h'
     show up1 k y::upG (k'::l) q=s::ss
     rw[BU hu,rW hs]
section
variable {R:Reg} (hR:RegOK R)
variable {Z:ak} {top:Nat->Nat} {b:Nat} {st:MS R.T} {fr:Fr} {Y:Sig}
include hR
theorem lY {t:Ty} {x:Den R.T t} {tv:TV R.T} {v:V} (h:un1 R t tv=some x) (hr:Rl R Z top tv v):Rl R Z top (tv1 R .any t x) v:=by
 cases t with
 |int k=>rw[wJ h hr];unfold Rl;rfl
 |bool=>rw[wK h hr];unfold Rl;rfl
 |str=>rw[wL h hr];unfold Rl;rfl
 |slice t=>obtain⟨c,hv⟩:=BF h hr;rw[hv];unfold Rl;exact⟨c,rfl,trivial⟩
 |st n=>cases h
theorem BX:∀(l:List Ty) (p:PayT R.T l) (cs:List (TV R.T)) (vs:List V),uns R l cs=some p->ah R Z top cs vs->ah R Z top (tvs R .any l p) vs
 | [],p,cs,vs,h,hr=>by
   cases cs with
   |nil=>rw[hr.bA];rfl
   |cons c cs=>cases h
 | [t],p,cs,vs,h,hr=>by
   have h':un1 R t (hd1 R cs)=some p:=h
   cases cs with
   |nil=>cases t<;>cases h'
   |cons c cs=>
    cases cs with
    |nil=>
     obtain⟨v,l,rfl,h1,h2⟩:=hr.aS
     rw[h2.bA]
     exact .cons' (lY hR h' h1) rfl
    |cons c' cs=>cases t<;>cases h'
 |t::u::l,p,cs,vs,h,hr=>by
  cases cs with
  |nil=>cases h
  |cons c cs=>
   obtain⟨v,vs,rfl,h1,h2⟩:=hr.aS
   unfold uns at h
   cases hu:un1 R t c with
   |none=>simp only[hu] at h;cases h
   |some y=>
    cases hs:uns R (u::l) cs with
    |none=>simp only[hu,hs] at h;cases h
    |some q=>
     simp only[hu,hs] at h
     obtain rfl:=Qn h
     exact .cons' (lY hR hu h1) (BX (u::l) q cs vs hs h2)
theorem nN {t:Ty} {x:Den R.T t} {tv:TV R.T} {v:V} (h:unD R t tv=some x) (hr:Rl R Z top tv v):Rl R Z top (tvD R .any t x) v:=by
 cases t with
 |st n=>
  change unSt R n tv=some x at h
  unfold unSt at h
  split at h
  .rename_i cs
   split at h
   .rename_i p hp
    obtain rfl:=Qn h
    obtain⟨l,hv,hl⟩:=hr.dn
    subst hv
    show Rl R Z top (.agg (tvs R .any (R.lf n) (R.of n (R.to n p)))) _
    rw[hR.of_to]
    unfold Rl;exact⟨l,rfl,BX hR _ _ _ _ hp hl⟩
   .cases h
  .cases h
 |int k=>exact lY hR (t:=.int k) h hr
 |bool=>exact lY hR (t:=.bool) h hr
 |str=>exact lY hR (t:=.str) h hr
 |slice t=>exact lY hR (t:=.slice t) h hr
omit hR in
theorem BZ {sz n:Nat} {c c':Cp} {x:Cap} (h:capLe c c'=true) (hx:nG Z top sz n c x):nG Z top sz n c' x:=by
 cases c<;>cases c'<;>simp only[capLe,P8] at h<;>first|trivial|exact hx|exact .inl hx|exact .inr (.inl hx)| (rw[<-bB h];exact hx)
omit hR in
theorem wS {k e k' e':Ty} {m:List (Den R.T k'×Den R.T e')} {x:List (Den R.T k×Den R.T e)} (h:castM R m=some x):k'=k/\e'=e/\HEq m x:=by
 unfold castM at h
 split at h
 .rename_i e;obtain⟨rfl,rfl⟩:=e;cases h;exact⟨rfl,rfl,HEq.rfl⟩
 .cases h
omit hR in
theorem Ca {c:Cp} {t:Ty} {x:List (Den R.T t)} {tv:TV R.T} {v:V} (h:pkLst R c t tv=some x) (hr:Rl R Z top tv v):Rl R Z top (.lst c t x) v:=by
 unfold pkLst at h
 split at h
 .rename_i c' t' l
  cases hc:capLe c' c
  .rw[hc] at h;cases h
  .rw[hc,cond_true] at h
   obtain⟨e,e2⟩:=gJ h;subst e;cases e2
   obtain⟨c'',hv,hcc⟩:=hr.dD
   unfold Rl;exact⟨c'',hv,BZ hc hcc⟩
 .cases hc:capLe .nil c
  .rw[hc] at h;cases h
  .rw[hc,cond_true] at h;cases h
   unfold Rl;exact⟨.nil,hr.jh,BZ hc rfl⟩
 .cases h
mutual
theorem wT:∀(k:Sk) (x:PayS R.T k) (tv:TV R.T) (v:V),pk R k tv=some x->Rl R Z top tv v->Rl R Z top (up R .any k x) v
 |.d t,x,tv,v,h,hr=>nN hR (by unfold pk at h;exact h) hr
 |.l c t,x,tv,v,h,hr=>Ca (by unfold pk at h;exact h) hr
 |.agg l,x,tv,v,h,hr=>by
  cases tv<;>first| (exact absurd (show none=some x from h) (by simp))|skip
  rename_i cs
  obtain⟨vs,rfl,hl⟩:=hr.dn
  show Rl R Z top (.agg (upL R .any l x)) _
  unfold Rl;exact⟨vs,rfl,kK l x cs vs h hl⟩
 |.ref o off,x,tv,v,h,hr=>by
  cases tv<;>first| (exact absurd (show none=some x from h) (by simp))|skip
  rename_i p off'
  have h':(bif Nat.beq p o&& Nat.beq off' off then some () else none)=some x:=h
  cases hb:(Nat.beq p o&& Nat.beq off' off)
  .rw[hb] at h';cases h'
  .rw[P6] at hb
   rw[bB hb.1,bB hb.2] at hr
   exact hr
 |.cref l off,x,tv,v,h,hr=>by
  cases tv<;>first| (exact absurd (show none=some x from h) (by simp))|skip
  rename_i cs off'
  have h':(bif Nat.beq off' off then pkL R l cs else none)=some x:=h
  cases hb:Nat.beq off' off
  .rw[hb] at h';cases h'
  .rw[hb,cond_true] at h'
   rw[bB hb] at hr
   obtain⟨vs,rfl,hl⟩:=hr.gH
   show Rl R Z top (.cref (upL R .any l x) off) _
   unfold Rl;exact⟨vs,rfl,kK l x _ vs h' hl⟩
 |.mapr o,x,tv,v,h,hr=>by
  cases tv<;>first| (exact absurd (show none=some x from h) (by simp))|skip
  rename_i p
  have h':(bif Nat.beq p o then some () else none)=some x:=h
  cases hb:Nat.beq p o
  .rw[hb] at h';cases h'
  .rw[bB hb] at hr
   exact hr
 |.mapc k e,x,tv,v,h,hr=>by
  cases tv<;>first| (exact absurd (show none=some x from h) (by simp))|skip
  rename_i k' e' m
  obtain⟨e1,e2,e3⟩:=wS (show castM R m=some x from h)
  subst e1;subst e2;cases e3
  exact hr
 |.fn f a b,x,tv,v,h,hr=>by
  cases tv<;>first| (exact absurd (show none=some x from h) (by simp))|skip
  rename_i f' a' b'
  have h':(bif Nat.beq f' f then (match pkL R a a' with
   |some x=>match pkL R b b' with
    |some y=>some (x,y)
    |none=>none
   |none=>none) else none)=some x:=h
  cases hb:Nat.beq f' f
  .rw[hb] at h';cases h'
  .rw[hb,cond_true] at h'
   rw[bB hb] at hr
   obtain⟨va,vb,rfl,ha,hbb⟩:=hr.dW
   cases h1:pkL R a a' with
   |none=>simp only[h1] at h';cases h'
   |some y=>
    cases h2:pkL R b b' with
    |none=>simp only[h1,h2] at h';cases h'
    |some z=>
     simp only[h1,h2] at h';cases h'
     show Rl R Z top (.fn f (upL R .any a y) (upL R .any b z)) _
     unfold Rl;exact⟨va,vb,rfl,kK a y _ va h1 ha,kK b z _ vb h2 hbb⟩
 |.nils,x,tv,v,h,hr=>by
  cases tv<;>first| (exact absurd (show none=some x from h) (by simp))|skip
  exact hr
 |.vw o t,x,tv,v,h,hr=>by
  cases tv<;>first| (exact absurd (show none=some x from h) (by simp))|skip
  rename_i p t'
  have h':(bif Nat.beq p o then (if t'=t then some () else none) else none)=some x:=h
  cases hb:Nat.beq p o
  .rw[hb] at h';cases h'
  .rw[hb,cond_true] at h'
   split at h'
   .rename_i e
    rw[bB hb,e] at hr
    exact hr
   .cases h'
 |.sub o t,x,tv,v,h,hr=>by
  cases tv<;>first| (exact absurd (show none=some x from h) (by simp))|skip
  rename_i p t' a b
  have h':(bif Nat.beq p o then (if t'=t then some (a,b) else none) else none)=some x:=h
  cases hb:Nat.beq p o
  .rw[hb] at h';cases h'
  .rw[hb,cond_true] at h'
   split at h'
   .rename_i e
    cases h'
    rw[bB hb,e] at hr
    exact hr
   .cases h'
 |.sg l,x,tv,v,h,hr=>by
  cases tv<;>first| (exact absurd (show none=some x from h) (by simp))|skip
  rename_i ss
  show Rl R Z top (.sg (upG l x)) v
  rw[rW (show pkG l ss=some x from h)]
  exact hr
 |.undef,x,tv,v,h,hr=>by
  cases tv<;>first| (exact absurd (show none=some x from h) (by simp))|skip
  exact hr
theorem kK:∀(l:List Sk) (x:PayL R.T l) (cs:List (TV R.T)) (vs:List V),pkL R l cs=some x->ah R Z top cs vs->ah R Z top (upL R .any l x) vs
 | [],x,cs,vs,h,hr=>by
   cases cs with
   |nil=>rw[hr.bA];rfl
   |cons c cs=>exact absurd (show none=some x from h) (by simp)
 | [k],x,cs,vs,h,hr=>by
   cases cs with
   |nil=>exact absurd (show none=some x from h) (by simp)
   |cons c cs=>
    cases cs with
    |nil=>
     obtain⟨v,l,rfl,h1,h2⟩:=hr.aS
     rw[h2.bA]
     show ah R Z top [up R .any k x] _
     exact .cons' (wT k x _ v h h1) rfl
    |cons c' cs=>exact absurd (show none=some x from h) (by simp)
 |k::k'::l,x,cs,vs,h,hr=>by
  cases cs with
  |nil=>exact absurd (show none=some x from h) (by simp)
  |cons c cs=>
   have h':(match pk R k c with
    |some x=>match pkL R (k'::l) cs with
     |some p=>some (x,p)
     |none=>none
    |none=>none)=some x:=h
   obtain⟨v,vs,rfl,h1,h2⟩:=hr.aS
   cases hu:pk R k c with
   |none=>simp only[hu] at h';cases h'
   |some y=>
    cases hs:pkL R (k'::l) cs with
    |none=>simp only[hu,hs] at h';cases h'
    |some q=>
     simp only[hu,hs] at h'
     obtain rfl:=Qn h'
     show ah R Z top (up R .any k y::upL R .any (k'::l) q) _
     exact .cons' (wT k y _ v hu h1) (kK (k'::l) q _ vs hs h2)
end
omit hR in
theorem LU {k:Sk} {j:Nat} {w:Bool} {y:TV R.T} {x:PayS R.T k} (h:pk R k (.opt j w y)=some x):False:=by
 cases k with
 |d t=>cases t<;>(unfold pk at h;cases h)
 |_=>unfold pk at h;cases h
theorem bK.pk {k:Sk} {x:PayS R.T k} {tv:TV R.T} {v:V} (h:pk R k tv=some x) (hr:bK fr Z top tv v):Rl R Z top (up R .any k x) v:=by
 cases tv<;>first|exact wT hR _ _ _ _ h hr|exact(LU h).elim
theorem wU (h:aj Z b st fr Y):∀(l:List (Nat×Sk)) (x:PaySl R.T l),pkSl R st.fr l=some x->∀i v,look (upSl R l x) i=some v->Rl R Z Y.top v (fr.tm i)
 | [],x,hx,i,v,hv=>by cases hv
 | [(j,k)],x,hx,i,v,hv=>by
   unfold pkSl at hx
   split at hx
   .rename_i y hy
    by_cases e:i=j
    .subst e
     have hv':look [(i,up R .any k x)] i=some v:=hv
     rw[bP] at hv';cases hv'
     exact bK.pk hR hx (h.fr _ _ hy)
    .have hv':look [(j,up R .any k x)] i=some v:=hv
     rw[bg _ _ e] at hv';cases hv'
   .cases hx
 | (j,k)::q::l,x,hx,i,v,hv=>by
   unfold pkSl at hx
   split at hx
   .rename_i y hy
    cases hu:pk R k y with
    |none=>simp only[hu] at hx;cases hx
    |some z=>
     cases hs:pkSl R st.fr (q::l) with
     |none=>simp only[hu,hs] at hx;cases hx
     |some p=>
      simp only[hu,hs] at hx
      obtain rfl:=Qn hx
      have hv':look ((j,up R .any k z)::upSl R (q::l) p) i=some v:=hv
      by_cases e:i=j
      .subst e
       rw[bP] at hv';cases hv'
       exact bK.pk hR hu (h.fr _ _ hy)
      .rw[bg _ _ e] at hv'
       exact wU h (q::l) p hs i v hv'
   .cases hx
theorem rX {o:Nat} {k:ObSk} {x:PayO R.T k} {y:Ob R.T} (hx:pkO R k y=some x) (hy:aQ Z Y o y):aQ Z Y o (upO R k x):=by
 cases k with
 |cells l=>
  cases y with
  |cells cs=>
   obtain⟨s,vs,h1,h2,h3⟩:=hy
   exact⟨s,vs,h1,h2,kK hR l x _ vs hx h3⟩
  |map k e m=>cases hx
  |smap _ _=>cases hx
  |arr _ _=>cases hx
  |sg _=>cases hx
  |gone=>cases hx
  |ro b=>cases hx
 |st n=>
  cases y with
  |cells cs=>
   obtain⟨s,vs,h1,h2,h3⟩:=hy
   obtain⟨l,e,hl⟩:=(nN hR (t:=.st n) (show unD R (.st n) (.agg cs)=some x from hx) (v:=.agg vs) ⟨vs,rfl,h3⟩).dn
   cases e
   exact⟨s,vs,h1,h2,hl⟩
  |map k e m=>cases hx
  |smap _ _=>cases hx
  |arr _ _=>cases hx
  |sg _=>cases hx
  |gone=>cases hx
  |ro b=>cases hx
 |arr t=>
  cases y with
  |arr t' l=>
   obtain⟨e,e2⟩:=gJ hx
   subst e;cases e2
   exact hy
  |cells cs=>cases hx
  |map _ _ _=>cases hx
  |smap _ _=>cases hx
  |sg _=>cases hx
  |gone=>cases hx
  |ro b=>cases hx
 |sg l=>
  cases y with
  |sg ss=>
   show aQ Z Y o (.sg (upG l x))
   rw[rW (show pkG l ss=some x from hx)]
   exact hy
  |cells cs=>cases hx
  |map _ _ _=>cases hx
  |smap _ _=>cases hx
  |arr _ _=>cases hx
  |gone=>cases hx
  |ro b=>cases hx
 |map k e=>
  cases y with
  |map k' e' m=>
   obtain⟨e1,e2,e3⟩:=wS hx
   subst e1;subst e2;cases e3
   exact hy
  |cells cs=>cases hx
  |smap _ _=>cases hx
  |arr _ _=>cases hx
  |sg _=>cases hx
  |gone=>cases hx
  |ro b=>cases hx
theorem Cb (h:aj Z b st fr Y):∀(l:List (Nat×ObSk)) (x:PayOs R.T l),pkOs R st.ob l=some x->∀i v,look (upOs R l x) i=some v->aQ Z Y i v
 | [],x,hx,i,v,hv=>by cases hv
 | [(j,k)],x,hx,i,v,hv=>by
   unfold pkOs at hx
   split at hx
   .rename_i y hy
    by_cases e:i=j
    .subst e
     have hv':look [(i,upO R k x)] i=some v:=hv
     rw[bP] at hv';cases hv'
     exact rX hR hx (h.ob _ _ hy)
    .have hv':look [(j,upO R k x)] i=some v:=hv
     rw[bg _ _ e] at hv';cases hv'
   .cases hx
 | (j,k)::q::l,x,hx,i,v,hv=>by
   unfold pkOs at hx
   split at hx
   .rename_i y hy
    cases hu:pkO R k y with
    |none=>simp only[hu] at hx;cases hx
    |some z=>
     cases hs:pkOs R st.ob (q::l) with
     |none=>simp only[hu,hs] at hx;cases hx
     |some p=>
      simp only[hu,hs] at hx
      obtain rfl:=Qn hx
      have hv':look ((j,upO R k z)::upOs R (q::l) p) i=some v:=hv
      by_cases e:i=j
      .subst e
       rw[bP] at hv';cases hv'
       exact rX hR hu (h.ob _ _ hy)
      .rw[bg _ _ e] at hv'
       exact Cb h (q::l) p hs i v hv'
   .cases hx
theorem aj.pack (h:aj Z b st fr Y) {s:Shape} {p:Pay R.T s} (hp:pack R st s=some p):aj Z b (unpack R s p) fr Y:=by
 obtain⟨sl,ob⟩:=s
 cases ob with
 |nil=>
  have hp':pkSl R st.fr sl=some p:=hp
  exact {h with fr:=fun i v hv=>.of (wU hR h sl p hp' i v hv),ob:=fun i v hv=>by cases hv}
 |cons o os=>
  unfold Aq.pack at hp
  cases hu:pkSl R st.fr sl with
  |none=>simp only[hu] at hp;cases hp
  |some x=>
   cases hs:pkOs R st.ob (o::os) with
   |none=>simp only[hu,hs] at hp;cases hp
   |some y=>
    simp only[hu,hs] at hp
    obtain rfl:=Qn hp
    exact {h with fr:=fun i v hv=>.of (wU hR h sl x hu i v hv),ob:=fun i v hv=>Cb hR h (o::os) y hs i v hv}
omit hR in
theorem Cc {e x:Ex} (h:exEq e x=true):e=x:=by
 cases e<;>cases x<;>simp only[exEq,P8] at h<;>first|rfl|rw[bB h]
omit hR in
def RO (st:MS R.T) (o:Nat):Prop:=∀x,look st.ob o=some x->isRo x=true
omit hR in
theorem wV {k:ObSk} {x:PayO R.T k} {y:Ob R.T} (hx:pkO R k y=some x) (hy:isRo y=true):False:=by
 cases y with
 |cells _=>cases hy
 |map _ _ _=>cases hy
 |smap _ _=>cases hy
 |arr _ _=>cases hy
 |sg _=>cases hy
 |gone=>cases k<;>cases hx
 |ro b=>cases k<;>cases hx
omit hR in
theorem Ce {i:Nat} (hr:RO st i):∀(l:List (Nat×ObSk)) (x:PayOs R.T l),pkOs R st.ob l=some x->look (upOs R l x) i=none
 | [],x,hx=>rfl
 | [(j,k)],x,hx=>by
   unfold pkOs at hx
   split at hx
   .rename_i y hy
    by_cases e:i=j
    .subst e;exact(wV hx (hr _ hy)).elim
    .show look [(j,upO R k x)] i=none
     rw[bg _ _ e];rfl
   .cases hx
 | (j,k)::q::l,x,hx=>by
   unfold pkOs at hx
   split at hx
   .rename_i y hy
    cases hu:pkO R k y with
    |none=>simp only[hu] at hx;cases hx
    |some z=>
     cases hs:pkOs R st.ob (q::l) with
     |none=>simp only[hu,hs] at hx;cases hx
     |some p=>
      simp only[hu,hs] at hx
      obtain rfl:=Qn hx
      show look ((j,upO R k z)::upOs R (q::l) p) i=none
      by_cases e:i=j
      .subst e;exact(wV hu (hr _ hy)).elim
      .rw[bg _ _ e];exact Ce hr (q::l) p hs
   .cases hx
omit hR in
theorem LV {s:Shape} {p:Pay R.T s} {i:Nat} (hp:Aq.pack R st s=some p) (hr:RO st i):look (unpack R s p).ob i=none:=by
 obtain⟨sl,ob⟩:=s
 cases ob with
 |nil=>rfl
 |cons o os=>
  unfold Aq.pack at hp
  cases hu:pkSl R st.fr sl with
  |none=>simp only[hu] at hp;cases hp
  |some x=>
   cases hs:pkOs R st.ob (o::os) with
   |none=>simp only[hu,hs] at hp;cases hp
   |some y=>
    simp only[hu,hs] at hp
    obtain rfl:=Qn hp
    exact Ce hr (o::os) y hs
omit hR
theorem jQ {U:Type}:∀(l m:List (Nat×U)) (i:Nat),look (l++m) i=match look l i with|some x=>some x|none=>look m i
 | [],m,i=>rfl
 | (j,x)::l,m,i=>by
   show (bif Nat.beq j i then some x else look (l++m) i)=match (bif Nat.beq j i then some x else look l i) with|some x=>some x|none=>look m i
   cases Nat.beq j i
   .exact jQ l m i
   .rfl
theorem aj.over {st':MS R.T} (h:aj Z b st fr Y) (h':aj Z b st' fr Y):aj Z b (st.over st') fr Y:={h with
 fr:=fun i v hv=>by
  have hv':look (st.fr++st'.fr) i=some v:=hv
  rw[jQ] at hv'
  split at hv'
  .rename_i x hx;cases hv';exact h.fr _ _ hx
  .exact h'.fr _ _ hv'
 ob:=fun i v hv=>by
  have hv':look (st.ob++st'.ob) i=some v:=hv
  rw[jQ] at hv'
  split at hv'
  .rename_i x hx;cases hv';exact h.ob _ _ hx
  .exact h'.ob _ _ hv'}
theorem jR {U:Type} {p:Nat->U->Bool} {f:U->U} {l:List (Nat×U)}:∀{is:List Nat} {i:Nat} {y:U},look (selF p f l is) i=some y->∃x,look l i=some x/\p i x=true/\y=f x
 | [],i,y,h=>by cases h
 |j::is,i,y,h=>by
  unfold selF at h
  split at h
  .rename_i x hx
   cases hp:p j x
   .rw[hp] at h;exact jR h
   .rw[hp,cond_true] at h
    by_cases e:i=j
    .subst e;rw[bP] at h;cases h;exact⟨x,hx,hp,rfl⟩
    .rw[bg _ _ e] at h;exact jR h
  .exact jR h
mutual
theorem Rl.solid {Z':ak} {top':Nat->Nat} {W:List Nat} (ho:∀o,memN o W=false->Z'.ob o=Z.ob o/\Z'.ln o=Z.ln o) (hx:Z'.om=Z.om):∀(x:TV R.T) (v:V),Aq.solid W x=true->Rl R Z top x v->Rl R Z' top' x v
 |.lst c t l,v,hs,h=>by
  obtain⟨c',hv,hc⟩:=h
  refine⟨c',hv,?_⟩
  cases c<;>first|exact hc| (simp[Aq.solid] at hs;done)
 |.ref o off,v,hs,h=>by
  obtain⟨s,h1,h2⟩:=h
  unfold Aq.solid at hs
  exact⟨s,by rw[(ho o (by simpa using hs)).1];exact h1,by rw[hx];exact h2⟩
 |.mapr o,v,hs,h=>by
  obtain⟨s,h1,h2⟩:=h
  unfold Aq.solid at hs
  exact⟨s,by rw[(ho o (by simpa using hs)).1];exact h1,by rw[hx];exact h2⟩
 |.vw o t,v,hs,h=>by
  unfold Aq.solid at hs
  obtain⟨k1,k2⟩:=ho o (by simpa using hs)
  rcases h with ⟨s,h1,h2⟩| ⟨h1,h2⟩
  .exact .inl ⟨s,by rw[k1];exact h1,by rw[k2,hx];exact h2⟩
  .exact .inr ⟨by rw[k2];exact h1,h2⟩
 |.sub o t a b,v,hs,h=>by
  unfold Aq.solid at hs
  obtain⟨k1,k2⟩:=ho o (by simpa using hs)
  obtain⟨g0,g1,g2,h⟩:=h
  refine⟨g0,g1,by rw[k2];exact g2,?_⟩
  rcases h with ⟨s,cp,h1,h2,h3⟩|h
  .exact .inl ⟨s,cp,by rw[k1];exact h1,h2,by rw[hx];exact h3⟩
  .exact .inr h
 |.eref o t i off,v,hs,h=>by
  obtain⟨s,h1,h2⟩:=h
  unfold Aq.solid at hs
  exact⟨s,by rw[(ho o (by simpa using hs)).1];exact h1,by rw[hx];exact h2⟩
 |.sv o _ _ _ _ _,v,hs,h=>by
  obtain⟨s,h1,h2⟩:=h
  unfold Aq.solid at hs
  exact⟨s,by rw[(ho o (by simpa using hs)).1];exact h1,by rw[hx];exact h2⟩
 |.sel o _ _ _ _ _,v,hs,h=>by
  obtain⟨s,h1,h2⟩:=h
  unfold Aq.solid at hs
  exact⟨s,by rw[(ho o (by simpa using hs)).1];exact h1,by rw[hx];exact h2⟩
 |.sg _,_,_,h=>h
 |.gel _ _ _ _,_,_,h=>h
 |.agg cs,v,hs,h=>by obtain⟨l,hv,hl⟩:=h;exact⟨l,hv,ah.solid ho hx cs l (by unfold Aq.solid at hs;exact hs) hl⟩
 |.tup cs,v,hs,h=>by obtain⟨l,hv,hl⟩:=h;exact⟨l,hv,ah.solid ho hx cs l (by unfold Aq.solid at hs;exact hs) hl⟩
 |.cref cs off,v,hs,h=>by obtain⟨l,hv,hl⟩:=h;exact⟨l,hv,ah.solid ho hx cs l (by unfold Aq.solid at hs;exact hs) hl⟩
 |.fn f a b,v,hs,h=>by
  obtain⟨a',b',hv,ha,hb⟩:=h
  unfold Aq.solid at hs
  rw[P6] at hs
  exact⟨a',b',hv,ah.solid ho hx a a' hs.1 ha,ah.solid ho hx b b' hs.2 hb⟩
 |.opt _ _ _,_,_,h=>h.elim
 |.int _ _,_,_,h=>h
 |.bool _,_,_,h=>h
 |.blit _,_,_,h=>h
 |.str _,_,_,h=>h
 |.nilp,_,_,h=>h
 |.nilf,_,_,h=>h
 |.nilm,_,_,h=>h
 |.nili,_,_,h=>h
 |.nils,_,_,h=>h
 |.mapc _ _ _,_,_,h=>h
 |.undef,_,_,h=>h
 |.gone,_,_,h=>trivial
theorem ah.solid {Z':ak} {top':Nat->Nat} {W:List Nat} (ho:∀o,memN o W=false->Z'.ob o=Z.ob o/\Z'.ln o=Z.ln o) (hx:Z'.om=Z.om):∀(x:List (TV R.T)) (v:List V),solidL W x=true->ah R Z top x v->ah R Z' top' x v
 | [],_,_,h=>h
 |x::xs,_,hs,⟨v,vs,e,h1,h2⟩=>by
  unfold solidL at hs
  rw[P6] at hs
  exact⟨v,vs,e,Rl.solid ho hx x v hs.1 h1,ah.solid ho hx xs vs hs.2 h2⟩
end
theorem LW {x:TV R.T} {v:V} (h:bK fr Z top x v):bK fr Z top (wkA x) v:=by
 cases x with
 |lst c t l=>
  cases c with
  |own u=>obtain⟨c',hv,_⟩:=Rl.dD (show Rl R Z top (.lst (.own u) t l) v from h);exact .of (x:=.lst .any t l) (by unfold Rl;exact⟨c',hv,trivial⟩)
  |_=>exact h
 |_=>exact h
theorem LX {W:List Nat} {x:TV R.T} {v:V} (hs:Aq.solid W x=true) (h:bK fr Z top x v):Rl R Z top x v:=by
 cases x<;>first|exact h| (simp[Aq.solid] at hs;done)
structure aB (nr:Bool) (o:Nat) (st:MS R.T) (Z:ak) (Y:Sig) (st':MS R.T) (Z':ak) (Y':Sig):Prop where
 ob:Z'.ob o=Z.ob o
 ln:Z'.ln o=Z.ln o
 om:Z'.om=Z.om
 nx:Y.next<=Y'.next
 lp:(∀l,l<Y.next->Y'.loops l=Y.loops l)/\∀s,s<Z.om.lo->Y'.top s=Y.top s
 dp:∀L,nr=true\/L.1<=Z.om.dp->Z.om.out L->Y'.obj L=Y.obj L
 ro:RO st o->RO st' o/\∀s,Y'.cellsAt (Z.om.lc o) s=Y.cellsAt (Z.om.lc o) s/\Y'.aZ (Z.om.lc o) s=Y.aZ (Z.om.lc o) s
structure Kp (nr:Bool) (W:List Nat) (st:MS R.T) (fr:Fr) (Y:Sig) (Z:ak) (st':MS R.T) (fr':Fr) (Y':Sig) (Z':ak):Prop where
 fr:∀i,memN i W=false->fr'.tm i=fr.tm i
 ob:∀o,memN o W=false->aB nr o st Z Y st' Z' Y'
section
variable {nr:Bool}
theorem wW {c:Cx} {o s:Nat} {x:AObj} {L:Loc} (h:c.out L):(Y.setObj (c.lc o) s x).obj L=Y.obj L:=by
 unfold Sig.setObj upd
 dsimp only
 rw[if_neg (h o)]
theorem LY {c:Cx} {o:Nat} {L:Loc} (h:c.out L):(Y.bI (c.lc o)).obj L=Y.obj L:=by
 unfold Sig.bI upd
 dsimp only
 rw[if_neg (h o)]
theorem Cx.Cg (c:Cx) {L:Loc} (h:c.dp<L.1):c.out L:=fun o e=>by
 have:=c.nE o
 rw[<-e] at this
 omega
theorem aB.refl {o:Nat}:aB nr o st Z Y st Z Y:=⟨rfl,rfl,rfl,mF _,⟨fun _ _=>rfl,fun _ _=>rfl⟩,fun _ _ _=>rfl,fun h=>⟨h,fun _=>⟨rfl,rfl⟩⟩⟩
theorem aB.trans {o:Nat} {st' bD:MS R.T} {Z' fG:ak} {Y' dF:Sig} (h:aB nr o st Z Y st' Z' Y') (g:aB nr o st' Z' Y' bD fG dF):aB nr o st Z Y bD fG dF:=
 ⟨g.ob.trans h.ob,g.ln.trans h.ln,g.om.trans h.om,P7 h.nx g.nx,⟨fun l hl=>(g.lp.1 l (Qg hl h.nx)).trans (h.lp.1 l hl),fun s hs=>(g.lp.2 s (by rw[h.om];exact hs)).trans (h.lp.2 s hs)⟩,fun L hn hL=>(g.dp L (by rw[h.om];exact hn) (by rw[h.om];exact hL)).trans (h.dp L hn hL),fun hr=>by
   have g':=fun hr=>g.ro hr
   rw[h.om] at g'
   exact⟨(g' (h.ro hr).1).1,fun s=>⟨((g' (h.ro hr).1).2 s).1.trans ((h.ro hr).2 s).1,((g' (h.ro hr).1).2 s).2.trans ((h.ro hr).2 s).2⟩⟩⟩
theorem Kp.refl {W:List Nat}:Kp nr W st fr Y Z st fr Y Z:=⟨fun _ _=>rfl,fun _ _=>.refl⟩
theorem Kp.trans {W:List Nat} {st' bD:MS R.T} {fr' kL:Fr} {Z' fG:ak} {Y' dF:Sig} (h:Kp nr W st fr Y Z st' fr' Y' Z') (g:Kp nr W st' fr' Y' Z' bD kL dF fG):Kp nr W st fr Y Z bD kL dF fG:=
 ⟨fun i hi=>(g.fr i hi).trans (h.fr i hi),fun o ho=>(h.ob o ho).trans (g.ob o ho)⟩
theorem Kp.mono {W W':List Nat} {st':MS R.T} {fr':Fr} {Z':ak} {Y':Sig} (h:Kp nr W st fr Y Z st' fr' Y' Z') (hw:∀i,memN i W'=false->memN i W=false):Kp nr W' st fr Y Z st' fr' Y' Z':=
 ⟨fun i hi=>h.fr i (hw i hi),fun o ho=>h.ob o (hw o ho)⟩
theorem p9:∀(i:Nat) (l m:List Nat),memN i (l++m)=(memN i l||memN i m)
 |i,[],m=>rfl
 |i,j::l,m=>by show (Nat.beq i j||memN i (l++m))=_;rw[p9 i l m,<-Bool.or_assoc];rfl
theorem Ch {o:Nat} {Z':ak} {Y':Sig} {W:List Nat} (ho:∀o,memN o W=false->Z'.ob o=Z.ob o/\Z'.ln o=Z.ln o) (hx:Z'.om=Z.om) (hm:memN o W=false) (hc:∀s,Y'.cellsAt (Z.om.lc o) s=Y.cellsAt (Z.om.lc o) s/\Y'.aZ (Z.om.lc o) s=Y.aZ (Z.om.lc o) s):∀{x:Ob R.T},solidO W x=true->aQ Z Y o x->aQ Z' Y' o x
 |.cells cs,hs,h=>by
  obtain⟨s,l,h1,h2,h3⟩:=h
  exact⟨s,l,by rw[(ho o hm).1];exact h1,by rw[hx,(hc s).1];exact h2,ah.solid ho hx cs l hs h3⟩
 |.map k e m,_,h=>by obtain⟨s,h1,h2⟩:=h;exact⟨s,by rw[(ho o hm).1];exact h1,by rw[hx,(hc s).2];exact h2⟩
 |.smap ks vs,hs,h=>by
  obtain⟨s,k,l,h1,h2,h3,h4⟩:=h
  have hs':(solidL W ks&& solidL W vs)=true:=hs
  rw[P6] at hs'
  exact⟨s,k,l,by rw[(ho o hm).1];exact h1,by rw[hx,(hc s).2];exact h2,ah.solid ho hx ks k hs'.1 h3,ah.solid ho hx vs l hs'.2 h4⟩
 |.arr t l,_,h=>by
  refine⟨h.1.trans (ho o hm).2.symm,?_⟩
  rcases h.2 with h| ⟨s,cs,h1,h2,h3⟩
  .exact .inl ⟨h.1,(ho o hm).1.trans h.2⟩
  .exact .inr ⟨s,cs,by rw[(ho o hm).1];exact h1,by rw[hx,(hc s).1];exact h2,iT l cs h3⟩
 |.sg ss,_,h=>by obtain⟨s,h1,h2⟩:=h;exact⟨s,by rw[(ho o hm).1];exact h1,by rw[hx,(hc s).1];exact h2⟩
 |.gone,_,_=>trivial
 |.ro b,hs,h=>Ch ho hx hm hc (x:=b) hs h
theorem lZ:∀W:List Nat,∃n,∀m,n<=m->memN m W=false
 | []=>⟨0,fun _ _=>rfl⟩
 |i::W=>by
  obtain⟨n,hn⟩:=lZ W
  refine⟨n+i+1,fun m hm=>?_⟩
  show (Nat.beq m i||memN m W)=false
  rw[rV (by omega),hn m (by omega)];rfl
theorem Kp.om {W:List Nat} {st':MS R.T} {fr':Fr} {Z':ak} {Y':Sig} (h:Kp nr W st fr Y Z st' fr' Y' Z'):Z'.om=Z.om:=by
 obtain⟨n,hn⟩:=lZ W
 exact(h.ob n (hn n (mF _))).om
theorem aj.base {W K O:List Nat} {mark:Ob R.T->Ob R.T} (hmark:∀Z Y o x,aQ Z Y o x->aQ (R:=R) Z Y o (mark x)) {st0 st' bD:MS R.T} {fr':Fr} {Z':ak} {Y':Sig} {b':Nat} (h:aj Z b st fr Y) (hk:Kp nr W st0 fr Y Z st' fr' Y' Z') (h':aj Z' b' bD fr' Y')
 (hro:∀o x,look st.ob o=some x->memN o W=false->memN o O=true->solidO W x=true->RO st0 o):aj Z' b' (Aq.base W K O mark st) fr' Y':={h' with
 fr:=fun i v hv=>by
  obtain⟨x,h1,h2,rfl⟩:=jR hv
  rw[P6,QN] at h2
  have:=LX h2.2 (LW (h.fr _ _ h1))
  rw[hk.fr i h2.1]
  exact .of (Rl.solid (fun o ho=>⟨(hk.ob o ho).ob,(hk.ob o ho).ln⟩) hk.om _ _ h2.2 this)
 ob:=fun o y hy=>by
  have hO:memN o O=true:=by
   have:∀{is:List Nat} {y:Ob R.T},look (selF (fun o b=>!(memN o W)&& solidO W b) mark st.ob is) o=some y->memN o is=true:=by
    intro is
    induction is with
    |nil=>intro y h;cases h
    |cons j is ih=>
     intro y h
     show (Nat.beq o j||memN o is)=true
     unfold selF at h
     by_cases e:o=j
     .subst e;rw[QH];rfl
     .split at h
      .rename_i x hx
       cases hp:(!(memN j W)&& solidO W x)
       .rw[hp] at h;rw[ih h,Bool.or_true]
       .rw[hp,cond_true,bg _ _ e] at h;rw[ih h,Bool.or_true]
      .rw[ih h,Bool.or_true]
   exact this hy
  obtain⟨x,h1,h2,rfl⟩:=jR hy
  rw[P6,QN] at h2
  have hc:=((hk.ob o h2.1).ro (hro o x h1 h2.1 hO h2.2)).2
  exact hmark _ _ _ _ (Ch (fun o ho=>⟨(hk.ob o ho).ob,(hk.ob o ho).ln⟩) hk.om h2.1 hc h2.2 (h.ob _ _ h1))}
theorem wX {W K O:List Nat} {st':MS R.T} {o:Nat} {x:Ob R.T} (h1:look st.ob o=some x) (h2:memN o W=false) (h3:memN o O=true) (h4:solidO W x=true):RO ((Aq.base W K O .ro st).over st') o:=by
 intro y hy
 have hl:∃z,look (selF (fun o b=>!(memN o W)&& solidO W b) Ob.ro st.ob O) o=some (.ro z):=by
  have:∀is:List Nat,memN o is=true->∃z,look (selF (fun o b=>!(memN o W)&& solidO W b) Ob.ro st.ob is) o=some (.ro z):=by
   intro is
   induction is with
   |nil=>intro h;cases h
   |cons j is ih=>
    intro h
    by_cases e:o=j
    .subst e
     unfold selF
     rw[h1]
     dsimp only
     rw[h2,h4]
     exact⟨x,bP _ _ _⟩
    .have h':(Nat.beq o j||memN o is)=true:=h
     rw[rV e,Bool.false_or] at h'
     obtain⟨z,hz⟩:=ih h'
     refine⟨z,?_⟩
     unfold selF
     split
     .rename_i w hw
      cases (!(memN j W)&& solidO W w)
      .exact hz
      .rw[cond_true,bg _ _ e];exact hz
     .exact hz
  exact this O h3
 obtain⟨z,hz⟩:=hl
 have hy':look (selF (fun o b=>!(memN o W)&& solidO W b) Ob.ro st.ob O++st'.ob) o=some y:=hy
 rw[jQ,hz] at hy'
 cases hy';rfl
theorem LZ {t:Nat}:∀{x:Ob R.T},isRo x=true->isRo (Ob.wk t x)=true
 |.ro _,_=>rfl
 |.gone,_=>rfl
 |.cells _,h=>by cases h
 |.map _ _ _,h=>by cases h
 |.smap _ _,h=>by cases h
 |.arr _ _,h=>by cases h
theorem Ci {t:Nat} {x:Ob R.T} (h:isRo x=true):isRo (Ob.kill t x)=true:=by
 have e:Ob.kill t x=bif Ob.ment t x then .gone else x:=by cases x<;>first|rfl|cases h
 rw[e]
 cases Ob.ment t x
 .exact h
 .rfl
theorem aB.wk {p t s n:Nat} (hl:Z.om.lo<=s):aB nr p st Z Y (st.wk t) (Z.bT t s) (Y.setTop s n):=⟨rfl,rfl,rfl,mF _,⟨fun _ _=>rfl,fun s' hs'=>top_setTop_ne _ _ (by omega)⟩,fun _ _ _=>rfl,fun hr=>⟨fun x hx=>by
 have hx':look (mapF (Ob.wk t) st.ob) p=some x:=hx
 rw[gZ,PZ] at hx'
 obtain⟨z,hz,rfl⟩:=hx'
 exact LZ (hr z hz),fun _=>⟨rfl,rfl⟩⟩⟩
theorem aB.set {o q s:Nat} {x y:Ob R.T} {a:AObj} (hl:look st.ob o=some y) (hy:isRo y=false):aB nr q st Z Y (st.set o x) Z (Y.setObj (Z.om.lc o) s a):=⟨rfl,rfl,rfl,mF _,⟨fun _ _=>rfl,fun _ _=>rfl⟩,fun _ _ hL=>wW hL,fun hr=>by
 have hne:q≠o:=by rintro rfl;rw[hr y hl] at hy;cases hy
 refine⟨fun z hz=>?_,fun s'=>⟨jO _ _ _ _ hne,nL _ _ _ _ hne⟩⟩
 have hz':look ((o,x)::delF o st.ob) q=some z:=hz
 rw[bg _ _ hne,fu hne] at hz'
 exact hr z hz'⟩
theorem aB.new {o q s:Nat} {x:Ob R.T} {a:AObj} (hne:q≠o):aB nr q st Z Y (st.new o x) (Z.dO o s) (Y.setObj (Z.om.lc o) s a):=⟨by simp[ak.dO,upd,hne],rfl,rfl,mF _,⟨fun _ _=>rfl,fun _ _=>rfl⟩,fun _ _ hL=>wW hL,fun hr=>by
 refine⟨fun z hz=>?_,fun s'=>⟨jO _ _ _ _ hne,nL _ _ _ _ hne⟩⟩
 have hz':look ((o,x)::mapF (Ob.kill o) (delF o st.ob)) q=some z:=hz
 rw[bg _ _ hne,gZ,fu hne,PZ] at hz'
 obtain⟨w,hw,rfl⟩:=hz'
 exact Ci (hr w hw)⟩
theorem dP {d:Option Nat} {v:TV R.T}:(st.putO d v).ob=st.ob:=by cases d<;>rfl
theorem aB.same {st':MS R.T} {o:Nat} (h:st'.ob=st.ob):aB nr o st Z Y st' Z Y:=⟨rfl,rfl,rfl,mF _,⟨fun _ _=>rfl,fun _ _=>rfl⟩,fun _ _ _=>rfl,fun hr=>⟨fun x hx=>hr x (by rw[<-h];exact hx),fun _=>⟨rfl,rfl⟩⟩⟩
theorem aB.congr {st' bD:MS R.T} {Z':ak} {Y':Sig} {o:Nat} (h:aB nr o st Z Y st' Z' Y') (e:bD.ob=st'.ob):aB nr o st Z Y bD Z' Y':=⟨h.ob,h.ln,h.om,h.nx,h.lp,h.dp,fun hr=>⟨fun x hx=>(h.ro hr).1 x (by rw[<-e];exact hx),(h.ro hr).2⟩⟩
theorem aB.from {st' bD:MS R.T} {Z':ak} {Y':Sig} {o:Nat} (h:aB nr o st Z Y st' Z' Y') (e:st.ob=bD.ob):aB nr o bD Z Y st' Z' Y':=⟨h.ob,h.ln,h.om,h.nx,h.lp,h.dp,fun hr=>h.ro fun x hx=>hr x (by rw[<-e];exact hx)⟩
theorem Kp.op {d:Option Nat} {W:List Nat} {y:V} {st':MS R.T} {Z':ak} {Y':Sig} {Q:Nat->Prop} (hd:∀p,memN p W=false->d≠some p/\Q p) (h:∀p,Q p->aB nr p st Z Y st' Z' Y'):Kp nr W st fr Y Z st' (fr.put d y) Y' Z':=
 ⟨fun i hi=>by
   cases d with
   |none=>rfl
   |some j=>exact set_ne _ _ (by have:=(hd i hi).1;simp at this;simpa using fun e=>this e.symm),fun p hp=>h p (hd p hp).2⟩
theorem Cj {W K O:List Nat} {st':MS R.T} {o:Nat} (h:look st'.ob o=none):RO ((Aq.base W K O .ro st).over st') o:=by
 intro y hy
 have hy':look (selF (fun o b=>!(memN o W)&& solidO W b) Ob.ro st.ob O++st'.ob) o=some y:=hy
 rw[jQ] at hy'
 split at hy'
 .rename_i x hx
  cases hy'
  obtain⟨z,_,_,rfl⟩:=jR hx
  rfl
 .rw[h] at hy';cases hy'
theorem rY {st':MS R.T} {o:Nat} (h1:RO st o) (h2:RO st' o):RO (st.over st') o:=by
 intro y hy
 have hy':look (st.ob++st'.ob) o=some y:=hy
 rw[jQ] at hy'
 split at hy'
 .rename_i x hx;cases hy';exact h1 _ hx
 .exact h2 _ hy'
theorem Ck {W K O:List Nat} {mark:Ob R.T->Ob R.T} {o:Nat} (hm:∀x,isRo x=true->isRo (mark x)=true) (h:RO st o):RO (Aq.base W K O mark st) o:=by
 intro y hy
 obtain⟨x,h1,_,rfl⟩:=jR hy
 exact hm _ (h _ h1)
theorem finish {W K O:List Nat} {H S' bD:MS R.T} {fr':Fr} {Z':ak} {Y':Sig} {b':Nat} (hi:aj Z b st fr Y) (hH:∀o,memN o W=false->RO st o->RO H o) (hro:∀o x,look st.ob o=some x->memN o W=false->memN o O=true->solidO W x=true->RO H o)
 (hk:Kp nr W H fr Y Z S' fr' Y' Z') (hi':aj Z' b' bD fr' Y') (hn:∀o,memN o W=false->RO H o->look bD.ob o=none):
 aj Z' b' ((Aq.base W K O (fun b=>b) st).over bD) fr' Y'/\Kp nr W st fr Y Z ((Aq.base W K O (fun b=>b) st).over bD) fr' Y' Z':=by
 have hk2:Kp nr W H fr Y Z bD fr' Y' Z':=⟨hk.fr,fun o ho=>⟨(hk.ob o ho).ob,(hk.ob o ho).ln,(hk.ob o ho).om,(hk.ob o ho).nx,(hk.ob o ho).lp,(hk.ob o ho).dp,fun hr=>⟨fun x hx=>(by rw[hn o ho hr] at hx;cases hx),((hk.ob o ho).ro hr).2⟩⟩⟩
 refine⟨(hi.base (fun _ _ _ _ h=>h) hk2 hi' hro).over hi',hk.fr,fun o ho=>⟨(hk.ob o ho).ob,(hk.ob o ho).ln,(hk.ob o ho).om,(hk.ob o ho).nx,(hk.ob o ho).lp,(hk.ob o ho).dp,fun hr=>⟨?_,((hk.ob o ho).ro (hH o ho hr)).2⟩⟩⟩
 exact rY (Ck (fun _ h=>h) hr) fun x hx=>(by rw[hn o ho (hH o ho hr)] at hx;cases hx)
theorem Cm {x:TV R.T} {v:V} (hx:isE x=true) (h:bK fr Z top x v):v= .lst .nil []\/v= .lst .full []:=by
 cases x<;>first| (cases hx;done)|skip
 .exact .inl (Rl.jh (R:=R) (show Rl R Z top .nils v from h))
 .rename_i c t l
  obtain⟨c',hv,hc⟩:=Rl.dD (R:=R) (show Rl R Z top (.lst c t l) v from h)
  cases c<;>first| (cases hx;done)|skip
  .have:l=[]:=by simpa [isE] using hx
   subst this
   have hc':c'= .nil:=hc
   rw[hc'] at hv;exact .inl hv
  .have:l=[]:=by simpa [isE] using hx
   subst this
   have hc':c'= .full:=hc
   rw[hc'] at hv;exact .inr hv
theorem qb {W:List Nat}:∀(l:List (Nat×Sk)) (st:MS R.T) (Z:ak),aj Z b st fr Y->∃Z',aj Z' b (prepS W l st) fr Y/\Kp nr W st fr Y Z (prepS W l st) fr Y Z'
 | [],st,Z,h=>⟨Z,h,.refl⟩
 | (i,k)::l,st,Z,h=>by
   have other:prepS W ((i,k)::l) st=prepS W l st->∃Z',aj Z' b (prepS W ((i,k)::l) st) fr Y/\Kp nr W st fr Y Z (prepS W ((i,k)::l) st) fr Y Z':=fun e=>by
    rw[e];exact qb l st Z h
   cases k<;>first|exact other rfl|skip
   rename_i o t
   unfold prepS
   split
   .rename_i v hv
    cases hb:(isE v&& memN o W)
    .exact qb l st Z h
    .rw[cond_true]
     rw[P6] at hb
     have hg:=h.ghost o t
     have hE:=Cm hb.1 (h.fr _ _ hv)
     have wY:aj (Z.gh o) b (⟨(i,.vw o t)::(st.new o (.arr t [])).fr,(st.new o (.arr t [])).ob⟩:MS R.T) fr Y:={hg with
      fr:=fun j y hy=>by
       by_cases e:j=i
       .subst e
        have hy':look ((j,TV.vw o t)::(st.new o (.arr t [])).fr) j=some y:=hy
        rw[bP] at hy';cases hy'
        exact .of (by unfold Rl;exact .inr ⟨kJ (Z:=Z) (n:=0),hE⟩)
       .have hy':look ((i,TV.vw o t)::(st.new o (.arr t [])).fr) j=some y:=hy
        rw[bg _ _ e] at hy'
        exact hg.fr j y hy'
      ob:=hg.ob}
     obtain⟨Z',h1,h2⟩:=qb (W:=W) l _ _ wY
     refine⟨Z',h1,Kp.trans ⟨fun _ _=>rfl,fun p hp=>?_⟩ h2⟩
     have hne:p≠o:=by rintro rfl;rw[hb.2] at hp;cases hp
     refine⟨(ji p hne).1,(ji p hne).2,rfl,mF _,⟨fun _ _=>rfl,fun _ _=>rfl⟩,fun _ _ _=>rfl,fun hr=>⟨fun x hx=>?_,fun _=>⟨rfl,rfl⟩⟩⟩
     have hx':look ((o,Ob.arr t [])::mapF (Ob.kill o) (delF o st.ob)) p=some x:=hx
     rw[bg _ _ hne,gZ,fu hne,PZ] at hx'
     obtain⟨w,hw,rfl⟩:=hx'
     exact Ci (hr w hw)
   .exact qb l st Z h
section
variable (hR:RegOK R)
include hR
omit hR in
theorem Cn {W:List Nat}:∀{l:List (Nat×Sk)},st.fr=[]->prepS W l st=st
 | [],_=>rfl
 | (i,k)::l,h=>by
   have:=Cn (W:=W) (l:=l) h
   cases k<;>first|exact this|skip
   unfold prepS
   rw[h];exact this
omit hR in
theorem Co:∀{l:List (Nat×Sk)} {p:PaySl R.T l},pkSl R [] l=some p->l=[]
 | [],_,_=>rfl
 | [(i,k)],p,h=>by cases h
 | (i,k)::q::l,p,h=>by cases h
omit hR in
theorem L6 {W:List Nat} (he:st.fr=[]) {s:Shape} {p:Pay R.T s} (hp:Aq.packW R W st s=some p):(unpack R s p).fr=[]:=by
 unfold Aq.packW at hp
 rw[Cn he] at hp
 obtain⟨sl,ob⟩:=s
 cases ob with
 |nil=>
  have hp':pkSl R st.fr sl=some p:=hp
  rw[he] at hp'
  have:=Co hp'
  subst this;rfl
 |cons o os=>
  unfold Aq.pack at hp
  rw[he] at hp
  cases hu:pkSl R [] sl with
  |none=>simp only[hu] at hp;cases hp
  |some x=>
   have:=Co hu
   subst this;rfl
theorem aj.packW {W:List Nat} (h:aj Z b st fr Y) {s:Shape} {p:Pay R.T s} (hp:Aq.packW R W st s=some p):∃Z' S',aj Z' b (unpack R s p) fr Y/\Kp nr W st fr Y Z S' fr Y Z'/\(st.fr=[]->(unpack R s p).fr=[])/\∀i,memN i W=false->RO st i->look (unpack R s p).ob i=none:=by
 obtain⟨Z',h1,h2⟩:=qb (W:=W) s.sl st Z h
 exact⟨Z',_,h1.pack hR hp,h2,fun he=>L6 he hp,fun i hi hr=>LV hp ((h2.ob i hi).ro hr).1⟩
theorem nO {β:Type} {W:List Nat} (h:aj Z b st fr Y) {e:Ex}:∀{l:List (Ex×Shape)} {o:Out R.T l},packOut R W e st l=some o->∃Z' S' st',aj Z' b st' fr Y/\Kp nr W st fr Y Z S' fr Y Z'/\(st.fr=[]->st'.fr=[])/\(∀i,memN i W=false->RO st i->look st'.ob i=none)/\∀(k:Ex->MS R.T->Option β) (bs:MS R.T),unpackOut R bs k l o=k e (bs.over st')
 | [],o,hp=>by cases hp
 | [(x,s)],o,hp=>by
   have hp':(bif exEq e x then Aq.packW R W st s else none)=some o:=hp
   cases hb:exEq e x
   .rw[hb] at hp';cases hp'
   .rw[hb,cond_true] at hp'
    have:=Cc hb;subst this
    obtain⟨Z',S',h1,h2,h0,h3⟩:=h.packW hR hp'
    exact⟨Z',S',_,h1,h2,h0,h3,fun k bs=>rfl⟩
 | (x,s)::q::l,o,hp=>by
   unfold packOut at hp
   cases hb:exEq e x
   .rw[hb,cond_false] at hp
    cases hu:packOut R W e st (q::l) with
    |none=>simp only[hu] at hp;cases hp
    |some y=>
     simp only[hu] at hp
     obtain rfl:=Qn hp
     obtain⟨Z',S',st',h1,h3,h0,h4,h2⟩:=nO (β:=β) h hu
     exact⟨Z',S',st',h1,h3,h0,h4,fun k bs=>h2 k bs⟩
   .rw[hb,cond_true] at hp
    have:=Cc hb;subst this
    cases hu:Aq.packW R W st s with
    |none=>simp only[hu] at hp;cases hp
    |some y=>
     simp only[hu] at hp
     obtain rfl:=Qn hp
     obtain⟨Z',S',h1,h2,h0,h3⟩:=h.packW hR hu
     exact⟨Z',S',_,h1,h2,h0,h3,fun k bs=>rfl⟩
end
end
end
end Aq
end
section
namespace Aq
open Go
def ND (E:Env) (o:Oper) (p:Nat):Prop:=o.dst≠some p/\∀d,o.dst=some d->E.cn d≠p
section
variable {R:Reg} {E:Env}
variable {Z:ak} {b:Nat} {st:MS R.T} {fr:Fr} {Y:Sig}
def iV (E:Env) (fr:Fr) (o:Oper):Bool:=match o.op with
 |.call c=>match c.callee with
  |.value f=>eO E fr o f
  |_=>false
 |_=>false
def dG (E:Env) (fr:Fr) (Y:Sig) (stp:Nat) (o:Oper) (x:V) (Y':Sig):Prop:=
 (iV E fr o=false->∀all os Q,aO all fr o=some true->OW E all (stp+1) os (fr.put o.dst x) Y' Q->OW E all stp (o::os) fr Y Q)/\
 (iV E fr o=false->∀ms all os fs Q,aO all fr o=some true->aN E ms all (stp+1) os (fr.put o.dst x) Y' (fs++[aX E all fr o true]) Q->aN E ms all stp (o::os) fr Y fs Q)
theorem dG.of {stp:Nat} {o:Oper} {x:V} {Y':Sig} (h:∀S,opC E S fr Y stp o=some (x,fr,Y')):dG E fr Y stp o x Y':=
 ⟨fun _ _ _ _ hw h'=>OW.op hw h h',fun _ _ _ _ _ _ hw h'=>aN.op hw h h'⟩
theorem L8 {S:Evl} {stp:Nat} {o:Oper} {x:V} {Y':Sig} (h:aF E fr Y stp o=some (x,Y')):opC E S fr Y stp o=some (x,fr,Y'):=by
 unfold opC
 split
 .rename_i c hc;unfold aF at h;rw[hc] at h;cases h
 .rename_i c hc;unfold aF at h;rw[hc] at h;cases h
 .rw[h];rfl
theorem Cq {o:Oper} {c:Call} {f:Operand} {g:FuncId} {a b:List V} (ho:o.op= .call c) (bH:c.callee= .value f) (hf:fr.ev E f= .fn (.func g) a b) (h:iV E fr o=false):∀d,o.dst=some d->E.own g d=false:=by
 intro d hd
 unfold iV at h
 rw[ho] at h
 dsimp only at h
 rw[bH] at h
 dsimp only at h
 unfold eO at h
 rw[hf,hd] at h
 exact h
theorem dG.dx {stp:Nat} {o:Oper} {x:V} {Y':Sig} (h:aF E fr Y stp o=some (x,Y')):dG E fr Y stp o x Y':=.of fun S=>L8 h
def fA (E:Env) (st:MS R.T) (Z:ak) (stp:Nat) (fr:Fr) (Y:Sig) (o:Oper):Res R->Prop
 |.t v=>∃x,dG E fr Y stp o x Y/\Rl R Z Y.top v x
 |.c c v=>c=true->∃x,dG E fr Y stp o x Y/\Rl R Z Y.top v x
 |.w v st'=>∃x Y' Z',dG E fr Y stp o x Y'/\aj Z' (stp+1) st' fr Y'/\Y'.next=Y.next/\Rl R Z' Y'.top v x/\∀p,ND E o p->aB true p st Z Y st' Z' Y'
 |.wc c v st'=>c=true->∃x Y' Z',dG E fr Y stp o x Y'/\aj Z' (stp+1) st' fr Y'/\Y'.next=Y.next/\Rl R Z' Y'.top v x/\∀p,ND E o p->aB true p st Z Y st' Z' Y'
 |.p _ _ o' f=>∀a,o'=some a->∃x,dG E fr Y stp o x Y/\Rl R Z Y.top (f a) x
theorem gK {top:Nat->Nat} {x:TV R.T} {v:V} (hg:notG x=true) (h:Rl R Z top x v):ah R Z top x.cells v.cells/\notRaw v=true:=by
 cases x with
 |agg cs=>obtain⟨l,rfl,hl⟩:=h.dn;exact⟨hl,rfl⟩
 |int k n=>rw[h.bZ];exact⟨.cons' (by unfold Rl;rfl) rfl,rfl⟩
 |bool b=>rw[h.fq];exact⟨.cons' (by unfold Rl;rfl) rfl,rfl⟩
 |blit b=>rw[h.gG];exact⟨.cons' (by unfold Rl;rfl) rfl,rfl⟩
 |str b=>rw[h.dN];exact⟨.cons' (by unfold Rl;rfl) rfl,rfl⟩
 |nils=>rw[h.jh];exact⟨.cons' (by unfold Rl;rfl) rfl,rfl⟩
 |tup cs=>obtain⟨l,rfl,hl⟩:=h.nH;exact⟨.cons' h rfl,rfl⟩
 |lst c t l=>obtain⟨c',rfl,hl⟩:=h.dD;exact⟨.cons' h rfl,rfl⟩
 |ref o off=>obtain⟨s,hs,rfl⟩:=h.iQ;exact⟨.cons' h rfl,rfl⟩
 |cref o off=>obtain⟨s,rfl,hs⟩:=h.gH;exact⟨.cons' h rfl,rfl⟩
 |mapr o=>obtain⟨s,hs,rfl⟩:=h.jM;exact⟨.cons' h rfl,rfl⟩
 |mapc k e m=>have:=h.kG;subst this;exact⟨.cons' h rfl,rfl⟩
 |fn f a b=>obtain⟨a',b',rfl,_⟩:=h.dW;exact⟨.cons' h rfl,rfl⟩
 |undef=>have:=h.Bv;subst this;exact⟨.cons' h rfl,rfl⟩
 |vw o t=>rcases h.jN with ⟨s,_,rfl⟩| ⟨_,rfl|rfl⟩<;>exact⟨.cons' h rfl,rfl⟩
 |sub o t a b=>rcases h.kH with ⟨_,_,_,⟨s,cp,_,_,rfl⟩| ⟨_,c,rfl⟩⟩<;>exact⟨.cons' h rfl,rfl⟩
 |eref o t i off=>obtain⟨s,_,_,rfl⟩:=h.lV;exact⟨.cons' h rfl,rfl⟩
 |sv o off k n lo hi=>obtain⟨s,_,_,rfl⟩:=h.rQ;exact⟨.cons' h rfl,rfl⟩
 |sel o off k n i m=>obtain⟨s,_,_,_,rfl⟩:=h.wH;exact⟨.cons' h rfl,rfl⟩
 |gel k n y i=>obtain⟨_,_,rfl⟩:=h.wI;exact⟨.cons' h rfl,rfl⟩
 |sg _=>cases hg
 |nilp=>have h':=h;unfold Rl at h';subst h';exact⟨.cons' h rfl,rfl⟩
 |nilf=>have h':=h;unfold Rl at h';subst h';exact⟨.cons' h rfl,rfl⟩
 |nilm=>have h':=h;unfold Rl at h';subst h';exact⟨.cons' h rfl,rfl⟩
 |nili=>have h':=h;unfold Rl at h';subst h';exact⟨.cons' h rfl,rfl⟩
 |opt j w y=>cases hg
 |gone=>cases hg
theorem L9 {top:Nat->Nat} {x:TV R.T} {v:V} (hg:oneM x=true) (h:Rl R Z top x v):oneCell v=true:=by
 cases x with
 |agg cs=>cases hg
 |int k n=>rw[h.bZ];rfl
 |bool b=>rw[h.fq];rfl
 |blit b=>rw[h.gG];rfl
 |str b=>rw[h.dN];rfl
 |nils=>rw[h.jh];rfl
 |tup cs=>cases hg
 |lst c t l=>obtain⟨c',rfl,hl⟩:=h.dD;rfl
 |ref o off=>obtain⟨s,hs,rfl⟩:=h.iQ;rfl
 |cref o off=>obtain⟨s,rfl,hs⟩:=h.gH;rfl
 |mapr o=>obtain⟨s,hs,rfl⟩:=h.jM;rfl
 |mapc k e m=>have:=h.kG;subst this;rfl
 |fn f a b=>obtain⟨a',b',rfl,_⟩:=h.dW;rfl
 |undef=>cases hg
 |vw o t=>rcases h.jN with ⟨s,_,rfl⟩| ⟨_,rfl|rfl⟩<;>rfl
 |sub o t a b=>rcases h.kH with ⟨_,_,_,⟨s,cp,_,_,rfl⟩| ⟨_,c,rfl⟩⟩<;>rfl
 |eref o t i off=>obtain⟨s,_,_,rfl⟩:=h.lV;rfl
 |sv o off k n lo hi=>obtain⟨s,_,_,rfl⟩:=h.rQ;rfl
 |sel o off k n i m=>obtain⟨s,_,_,_,rfl⟩:=h.wH;rfl
 |gel k n y i=>obtain⟨_,_,rfl⟩:=h.wI;rfl
 |sg _=>cases hg
 |nilp=>unfold Rl at h;subst h;rfl
 |nilf=>unfold Rl at h;subst h;rfl
 |nilm=>unfold Rl at h;subst h;rfl
 |nili=>unfold Rl at h;subst h;rfl
 |opt j w y=>cases hg
 |gone=>cases hg
theorem nP {top:Nat->Nat}:∀{x:List (TV R.T)} {v:List V},oneMs x=true->ah R Z top x v->oneCells v=true
 | [],v,_,h=>by rw[h.bA];rfl
 |x::xs,v,hg,h=>by
  obtain⟨y,ys,rfl,h1,h2⟩:=h.aS
  unfold oneMs at hg
  rw[P6] at hg
  rw[Bp,L9 hg.1 h1,nP hg.2 h2];rfl
theorem Ma {top:Nat->Nat} {ag:Bool} {n off:Nat} {cs:List (TV R.T)} {l:List V} {x:TV R.T} (h:ah R Z top cs l) (hp:partM ag n cs off=some x):∃v,jv ag n l off=some v/\Rl R Z top x v:=by
 cases ag with
 |true=>
  have hp':(bif Nat.ble (off+n) cs.length then some (TV.agg ((cs.drop off).take n)) else none)=some x:=hp
  cases hb:Nat.ble (off+n) cs.length
  .rw[hb] at hp';cases hp'
  .rw[hb] at hp';cases hp'
   have hle:=QC hb
   refine⟨.agg ((l.drop off).take n),?_,by unfold Rl;exact⟨_,rfl,(h.drop off).take n⟩⟩
   unfold jv;rw[if_pos rfl,if_pos (by rw[h.length];exact hle)]
 |false=>
  obtain⟨v,h1,h2⟩:=h.get (show cs[off]? =some x from hp)
  exact⟨v,by unfold jv;simpa using h1,h2⟩
theorem jS {top:Nat->Nat} {t:TypeId} {off:Nat} {cs:List (TV R.T)} {l:List V} {x:TV R.T} (h:ah R Z top cs l) (hp:ldM E t cs off=some x):∃v,ldT E.P t l off=some v/\Rl R Z top x v:=by
 unfold ldM at hp
 cases h1:isAggT E.P t with
 |none=>simp only[h1] at hp;cases hp
 |some a=>
  cases h2:szT E.P t with
  |none=>simp only[h1,h2] at hp;cases hp
  |some n=>
   simp only[h1,h2] at hp
   unfold ldT;rw[h1,h2];exact Ma h hp
theorem wZ {top:Nat->Nat} {cs vs:List (TV R.T)} {l k:List V} (off:Nat) (h:ah R Z top cs l) (h':ah R Z top vs k):ah R Z top (spliceM cs off vs) (spliceL l off k):=by
 unfold spliceM spliceL
 rw[h'.length]
 exact((h.take off).append h').append (h.drop _)
theorem qc {top:Nat->Nat} {t:TypeId} {z:TV R.T} (h:zeroM E t=some z):∃v,zeroT E.P t=some v/\Rl R Z top z v:=by
 unfold zeroM at h
 unfold zeroT
 cases h1:E.P.info? t with
 |none=>simp only[h1] at h;cases h
 |some i=>
  cases h2:i.zero with
  |none=>simp only[h1,h2] at h;cases h
  |some z'=>
   simp only[h1,h2] at h
   obtain⟨v,hv,hr⟩:=BS (Z:=Z) (top:=top) h
   exact⟨v,by simp[h2,hv],hr⟩
theorem Cr {top:Nat->Nat} (place:Nat->Option (Nat×Nat)):∀{ps:List (Nat×TV R.T)} {qs:List (Nat×V)} {cs:List (TV R.T)} {l:List V} {cs':List (TV R.T)},ps.map (·.1)=qs.map (·.1)->ah R Z top (ps.map (·.2)) (qs.map (·.2))->
 ah R Z top cs l->fillM place cs ps=some cs'->∃l',fC place l qs=some l'/\ah R Z top cs' l'
 | [],[],cs,l,cs',_,_,h,hf=>by cases hf;exact⟨l,rfl,h⟩
 | [],_::_,_,_,_,h,_,_,_=>by simp at h
 |_::_,[],_,_,_,h,_,_,_=>by simp at h
 | (i,v)::ps,(j,w)::qs,cs,l,cs',hi,hr,h,hf=>by
   simp only[Qd,QA] at hi
   obtain⟨rfl,hi⟩:=hi
   obtain⟨y,ys,e,h1,h2⟩:=hr.aS
   simp only[Qd,QA] at e
   obtain⟨rfl,rfl⟩:=e
   unfold fillM at hf
   unfold fC
   cases hp:place i with
   |none=>simp only[hp] at hf;cases hf
   |some q=>
    obtain⟨off,size⟩:=q
    simp only[hp] at hf⊢
    cases hb:(Nat.beq v.cells.length size&& Nat.ble (off+size) cs.length&& notG v)
    .rw[hb] at hf;cases hf
    .rw[hb,cond_true] at hf
     simp only[P6] at hb
     obtain⟨⟨b1,b2⟩,b3⟩:=hb
     obtain⟨hc,hn⟩:=gK b3 h1
     rw[if_pos ⟨by rw[hc.length];exact bB b1,by rw[h.length];exact QC b2,hn⟩]
     exact Cr place hi h2 (wZ off h hc) hf
theorem Ct {top:Nat->Nat} {x:TV R.T} {v:V} {a:Bool} (h:bM x=some a) (hr:Rl R Z top x v):v= .bool a:=by
 cases x<;>cases h
 .exact hr.fq
 .exact hr.gG
theorem Cu {top:Nat->Nat} {x y:TV R.T} {v w:V} {r:Bool} (h:eqSM x y=some r) (hx:Rl R Z top x v) (hy:Rl R Z top y w):∃a b,v= .bool a/\w= .bool b/\r=(a==b):=by
 unfold eqSM at h
 cases h1:bM x with
 |none=>simp only[h1] at h;cases h
 |some a=>
  cases h2:bM y with
  |none=>simp only[h1,h2] at h;cases h
  |some b=>simp only[h1,h2] at h;cases h;exact⟨a,b,Ct h1 hx,Ct h2 hy,rfl⟩
theorem w9 {top:Nat->Nat} {jT:TypeId->TV R.T->TV R.T->Option Bool} {eqv:TypeId->V->V->Option Bool} (he:∀t x y v w r,jT t x y=some r->Rl R Z top x v->Rl R Z top y w->eqv t v w=some r)
 {xs ys:List (TV R.T)} {vs ws:List V} (hx:ah R Z top xs vs) (hy:ah R Z top ys ws):∀{fs:List Field} {r:Bool},eqFlM E jT xs ys fs=some r->kW E.P eqv vs ws fs=some r
 | [],r,h=>by cases h;rfl
 |f::fs,r,h=>by
  unfold eqFlM at h
  unfold kW
  split at h
  .rename_i hn;rw[if_pos hn];exact w9 he hx hy h
  .rename_i hn
   rw[if_neg hn]
   cases h1:ldM E f.type xs f.offset with
   |none=>simp only[h1] at h;cases h
   |some a=>
    cases h2:ldM E f.type ys f.offset with
    |none=>simp only[h1,h2] at h;cases h
    |some c=>
     cases h3:jT f.type a c with
     |none=>simp only[h1,h2,h3] at h;cases h
     |some r1=>
      cases h4:eqFlM E jT xs ys fs with
      |none=>simp only[h1,h2,h3,h4] at h;cases h
      |some q=>
       simp only[h1,h2,h3,h4] at h;cases h
       obtain⟨v1,e1,g1⟩:=jS hx h1
       obtain⟨v2,e2,g2⟩:=jS hy h2
       simp[e1,e2,he _ _ _ _ _ _ h3 g1 g2,w9 he hx hy h4]
theorem Cv {top:Nat->Nat} {jT:TypeId->TV R.T->TV R.T->Option Bool} {eqv:TypeId->V->V->Option Bool} (he:∀t x y v w r,jT t x y=some r->Rl R Z top x v->Rl R Z top y w->eqv t v w=some r)
 {e:TypeId} {sz:Nat} {xs ys:List (TV R.T)} {vs ws:List V} (hx:ah R Z top xs vs) (hy:ah R Z top ys ws):∀{is:List Nat} {r:Bool},eqElM E jT e sz xs ys is=some r->mH E.P eqv e sz vs ws is=some r
 | [],r,h=>by cases h;rfl
 |i::is,r,h=>by
  unfold eqElM at h
  unfold mH
  cases h1:ldM E e xs (i*sz) with
  |none=>simp only[h1] at h;cases h
  |some a=>
   cases h2:ldM E e ys (i*sz) with
   |none=>simp only[h1,h2] at h;cases h
   |some c=>
    cases h3:jT e a c with
    |none=>simp only[h1,h2,h3] at h;cases h
    |some r1=>
     cases h4:eqElM E jT e sz xs ys is with
     |none=>simp only[h1,h2,h3,h4] at h;cases h
     |some q=>
      simp only[h1,h2,h3,h4] at h;cases h
      obtain⟨v1,e1,g1⟩:=jS hx h1
      obtain⟨v2,e2,g2⟩:=jS hy h2
      simp[e1,e2,he _ _ _ _ _ _ h3 g1 g2,Cv he hx hy h4]
theorem rZ {top:Nat->Nat}:∀(d:Nat) (t:TypeId) (x y:TV R.T) (v w:V) (r:Bool),eqTM E d t x y=some r->Rl R Z top x v->Rl R Z top y w->jV E.P d t v w=some r
 |0,_,_,_,_,_,_,h,_,_=>by cases h
 |d+1,t,x,y,v,w,r,h,hx,hy=>by
  unfold eqTM at h
  unfold jV
  split at h
  .rename_i fs xs ys hu
   obtain⟨l,rfl,h1⟩:=hx.dn
   obtain⟨k,rfl,h2⟩:=hy.dn
   rw[hu];dsimp only
   split at h
   .cases h
   .rename_i hs;rw[if_neg hs];exact w9 (rZ d) h1 h2 h
  .rename_i n e xs ys hu
   obtain⟨l,rfl,h1⟩:=hx.dn
   obtain⟨k,rfl,h2⟩:=hy.dn
   rw[hu];dsimp only
   cases hs:szT E.P e with
   |none=>simp only[hs] at h;cases h
   |some sz=>simp only[hs] at h;simp only[Option.bind_some];exact Cv (rZ d) h1 h2 h
  .cases h
  .cases h
  .rename_i hu
   obtain⟨a,c,rfl,rfl,rfl⟩:=Cu h hx hy
   rw[hu]
  .rename_i k a k' c hu
   rw[hx.bZ,hy.bZ,hu];exact h
  .rename_i a c hu
   rw[hx.dN,hy.dN,hu];exact h
  .cases h
theorem Cw {top:Nat->Nat} {t:TypeId} {x y:TV R.T} {v w:V} {r:Bool} (h:eqM E t x y=some r) (hx:Rl R Z top x v) (hy:Rl R Z top y w):gP E.P t v w=some r:=by
 unfold eqM at h
 unfold gP
 split at h
 .rename_i fs xs ys hu
  split at h
  .cases h
  .rename_i hs
   have:=rZ 8 t _ _ v w r h hx hy
   obtain⟨l,rfl,h1⟩:=hx.dn
   obtain⟨k,rfl,h2⟩:=hy.dn
   rw[hu];dsimp only;rw[if_neg hs];exact this
 .rename_i fs xs ys hu
  split at h
  .cases h
  .rename_i hs
   have:=rZ 8 t _ _ v w r h hx hy
   obtain⟨l,rfl,h1⟩:=hx.dn
   obtain⟨k,rfl,h2⟩:=hy.dn
   rw[hu];dsimp only;rw[if_neg hs];exact this
 .rename_i hu;cases h;unfold Rl at hx hy;subst hx;subst hy;rw[hu]
 .rename_i hu;cases h;obtain⟨a,b,rfl,_⟩:=hy.dW;unfold Rl at hx;subst hx;rw[hu]
 .rename_i hu;cases h;obtain⟨a,b,rfl,_⟩:=hx.dW;unfold Rl at hy;subst hy;rw[hu]
 .rename_i hu;obtain⟨a,c,rfl,rfl,rfl⟩:=Cu h hx hy;rw[hu]
 .cases h
end
end Aq
end
