import Derived.Test.YtabmooekodficaaGreatDoorF4408
set_option linter.all false
section
namespace Aq
open Go
theorem XD {n m:Nat} {v:Vec n} {w:Vec m} (h:castV v=some w):n=m/\HEq v w:=by
 unfold castV at h
 split at h
 ·rename_i e;subst e;cases h;exact⟨rfl,HEq.rfl⟩
 ·cases h
theorem MC:∀{k:SgK} {s:Sg} {x:PayG1 k},pk1 k s=some x->up1 k x=s
 |.i k,.i k' y,x,h=>by
  have h':(if k'=k then some y else none)=some (x:Int):=h
  by_cases e:k'=k
  ·subst e;rw[if_pos rfl] at h';cases h';rfl
  ·rw[if_neg e] at h';cases h'
 |.a k n,.a k' n' v,x,h=>by
  have h':(if k'=k then castV (m:=n) v else none)=some (x:Vec n):=h
  by_cases e:k'=k
  ·subst e;rw[if_pos rfl] at h'
   obtain⟨e1,e2⟩:=XD h'
   subst e1;cases e2;rfl
  ·rw[if_neg e] at h';cases h'
 |.i k,.a _ _ _,x,h=>by cases h
 |.a k n,.i _ _,x,h=>by cases h
theorem Bp:∀{l:List SgK} {ss:List Sg} {x:PayG l},pkG l ss=some x->upG l x=ss
 | [],ss,x,h=>by
   cases ss with
   |nil=>rfl
   |cons s ss=>cases h
 | [k],ss,x,h=>by
   cases ss with
   |nil=>cases h
   |cons s ss=>
    cases ss with
    |nil=>
     show [up1 k x]=[s]
     rw[MC (show pk1 k s=some x from h)]
    |cons s' ss=>cases h
 |k::k'::l,ss,x,h=>by
  cases ss with
  |nil=>cases h
  |cons s ss=>
   have h':(match pk1 k s with
    |some x=>match pkG (k'::l) ss with
     |some p=>some (x,p)
     |none=>none
    |none=>none)=some x:=h
   cases hu:pk1 k s with
   |none=>simp only[hu] at h';cases h'
   |some y=>
    cases hs:pkG (k'::l) ss with
    |none=>simp only[hu,hs] at h';cases h'
    |some q=>
     simp only[hu,hs] at h'
     obtain rfl:=aeF h'
     show up1 k y::upG (k'::l) q=s::ss
     rw[MC hu,Bp hs]
section
variable {R:Reg} (hR:RegOK R)
variable {ρ:au} {top:Nat->Nat} {b:Nat} {st:MS R.T} {fr:Fr} {σ:Sig}
include hR
theorem ql {t:Ty} {x:Den R.T t} {tv:TV R.T} {v:V} (h:un1 R t tv=some x) (hr:Rl R ρ top tv v):Rl R ρ top (tv1 R .any t x) v:=by
 cases t with
 |int k=>rw[Gc h hr];unfold Rl;rfl
 |bool=>rw[Gf h hr];unfold Rl;rfl
 |str=>rw[Gg h hr];unfold Rl;rfl
 |slice t=>obtain⟨c,hv⟩:=Mg h hr;rw[hv];unfold Rl;exact⟨c,rfl,trivial⟩
 |st n=>cases h
theorem ME:∀(l:List Ty) (p:PayT R.T l) (cs:List (TV R.T)) (vs:List V),uns R l cs=some p->RlL R ρ top cs vs->RlL R ρ top (tvs R .any l p) vs
 | [],p,cs,vs,h,hr=>by
   cases cs with
   |nil=>rw[hr.inv_nil];rfl
   |cons c cs=>cases h
 | [t],p,cs,vs,h,hr=>by
   have h':un1 R t (hd1 R cs)=some p:=h
   cases cs with
   |nil=>cases t<;>cases h'
   |cons c cs=>
    cases cs with
    |nil=>
     obtain⟨v,l,rfl,h1,h2⟩:=hr.inv_cons
     rw[h2.inv_nil]
     exact .cons' (ql hR h' h1) rfl
    |cons c' cs=>cases t<;>cases h'
 |t::u::l,p,cs,vs,h,hr=>by
  cases cs with
  |nil=>cases h
  |cons c cs=>
   obtain⟨v,vs,rfl,h1,h2⟩:=hr.inv_cons
   unfold uns at h
   cases hu:un1 R t c with
   |none=>simp only[hu] at h;cases h
   |some y=>
    cases hs:uns R (u::l) cs with
    |none=>simp only[hu,hs] at h;cases h
    |some q=>
     simp only[hu,hs] at h
     obtain rfl:=aeF h
     exact .cons' (ql hR hu h1) (ME (u::l) q cs vs hs h2)
theorem qm {t:Ty} {x:Den R.T t} {tv:TV R.T} {v:V} (h:unD R t tv=some x) (hr:Rl R ρ top tv v):Rl R ρ top (tvD R .any t x) v:=by
 cases t with
 |st n=>
  change unSt R n tv=some x at h
  unfold unSt at h
  split at h
  ·rename_i cs
   split at h
   ·rename_i p hp
    obtain rfl:=aeF h
    obtain⟨l,hv,hl⟩:=hr.dL
    subst hv
    show Rl R ρ top (.agg (tvs R .any (R.lf n) (R.of n (R.to n p)))) _
    rw[hR.of_to]
    unfold Rl;exact⟨l,rfl,ME hR _ _ _ _ hp hl⟩
   ·cases h
  ·cases h
 |int k=>exact ql hR (t:=.int k) h hr
 |bool=>exact ql hR (t:=.bool) h hr
 |str=>exact ql hR (t:=.str) h hr
 |slice t=>exact ql hR (t:=.slice t) h hr
omit hR in
theorem MF {sz n:Nat} {c c':Cp} {x:Cap} (h:capLe c c'=true) (hx:sV ρ top sz n c x):sV ρ top sz n c' x:=by
 cases c<;>cases c'<;>simp only[capLe,aaB] at h<;>first|trivial|exact hx|exact .inl hx|exact .inr (.inl hx)| (rw[<-aP h];exact hx)
omit hR in
theorem Gp {k e k' e':Ty} {m:List (Den R.T k'×Den R.T e')} {x:List (Den R.T k×Den R.T e)} (h:castM R m=some x):k'=k/\e'=e/\HEq m x:=by
 unfold castM at h
 split at h
 ·rename_i e;obtain⟨rfl,rfl⟩:=e;cases h;exact⟨rfl,rfl,HEq.rfl⟩
 ·cases h
omit hR in
theorem MG {c:Cp} {t:Ty} {x:List (Den R.T t)} {tv:TV R.T} {v:V} (h:pkLst R c t tv=some x) (hr:Rl R ρ top tv v):Rl R ρ top (.lst c t x) v:=by
 unfold pkLst at h
 split at h
 ·rename_i c' t' l
  cases hc:capLe c' c
  ·rw[hc] at h;cases h
  ·rw[hc,cond_true] at h
   obtain⟨e,e2⟩:=iJ h;subst e;cases e2
   obtain⟨c'',hv,hcc⟩:=hr.dB
   unfold Rl;exact⟨c'',hv,MF hc hcc⟩
 ·cases hc:capLe .nil c
  ·rw[hc] at h;cases h
  ·rw[hc,cond_true] at h;cases h
   unfold Rl;exact⟨.nil,hr.fF,MF hc rfl⟩
 ·cases h
mutual
theorem xE:∀(k:Sk) (x:PayS R.T k) (tv:TV R.T) (v:V),pk R k tv=some x->Rl R ρ top tv v->Rl R ρ top (up R .any k x) v
 |.d t,x,tv,v,h,hr=>qm hR (by unfold pk at h;exact h) hr
 |.l c t,x,tv,v,h,hr=>MG (by unfold pk at h;exact h) hr
 |.agg l,x,tv,v,h,hr=>by
  cases tv<;>first| (exact absurd (show none=some x from h) (by simp))|skip
  rename_i cs
  obtain⟨vs,rfl,hl⟩:=hr.dL
  show Rl R ρ top (.agg (upL R .any l x)) _
  unfold Rl;exact⟨vs,rfl,nZ l x cs vs h hl⟩
 |.ref o off,x,tv,v,h,hr=>by
  cases tv<;>first| (exact absurd (show none=some x from h) (by simp))|skip
  rename_i p off'
  have h':(bif Nat.beq p o&& Nat.beq off' off then some () else none)=some x:=h
  cases hb:(Nat.beq p o&& Nat.beq off' off)
  ·rw[hb] at h';cases h'
  ·rw[RS] at hb
   rw[aP hb.1,aP hb.2] at hr
   exact hr
 |.cref l off,x,tv,v,h,hr=>by
  cases tv<;>first| (exact absurd (show none=some x from h) (by simp))|skip
  rename_i cs off'
  have h':(bif Nat.beq off' off then pkL R l cs else none)=some x:=h
  cases hb:Nat.beq off' off
  ·rw[hb] at h';cases h'
  ·rw[hb,cond_true] at h'
   rw[aP hb] at hr
   obtain⟨vs,rfl,hl⟩:=hr.iI
   show Rl R ρ top (.cref (upL R .any l x) off) _
   unfold Rl;exact⟨vs,rfl,nZ l x _ vs h' hl⟩
 |.mapr o,x,tv,v,h,hr=>by
  cases tv<;>first| (exact absurd (show none=some x from h) (by simp))|skip
  rename_i p
  have h':(bif Nat.beq p o then some () else none)=some x:=h
  cases hb:Nat.beq p o
  ·rw[hb] at h';cases h'
  ·rw[aP hb] at hr
   exact hr
 |.mapc k e,x,tv,v,h,hr=>by
  cases tv<;>first| (exact absurd (show none=some x from h) (by simp))|skip
  rename_i k' e' m
  obtain⟨e1,e2,e3⟩:=Gp (show castM R m=some x from h)
  subst e1;subst e2;cases e3
  exact hr
 |.fn f a b,x,tv,v,h,hr=>by
  cases tv<;>first| (exact absurd (show none=some x from h) (by simp))|skip
  rename_i f' a' b'
  have h':(bif Nat.beq f' f then (match pkL R a a' with
   |some x=>match pkL R b b' with
    |some y=>some (x,y)
    |none=>none
   |none=>none) else none)=some x:=h
  cases hb:Nat.beq f' f
  ·rw[hb] at h';cases h'
  ·rw[hb,cond_true] at h'
   rw[aP hb] at hr
   obtain⟨va,vb,rfl,ha,hbb⟩:=hr.eB
   cases h1:pkL R a a' with
   |none=>simp only[h1] at h';cases h'
   |some y=>
    cases h2:pkL R b b' with
    |none=>simp only[h1,h2] at h';cases h'
    |some z=>
     simp only[h1,h2] at h';cases h'
     show Rl R ρ top (.fn f (upL R .any a y) (upL R .any b z)) _
     unfold Rl;exact⟨va,vb,rfl,nZ a y _ va h1 ha,nZ b z _ vb h2 hbb⟩
 |.nils,x,tv,v,h,hr=>by
  cases tv<;>first| (exact absurd (show none=some x from h) (by simp))|skip
  exact hr
 |.vw o t,x,tv,v,h,hr=>by
  cases tv<;>first| (exact absurd (show none=some x from h) (by simp))|skip
  rename_i p t'
  have h':(bif Nat.beq p o then (if t'=t then some () else none) else none)=some x:=h
  cases hb:Nat.beq p o
  ·rw[hb] at h';cases h'
  ·rw[hb,cond_true] at h'
   split at h'
   ·rename_i e
    rw[aP hb,e] at hr
    exact hr
   ·cases h'
 |.sub o t,x,tv,v,h,hr=>by
  cases tv<;>first| (exact absurd (show none=some x from h) (by simp))|skip
  rename_i p t' a b
  have h':(bif Nat.beq p o then (if t'=t then some (a,b) else none) else none)=some x:=h
  cases hb:Nat.beq p o
  ·rw[hb] at h';cases h'
  ·rw[hb,cond_true] at h'
   split at h'
   ·rename_i e
    cases h'
    rw[aP hb,e] at hr
    exact hr
   ·cases h'
 |.sg l,x,tv,v,h,hr=>by
  cases tv<;>first| (exact absurd (show none=some x from h) (by simp))|skip
  rename_i ss
  show Rl R ρ top (.sg (upG l x)) v
  rw[Bp (show pkG l ss=some x from h)]
  exact hr
 |.undef,x,tv,v,h,hr=>by
  cases tv<;>first| (exact absurd (show none=some x from h) (by simp))|skip
  exact hr
theorem nZ:∀(l:List Sk) (x:PayL R.T l) (cs:List (TV R.T)) (vs:List V),pkL R l cs=some x->RlL R ρ top cs vs->RlL R ρ top (upL R .any l x) vs
 | [],x,cs,vs,h,hr=>by
   cases cs with
   |nil=>rw[hr.inv_nil];rfl
   |cons c cs=>exact absurd (show none=some x from h) (by simp)
 | [k],x,cs,vs,h,hr=>by
   cases cs with
   |nil=>exact absurd (show none=some x from h) (by simp)
   |cons c cs=>
    cases cs with
    |nil=>
     obtain⟨v,l,rfl,h1,h2⟩:=hr.inv_cons
     rw[h2.inv_nil]
     show RlL R ρ top [up R .any k x] _
     exact .cons' (xE k x _ v h h1) rfl
    |cons c' cs=>exact absurd (show none=some x from h) (by simp)
 |k::k'::l,x,cs,vs,h,hr=>by
  cases cs with
  |nil=>exact absurd (show none=some x from h) (by simp)
  |cons c cs=>
   have h':(match pk R k c with
    |some x=>match pkL R (k'::l) cs with
     |some p=>some (x,p)
     |none=>none
    |none=>none)=some x:=h
   obtain⟨v,vs,rfl,h1,h2⟩:=hr.inv_cons
   cases hu:pk R k c with
   |none=>simp only[hu] at h';cases h'
   |some y=>
    cases hs:pkL R (k'::l) cs with
    |none=>simp only[hu,hs] at h';cases h'
    |some q=>
     simp only[hu,hs] at h'
     obtain rfl:=aeF h'
     show RlL R ρ top (up R .any k y::upL R .any (k'::l) q) _
     exact .cons' (xE k y _ v hu h1) (nZ (k'::l) q _ vs hs h2)
end
omit hR in
theorem XE {k:Sk} {j:Nat} {w:Bool} {y:TV R.T} {x:PayS R.T k} (h:pk R k (.opt j w y)=some x):False:=by
 cases k with
 |d t=>cases t<;>(unfold pk at h;cases h)
 |_=>unfold pk at h;cases h
theorem bY.pk {k:Sk} {x:PayS R.T k} {tv:TV R.T} {v:V} (h:pk R k tv=some x) (hr:bY fr ρ top tv v):Rl R ρ top (up R .any k x) v:=by
 cases tv<;>first|exact xE hR _ _ _ _ h hr|exact(XE h).elim
theorem Gq (h:ak ρ b st fr σ):∀(l:List (Nat×Sk)) (x:PaySl R.T l),pkSl R st.fr l=some x->∀i v,look (upSl R l x) i=some v->Rl R ρ σ.top v (fr.tm i)
 | [],x,hx,i,v,hv=>by cases hv
 | [(j,k)],x,hx,i,v,hv=>by
   unfold pkSl at hx
   split at hx
   ·rename_i y hy
    by_cases e:i=j
    ·subst e
     have hv':look [(i,up R .any k x)] i=some v:=hv
     rw[bX] at hv';cases hv'
     exact bY.pk hR hx (h.fr _ _ hy)
    ·have hv':look [(j,up R .any k x)] i=some v:=hv
     rw[bf _ _ e] at hv';cases hv'
   ·cases hx
 | (j,k)::q::l,x,hx,i,v,hv=>by
   unfold pkSl at hx
   split at hx
   ·rename_i y hy
    cases hu:pk R k y with
    |none=>simp only[hu] at hx;cases hx
    |some z=>
     cases hs:pkSl R st.fr (q::l) with
     |none=>simp only[hu,hs] at hx;cases hx
     |some p=>
      simp only[hu,hs] at hx
      obtain rfl:=aeF hx
      have hv':look ((j,up R .any k z)::upSl R (q::l) p) i=some v:=hv
      by_cases e:i=j
      ·subst e
       rw[bX] at hv';cases hv'
       exact bY.pk hR hu (h.fr _ _ hy)
      ·rw[bf _ _ e] at hv'
       exact Gq h (q::l) p hs i v hv'
   ·cases hx
theorem Gr {o:Nat} {k:ObSk} {x:PayO R.T k} {y:Ob R.T} (hx:pkO R k y=some x) (hy:aR ρ σ o y):aR ρ σ o (upO R k x):=by
 cases k with
 |cells l=>
  cases y with
  |cells cs=>
   obtain⟨s,vs,h1,h2,h3⟩:=hy
   exact⟨s,vs,h1,h2,nZ hR l x _ vs hx h3⟩
  |map k e m=>cases hx
  |smap _ _=>cases hx
  |arr _ _=>cases hx
  |sg _=>cases hx
  |gone=>cases hx
  |ro b=>cases hx
 |st n=>
  cases y with
  |cells cs=>
   obtain⟨s,vs,h1,h2,h3⟩:=hy
   obtain⟨l,e,hl⟩:=(qm hR (t:=.st n) (show unD R (.st n) (.agg cs)=some x from hx) (v:=.agg vs) ⟨vs,rfl,h3⟩).dL
   cases e
   exact⟨s,vs,h1,h2,hl⟩
  |map k e m=>cases hx
  |smap _ _=>cases hx
  |arr _ _=>cases hx
  |sg _=>cases hx
  |gone=>cases hx
  |ro b=>cases hx
 |arr t=>
  cases y with
  |arr t' l=>
   obtain⟨e,e2⟩:=iJ hx
   subst e;cases e2
   exact hy
  |cells cs=>cases hx
  |map _ _ _=>cases hx
  |smap _ _=>cases hx
  |sg _=>cases hx
  |gone=>cases hx
  |ro b=>cases hx
 |sg l=>
  cases y with
  |sg ss=>
   show aR ρ σ o (.sg (upG l x))
   rw[Bp (show pkG l ss=some x from hx)]
   exact hy
  |cells cs=>cases hx
  |map _ _ _=>cases hx
  |smap _ _=>cases hx
  |arr _ _=>cases hx
  |gone=>cases hx
  |ro b=>cases hx
 |map k e=>
  cases y with
  |map k' e' m=>
   obtain⟨e1,e2,e3⟩:=Gp hx
   subst e1;subst e2;cases e3
   exact hy
  |cells cs=>cases hx
  |smap _ _=>cases hx
  |arr _ _=>cases hx
  |sg _=>cases hx
  |gone=>cases hx
  |ro b=>cases hx
theorem MH (h:ak ρ b st fr σ):∀(l:List (Nat×ObSk)) (x:PayOs R.T l),pkOs R st.ob l=some x->∀i v,look (upOs R l x) i=some v->aR ρ σ i v
 | [],x,hx,i,v,hv=>by cases hv
 | [(j,k)],x,hx,i,v,hv=>by
   unfold pkOs at hx
   split at hx
   ·rename_i y hy
    by_cases e:i=j
    ·subst e
     have hv':look [(i,upO R k x)] i=some v:=hv
     rw[bX] at hv';cases hv'
     exact Gr hR hx (h.ob _ _ hy)
    ·have hv':look [(j,upO R k x)] i=some v:=hv
     rw[bf _ _ e] at hv';cases hv'
   ·cases hx
 | (j,k)::q::l,x,hx,i,v,hv=>by
   unfold pkOs at hx
   split at hx
   ·rename_i y hy
    cases hu:pkO R k y with
    |none=>simp only[hu] at hx;cases hx
    |some z=>
     cases hs:pkOs R st.ob (q::l) with
     |none=>simp only[hu,hs] at hx;cases hx
     |some p=>
      simp only[hu,hs] at hx
      obtain rfl:=aeF hx
      have hv':look ((j,upO R k z)::upOs R (q::l) p) i=some v:=hv
      by_cases e:i=j
      ·subst e
       rw[bX] at hv';cases hv'
       exact Gr hR hu (h.ob _ _ hy)
      ·rw[bf _ _ e] at hv'
       exact MH h (q::l) p hs i v hv'
   ·cases hx
theorem ak.pack (h:ak ρ b st fr σ) {s:Shape} {p:Pay R.T s} (hp:pack R st s=some p):ak ρ b (unpack R s p) fr σ:=by
 obtain⟨sl,ob⟩:=s
 cases ob with
 |nil=>
  have hp':pkSl R st.fr sl=some p:=hp
  exact {h with fr:=fun i v hv=>.of (Gq hR h sl p hp' i v hv),ob:=fun i v hv=>by cases hv}
 |cons o os=>
  unfold Aq.pack at hp
  cases hu:pkSl R st.fr sl with
  |none=>simp only[hu] at hp;cases hp
  |some x=>
   cases hs:pkOs R st.ob (o::os) with
   |none=>simp only[hu,hs] at hp;cases hp
   |some y=>
    simp only[hu,hs] at hp
    obtain rfl:=aeF hp
    exact {h with fr:=fun i v hv=>.of (Gq hR h sl x hu i v hv),ob:=fun i v hv=>MH hR h (o::os) y hs i v hv}
omit hR in
theorem MI {e x:Ex} (h:exEq e x=true):e=x:=by
 cases e<;>cases x<;>simp only[exEq,aaB] at h<;>first|rfl|rw[aP h]
omit hR in
def RO (st:MS R.T) (o:Nat):Prop:=∀x,look st.ob o=some x->isRo x=true
omit hR in
theorem Bq {k:ObSk} {x:PayO R.T k} {y:Ob R.T} (hx:pkO R k y=some x) (hy:isRo y=true):False:=by
 cases y with
 |cells _=>cases hy
 |map _ _ _=>cases hy
 |smap _ _=>cases hy
 |arr _ _=>cases hy
 |sg _=>cases hy
 |gone=>cases k<;>cases hx
 |ro b=>cases k<;>cases hx
omit hR in
theorem MJ {i:Nat} (hr:RO st i):∀(l:List (Nat×ObSk)) (x:PayOs R.T l),pkOs R st.ob l=some x->look (upOs R l x) i=none
 | [],x,hx=>rfl
 | [(j,k)],x,hx=>by
   unfold pkOs at hx
   split at hx
   ·rename_i y hy
    by_cases e:i=j
    ·subst e;exact(Bq hx (hr _ hy)).elim
    ·show look [(j,upO R k x)] i=none
     rw[bf _ _ e];rfl
   ·cases hx
 | (j,k)::q::l,x,hx=>by
   unfold pkOs at hx
   split at hx
   ·rename_i y hy
    cases hu:pkO R k y with
    |none=>simp only[hu] at hx;cases hx
    |some z=>
     cases hs:pkOs R st.ob (q::l) with
     |none=>simp only[hu,hs] at hx;cases hx
     |some p=>
      simp only[hu,hs] at hx
      obtain rfl:=aeF hx
      show look ((j,upO R k z)::upOs R (q::l) p) i=none
      by_cases e:i=j
      ·subst e;exact(Bq hu (hr _ hy)).elim
      ·rw[bf _ _ e];exact MJ hr (q::l) p hs
   ·cases hx
omit hR in
theorem XF {s:Shape} {p:Pay R.T s} {i:Nat} (hp:Aq.pack R st s=some p) (hr:RO st i):look (unpack R s p).ob i=none:=by
 obtain⟨sl,ob⟩:=s
 cases ob with
 |nil=>rfl
 |cons o os=>
  unfold Aq.pack at hp
  cases hu:pkSl R st.fr sl with
  |none=>simp only[hu] at hp;cases hp
  |some x=>
   cases hs:pkOs R st.ob (o::os) with
   |none=>simp only[hu,hs] at hp;cases hp
   |some y=>
    simp only[hu,hs] at hp
    obtain rfl:=aeF hp
    exact MJ hr (o::os) y hs
omit hR
theorem kC {α:Type}:∀(l m:List (Nat×α)) (i:Nat),look (l++m) i=match look l i with|some x=>some x|none=>look m i
 | [],m,i=>rfl
 | (j,x)::l,m,i=>by
   show (bif Nat.beq j i then some x else look (l++m) i)=match (bif Nat.beq j i then some x else look l i) with|some x=>some x|none=>look m i
   cases Nat.beq j i
   ·exact kC l m i
   ·rfl
theorem ak.over {st':MS R.T} (h:ak ρ b st fr σ) (h':ak ρ b st' fr σ):ak ρ b (st.over st') fr σ:={h with
 fr:=fun i v hv=>by
  have hv':look (st.fr++st'.fr) i=some v:=hv
  rw[kC] at hv'
  split at hv'
  ·rename_i x hx;cases hv';exact h.fr _ _ hx
  ·exact h'.fr _ _ hv'
 ob:=fun i v hv=>by
  have hv':look (st.ob++st'.ob) i=some v:=hv
  rw[kC] at hv'
  split at hv'
  ·rename_i x hx;cases hv';exact h.ob _ _ hx
  ·exact h'.ob _ _ hv'}
theorem mP {α:Type} {p:Nat->α->Bool} {f:α->α} {l:List (Nat×α)}:∀{is:List Nat} {i:Nat} {y:α},look (selF p f l is) i=some y->∃x,look l i=some x/\p i x=true/\y=f x
 | [],i,y,h=>by cases h
 |j::is,i,y,h=>by
  unfold selF at h
  split at h
  ·rename_i x hx
   cases hp:p j x
   ·rw[hp] at h;exact mP h
   ·rw[hp,cond_true] at h
    by_cases e:i=j
    ·subst e;rw[bX] at h;cases h;exact⟨x,hx,hp,rfl⟩
    ·rw[bf _ _ e] at h;exact mP h
  ·exact mP h
mutual
theorem Rl.solid {ρ':au} {top':Nat->Nat} {W:List Nat} (ho:∀o,memN o W=false->ρ'.ob o=ρ.ob o/\ρ'.ln o=ρ.ln o) (hx:ρ'.om=ρ.om):∀(x:TV R.T) (v:V),Aq.solid W x=true->Rl R ρ top x v->Rl R ρ' top' x v
 |.lst c t l,v,hs,h=>by
  obtain⟨c',hv,hc⟩:=h
  refine⟨c',hv,?_⟩
  cases c<;>first|exact hc| (simp[Aq.solid] at hs;done)
 |.ref o off,v,hs,h=>by
  obtain⟨s,h1,h2⟩:=h
  unfold Aq.solid at hs
  exact⟨s,by rw[(ho o (by simpa using hs)).1];exact h1,by rw[hx];exact h2⟩
 |.mapr o,v,hs,h=>by
  obtain⟨s,h1,h2⟩:=h
  unfold Aq.solid at hs
  exact⟨s,by rw[(ho o (by simpa using hs)).1];exact h1,by rw[hx];exact h2⟩
 |.vw o t,v,hs,h=>by
  unfold Aq.solid at hs
  obtain⟨k1,k2⟩:=ho o (by simpa using hs)
  rcases h with ⟨s,h1,h2⟩| ⟨h1,h2⟩
  ·exact .inl ⟨s,by rw[k1];exact h1,by rw[k2,hx];exact h2⟩
  ·exact .inr ⟨by rw[k2];exact h1,h2⟩
 |.sub o t a b,v,hs,h=>by
  unfold Aq.solid at hs
  obtain⟨k1,k2⟩:=ho o (by simpa using hs)
  obtain⟨g0,g1,g2,h⟩:=h
  refine⟨g0,g1,by rw[k2];exact g2,?_⟩
  rcases h with ⟨s,cp,h1,h2,h3⟩|h
  ·exact .inl ⟨s,cp,by rw[k1];exact h1,h2,by rw[hx];exact h3⟩
  ·exact .inr h
 |.eref o t i off,v,hs,h=>by
  obtain⟨s,h1,h2⟩:=h
  unfold Aq.solid at hs
  exact⟨s,by rw[(ho o (by simpa using hs)).1];exact h1,by rw[hx];exact h2⟩
 |.sv o _ _ _ _ _,v,hs,h=>by
  obtain⟨s,h1,h2⟩:=h
  unfold Aq.solid at hs
  exact⟨s,by rw[(ho o (by simpa using hs)).1];exact h1,by rw[hx];exact h2⟩
 |.sel o _ _ _ _ _,v,hs,h=>by
  obtain⟨s,h1,h2⟩:=h
  unfold Aq.solid at hs
  exact⟨s,by rw[(ho o (by simpa using hs)).1];exact h1,by rw[hx];exact h2⟩
 |.sg _,_,_,h=>h
 |.gel _ _ _ _,_,_,h=>h
 |.agg cs,v,hs,h=>by obtain⟨l,hv,hl⟩:=h;exact⟨l,hv,RlL.solid ho hx cs l (by unfold Aq.solid at hs;exact hs) hl⟩
 |.tup cs,v,hs,h=>by obtain⟨l,hv,hl⟩:=h;exact⟨l,hv,RlL.solid ho hx cs l (by unfold Aq.solid at hs;exact hs) hl⟩
 |.cref cs off,v,hs,h=>by obtain⟨l,hv,hl⟩:=h;exact⟨l,hv,RlL.solid ho hx cs l (by unfold Aq.solid at hs;exact hs) hl⟩
 |.fn f a b,v,hs,h=>by
  obtain⟨a',b',hv,ha,hb⟩:=h
  unfold Aq.solid at hs
  rw[RS] at hs
  exact⟨a',b',hv,RlL.solid ho hx a a' hs.1 ha,RlL.solid ho hx b b' hs.2 hb⟩
 |.opt _ _ _,_,_,h=>h.elim
 |.int _ _,_,_,h=>h
 |.bool _,_,_,h=>h
 |.blit _,_,_,h=>h
 |.str _,_,_,h=>h
 |.nilp,_,_,h=>h
 |.nilf,_,_,h=>h
 |.nilm,_,_,h=>h
 |.nili,_,_,h=>h
 |.nils,_,_,h=>h
 |.mapc _ _ _,_,_,h=>h
 |.undef,_,_,h=>h
 |.gone,_,_,h=>trivial
theorem RlL.solid {ρ':au} {top':Nat->Nat} {W:List Nat} (ho:∀o,memN o W=false->ρ'.ob o=ρ.ob o/\ρ'.ln o=ρ.ln o) (hx:ρ'.om=ρ.om):∀(x:List (TV R.T)) (v:List V),solidL W x=true->RlL R ρ top x v->RlL R ρ' top' x v
 | [],_,_,h=>h
 |x::xs,_,hs,⟨v,vs,e,h1,h2⟩=>by
  unfold solidL at hs
  rw[RS] at hs
  exact⟨v,vs,e,Rl.solid ho hx x v hs.1 h1,RlL.solid ho hx xs vs hs.2 h2⟩
end
theorem XG {x:TV R.T} {v:V} (h:bY fr ρ top x v):bY fr ρ top (wkA x) v:=by
 cases x with
 |lst c t l=>
  cases c with
  |own u=>obtain⟨c',hv,_⟩:=Rl.dB (show Rl R ρ top (.lst (.own u) t l) v from h);exact .of (x:=.lst .any t l) (by unfold Rl;exact⟨c',hv,trivial⟩)
  |_=>exact h
 |_=>exact h
theorem XH {W:List Nat} {x:TV R.T} {v:V} (hs:Aq.solid W x=true) (h:bY fr ρ top x v):Rl R ρ top x v:=by
 cases x<;>first|exact h| (simp[Aq.solid] at hs;done)
structure ay (nr:Bool) (o:Nat) (st:MS R.T) (ρ:au) (σ:Sig) (st':MS R.T) (ρ':au) (σ':Sig):Prop where
 ob:ρ'.ob o=ρ.ob o
 ln:ρ'.ln o=ρ.ln o
 om:ρ'.om=ρ.om
 nx:σ.next<=σ'.next
 lp:(∀l,l<σ.next->σ'.loops l=σ.loops l)/\∀s,s<ρ.om.lo->σ'.top s=σ.top s
 dp:∀L,nr=true\/L.1<=ρ.om.dp->ρ.om.out L->σ'.obj L=σ.obj L
 ro:RO st o->RO st' o/\∀s,σ'.cellsAt (ρ.om.lc o) s=σ.cellsAt (ρ.om.lc o) s/\σ'.bg (ρ.om.lc o) s=σ.bg (ρ.om.lc o) s
structure Kp (nr:Bool) (W:List Nat) (st:MS R.T) (fr:Fr) (σ:Sig) (ρ:au) (st':MS R.T) (fr':Fr) (σ':Sig) (ρ':au):Prop where
 fr:∀i,memN i W=false->fr'.tm i=fr.tm i
 ob:∀o,memN o W=false->ay nr o st ρ σ st' ρ' σ'
section
variable {nr:Bool}
theorem Gs {c:Cx} {o s:Nat} {x:AObj} {L:Loc} (h:c.out L):(σ.setObj (c.lc o) s x).obj L=σ.obj L:=by
 unfold Sig.setObj upd
 dsimp only
 rw[if_neg (h o)]
theorem XI {c:Cx} {o:Nat} {L:Loc} (h:c.out L):(σ.aX (c.lc o)).obj L=σ.obj L:=by
 unfold Sig.aX upd
 dsimp only
 rw[if_neg (h o)]
theorem Cx.MK (c:Cx) {L:Loc} (h:c.dp<L.1):c.out L:=fun o e=>by
 have:=c.jh o
 rw[<-e] at this
 omega
theorem ay.refl {o:Nat}:ay nr o st ρ σ st ρ σ:=⟨rfl,rfl,rfl,iP _,⟨fun _ _=>rfl,fun _ _=>rfl⟩,fun _ _ _=>rfl,fun h=>⟨h,fun _=>⟨rfl,rfl⟩⟩⟩
theorem ay.trans {o:Nat} {st' bL:MS R.T} {ρ' ig:au} {σ' cO:Sig} (h:ay nr o st ρ σ st' ρ' σ') (g:ay nr o st' ρ' σ' bL ig cO):ay nr o st ρ σ bL ig cO:=
 ⟨g.ob.trans h.ob,g.ln.trans h.ln,g.om.trans h.om,aaI h.nx g.nx,⟨fun l hl=>(g.lp.1 l (aeD hl h.nx)).trans (h.lp.1 l hl),fun s hs=>(g.lp.2 s (by rw[h.om];exact hs)).trans (h.lp.2 s hs)⟩,fun L hn hL=>(g.dp L (by rw[h.om];exact hn) (by rw[h.om];exact hL)).trans (h.dp L hn hL),fun hr=>by
   have g':=fun hr=>g.ro hr
   rw[h.om] at g'
   exact⟨(g' (h.ro hr).1).1,fun s=>⟨((g' (h.ro hr).1).2 s).1.trans ((h.ro hr).2 s).1,((g' (h.ro hr).1).2 s).2.trans ((h.ro hr).2 s).2⟩⟩⟩
theorem Kp.refl {W:List Nat}:Kp nr W st fr σ ρ st fr σ ρ:=⟨fun _ _=>rfl,fun _ _=>.refl⟩
theorem Kp.trans {W:List Nat} {st' bL:MS R.T} {fr' og:Fr} {ρ' ig:au} {σ' cO:Sig} (h:Kp nr W st fr σ ρ st' fr' σ' ρ') (g:Kp nr W st' fr' σ' ρ' bL og cO ig):Kp nr W st fr σ ρ bL og cO ig:=
 ⟨fun i hi=>(g.fr i hi).trans (h.fr i hi),fun o ho=>(h.ob o ho).trans (g.ob o ho)⟩
theorem Kp.mono {W W':List Nat} {st':MS R.T} {fr':Fr} {ρ':au} {σ':Sig} (h:Kp nr W st fr σ ρ st' fr' σ' ρ') (hw:∀i,memN i W'=false->memN i W=false):Kp nr W' st fr σ ρ st' fr' σ' ρ':=
 ⟨fun i hi=>h.fr i (hw i hi),fun o ho=>h.ob o (hw o ho)⟩
theorem xG:∀(i:Nat) (l m:List Nat),memN i (l++m)=(memN i l||memN i m)
 |i,[],m=>rfl
 |i,j::l,m=>by show (Nat.beq i j||memN i (l++m))=_;rw[xG i l m,<-Bool.or_assoc];rfl
theorem ML {o:Nat} {ρ':au} {σ':Sig} {W:List Nat} (ho:∀o,memN o W=false->ρ'.ob o=ρ.ob o/\ρ'.ln o=ρ.ln o) (hx:ρ'.om=ρ.om) (hm:memN o W=false) (hc:∀s,σ'.cellsAt (ρ.om.lc o) s=σ.cellsAt (ρ.om.lc o) s/\σ'.bg (ρ.om.lc o) s=σ.bg (ρ.om.lc o) s):∀{x:Ob R.T},solidO W x=true->aR ρ σ o x->aR ρ' σ' o x
 |.cells cs,hs,h=>by
  obtain⟨s,l,h1,h2,h3⟩:=h
  exact⟨s,l,by rw[(ho o hm).1];exact h1,by rw[hx,(hc s).1];exact h2,RlL.solid ho hx cs l hs h3⟩
 |.map k e m,_,h=>by obtain⟨s,h1,h2⟩:=h;exact⟨s,by rw[(ho o hm).1];exact h1,by rw[hx,(hc s).2];exact h2⟩
 |.smap ks vs,hs,h=>by
  obtain⟨s,k,l,h1,h2,h3,h4⟩:=h
  have hs':(solidL W ks&& solidL W vs)=true:=hs
  rw[RS] at hs'
  exact⟨s,k,l,by rw[(ho o hm).1];exact h1,by rw[hx,(hc s).2];exact h2,RlL.solid ho hx ks k hs'.1 h3,RlL.solid ho hx vs l hs'.2 h4⟩
 |.arr t l,_,h=>by
  refine⟨h.1.trans (ho o hm).2.symm,?_⟩
  rcases h.2 with h| ⟨s,cs,h1,h2,h3⟩
  ·exact .inl ⟨h.1,(ho o hm).1.trans h.2⟩
  ·exact .inr ⟨s,cs,by rw[(ho o hm).1];exact h1,by rw[hx,(hc s).1];exact h2,jL l cs h3⟩
 |.sg ss,_,h=>by obtain⟨s,h1,h2⟩:=h;exact⟨s,by rw[(ho o hm).1];exact h1,by rw[hx,(hc s).1];exact h2⟩
 |.gone,_,_=>trivial
 |.ro b,hs,h=>ML ho hx hm hc (x:=b) hs h
theorem qo:∀W:List Nat,∃n,∀m,n<=m->memN m W=false
 | []=>⟨0,fun _ _=>rfl⟩
 |i::W=>by
  obtain⟨n,hn⟩:=qo W
  refine⟨n+i+1,fun m hm=>?_⟩
  show (Nat.beq m i||memN m W)=false
  rw[Bo (by omega),hn m (by omega)];rfl
theorem Kp.om {W:List Nat} {st':MS R.T} {fr':Fr} {ρ':au} {σ':Sig} (h:Kp nr W st fr σ ρ st' fr' σ' ρ'):ρ'.om=ρ.om:=by
 obtain⟨n,hn⟩:=qo W
 exact(h.ob n (hn n (iP _))).om
theorem ak.base {W K O:List Nat} {mark:Ob R.T->Ob R.T} (hmark:∀ρ σ o x,aR ρ σ o x->aR (R:=R) ρ σ o (mark x)) {st0 st' bL:MS R.T} {fr':Fr} {ρ':au} {σ':Sig} {b':Nat} (h:ak ρ b st fr σ) (hk:Kp nr W st0 fr σ ρ st' fr' σ' ρ') (h':ak ρ' b' bL fr' σ')
 (hro:∀o x,look st.ob o=some x->memN o W=false->memN o O=true->solidO W x=true->RO st0 o):ak ρ' b' (Aq.base W K O mark st) fr' σ':={h' with
 fr:=fun i v hv=>by
  obtain⟨x,h1,h2,rfl⟩:=mP hv
  rw[RS,aff] at h2
  have:=XH h2.2 (XG (h.fr _ _ h1))
  rw[hk.fr i h2.1]
  exact .of (Rl.solid (fun o ho=>⟨(hk.ob o ho).ob,(hk.ob o ho).ln⟩) hk.om _ _ h2.2 this)
 ob:=fun o y hy=>by
  have hO:memN o O=true:=by
   have:∀{is:List Nat} {y:Ob R.T},look (selF (fun o b=>!(memN o W)&& solidO W b) mark st.ob is) o=some y->memN o is=true:=by
    intro is
    induction is with
    |nil=>intro y h;cases h
    |cons j is ih=>
     intro y h
     show (Nat.beq o j||memN o is)=true
     unfold selF at h
     by_cases e:o=j
     ·subst e;rw[afi];rfl
     ·split at h
      ·rename_i x hx
       cases hp:(!(memN j W)&& solidO W x)
       ·rw[hp] at h;rw[ih h,Bool.or_true]
       ·rw[hp,cond_true,bf _ _ e] at h;rw[ih h,Bool.or_true]
      ·rw[ih h,Bool.or_true]
   exact this hy
  obtain⟨x,h1,h2,rfl⟩:=mP hy
  rw[RS,aff] at h2
  have hc:=((hk.ob o h2.1).ro (hro o x h1 h2.1 hO h2.2)).2
  exact hmark _ _ _ _ (ML (fun o ho=>⟨(hk.ob o ho).ob,(hk.ob o ho).ln⟩) hk.om h2.1 hc h2.2 (h.ob _ _ h1))}
theorem Gt {W K O:List Nat} {st':MS R.T} {o:Nat} {x:Ob R.T} (h1:look st.ob o=some x) (h2:memN o W=false) (h3:memN o O=true) (h4:solidO W x=true):RO ((Aq.base W K O .ro st).over st') o:=by
 intro y hy
 have hl:∃z,look (selF (fun o b=>!(memN o W)&& solidO W b) Ob.ro st.ob O) o=some (.ro z):=by
  have:∀is:List Nat,memN o is=true->∃z,look (selF (fun o b=>!(memN o W)&& solidO W b) Ob.ro st.ob is) o=some (.ro z):=by
   intro is
   induction is with
   |nil=>intro h;cases h
   |cons j is ih=>
    intro h
    by_cases e:o=j
    ·subst e
     unfold selF
     rw[h1]
     dsimp only
     rw[h2,h4]
     exact⟨x,bX _ _ _⟩
    ·have h':(Nat.beq o j||memN o is)=true:=h
     rw[Bo e,Bool.false_or] at h'
     obtain⟨z,hz⟩:=ih h'
     refine⟨z,?_⟩
     unfold selF
     split
     ·rename_i w hw
      cases (!(memN j W)&& solidO W w)
      ·exact hz
      ·rw[cond_true,bf _ _ e];exact hz
     ·exact hz
  exact this O h3
 obtain⟨z,hz⟩:=hl
 have hy':look (selF (fun o b=>!(memN o W)&& solidO W b) Ob.ro st.ob O++st'.ob) o=some y:=hy
 rw[kC,hz] at hy'
 cases hy';rfl
theorem XJ {t:Nat}:∀{x:Ob R.T},isRo x=true->isRo (Ob.wk t x)=true
 |.ro _,_=>rfl
 |.gone,_=>rfl
 |.cells _,h=>by cases h
 |.map _ _ _,h=>by cases h
 |.smap _ _,h=>by cases h
 |.arr _ _,h=>by cases h
theorem Br {t:Nat} {x:Ob R.T} (h:isRo x=true):isRo (Ob.kill t x)=true:=by
 have e:Ob.kill t x=bif Ob.ment t x then .gone else x:=by cases x<;>first|rfl|cases h
 rw[e]
 cases Ob.ment t x
 ·exact h
 ·rfl
theorem ay.wk {p t s n:Nat} (hl:ρ.om.lo<=s):ay nr p st ρ σ (st.wk t) (ρ.bK t s) (σ.aI s n):=⟨rfl,rfl,rfl,iP _,⟨fun _ _=>rfl,fun s' hs'=>Bd _ _ (by omega)⟩,fun _ _ _=>rfl,fun hr=>⟨fun x hx=>by
 have hx':look (mapF (Ob.wk t) st.ob) p=some x:=hx
 rw[iK,aat] at hx'
 obtain⟨z,hz,rfl⟩:=hx'
 exact XJ (hr z hz),fun _=>⟨rfl,rfl⟩⟩⟩
theorem ay.set {o q s:Nat} {x y:Ob R.T} {a:AObj} (hl:look st.ob o=some y) (hy:isRo y=false):ay nr q st ρ σ (st.set o x) ρ (σ.setObj (ρ.om.lc o) s a):=⟨rfl,rfl,rfl,iP _,⟨fun _ _=>rfl,fun _ _=>rfl⟩,fun _ _ hL=>Gs hL,fun hr=>by
 have hne:q≠o:=by rintro rfl;rw[hr y hl] at hy;cases hy
 refine⟨fun z hz=>?_,fun s'=>⟨mO _ _ _ _ hne,tH _ _ _ _ hne⟩⟩
 have hz':look ((o,x)::delF o st.ob) q=some z:=hz
 rw[bf _ _ hne,eY hne] at hz'
 exact hr z hz'⟩
theorem ay.new {o q s:Nat} {x:Ob R.T} {a:AObj} (hne:q≠o):ay nr q st ρ σ (st.new o x) (ρ.dI o s) (σ.setObj (ρ.om.lc o) s a):=⟨by simp[au.dI,upd,hne],rfl,rfl,iP _,⟨fun _ _=>rfl,fun _ _=>rfl⟩,fun _ _ hL=>Gs hL,fun hr=>by
 refine⟨fun z hz=>?_,fun s'=>⟨mO _ _ _ _ hne,tH _ _ _ _ hne⟩⟩
 have hz':look ((o,x)::mapF (Ob.kill o) (delF o st.ob)) q=some z:=hz
 rw[bf _ _ hne,iK,eY hne,aat] at hz'
 obtain⟨w,hw,rfl⟩:=hz'
 exact Br (hr w hw)⟩
theorem eZ {d:Option Nat} {v:TV R.T}:(st.putO d v).ob=st.ob:=by cases d<;>rfl
theorem ay.same {st':MS R.T} {o:Nat} (h:st'.ob=st.ob):ay nr o st ρ σ st' ρ σ:=⟨rfl,rfl,rfl,iP _,⟨fun _ _=>rfl,fun _ _=>rfl⟩,fun _ _ _=>rfl,fun hr=>⟨fun x hx=>hr x (by rw[<-h];exact hx),fun _=>⟨rfl,rfl⟩⟩⟩
theorem ay.congr {st' bL:MS R.T} {ρ':au} {σ':Sig} {o:Nat} (h:ay nr o st ρ σ st' ρ' σ') (e:bL.ob=st'.ob):ay nr o st ρ σ bL ρ' σ':=⟨h.ob,h.ln,h.om,h.nx,h.lp,h.dp,fun hr=>⟨fun x hx=>(h.ro hr).1 x (by rw[<-e];exact hx),(h.ro hr).2⟩⟩
theorem ay.from {st' bL:MS R.T} {ρ':au} {σ':Sig} {o:Nat} (h:ay nr o st ρ σ st' ρ' σ') (e:st.ob=bL.ob):ay nr o bL ρ σ st' ρ' σ':=⟨h.ob,h.ln,h.om,h.nx,h.lp,h.dp,fun hr=>h.ro fun x hx=>hr x (by rw[<-e];exact hx)⟩
theorem Kp.op {d:Option Nat} {W:List Nat} {y:V} {st':MS R.T} {ρ':au} {σ':Sig} {Q:Nat->Prop} (hd:∀p,memN p W=false->d≠some p/\Q p) (h:∀p,Q p->ay nr p st ρ σ st' ρ' σ'):Kp nr W st fr σ ρ st' (fr.put d y) σ' ρ':=
 ⟨fun i hi=>by
   cases d with
   |none=>rfl
   |some j=>exact xu _ _ (by have:=(hd i hi).1;simp at this;simpa using fun e=>this e.symm),fun p hp=>h p (hd p hp).2⟩
theorem MN {W K O:List Nat} {st':MS R.T} {o:Nat} (h:look st'.ob o=none):RO ((Aq.base W K O .ro st).over st') o:=by
 intro y hy
 have hy':look (selF (fun o b=>!(memN o W)&& solidO W b) Ob.ro st.ob O++st'.ob) o=some y:=hy
 rw[kC] at hy'
 split at hy'
 ·rename_i x hx
  cases hy'
  obtain⟨z,_,_,rfl⟩:=mP hx
  rfl
 ·rw[h] at hy';cases hy'
theorem xH {st':MS R.T} {o:Nat} (h1:RO st o) (h2:RO st' o):RO (st.over st') o:=by
 intro y hy
 have hy':look (st.ob++st'.ob) o=some y:=hy
 rw[kC] at hy'
 split at hy'
 ·rename_i x hx;cases hy';exact h1 _ hx
 ·exact h2 _ hy'
theorem MO {W K O:List Nat} {mark:Ob R.T->Ob R.T} {o:Nat} (hm:∀x,isRo x=true->isRo (mark x)=true) (h:RO st o):RO (Aq.base W K O mark st) o:=by
 intro y hy
 obtain⟨x,h1,_,rfl⟩:=mP hy
 exact hm _ (h _ h1)
theorem finish {W K O:List Nat} {H S' bL:MS R.T} {fr':Fr} {ρ':au} {σ':Sig} {b':Nat} (hi:ak ρ b st fr σ) (hH:∀o,memN o W=false->RO st o->RO H o) (hro:∀o x,look st.ob o=some x->memN o W=false->memN o O=true->solidO W x=true->RO H o)
 (hk:Kp nr W H fr σ ρ S' fr' σ' ρ') (hi':ak ρ' b' bL fr' σ') (hn:∀o,memN o W=false->RO H o->look bL.ob o=none):
 ak ρ' b' ((Aq.base W K O (fun b=>b) st).over bL) fr' σ'/\Kp nr W st fr σ ρ ((Aq.base W K O (fun b=>b) st).over bL) fr' σ' ρ':=by
 have hk2:Kp nr W H fr σ ρ bL fr' σ' ρ':=⟨hk.fr,fun o ho=>⟨(hk.ob o ho).ob,(hk.ob o ho).ln,(hk.ob o ho).om,(hk.ob o ho).nx,(hk.ob o ho).lp,(hk.ob o ho).dp,fun hr=>⟨fun x hx=>(by rw[hn o ho hr] at hx;cases hx),((hk.ob o ho).ro hr).2⟩⟩⟩
 refine⟨(hi.base (fun _ _ _ _ h=>h) hk2 hi' hro).over hi',hk.fr,fun o ho=>⟨(hk.ob o ho).ob,(hk.ob o ho).ln,(hk.ob o ho).om,(hk.ob o ho).nx,(hk.ob o ho).lp,(hk.ob o ho).dp,fun hr=>⟨?_,((hk.ob o ho).ro (hH o ho hr)).2⟩⟩⟩
 exact xH (MO (fun _ h=>h) hr) fun x hx=>(by rw[hn o ho (hH o ho hr)] at hx;cases hx)
theorem Bt {x:TV R.T} {v:V} (hx:isE x=true) (h:bY fr ρ top x v):v= .lst .nil []\/v= .lst .full []:=by
 cases x<;>first| (cases hx;done)|skip
 ·exact .inl (Rl.fF (R:=R) (show Rl R ρ top .nils v from h))
 ·rename_i c t l
  obtain⟨c',hv,hc⟩:=Rl.dB (R:=R) (show Rl R ρ top (.lst c t l) v from h)
  cases c<;>first| (cases hx;done)|skip
  ·have:l=[]:=by simpa [isE] using hx
   subst this
   have hc':c'= .nil:=hc
   rw[hc'] at hv;exact .inl hv
  ·have:l=[]:=by simpa [isE] using hx
   subst this
   have hc':c'= .full:=hc
   rw[hc'] at hv;exact .inr hv
theorem xJ {W:List Nat}:∀(l:List (Nat×Sk)) (st:MS R.T) (ρ:au),ak ρ b st fr σ->∃ρ',ak ρ' b (prepS W l st) fr σ/\Kp nr W st fr σ ρ (prepS W l st) fr σ ρ'
 | [],st,ρ,h=>⟨ρ,h,.refl⟩
 | (i,k)::l,st,ρ,h=>by
   have other:prepS W ((i,k)::l) st=prepS W l st->∃ρ',ak ρ' b (prepS W ((i,k)::l) st) fr σ/\Kp nr W st fr σ ρ (prepS W ((i,k)::l) st) fr σ ρ':=fun e=>by
    rw[e];exact xJ l st ρ h
   cases k<;>first|exact other rfl|skip
   rename_i o t
   unfold prepS
   split
   ·rename_i v hv
    cases hb:(isE v&& memN o W)
    ·exact xJ l st ρ h
    ·rw[cond_true]
     rw[RS] at hb
     have hg:=h.ghost o t
     have hE:=Bt hb.1 (h.fr _ _ hv)
     have kD:ak (ρ.gh o) b (⟨(i,.vw o t)::(st.new o (.arr t [])).fr,(st.new o (.arr t [])).ob⟩:MS R.T) fr σ:={hg with
      fr:=fun j y hy=>by
       by_cases e:j=i
       ·subst e
        have hy':look ((j,TV.vw o t)::(st.new o (.arr t [])).fr) j=some y:=hy
        rw[bX] at hy';cases hy'
        exact .of (by unfold Rl;exact .inr ⟨jM (ρ:=ρ) (n:=0),hE⟩)
       ·have hy':look ((i,TV.vw o t)::(st.new o (.arr t [])).fr) j=some y:=hy
        rw[bf _ _ e] at hy'
        exact hg.fr j y hy'
      ob:=hg.ob}
     obtain⟨ρ',h1,h2⟩:=xJ (W:=W) l _ _ kD
     refine⟨ρ',h1,Kp.trans ⟨fun _ _=>rfl,fun p hp=>?_⟩ h2⟩
     have hne:p≠o:=by rintro rfl;rw[hb.2] at hp;cases hp
     refine⟨(fG p hne).1,(fG p hne).2,rfl,iP _,⟨fun _ _=>rfl,fun _ _=>rfl⟩,fun _ _ _=>rfl,fun hr=>⟨fun x hx=>?_,fun _=>⟨rfl,rfl⟩⟩⟩
     have hx':look ((o,Ob.arr t [])::mapF (Ob.kill o) (delF o st.ob)) p=some x:=hx
     rw[bf _ _ hne,iK,eY hne,aat] at hx'
     obtain⟨w,hw,rfl⟩:=hx'
     exact Br (hr w hw)
   ·exact xJ l st ρ h
theorem XK {W:List Nat} (o:Nat) (k:ObSk) (st:MS R.T) (ρ:au) (h:ak ρ b st fr σ):∃ρ',ak ρ' b (prepO1 W o k st) fr σ/\Kp nr W st fr σ ρ (prepO1 W o k st) fr σ ρ':=by
 have same:∃ρ',ak ρ' b st fr σ/\Kp nr W st fr σ ρ st fr σ ρ':=⟨ρ,h,.refl⟩
 unfold prepO1
 split
 ·split
  ·rename_i p t
   split
   ·rename_i cs hv
    split
    ·rename_i v
     cases hb:(isE v&& memN p W&& !(Nat.beq o p))
     ·exact same
     ·rw[cond_true]
      rw[RS,RS,aff] at hb
      have hop:o≠p:=qg hb.2
      have hg:=h.ghost p t
      obtain⟨s,cs,h1,h2,h3⟩:=h.ob _ _ hv
      obtain⟨w,ws,rfl,h4,h5⟩:=h3.inv_cons
      have h6:=h5.inv_nil
      subst h6
      have hE:=Bt (fr:=fr) hb.1.1 (.of h4)
      refine⟨ρ.gh p,{hg with
       ob:=fun j y hy=>by
        by_cases e:j=o
        ·subst e
         have hy':look ((j,Ob.cells [.vw p t])::(st.new p (.arr t [])).ob) j=some y:=hy
         rw[bX] at hy';cases hy'
         exact⟨s,[w],(fG j hop).1.trans h1,h2,.cons' (by unfold Rl;exact .inr ⟨jM (ρ:=ρ) (n:=0),hE⟩) rfl⟩
        ·have hy':look ((o,Ob.cells [.vw p t])::(st.new p (.arr t [])).ob) j=some y:=hy
         rw[bf _ _ e] at hy'
         exact hg.ob j y hy'},fun _ _=>rfl,fun q hq=>?_⟩
      have hne:q≠p:=by rintro rfl;rw[hb.1.2] at hq;cases hq
      refine⟨(fG q hne).1,(fG q hne).2,rfl,iP _,⟨fun _ _=>rfl,fun _ _=>rfl⟩,fun _ _ _=>rfl,fun hr=>⟨fun x hx=>?_,fun _=>⟨rfl,rfl⟩⟩⟩
      have hqo:q≠o:=by rintro rfl;have:=hr _ hv;cases this
      have hx':look ((o,Ob.cells [.vw p t])::((p,Ob.arr t [])::mapF (Ob.kill p) (delF p st.ob))) q=some x:=hx
      rw[bf _ _ hqo,bf _ _ hne,iK,eY hne,aat] at hx'
      obtain⟨w,hw,rfl⟩:=hx'
      exact Br (hr w hw)
    ·exact same
   ·exact same
  ·rename_i p t
   split
   ·rename_i cs hv
    split
    ·rename_i v
     cases hb:(isE v&& memN p W&& !(Nat.beq o p))
     ·exact same
     ·rw[cond_true]
      rw[RS,RS,aff] at hb
      have hop:o≠p:=qg hb.2
      have hg:=h.ghost p t
      obtain⟨s,cs,h1,h2,h3⟩:=h.ob _ _ hv
      obtain⟨w,ws,rfl,h4,h5⟩:=h3.inv_cons
      have h6:=h5.inv_nil
      subst h6
      have hE:=Bt (fr:=fr) hb.1.1 (.of h4)
      refine⟨ρ.gh p,{hg with
       ob:=fun j y hy=>by
        by_cases e:j=o
        ·subst e
         have hy':look ((j,Ob.cells [.sub p t 0 0])::(st.new p (.arr t [])).ob) j=some y:=hy
         rw[bX] at hy';cases hy'
         exact⟨s,[w],(fG j hop).1.trans h1,h2,.cons' (by unfold Rl;exact⟨afJ _,afJ _,Int.natCast_nonneg _,.inr ⟨rfl,by rcases hE with h|h<;>exact⟨_,h⟩⟩⟩) rfl⟩
        ·have hy':look ((o,Ob.cells [.sub p t 0 0])::(st.new p (.arr t [])).ob) j=some y:=hy
         rw[bf _ _ e] at hy'
         exact hg.ob j y hy'},fun _ _=>rfl,fun q hq=>?_⟩
      have hne:q≠p:=by rintro rfl;rw[hb.1.2] at hq;cases hq
      refine⟨(fG q hne).1,(fG q hne).2,rfl,iP _,⟨fun _ _=>rfl,fun _ _=>rfl⟩,fun _ _ _=>rfl,fun hr=>⟨fun x hx=>?_,fun _=>⟨rfl,rfl⟩⟩⟩
      have hqo:q≠o:=by rintro rfl;have:=hr _ hv;cases this
      have hx':look ((o,Ob.cells [.sub p t 0 0])::((p,Ob.arr t [])::mapF (Ob.kill p) (delF p st.ob))) q=some x:=hx
      rw[bf _ _ hqo,bf _ _ hne,iK,eY hne,aat] at hx'
      obtain⟨w,hw,rfl⟩:=hx'
      exact Br (hr w hw)
    ·exact same
   ·exact same
  ·exact same
 ·exact same
theorem MP {W:List Nat}:∀(l:List (Nat×ObSk)) (st:MS R.T) (ρ:au),ak ρ b st fr σ->∃ρ',ak ρ' b (prepO W l st) fr σ/\Kp nr W st fr σ ρ (prepO W l st) fr σ ρ'
 | [],st,ρ,h=>⟨ρ,h,.refl⟩
 | (o,k)::l,st,ρ,h=>by
   obtain⟨ρ1,h1,h2⟩:=XK (nr:=nr) (W:=W) o k st ρ h
   obtain⟨ρ2,h3,h4⟩:=MP (W:=W) l _ _ h1
   exact⟨ρ2,h3,h2.trans h4⟩
theorem XL {W:List Nat} {o:Nat} {k:ObSk} {st:MS R.T} (h:st.fr=[]):(prepO1 W o k st).fr=[]:=by
 unfold prepO1
 split
 ·split
  ·split
   ·split
    ·rename_i p t _ _ v _
     cases (isE v&& memN p W&& !(Nat.beq o p))
     ·exact h
     ·show mapF (killO p) st.fr=[]
      rw[h];rfl
    ·exact h
   ·exact h
  ·split
   ·split
    ·rename_i p t _ _ v _
     cases (isE v&& memN p W&& !(Nat.beq o p))
     ·exact h
     ·show mapF (killO p) st.fr=[]
      rw[h];rfl
    ·exact h
   ·exact h
  ·exact h
 ·exact h
theorem MQ {W:List Nat}:∀{l:List (Nat×ObSk)} {st:MS R.T},st.fr=[]->(prepO W l st).fr=[]
 | [],_,h=>h
 | (o,k)::l,st,h=>MQ (l:=l) (XL h)
section
variable (hR:RegOK R)
include hR
omit hR in
theorem MR {W:List Nat}:∀{l:List (Nat×Sk)},st.fr=[]->prepS W l st=st
 | [],_=>rfl
 | (i,k)::l,h=>by
   have:=MR (W:=W) (l:=l) h
   cases k<;>first|exact this|skip
   unfold prepS
   rw[h];exact this
omit hR in
theorem MU:∀{l:List (Nat×Sk)} {p:PaySl R.T l},pkSl R [] l=some p->l=[]
 | [],_,_=>rfl
 | [(i,k)],p,h=>by cases h
 | (i,k)::q::l,p,h=>by cases h
omit hR in
theorem XM {W:List Nat} (he:st.fr=[]) {s:Shape} {p:Pay R.T s} (hp:Aq.packW R W st s=some p):(unpack R s p).fr=[]:=by
 unfold Aq.packW at hp
 have he':=MQ (W:=W) (l:=s.ob) he
 rw[MR he'] at hp
 generalize prepO W s.ob st=st at hp he'
 replace he:=he'
 clear he'
 obtain⟨sl,ob⟩:=s
 cases ob with
 |nil=>
  have hp':pkSl R st.fr sl=some p:=hp
  rw[he] at hp'
  have:=MU hp'
  subst this;rfl
 |cons o os=>
  unfold Aq.pack at hp
  rw[he] at hp
  cases hu:pkSl R [] sl with
  |none=>simp only[hu] at hp;cases hp
  |some x=>
   have:=MU hu
   subst this;rfl
theorem ak.packW {W:List Nat} (h:ak ρ b st fr σ) {s:Shape} {p:Pay R.T s} (hp:Aq.packW R W st s=some p):∃ρ' S',ak ρ' b (unpack R s p) fr σ/\Kp nr W st fr σ ρ S' fr σ ρ'/\(st.fr=[]->(unpack R s p).fr=[])/\∀i,memN i W=false->RO st i->look (unpack R s p).ob i=none:=by
 obtain⟨ρ0,h01,h02⟩:=MP (nr:=nr) (W:=W) s.ob st ρ h
 obtain⟨ρ',h1,h2'⟩:=xJ (nr:=nr) (W:=W) s.sl _ ρ0 h01
 have h2:=h02.trans h2'
 exact⟨ρ',_,h1.pack hR hp,h2,fun he=>XM he hp,fun i hi hr=>XF hp ((h2.ob i hi).ro hr).1⟩
theorem tK {β:Type} {W:List Nat} (h:ak ρ b st fr σ) {e:Ex}:∀{l:List (Ex×Shape)} {o:Out R.T l},packOut R W e st l=some o->∃ρ' S' st',ak ρ' b st' fr σ/\Kp nr W st fr σ ρ S' fr σ ρ'/\(st.fr=[]->st'.fr=[])/\(∀i,memN i W=false->RO st i->look st'.ob i=none)/\∀(k:Ex->MS R.T->Option β) (bs:MS R.T),unpackOut R bs k l o=k e (bs.over st')
 | [],o,hp=>by cases hp
 | [(x,s)],o,hp=>by
   have hp':(bif exEq e x then Aq.packW R W st s else none)=some o:=hp
   cases hb:exEq e x
   ·rw[hb] at hp';cases hp'
   ·rw[hb,cond_true] at hp'
    have:=MI hb;subst this
    obtain⟨ρ',S',h1,h2,h0,h3⟩:=h.packW hR hp'
    exact⟨ρ',S',_,h1,h2,h0,h3,fun k bs=>rfl⟩
 | (x,s)::q::l,o,hp=>by
   unfold packOut at hp
   cases hb:exEq e x
   ·rw[hb,cond_false] at hp
    cases hu:packOut R W e st (q::l) with
    |none=>simp only[hu] at hp;cases hp
    |some y=>
     simp only[hu] at hp
     obtain rfl:=aeF hp
     obtain⟨ρ',S',st',h1,h3,h0,h4,h2⟩:=tK (β:=β) h hu
     exact⟨ρ',S',st',h1,h3,h0,h4,fun k bs=>h2 k bs⟩
   ·rw[hb,cond_true] at hp
    have:=MI hb;subst this
    cases hu:Aq.packW R W st s with
    |none=>simp only[hu] at hp;cases hp
    |some y=>
     simp only[hu] at hp
     obtain rfl:=aeF hp
     obtain⟨ρ',S',h1,h2,h0,h3⟩:=h.packW hR hu
     exact⟨ρ',S',_,h1,h2,h0,h3,fun k bs=>rfl⟩
end
end
end
end Aq
end
section
namespace Aq
open Go
def ND (E:Env) (o:Oper) (p:Nat):Prop:=o.dst≠some p/\∀d,o.dst=some d->E.cn d≠p
section
variable {R:Reg} {E:Env}
variable {ρ:au} {b:Nat} {st:MS R.T} {fr:Fr} {σ:Sig}
def kE (E:Env) (fr:Fr) (o:Oper):Bool:=match o.op with
 |.call c=>match c.callee with
  |.value f=>dJ E fr o f
  |_=>false
 |_=>false
def eD (E:Env) (fr:Fr) (σ:Sig) (aj:Nat) (o:Oper) (x:V) (σ':Sig):Prop:=
 (kE E fr o=false->∀all os Q,aO all fr o=some true->OW E all (aj+1) os (fr.put o.dst x) σ' Q->OW E all aj (o::os) fr σ Q)/\
 (kE E fr o=false->∀ms all os fs Q,aO all fr o=some true->FW' E ms all (aj+1) os (fr.put o.dst x) σ' (fs++[footI E all fr o true]) Q->FW' E ms all aj (o::os) fr σ fs Q)
theorem eD.of {aj:Nat} {o:Oper} {x:V} {σ':Sig} (h:∀S,opC E S fr σ aj o=some (x,fr,σ')):eD E fr σ aj o x σ':=
 ⟨fun _ _ _ _ hw h'=>OW.op hw h h',fun _ _ _ _ _ _ hw h'=>FW'.op hw h h'⟩
theorem XO {S:bH} {aj:Nat} {o:Oper} {x:V} {σ':Sig} (h:opV E fr σ aj o=some (x,σ')):opC E S fr σ aj o=some (x,fr,σ'):=by
 unfold opC
 split
 ·rename_i c hc;unfold opV at h;rw[hc] at h;cases h
 ·rename_i c hc;unfold opV at h;rw[hc] at h;cases h
 ·rw[h];rfl
theorem MV {o:Oper} {c:Call} {f:Operand} {g:FuncId} {a b:List V} (ho:o.op= .call c) (aQ:c.callee= .value f) (hf:fr.ev E f= .fn (.func g) a b) (h:kE E fr o=false):∀d,o.dst=some d->E.own g d=false:=by
 intro d hd
 unfold kE at h
 rw[ho] at h
 dsimp only at h
 rw[aQ] at h
 dsimp only at h
 unfold dJ at h
 rw[hf,hd] at h
 exact h
theorem eD.bP {aj:Nat} {o:Oper} {x:V} {σ':Sig} (h:opV E fr σ aj o=some (x,σ')):eD E fr σ aj o x σ':=.of fun S=>XO h
def gL (E:Env) (st:MS R.T) (ρ:au) (aj:Nat) (fr:Fr) (σ:Sig) (o:Oper):Res R->Prop
 |.t v=>∃x,eD E fr σ aj o x σ/\Rl R ρ σ.top v x
 |.c c v=>c=true->∃x,eD E fr σ aj o x σ/\Rl R ρ σ.top v x
 |.w v st'=>∃x σ' ρ',eD E fr σ aj o x σ'/\ak ρ' (aj+1) st' fr σ'/\σ'.next=σ.next/\Rl R ρ' σ'.top v x/\∀p,ND E o p->ay true p st ρ σ st' ρ' σ'
 |.wc c v st'=>c=true->∃x σ' ρ',eD E fr σ aj o x σ'/\ak ρ' (aj+1) st' fr σ'/\σ'.next=σ.next/\Rl R ρ' σ'.top v x/\∀p,ND E o p->ay true p st ρ σ st' ρ' σ'
 |.p _ _ o' f=>∀a,o'=some a->∃x,eD E fr σ aj o x σ/\Rl R ρ σ.top (f a) x
theorem iL {top:Nat->Nat} {x:TV R.T} {v:V} (hg:notG x=true) (h:Rl R ρ top x v):RlL R ρ top x.cells v.cells/\notRaw v=true:=by
 cases x with
 |agg cs=>obtain⟨l,rfl,hl⟩:=h.dL;exact⟨hl,rfl⟩
 |int k n=>rw[h.inv_int];exact⟨.cons' (by unfold Rl;rfl) rfl,rfl⟩
 |bool b=>rw[h.gK];exact⟨.cons' (by unfold Rl;rfl) rfl,rfl⟩
 |blit b=>rw[h.ji];exact⟨.cons' (by unfold Rl;rfl) rfl,rfl⟩
 |str b=>rw[h.eH];exact⟨.cons' (by unfold Rl;rfl) rfl,rfl⟩
 |nils=>rw[h.fF];exact⟨.cons' (by unfold Rl;rfl) rfl,rfl⟩
 |tup cs=>obtain⟨l,rfl,hl⟩:=h.sW;exact⟨.cons' h rfl,rfl⟩
 |lst c t l=>obtain⟨c',rfl,hl⟩:=h.dB;exact⟨.cons' h rfl,rfl⟩
 |ref o off=>obtain⟨s,hs,rfl⟩:=h.fU;exact⟨.cons' h rfl,rfl⟩
 |cref o off=>obtain⟨s,rfl,hs⟩:=h.iI;exact⟨.cons' h rfl,rfl⟩
 |mapr o=>obtain⟨s,hs,rfl⟩:=h.mK;exact⟨.cons' h rfl,rfl⟩
 |mapc k e m=>have:=h.nV;subst this;exact⟨.cons' h rfl,rfl⟩
 |fn f a b=>obtain⟨a',b',rfl,_⟩:=h.eB;exact⟨.cons' h rfl,rfl⟩
 |undef=>have:=h.Ma;subst this;exact⟨.cons' h rfl,rfl⟩
 |vw o t=>rcases h.mM with ⟨s,_,rfl⟩| ⟨_,rfl|rfl⟩<;>exact⟨.cons' h rfl,rfl⟩
 |sub o t a b=>rcases h.nW with ⟨_,_,_,⟨s,cp,_,_,rfl⟩| ⟨_,c,rfl⟩⟩<;>exact⟨.cons' h rfl,rfl⟩
 |eref o t i off=>obtain⟨s,_,_,rfl⟩:=h.qc;exact⟨.cons' h rfl,rfl⟩
 |sv o off k n lo hi=>obtain⟨s,_,_,rfl⟩:=h.nX;exact⟨.cons' h rfl,rfl⟩
 |sel o off k n i m=>obtain⟨s,_,_,_,rfl⟩:=h.xD;exact⟨.cons' h rfl,rfl⟩
 |gel k n y i=>obtain⟨_,_,rfl⟩:=h.Bl;exact⟨.cons' h rfl,rfl⟩
 |sg _=>cases hg
 |nilp=>have h':=h;unfold Rl at h';subst h';exact⟨.cons' h rfl,rfl⟩
 |nilf=>have h':=h;unfold Rl at h';subst h';exact⟨.cons' h rfl,rfl⟩
 |nilm=>have h':=h;unfold Rl at h';subst h';exact⟨.cons' h rfl,rfl⟩
 |nili=>have h':=h;unfold Rl at h';subst h';exact⟨.cons' h rfl,rfl⟩
 |opt j w y=>cases hg
 |gone=>cases hg
theorem XP {top:Nat->Nat} {x:TV R.T} {v:V} (hg:oneM x=true) (h:Rl R ρ top x v):oneCell v=true:=by
 cases x with
 |agg cs=>cases hg
 |int k n=>rw[h.inv_int];rfl
 |bool b=>rw[h.gK];rfl
 |blit b=>rw[h.ji];rfl
 |str b=>rw[h.eH];rfl
 |nils=>rw[h.fF];rfl
 |tup cs=>cases hg
 |lst c t l=>obtain⟨c',rfl,hl⟩:=h.dB;rfl
 |ref o off=>obtain⟨s,hs,rfl⟩:=h.fU;rfl
 |cref o off=>obtain⟨s,rfl,hs⟩:=h.iI;rfl
 |mapr o=>obtain⟨s,hs,rfl⟩:=h.mK;rfl
 |mapc k e m=>have:=h.nV;subst this;rfl
 |fn f a b=>obtain⟨a',b',rfl,_⟩:=h.eB;rfl
 |undef=>cases hg
 |vw o t=>rcases h.mM with ⟨s,_,rfl⟩| ⟨_,rfl|rfl⟩<;>rfl
 |sub o t a b=>rcases h.nW with ⟨_,_,_,⟨s,cp,_,_,rfl⟩| ⟨_,c,rfl⟩⟩<;>rfl
 |eref o t i off=>obtain⟨s,_,_,rfl⟩:=h.qc;rfl
 |sv o off k n lo hi=>obtain⟨s,_,_,rfl⟩:=h.nX;rfl
 |sel o off k n i m=>obtain⟨s,_,_,_,rfl⟩:=h.xD;rfl
 |gel k n y i=>obtain⟨_,_,rfl⟩:=h.Bl;rfl
 |sg _=>cases hg
 |nilp=>unfold Rl at h;subst h;rfl
 |nilf=>unfold Rl at h;subst h;rfl
 |nilm=>unfold Rl at h;subst h;rfl
 |nili=>unfold Rl at h;subst h;rfl
 |opt j w y=>cases hg
 |gone=>cases hg
theorem tL {top:Nat->Nat}:∀{x:List (TV R.T)} {v:List V},oneMs x=true->RlL R ρ top x v->oneCells v=true
 | [],v,_,h=>by rw[h.inv_nil];rfl
 |x::xs,v,hg,h=>by
  obtain⟨y,ys,rfl,h1,h2⟩:=h.inv_cons
  unfold oneMs at hg
  rw[RS] at hg
  rw[LW,XP hg.1 h1,tL hg.2 h2];rfl
theorem XQ {top:Nat->Nat} {ag:Bool} {n off:Nat} {cs:List (TV R.T)} {l:List V} {x:TV R.T} (h:RlL R ρ top cs l) (hp:partM ag n cs off=some x):∃v,gu ag n l off=some v/\Rl R ρ top x v:=by
 cases ag with
 |true=>
  have hp':(bif Nat.ble (off+n) cs.length then some (TV.agg ((cs.drop off).take n)) else none)=some x:=hp
  cases hb:Nat.ble (off+n) cs.length
  ·rw[hb] at hp';cases hp'
  ·rw[hb] at hp';cases hp'
   have hle:=ae2 hb
   refine⟨.agg ((l.drop off).take n),?_,by unfold Rl;exact⟨_,rfl,(h.drop off).take n⟩⟩
   unfold gu;rw[if_pos rfl,if_pos (by rw[h.length];exact hle)]
 |false=>
  obtain⟨v,h1,h2⟩:=h.get (show cs[off]? =some x from hp)
  exact⟨v,by unfold gu;simpa using h1,h2⟩
theorem mQ {top:Nat->Nat} {t:TypeId} {off:Nat} {cs:List (TV R.T)} {l:List V} {x:TV R.T} (h:RlL R ρ top cs l) (hp:ldM E t cs off=some x):∃v,ldT E.P t l off=some v/\Rl R ρ top x v:=by
 unfold ldM at hp
 cases h1:isAggT E.P t with
 |none=>simp only[h1] at hp;cases hp
 |some a=>
  cases h2:szT E.P t with
  |none=>simp only[h1,h2] at hp;cases hp
  |some n=>
   simp only[h1,h2] at hp
   unfold ldT;rw[h1,h2];exact XQ h hp
theorem Gu {top:Nat->Nat} {cs vs:List (TV R.T)} {l k:List V} (off:Nat) (h:RlL R ρ top cs l) (h':RlL R ρ top vs k):RlL R ρ top (spliceM cs off vs) (spliceL l off k):=by
 unfold spliceM spliceL
 rw[h'.length]
 exact((h.take off).append h').append (h.drop _)
theorem qp {top:Nat->Nat} {t:TypeId} {z:TV R.T} (h:zeroM E t=some z):∃v,zeroT E.P t=some v/\Rl R ρ top z v:=by
 unfold zeroM at h
 unfold zeroT
 cases h1:E.P.info? t with
 |none=>simp only[h1] at h;cases h
 |some i=>
  cases h2:i.zero with
  |none=>simp only[h1,h2] at h;cases h
  |some z'=>
   simp only[h1,h2] at h
   obtain⟨v,hv,hr⟩:=MB (ρ:=ρ) (top:=top) h
   exact⟨v,by simp[h2,hv],hr⟩
theorem MW {top:Nat->Nat} (place:Nat->Option (Nat×Nat)):∀{ps:List (Nat×TV R.T)} {qs:List (Nat×V)} {cs:List (TV R.T)} {l:List V} {cs':List (TV R.T)},ps.map (·.1)=qs.map (·.1)->RlL R ρ top (ps.map (·.2)) (qs.map (·.2))->
 RlL R ρ top cs l->fillM place cs ps=some cs'->∃l',gN place l qs=some l'/\RlL R ρ top cs' l'
 | [],[],cs,l,cs',_,_,h,hf=>by cases hf;exact⟨l,rfl,h⟩
 | [],_::_,_,_,_,h,_,_,_=>by simp at h
 |_::_,[],_,_,_,h,_,_,_=>by simp at h
 | (i,v)::ps,(j,w)::qs,cs,l,cs',hi,hr,h,hf=>by
   simp only[aez,afg] at hi
   obtain⟨rfl,hi⟩:=hi
   obtain⟨y,ys,e,h1,h2⟩:=hr.inv_cons
   simp only[aez,afg] at e
   obtain⟨rfl,rfl⟩:=e
   unfold fillM at hf
   unfold gN
   cases hp:place i with
   |none=>simp only[hp] at hf;cases hf
   |some q=>
    obtain⟨off,size⟩:=q
    simp only[hp] at hf⊢
    cases hb:(Nat.beq v.cells.length size&& Nat.ble (off+size) cs.length&& notG v)
    ·rw[hb] at hf;cases hf
    ·rw[hb,cond_true] at hf
     simp only[RS] at hb
     obtain⟨⟨b1,b2⟩,b3⟩:=hb
     obtain⟨hc,hn⟩:=iL b3 h1
     rw[if_pos ⟨by rw[hc.length];exact aP b1,by rw[h.length];exact ae2 b2,hn⟩]
     exact MW place hi h2 (Gu off h hc) hf
theorem MX {top:Nat->Nat} {x:TV R.T} {v:V} {a:Bool} (h:bM x=some a) (hr:Rl R ρ top x v):v= .bool a:=by
 cases x<;>cases h
 ·exact hr.gK
 ·exact hr.ji
theorem MZ {top:Nat->Nat} {x y:TV R.T} {v w:V} {r:Bool} (h:eqSM x y=some r) (hx:Rl R ρ top x v) (hy:Rl R ρ top y w):∃a b,v= .bool a/\w= .bool b/\r=(a==b):=by
 unfold eqSM at h
 cases h1:bM x with
 |none=>simp only[h1] at h;cases h
 |some a=>
  cases h2:bM y with
  |none=>simp only[h1,h2] at h;cases h
  |some b=>simp only[h1,h2] at h;cases h;exact⟨a,b,MX h1 hx,MX h2 hy,rfl⟩
theorem Gv {top:Nat->Nat} {mR:TypeId->TV R.T->TV R.T->Option Bool} {eqv:TypeId->V->V->Option Bool} (he:∀t x y v w r,mR t x y=some r->Rl R ρ top x v->Rl R ρ top y w->eqv t v w=some r)
 {xs ys:List (TV R.T)} {vs ws:List V} (hx:RlL R ρ top xs vs) (hy:RlL R ρ top ys ws):∀{fs:List Field} {r:Bool},eqFlM E mR xs ys fs=some r->pz E.P eqv vs ws fs=some r
 | [],r,h=>by cases h;rfl
 |f::fs,r,h=>by
  unfold eqFlM at h
  unfold pz
  split at h
  ·rename_i hn;rw[if_pos hn];exact Gv he hx hy h
  ·rename_i hn
   rw[if_neg hn]
   cases h1:ldM E f.type xs f.offset with
   |none=>simp only[h1] at h;cases h
   |some a=>
    cases h2:ldM E f.type ys f.offset with
    |none=>simp only[h1,h2] at h;cases h
    |some c=>
     cases h3:mR f.type a c with
     |none=>simp only[h1,h2,h3] at h;cases h
     |some r1=>
      cases h4:eqFlM E mR xs ys fs with
      |none=>simp only[h1,h2,h3,h4] at h;cases h
      |some q=>
       simp only[h1,h2,h3,h4] at h;cases h
       obtain⟨v1,e1,g1⟩:=mQ hx h1
       obtain⟨v2,e2,g2⟩:=mQ hy h2
       simp[e1,e2,he _ _ _ _ _ _ h3 g1 g2,Gv he hx hy h4]
theorem M0 {top:Nat->Nat} {mR:TypeId->TV R.T->TV R.T->Option Bool} {eqv:TypeId->V->V->Option Bool} (he:∀t x y v w r,mR t x y=some r->Rl R ρ top x v->Rl R ρ top y w->eqv t v w=some r)
 {e:TypeId} {sz:Nat} {xs ys:List (TV R.T)} {vs ws:List V} (hx:RlL R ρ top xs vs) (hy:RlL R ρ top ys ws):∀{is:List Nat} {r:Bool},eqElM E mR e sz xs ys is=some r->qX E.P eqv e sz vs ws is=some r
 | [],r,h=>by cases h;rfl
 |i::is,r,h=>by
  unfold eqElM at h
  unfold qX
  cases h1:ldM E e xs (i*sz) with
  |none=>simp only[h1] at h;cases h
  |some a=>
   cases h2:ldM E e ys (i*sz) with
   |none=>simp only[h1,h2] at h;cases h
   |some c=>
    cases h3:mR e a c with
    |none=>simp only[h1,h2,h3] at h;cases h
    |some r1=>
     cases h4:eqElM E mR e sz xs ys is with
     |none=>simp only[h1,h2,h3,h4] at h;cases h
     |some q=>
      simp only[h1,h2,h3,h4] at h;cases h
      obtain⟨v1,e1,g1⟩:=mQ hx h1
      obtain⟨v2,e2,g2⟩:=mQ hy h2
      simp[e1,e2,he _ _ _ _ _ _ h3 g1 g2,M0 he hx hy h4]
theorem Bu {top:Nat->Nat}:∀(d:Nat) (t:TypeId) (x y:TV R.T) (v w:V) (r:Bool),eqTM E d t x y=some r->Rl R ρ top x v->Rl R ρ top y w->nG E.P d t v w=some r
 |0,_,_,_,_,_,_,h,_,_=>by cases h
 |d+1,t,x,y,v,w,r,h,hx,hy=>by
  unfold eqTM at h
  unfold nG
  split at h
  ·rename_i fs xs ys hu
   obtain⟨l,rfl,h1⟩:=hx.dL
   obtain⟨k,rfl,h2⟩:=hy.dL
   rw[hu];dsimp only
   split at h
   ·cases h
   ·rename_i hs;rw[if_neg hs];exact Gv (Bu d) h1 h2 h
  ·rename_i n e xs ys hu
   obtain⟨l,rfl,h1⟩:=hx.dL
   obtain⟨k,rfl,h2⟩:=hy.dL
   rw[hu];dsimp only
   cases hs:szT E.P e with
   |none=>simp only[hs] at h;cases h
   |some sz=>simp only[hs] at h;simp only[Option.bind_some];exact M0 (Bu d) h1 h2 h
  ·cases h
  ·cases h
  ·rename_i hu
   obtain⟨a,c,rfl,rfl,rfl⟩:=MZ h hx hy
   rw[hu]
  ·rename_i k a k' c hu
   rw[hx.inv_int,hy.inv_int,hu];exact h
  ·rename_i a c hu
   rw[hx.eH,hy.eH,hu];exact h
  ·cases h
theorem M4 {top:Nat->Nat} {t:TypeId} {x y:TV R.T} {v w:V} {r:Bool} (h:eqM E t x y=some r) (hx:Rl R ρ top x v) (hy:Rl R ρ top y w):fO E.P t v w=some r:=by
 unfold eqM at h
 unfold fO
 split at h
 ·rename_i fs xs ys hu
  split at h
  ·cases h
  ·rename_i hs
   have:=Bu 8 t _ _ v w r h hx hy
   obtain⟨l,rfl,h1⟩:=hx.dL
   obtain⟨k,rfl,h2⟩:=hy.dL
   rw[hu];dsimp only;rw[if_neg hs];exact this
 ·rename_i fs xs ys hu
  split at h
  ·cases h
  ·rename_i hs
   have:=Bu 8 t _ _ v w r h hx hy
   obtain⟨l,rfl,h1⟩:=hx.dL
   obtain⟨k,rfl,h2⟩:=hy.dL
   rw[hu];dsimp only;rw[if_neg hs];exact this
 ·rename_i hu;cases h;unfold Rl at hx hy;subst hx;subst hy;rw[hu]
 ·rename_i hu;cases h;obtain⟨a,b,rfl,_⟩:=hy.eB;unfold Rl at hx;subst hx;rw[hu]
 ·rename_i hu;cases h;obtain⟨a,b,rfl,_⟩:=hx.eB;unfold Rl at hy;subst hy;rw[hu]
 ·rename_i hu;obtain⟨a,c,rfl,rfl,rfl⟩:=MZ h hx hy;rw[hu]
 ·cases h
end
end Aq
end
section
namespace Aq
open Go
section
variable {R:Reg} {E:Env}
variable {ρ:au} {top:Nat->Nat}
def fI (ρ:au) (top:Nat->Nat) (v:Option V):Res R->Prop
 |.t x=>∃y,v=some y/\Rl R ρ top x y
 |.c c x=>c=true->∃y,v=some y/\Rl R ρ top x y
 |.p _ _ o f=>∀a,o=some a->∃y,v=some y/\Rl R ρ top (f a) y
 |_=>False
theorem M5 {op:BinOp} {k:IntKind} {x y:Int} {r:Res R} (h:intM R op k x y=some r):fI ρ top (dO op k x y) r:=by
 unfold intM at h
 cases op<;>cases h<;>first
  |exact⟨_,rfl,by unfold Rl;rfl⟩
  | (intro hc
     have hy:¬y=0:=by simpa using hc
     exact⟨_,if_neg hy,by unfold Rl;rfl⟩)
theorem XR {op:BinOp} {k:IntKind} {x y:Int} {r:Res R} (h:shiftM R op k x y=some r):fI ρ top (vY op k x y) r:=by
 unfold shiftM at h
 cases op<;>cases h<;>
  (intro hc
   have hy:¬y<0:=by have:=of_decide_eq_true hc;omega
   exact⟨_,if_neg hy,by unfold Rl;rfl⟩)
theorem XT {op:BinOp} {x y:List UInt8} {r:Res R} (h:strM R op x y=some r):fI ρ top (nH op x y) r:=by
 unfold strM at h
 cases op<;>cases h<;>first
  |exact⟨_,rfl,by unfold Rl;rfl⟩
  | (intro hc
     have hy:¬((x.length+y.length:Nat):Int)>IntKind.i64.max:=by have:=of_decide_eq_true hc;omega
     exact⟨_,if_neg hy,by unfold Rl;rfl⟩)
theorem XU {P:Program} {op:BinOp} {t:TypeId} {k:IntKind} {a b:Int} (h:isShift op=false):gP P op t (.int k a) (.int k b)=dO op k a b:=by
 cases op<;>first| (simp[isShift] at h;done)|simp[gP]
theorem XV {P:Program} {op:BinOp} {t:TypeId} {k k':IntKind} {a b:Int} (h:isShift op=true):gP P op t (.int k a) (.int k' b)=vY op k a b:=by
 cases op<;>first| (simp[isShift] at h;done)|rfl
theorem XY {P:Program} {op:BinOp} {t:TypeId} {a b:List UInt8}:gP P op t (.str a) (.str b)=nH op a b:=by
 cases op<;>rfl
theorem XZ {P:Program} {t:TypeId} {x y:V} {b:Bool} (h:fO P t x y=some b):(∀k n k' m,x= .int k n->y= .int k' m->False)/\∀s s',x= .str s->y= .str s'->False:=by
 unfold fO at h
 constructor
 ·intro k n k' m hx hy;subst hx;subst hy;split at h<;>simp_all
 ·intro s s' hx hy;subst hx;subst hy;split at h<;>simp_all
theorem Bv {P:Program} {t:TypeId} {x y:V} {b:Bool} (h:fO P t x y=some b):gP P .eql t x y=some (.bool b)/\gP P .neq t x y=some (.bool !b):=by
 obtain⟨h1,h2⟩:=XZ h
 constructor
 all_goals
  unfold gP
  split
  ·rename_i he;cases he
  ·rename_i he;cases he
  ·exact(h1 _ _ _ _ rfl rfl).elim
  ·exact(h2 _ _ rfl rfl).elim
  all_goals first| (rw[h];rfl)| (rename_i he;cases he)|simp_all
theorem M6 {t:TypeId} {x y:TV R.T} {v w:V} {c b:Bool} (h:nilM E R t x y=some (c,b)) (hx:Rl R ρ top x v) (hy:Rl R ρ top y w) (hc:c=true):fO E.P t v w=some b:=by
 unfold nilM at h
 split at h
 ·rename_i hu
  cases h;rw[hx.fF,hy.fF]
  unfold fO;rw[hu]
 ·rename_i hu
  cases h
  obtain⟨c',rfl,hcr⟩:=hx.dB
  have X0:c'= .nil:=hcr
  subst X0
  rw[hy.fF,List.isEmpty_iff.1 hc];unfold fO;rw[hu];rfl
 ·rename_i _ _ l _ hu
  cases h
  obtain⟨c',rfl,hcr⟩:=hx.dB
  match l,hc with
  |a::l,_=>rw[hy.fF];unfold fO;rw[hu];cases c'<;>rfl
 ·cases h
theorem X3 {op:BinOp} {t:TypeId} {x y:TV R.T} {v w:V} {r:Res R} (h:binM E R op t x y=some r) (hx:Rl R ρ top x v) (hy:Rl R ρ top y w):fI ρ top (gP E.P op t v w) r:=by
 unfold binM at h
 split at h
 ·rename_i k a k' b
  rw[hx.inv_int,hy.inv_int]
  cases hs:isShift op
  ·rw[hs,cond_false] at h
   split at h
   ·rename_i e;subst e;rw[XU hs];exact M5 h
   ·cases h
  ·rw[hs,cond_true] at h;rw[XV hs];exact XR h
 ·rw[hx.eH,hy.eH,XY];exact XT h
 ·split at h
  ·split at h
   ·rename_i c b hb;cases h
    exact fun hc=>⟨_,(Bv (M6 hb hx hy hc)).1,by unfold Rl;rfl⟩
   ·split at h
    ·rename_i b hb;cases h
     exact⟨_,(Bv (M4 hb hx hy)).1,by unfold Rl;rfl⟩
    ·cases h
  ·split at h
   ·rename_i c b hb;cases h
    exact fun hc=>⟨_,(Bv (M6 hb hx hy hc)).2,by unfold Rl;rfl⟩
   ·split at h
    ·rename_i b hb;cases h
     exact⟨_,(Bv (M4 hb hx hy)).2,by unfold Rl;rfl⟩
    ·cases h
  ·cases h
theorem X4 {op:UnOp} {x:TV R.T} {v:V} {r:Res R} (h:unM R op x=some r) (hx:Rl R ρ top x v):fI ρ top (pE op v) r:=by
 unfold unM at h
 split at h
 ·cases h;rw[hx.inv_int];exact⟨_,rfl,by unfold Rl;rfl⟩
 ·rw[hx.inv_int];exact M5 h
 ·cases h;rw[hx.gK];exact⟨_,rfl,by unfold Rl;rfl⟩
 ·cases h;rw[hx.ji];exact⟨_,rfl,by unfold Rl;rfl⟩
 ·cases h
theorem M7 (s:List UInt8):s.map fC=List.map (encD R (.int .u8)) (s.map fun b=>((b.toNat:Nat):Int)):=by
 show s.map fC=List.map (fun n:Int=>V.int .u8 n) (List.map (fun b:UInt8=>((b.toNat:Nat):Int)) s)
 rw[afK];rfl
theorem Gw:∀l:List Int,(List.map (encD R (.int .u8)) l).mapM pF=some (List.map (fun n:Int=>UInt8.ofNat n.toNat) l)
 | []=>rfl
 |n::l=>by
  show List.mapM pF (V.int .u8 n::List.map (encD R (.int .u8)) l)=_
  rw[aew,Gw l];rfl
theorem X5 {a b:TypeId} {x:TV R.T} {v:V} {σ:Sig} {r:Res R} (h:convM E R a b x=some r) (hx:Rl R ρ top x v):fI ρ top (mh E.P σ a b v) r:=by
 unfold convM at h
 unfold mh
 split at h
 ·rename_i hu hv;cases h;rw[hx.inv_int,hu,hv];exact⟨_,rfl,by unfold Rl;rfl⟩
 ·rename_i hu hv;cases h;rw[hx.eH,hu,hv];exact⟨_,rfl,by unfold Rl;rfl⟩
 ·rename_i hu hv
  rw[hx.eH,hu,hv]
  split at h
  ·rename_i he;cases h
   dsimp only;rw[he]
   exact⟨_,rfl,by unfold Rl;exact⟨.sh,by rw[M7],trivial⟩⟩
  ·cases h
 ·rename_i l hu hv
  obtain⟨c',rfl,_⟩:=hx.dB
  rw[hu,hv]
  split at h
  ·rename_i he;cases h
   dsimp only;rw[he]
   exact⟨_,congrArg (Option.map V.str) (Gw (R:=R) l),by unfold Rl;rfl⟩
  ·cases h
 ·rename_i hu hv
  rw[hx.fF,hu,hv]
  split at h
  ·rename_i he;cases h
   dsimp only;rw[he]
   exact⟨_,rfl,by unfold Rl;rfl⟩
  ·cases h
 ·cases h
theorem oh {x:Option (TV R.T)} {v:Option V} {i:Option Int} (h:bndM R x=some i) (hx:∀y,x=some y->∃w,v=some w/\Rl R ρ top y w) (hn:x=none->v=none):(i=none/\v=none)\/∃n k,i=some n/\v=some (.int k n):=by
 unfold bndM at h
 split at h
 ·cases h;exact .inl ⟨rfl,hn rfl⟩
 ·rename_i k n
  cases h
  obtain⟨w,rfl,hw⟩:=hx _ rfl
  exact .inr ⟨n,k,rfl,by rw[hw.inv_int]⟩
 ·cases h
theorem jk {k:IntKind} {n:Int} {m:Nat} (h:inB n m=true):bnd (.int k n) m=some n.toNat:=by
 unfold inB at h
 have:=of_decide_eq_true h
 simp[bnd,dP,this]
theorem M8 {α:Type} (l:List α) {lo hi:Option Int} {vl vh:Option V} (hl:(lo=none/\vl=none)\/∃n k,lo=some n/\vl=some (.int k n)) (hh:(hi=none/\vh=none)\/∃n k,hi=some n/\vh=some (.int k n)) (hb:subB l.length lo hi=true):
 ∃a c,bS l.length l.length vl vh none=some (a,c,l.length)/\(l.take c).drop a=subL l lo hi:=by
 rcases hl with ⟨rfl,rfl⟩| ⟨n,k,rfl,rfl⟩<;>rcases hh with ⟨rfl,rfl⟩| ⟨m,k',rfl,rfl⟩
 ·exact⟨0,l.length,rfl,by simp[subL]⟩
 ·have h1:inB m l.length=true:=hb
  exact⟨0,m.toNat,by simp[bS,jk h1],by simp[subL]⟩
 ·have h1:inB n l.length=true:=hb
  exact⟨n.toNat,l.length,by simp[bS,jk h1],by simp[subL]⟩
 ·have h1:(inB m l.length&& inB n m.toNat)=true:=hb
  rw[RS] at h1
  exact⟨n.toNat,m.toNat,by simp[bS,jk h1.1,jk h1.2],by simp[subL]⟩
theorem Gx {α:Type} (f:α->V) (l:List α) (a c:Nat):((l.map f).take c).drop a=((l.take c).drop a).map f:=by simp
variable (hR:RegOK R)
include hR
theorem tO (t:Ty) (x:Den R.T t):(encD R t x).cells.length=szD R t/\oneCells (encD R t x).cells=true/\er (encD R t x)=encD R t x/\(isSt t=true->∃l,encD R t x= .agg l)/\(isSt t=false->(encD R t x).cells=[encD R t x]):=by
 cases t with
 |int k=>exact⟨rfl,rfl,rfl,by simp[isSt],fun _=>rfl⟩
 |bool=>exact⟨rfl,rfl,rfl,by simp[isSt],fun _=>rfl⟩
 |str=>exact⟨rfl,rfl,rfl,by simp[isSt],fun _=>rfl⟩
 |slice t=>exact⟨rfl,rfl,rfl,by simp[isSt],fun _=>rfl⟩
 |st n=>
  have he:encD R (.st n) x= .agg (encs R (R.lf n) (R.of n x)):=hR.enc n x
  rw[he]
  have hl:=hR.leaf n
  have key:∀(l:List Ty) (p:PayT R.T l),l.all eX=true->oneCells (encs R l p)=true/\(encs R l p).map aU=encs R l p:=by
   intro l
   induction l with
   |nil=>intro p _;exact⟨rfl,rfl⟩
   |cons t l ih=>
    intro p h
    rw[List.all_cons,RS] at h
    have h1:∀y:Den R.T t,oneCell (encD R t y)=true/\aU (encD R t y)=encD R t y:=by
     intro y
     cases t<;>first|exact⟨rfl,rfl⟩| (have:=h.1;simp[eX] at this)
    cases l with
    |nil=>exact⟨by simp[encs,oneCells,(h1 p).1],by simp[encs,(h1 p).2]⟩
    |cons u l=>
     have:=ih p.2 h.2
     exact⟨by show (oneCell _&& oneCells (encs R (u::l) p.2))=true;rw[(h1 p.1).1,this.1];rfl,by show aU _::List.map aU (encs R (u::l) p.2)=_;rw[(h1 p.1).2,this.2];rfl⟩
  have:=key (R.lf n) (R.of n x) hl
  exact⟨Gh _ _,this.1,by show V.agg (List.map aU _)=_;rw[this.2],fun _=>⟨_,rfl⟩,by simp[isSt]⟩
theorem xK {t:Ty} (l:List (Den R.T t)):eF (szD R t) (l.map (encD R t))=true:=by
 cases l with
 |nil=>rfl
 |cons x l=>show ((encD R t x).cells.length==szD R t)=true;rw[(tO hR t x).1];simp
theorem X6 {t:TypeId} {x:TV R.T} {lo hi:Option (TV R.T)} {v:V} {vl vh:Option V} {σ:Sig} {r:Res R} (h:sliceM E R t x lo hi=some r) (hx:Rl R ρ top x v)
 (hl:∀y,lo=some y->∃w,vl=some w/\Rl R ρ top y w) (hln:lo=none->vl=none) (hh:∀y,hi=some y->∃w,vh=some w/\Rl R ρ top y w) (hhn:hi=none->vh=none):fI ρ top (dQ E.P σ t v vl vh none) r:=by
 unfold sliceM at h
 split at h
 ·rename_i lo' hi' e1 e2
  have b1:=oh e1 hl hln
  have b2:=oh e2 hh hhn
  split at h
  ·rename_i s hu
   cases h
   rw[hx.eH]
   intro hc
   obtain⟨a,c,h1,h2⟩:=M8 s b1 b2 hc
   refine⟨.str (subL s lo' hi'),?_,by unfold Rl;rfl⟩
   unfold dQ;rw[hu];dsimp only;rw[h1];simp[h2]
  ·rename_i e c u l hu
   split at h
   ·rename_i sz hs
    cases hb:Nat.beq sz (szD R u)
    ·rw[hb] at h;cases h
    ·rw[hb,cond_true] at h;cases h
     have:=aP hb;subst this
     obtain⟨c',rfl,_⟩:=hx.dB
     intro hc
     obtain⟨a,m,h1,h2⟩:=M8 l b1 b2 hc
     unfold dQ;rw[hu];dsimp only
     rw[hs];simp only[Option.bind_some,ab3,h1,xK hR,if_true]
     by_cases hcs:a=0/\m=l.length/\(none:Option V).isNone=true
     ·refine⟨_,by rw[if_pos hcs],?_⟩
      unfold Rl
      refine⟨c',?_,trivial⟩
      rw[<-h2,hcs.1,hcs.2.1];simp
     ·refine⟨_,by rw[if_neg hcs],?_⟩
      unfold Rl
      exact⟨_,by rw[<-h2,Gx],trivial⟩
   ·cases h
  ·cases h
 ·cases h
theorem Bw {t:TypeId} {k:Ty} (hk:keyM E t k=true) (x y:Den R.T k):fB (encD R k x) (encD R k y)=some (beqD R k x y)/\eG E.P t (encD R k x)=true:=by
 unfold keyM at hk
 split at hk
 ·rename_i hu;exact⟨by simp[fB,encD,beqD],by unfold eG;rw[hu];rfl⟩
 ·rename_i hu;exact⟨rfl,by unfold eG;rw[hu];rfl⟩
 ·rename_i hu;exact⟨rfl,by unfold eG;rw[hu];rfl⟩
 ·cases hk
theorem M9 {t:TypeId} {k e:Ty} (hk:keyM E t k=true) (x:Den R.T k):∀m:List (Den R.T k×Den R.T e),gQ (encD R k x) (m.map fun p=>encD R k p.1) (m.map fun p=>encD R e p.2)=some ((mget (beqD R k) x m).map (encD R e))
 | []=>rfl
 | (a,v)::m=>by
   show (fB (encD R k x) (encD R k a)).bind _=some ((bif beqD R k x a then some v else mget (beqD R k) x m).map (encD R e))
   rw[(Bw hR hk x a).1,Option.bind_some]
   cases beqD R k x a
   ·exact M9 hk x m
   ·rfl
theorem Na {t:TypeId} {k e:Ty} (hk:keyM E t k=true) (x:Den R.T k) (v:Den R.T e):∀m:List (Den R.T k×Den R.T e),kN (encD R k x) (encD R e v) (m.map fun p=>encD R k p.1) (m.map fun p=>encD R e p.2)=
 some ((mset (beqD R k) x v m).map (fun p=>encD R k p.1),(mset (beqD R k) x v m).map fun p=>encD R e p.2)
 | []=>rfl
 | (a,w)::m=>by
   show (fB (encD R k x) (encD R k a)).bind _=_
   rw[(Bw hR hk x a).1,Option.bind_some]
   show _=some (List.map _ (bif beqD R k x a then (x,v)::m else (a,w)::mset (beqD R k) x v m),List.map _ (bif beqD R k x a then (x,v)::m else (a,w)::mset (beqD R k) x v m))
   cases beqD R k x a
   ·simp only[aaB,if_false,cond_false]
    rw[Na hk x v m];rfl
   ·rfl
theorem Nb {t:TypeId} {k:Ty} (hk:keyM E t k=true) {x:Den R.T k} {y:TV R.T} {v:V} (h:unD R k y=some x) (hr:Rl R ρ top y v):v=encD R k x:=by
 unfold keyM at hk
 split at hk
 ·exact Gc h hr
 ·exact Gg h hr
 ·exact Gf h hr
 ·cases hk
omit hR in
def mapOf (σ:Sig):V->Option (List V×List V)
 |.nilm=>some ([],[])
 |.mapr loc s=>σ.bg loc s
 |.mapc ks vs=>some (ks,vs)
 |_=>none
omit hR in
theorem Nc {P:Program} {σ:Sig} {t:TypeId} {m k:V} {ok:Bool}:kP P σ t m k ok=(mapT P t).bind fun p=>if eG P p.1 k then (mapOf σ m).bind fun q=>(gQ k q.1 q.2).bind fun r=>
 (match r with|some v=>some (v,true)|none=>(zeroT P p.2).map fun z=>(z,false)).map fun (x:V×Bool)=>if ok then .tup [x.1,.bool x.2] else x.1 else none:=by
 cases m<;>rfl
theorem Gy {t:TypeId} {k e:Ty} {m:List (Den R.T k×Den R.T e)} {y:TV R.T} {w mv:V} {ok:Bool} {σ:Sig} {r:Res R} (h:lookM E R t k e m y ok=some r) (hy:Rl R ρ top y w)
 (hm:mapOf σ mv=some (m.map (fun p=>encD R k p.1),m.map fun p=>encD R e p.2)):fI ρ top (kP E.P σ t mv w ok) r:=by
 unfold lookM at h
 split at h
 ·rename_i kt et ht
  cases hk:keyM E kt k
  ·rw[hk] at h;cases h
  ·rw[hk,cond_true] at h
   split at h
   ·rename_i z hz
    split at h
    ·rename_i z' x hz' hx
     cases h
     have hw:=Nb hR hk hx hy
     subst hw
     obtain⟨zv,hzv,Gz⟩:=qp (ρ:=ρ) (top:=top) hz
     have X7:=qm hR hz' Gz
     rw[Nc,ht];simp only[Option.bind_some]
     rw[if_pos (Bw hR hk x x).2,hm]
     simp only[Option.bind_some]
     rw[M9 hR hk x m]
     simp only[Option.bind_some]
     cases hg:mget (beqD R k) x m with
     |some v=>
      simp only[Option.map_some]
      cases ok
      ·exact⟨_,rfl,Bn hR .any (.inl rfl) e v⟩
      ·refine⟨_,rfl,?_⟩
       rw[cond_true]
       unfold Rl
       exact⟨_,rfl,.cons' (Bn hR .any (.inl rfl) e v) (.cons' (by unfold Rl;rfl) rfl)⟩
     |none=>
      simp only[Option.map_none,hzv,Option.map_some]
      have hz3:Rl R ρ top (tvD R .any e z') zv:=X7
      cases ok
      ·exact⟨_,rfl,hz3⟩
      ·refine⟨_,rfl,?_⟩
       rw[cond_true]
       unfold Rl
       exact⟨_,rfl,.cons' hz3 (.cons' (by unfold Rl;rfl) rfl)⟩
    ·cases h
   ·cases h
 ·cases h
end
end Aq
end
