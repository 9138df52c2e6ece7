import Derived.Test.YtgdialomgeijcaaGreatF3508
set_option linter.all false
section
namespace Aq
open Go
section
variable {R:Reg} {E:Env}
variable {Z:ak} {top:Nat->Nat} {b:Nat} {st:MS R.T} {fr:Fr} {Y:Sig}
theorem xG {n:Nat} {f:Nat} (a b:List V):closeV (n+2) Y (.fn (.func f) a b)=(a.mapM (closeV (n+1) Y)).bind fun a=>(b.mapM (closeV (n+1) Y)).map fun b=>.fn (.func f) a b:=by
 by_cases hp:pclean (.fn (.func f) a b)=true
 .rw[dB hp]
  have:∀cs:List V,pcleanL cs=true->cs.mapM (closeV (n+1) Y)=some cs:=by
   intro cs
   induction cs with
   |nil=>intro _;rfl
   |cons a l ih=>
    intro h
    simp only[pcleanL,P6] at h
    rw[Qk,dB h.1,ih h.2];rfl
  simp only[pclean,P6] at hp
  rw[this a hp.1,this b hp.2];rfl
 .conv=>lhs;unfold closeV
  simp only[hp,if_false,P8]
theorem CZ {n:Nat} {off:Nat} (cs:List V):closeV (n+2) Y (.cref cs off)=(cs.mapM (closeV (n+1) Y)).map (.cref · off):=by
 by_cases hp:pclean (.cref cs off)=true
 .rw[dB hp]
  have:∀cs:List V,pcleanL cs=true->cs.mapM (closeV (n+1) Y)=some cs:=by
   intro cs
   induction cs with
   |nil=>intro _;rfl
   |cons a l ih=>
    intro h
    simp only[pcleanL,P6] at h
    rw[Qk,dB h.1,ih h.2];rfl
  rw[this cs (by simpa [pclean] using hp)];rfl
 .conv=>lhs;unfold closeV
  simp only[hp,if_false,P8]
variable (hR:RegOK R)
include hR
theorem xH {k e:Ty} (m:List (Den R.T k×Den R.T e)):pclean (.mapc (m.map fun p=>encD R k p.1) (m.map fun p=>encD R e p.2))=true:=by
 simp only[pclean,P6]
 have h1:∀m:List (Den R.T k×Den R.T e),pcleanL (m.map fun p=>encD R k p.1)=true/\pcleanL (m.map fun p=>encD R e p.2)=true:=by
  intro m
  induction m with
  |nil=>exact⟨rfl,rfl⟩
  |cons p m ih=>exact⟨by simp[pcleanL,fE hR,ih.1],by simp[pcleanL,fE hR,ih.2]⟩
 exact h1 m
theorem C8:∀(t:Ty) (x:Den R.T t) (v:V),dM t=true->Rl R Z top (tv1 R .any t x) v->∀n Y,closeV (n+2) Y v=some (encD R t x)
 |.int k,x,v,_,h,n,Y=>by rw[Rl.bZ (R:=R) h];exact wh (n+1) _ _
 |.bool,x,v,_,h,n,Y=>by rw[Rl.fq (R:=R) h];exact wm (n+1) _
 |.str,x,v,_,h,n,Y=>by rw[Rl.dN (R:=R) h];exact wo (n+1) _
 |.slice t,x,v,_,h,n,Y=>by
  obtain⟨c,rfl,_⟩:=Rl.dD (R:=R) h
  exact jK _ _ (fE hR _)
 |.st n,_,_,h,_,_,_=>by simp[dM] at h
theorem nS:∀(l:List Ty) (p:PayT R.T l) (vs:List V),l.all dM=true->ah R Z top (tvs R .any l p) vs->∀n Y,vs.mapM (closeV (n+2) Y)=some (encs R l p)
 | [],_,vs,_,h,n,Y=>by rw[ah.bA h];rfl
 | [t],x,vs,hl,h,n,Y=>by
   obtain⟨v,l,rfl,h1,h2⟩:=ah.aS h
   rw[ah.bA h2,Qk,C8 hR t x v (by simpa using hl) h1];rfl
 |t::u::l,p,vs,hl,h,n,Y=>by
  rw[List.all_cons,P6] at hl
  obtain⟨v,ws,rfl,h1,h2⟩:=ah.aS h
  rw[Qk,C8 hR t p.1 v hl.1 h1,nS (u::l) p.2 ws hl.2 h2];rfl
theorem M4 (t:Ty) (x:Den R.T t) (vs:List V) (h:ah R Z top (tvD R .any t x).cells vs) (n:Nat) (Y:Sig):vs.mapM (closeV (n+2) Y)=some (encD R t x).cells:=by
 cases t with
 |st k=>
  have he:encD R (.st k) x= .agg (encs R (R.lf k) (R.of k x)):=hR.enc k x
  rw[he]
  exact nS hR _ _ vs (hR.leaf k) h n Y
 |int k=>exact nS hR [.int k] x vs rfl h n Y
 |bool=>exact nS hR [.bool] x vs rfl h n Y
 |str=>exact nS hR [.str] x vs rfl h n Y
 |slice t=>exact nS hR [.slice t] x vs rfl h n Y
theorem xI {t:Ty} {Z:ak} {top:Nat->Nat}:∀(l:List (Den R.T t)) (cs:List V),ah R Z top (l.flatMap fun x=>(tvD R .any t x).cells) cs->∀(n:Nat) (Y:Sig),cs.mapM (closeV (n+2) Y)=some ((l.map (encD R t)).flatMap V.cells)
 | [],cs,h,n,Y=>by rw[ah.bA h];rfl
 |x::l,cs,h,n,Y=>by
  rw[Qo] at h
  obtain⟨a,b,rfl,h1,h2⟩:=h.split
  rw[List.mapM_append,xI l b h2 n Y,Qd,Qo]
  have:a.mapM (closeV (n+2) Y)=some (encD R t x).cells:=M4 hR t x a h1 n Y
  rw[this];rfl
omit hR in
theorem Da:∀(t:Ty) (x:Den R.T t) (v:V),dM t=true->Rl R Z top (tv1 R .any t x) v->aR v=encD R t x
 |.int k,x,v,_,h=>by rw[Rl.bZ (R:=R) h];rfl
 |.bool,x,v,_,h=>by rw[Rl.fq (R:=R) h];rfl
 |.str,x,v,_,h=>by rw[Rl.dN (R:=R) h];rfl
 |.slice t,x,v,_,h=>by
  obtain⟨c,rfl,_⟩:=Rl.dD (R:=R) h
  rfl
 |.st n,_,_,h,_=>by simp[dM] at h
omit hR in
theorem nT:∀(l:List Ty) (p:PayT R.T l) (vs:List V),l.all dM=true->ah R Z top (tvs R .any l p) vs->vs.map aR=encs R l p
 | [],_,vs,_,h=>by rw[ah.bA h];rfl
 | [t],x,vs,hl,h=>by
   obtain⟨v,l,rfl,h1,h2⟩:=ah.aS h
   rw[ah.bA h2,Qd,Da t x v (by simpa using hl) h1];rfl
 |t::u::l,p,vs,hl,h=>by
  rw[List.all_cons,P6] at hl
  obtain⟨v,ws,rfl,h1,h2⟩:=ah.aS h
  rw[Qd,Da t p.1 v hl.1 h1,nT (u::l) p.2 ws hl.2 h2];rfl
theorem M5 (t:Ty) (x:Den R.T t) (vs:List V) (h:ah R Z top (tvD R .any t x).cells vs):vs.map aR=(encD R t x).cells:=by
 cases t with
 |st k=>
  have he:encD R (.st k) x= .agg (encs R (R.lf k) (R.of k x)):=hR.enc k x
  rw[he]
  exact nT _ _ vs (hR.leaf k) h
 |int k=>exact nT [.int k] x vs rfl h
 |bool=>exact nT [.bool] x vs rfl h
 |str=>exact nT [.str] x vs rfl h
 |slice t=>exact nT [.slice t] x vs rfl h
theorem Db {t:Ty} {Z:ak} {top:Nat->Nat}:∀(l:List (Den R.T t)) (cs:List V),ah R Z top (l.flatMap fun x=>(tvD R .any t x).cells) cs->cs.map aR=(l.map (encD R t)).flatMap V.cells
 | [],cs,h=>by rw[ah.bA h];rfl
 |x::l,cs,h=>by
  rw[Qo] at h
  obtain⟨a,b,rfl,h1,h2⟩:=h.split
  rw[QT,Db l b h2,Qd,Qo,M5 hR t x a h1]
theorem xJ {t:Ty} (l:List (Den R.T t)):chunks (isSt t) (szD R t) l.length ((l.map (encD R t)).flatMap V.cells)=l.map (encD R t):=by
 have:=xu (isSt t) (szD R t) (l.map (encD R t)) (fun v hv=>by
  obtain⟨x,_,rfl⟩:=Qp.1 hv
  exact(nQ hR t x).1)
 rw[Qi] at this
 rw[this,QX]
 refine QZ fun x _=>?_
 show (if isSt t then V.agg (encD R t x).cells else (encD R t x).cells.headD undefV)=encD R t x
 cases hs:isSt t
 .cases t<;>first|rfl| (simp[isSt] at hs;done)
 .obtain⟨c,hc⟩:=(nQ hR t x).2.2.2.1 hs
  rw[hc];rfl
theorem xK {t:Ty} (l:List (Den R.T t)):(isSt t||szD R t==1&& oneCells ((l.map (encD R t)).flatMap V.cells))=true:=by
 cases hs:isSt t
 .have h1:szD R t=1:=by cases t<;>first|rfl| (simp[isSt] at hs;done)
  rw[h1]
  have:oneCells ((l.map (encD R t)).flatMap V.cells)=true:=by
   have:=xA hR l
   unfold oneCells at this⊢
   rw[List.all_flatMap]
   exact this
  rw[this];rfl
 .rfl
omit hR in
theorem Dc:∀(a b:List V),pcleanL (a++b)=(pcleanL a&& pcleanL b)
 | [],b=>by simp[pcleanL]
 |x::a,b=>by simp only[List.cons_append,pcleanL];rw[Dc a b,Bool.and_assoc]
omit hR in
theorem Df (k:IntKind):∀l:List Int,pcleanL (l.map (V.int k))=true
 | []=>by simp[pcleanL]
 |x::l=>by simp only[Qd,pcleanL,wu,Bool.true_and];exact Df k l
omit hR in
theorem xL:∀ss:List Sg,pcleanL (sgV ss)=true
 | []=>by simp[sgV,pcleanL]
 |.i k x::ss=>by show pcleanL (V.int k x::sgV ss)=true;unfold pcleanL;rw[xL ss];simp[pclean]
 |.a k n v::ss=>by
  show pcleanL (v.l.map (V.int k)++sgV ss)=true
  rw[Dc,Df,xL ss];rfl
omit hR in
theorem xM (ss:List Sg):pclean (.agg (sgV ss))=true:=by unfold pclean;exact xL ss
omit hR in
theorem Dh:∀(a b:List V),bS (a++b)=(bS a&& bS b)
 | [],b=>by simp[bS]
 |x::a,b=>by simp only[List.cons_append,bS];rw[Dh a b,Bool.and_assoc]
omit hR in
theorem Di (k:IntKind):∀l:List Int,bS (l.map (V.int k))=true
 | []=>by simp[bS]
 |x::l=>by simp only[Qd,bS,flat,Bool.true_and];exact Di k l
omit hR in
theorem sH:∀ss:List Sg,bS (sgV ss)=true
 | []=>by simp[sgV,bS]
 |.i k x::ss=>by show bS (V.int k x::sgV ss)=true;unfold bS;rw[sH ss];simp[flat]
 |.a k n v::ss=>by
  show bS (v.l.map (V.int k)++sgV ss)=true
  rw[Dh,Di,sH ss];rfl
omit hR in
theorem M6 (ss:List Sg):er (.agg (sgV ss))= .agg (sgV ss):=by
 have:∀ss:List Sg,(sgV ss).map aR=sgV ss:=by
  intro ss
  induction ss with
  |nil=>rfl
  |cons s ss ih=>
   cases s with
   |i k x=>show aR (.int k x)::(sgV ss).map aR=_;rw[ih];rfl
   |a k n v=>
    show (v.l.map (V.int k)++sgV ss).map aR=_
    rw[QT,ih,QX];rfl
 show V.agg ((sgV ss).map aR)=_
 rw[this]
omit hR in
theorem Sg.len:∀s:Sg,s.vs.length=s.w
 |.i _ _=>rfl
 |.a _ n v=>by show (v.l.map _).length=n;rw[Qi,v.h]
theorem Dj (hi:aj Z b st fr Y) {x:TV R.T} {v:V} (h:Rl R Z Y.top x v):∃v',Rl R Z Y.top (clo1 st x) v'/\∀n,closeV (n+3) Y v=closeV (n+3) Y v':=by
 by_cases hx:∃o off,x= .ref o off
 .obtain⟨o,off,rfl⟩:=hx
  unfold clo1
  dsimp only
  split
  .rename_i cs hl
   obtain⟨s,h1,rfl⟩:=h.iQ
   obtain⟨s',l,h2,h3,h4⟩:=hi.rd hl
   rw[h1] at h2;cases h2
   refine⟨.cref l off,by unfold Rl;exact⟨l,rfl,h4⟩,fun n=>?_⟩
   rw[CZ]
   conv=>lhs;unfold closeV
   simp only[pclean,P8,if_false,h3,Option.bind_some]
  .exact⟨v,h,fun _=>rfl⟩
 .by_cases hy:∃o,x= .mapr o
  .obtain⟨o,rfl⟩:=hy
   unfold clo1
   dsimp only
   split
   .rename_i k e m hl
    obtain⟨s,h1,rfl⟩:=h.jM
    obtain⟨s',h2,h3⟩:=hi.rd hl
    rw[h1] at h2;cases h2
    refine⟨.mapc (m.map fun p=>encD R k p.1) (m.map fun p=>encD R e p.2),by unfold Rl;rfl,fun n=>?_⟩
    have hp:=xH hR m
    rw[dB hp]
    have hp':=hp
    simp only[pclean,P6] at hp'
    have key:∀cs:List V,pcleanL cs=true->cs.mapM (closeV (n+2) Y)=some cs:=by
     intro cs
     induction cs with
     |nil=>intro _;rfl
     |cons a l ih=>
      intro h
      simp only[pcleanL,P6] at h
      rw[Qk,dB h.1,ih h.2];rfl
    conv=>lhs;unfold closeV
    simp only[pclean,P8,if_false,h3,Option.bind_some,key _ hp'.1,key _ hp'.2,Option.map_some]
   .exact⟨v,h,fun _=>rfl⟩
  .by_cases hz:∃o t,x= .vw o t
   .obtain⟨o,t,rfl⟩:=hz
    unfold clo1
    dsimp only
    split
    .rename_i t' l hl
     split
     .rename_i e
      subst e
      have hO:=hi.rd hl
      refine⟨.lst .sh (l.map (encD R t')),by unfold Rl;exact⟨.sh,rfl,rfl⟩,fun n=>?_⟩
      rw[jK _ _ (fE hR t')]
      rcases h.jN with ⟨s,h1,rfl⟩| ⟨h1,h2⟩
      .rcases hO.2 with h2| ⟨s',cs,h2,h3,h4⟩
       .rw[h1] at h2;exact absurd h2.2 (by simp)
       .rw[h1] at h2;cases h2
        have hlc:cs.length=l.length*szD R t':=by rw[h4.length,kN]
        have hlen:l.length=Z.ln o:=hO.1
        conv=>lhs;unfold closeV
        simp only[pclean,P8,if_false,h3,Option.bind_some,Qz,Qu]
        rw[if_pos (by rw[hlc,hlen];exact mF _),QJ (by rw[hlc,hlen];exact mF _),xI hR l cs h4 n Y]
        simp only[Option.bind_some]
        rw[<-hlen,xJ hR l,xK hR l,if_pos rfl]
        rfl
      .have hl0:l=[]:=QB (hO.1.trans h1)
       subst hl0
       rcases h2 with rfl|rfl<;>exact jK _ ([]:List (Den R.T t')) (fE hR t')
     .exact⟨v,h,fun _=>rfl⟩
    .exact⟨v,h,fun _=>rfl⟩
   .by_cases hz2:∃o off k n lo hi,x= .sv o off k n lo hi
    .obtain⟨o,off,k,n,lo,hi',rfl⟩:=hz2
     exact⟨v,h,fun _=>rfl⟩
    .by_cases hz3:∃o t a b,x= .sub o t a b
     .obtain⟨o,t,a,b,rfl⟩:=hz3
      unfold clo1
      dsimp only
      split
      .rename_i t' l hl
       split
       .rename_i e
        subst e
        have hO:=hi.rd hl
        have hlen:l.length=Z.ln o:=hO.1
        obtain⟨g0,g1,g2,h⟩:=h.kH
        refine⟨.lst .sh ((subI l a b).map (encD R t')),by unfold Rl;exact⟨.sh,rfl,rfl⟩,fun n=>?_⟩
        rw[jK _ _ (fE hR t')]
        have hsl:(subI l a b).length=(b-a).toNat:=by rw[CS g0 g1,Qs,QY];omega
        rcases h with ⟨s,cp,h1,h2,rfl⟩| ⟨e,c,rfl⟩
        .rcases hO.2 with h2| ⟨s',cs,h2,h3,h4⟩
         .rw[h1] at h2;exact absurd h2.2 (by simp)
         .rw[h1] at h2;cases h2
          have hlc:cs.length=l.length*szD R t':=by rw[h4.length,kN]
          have hp:=MF g0 g1 h4
          have hle:a.toNat*szD R t'+(b-a).toNat*szD R t'<=cs.length:=by
           rw[hlc,<-Qy];exact QD _ (by omega)
          conv=>lhs;unfold closeV
          simp only[pclean,P8,if_false,h3,Option.bind_some]
          rw[if_pos hle,xI hR _ _ hp n Y]
          simp only[Option.bind_some]
          rw[<-hsl,xJ hR,xK hR,if_pos rfl]
          rfl
        .have hl0:subI l a b=[]:=QB (by rw[hsl,e];simp)
         rw[hl0]
         exact jK _ ([]:List (Den R.T t')) (fE hR t')
       .exact⟨v,h,fun _=>rfl⟩
      .exact⟨v,h,fun _=>rfl⟩
     .have:clo1 st x=x:=by cases x<;>first|rfl|exact absurd ⟨_,_,rfl⟩ hx|exact absurd ⟨_,rfl⟩ hy|exact absurd ⟨_,_,rfl⟩ hz|exact absurd ⟨_,_,_,_,_,_,rfl⟩ hz2|exact absurd ⟨_,_,_,_,rfl⟩ hz3
      rw[this];exact⟨v,h,fun _=>rfl⟩
theorem sI (hi:aj Z b st fr Y):∀{x:List (TV R.T)} {v:List V},ah R Z Y.top x v->∃v',ah R Z Y.top (clo1s st x) v'/\∀n,v.mapM (closeV (n+3) Y)=v'.mapM (closeV (n+3) Y)
 | [],v,h=>by rw[h.bA];exact⟨[],rfl,fun _=>rfl⟩
 |x::xs,v,h=>by
  obtain⟨w,ws,rfl,h1,h2⟩:=h.aS
  obtain⟨w',a1,a2⟩:=Dj hR hi h1
  obtain⟨ws',b1,b2⟩:=sI hi h2
  exact⟨w'::ws',.cons' a1 b1,fun n=>by rw[Qk,Qk,a2,b2]⟩
theorem M7 (hi:aj Z b st fr Y) {x:TV R.T} {v:V} (h:Rl R Z Y.top x v):∃v',Rl R Z Y.top (cloM st x) v'/\∀n,closeV (n+4) Y v=closeV (n+4) Y v':=by
 by_cases hx:∃f a b,x= .fn f a b
 .obtain⟨f,a,b,rfl⟩:=hx
  obtain⟨a',b',rfl,ha,hb⟩:=h.dW
  obtain⟨va,a1,a2⟩:=sI hR hi ha
  obtain⟨vb,b1,b2⟩:=sI hR hi hb
  refine⟨.fn (.func f) va vb,⟨va,vb,rfl,a1,b1⟩,fun n=>?_⟩
  rw[xG,xG,a2,b2]
 .by_cases hy:∃cs,x= .agg cs
  .obtain⟨cs,rfl⟩:=hy
   obtain⟨l,rfl,hl⟩:=h.dn
   obtain⟨v',a1,a2⟩:=sI hR hi hl
   refine⟨.agg v',by unfold cloM;unfold Rl;exact⟨v',rfl,a1⟩,fun n=>?_⟩
   rw[wN,wN,a2]
  .have:cloM st x=clo1 st x:=by cases x<;>first|rfl|exact absurd ⟨_,_,_,rfl⟩ hx|exact absurd ⟨_,rfl⟩ hy
   rw[this]
   obtain⟨v',h1,h2⟩:=Dj hR hi h
   exact⟨v',h1,fun n=>h2 (n+1)⟩
theorem xO (hi:aj Z b st fr Y):∀{x:List (TV R.T)} {v:List V},ah R Z Y.top x v->∃v',ah R Z Y.top (cloMs st x) v'/\∀n,v.mapM (closeV (n+4) Y)=v'.mapM (closeV (n+4) Y)
 | [],v,h=>by rw[h.bA];exact⟨[],rfl,fun _=>rfl⟩
 |x::xs,v,h=>by
  obtain⟨w,ws,rfl,h1,h2⟩:=h.aS
  obtain⟨w',a1,a2⟩:=M7 hR hi h1
  obtain⟨ws',b1,b2⟩:=xO hi h2
  exact⟨w'::ws',.cons' a1 b1,fun n=>by rw[Qk,Qk,a2,b2]⟩
mutual
theorem Dk:∀(k:Sk) (x:PayS R.T k) (tv:TV R.T) (v:V),cSk k=true->pk R k tv=some x->Rl R Z top tv v->∀n Y,dep k<=n->closeV n Y v=some (encS R k x)
 |.d t,x,tv,v,_,h,hr,n,Y,hn=>by
  obtain⟨m,rfl⟩:∃m,n=m+3:=⟨n-3,by have:3<=n:=hn;omega⟩
  exact(wO hR (show unD R t tv=some x from h) hr).2.2.1 m Y
 |.l c t,x,tv,v,_,h,hr,n,Y,hn=>by
  obtain⟨m,rfl⟩:∃m,n=m+3:=⟨n-3,by have:3<=n:=hn;omega⟩
  obtain⟨c',rfl,_⟩:=(Ca (show pkLst R c t tv=some x from h) hr).dD
  exact jK _ _ (fE hR _)
 |.agg l,x,tv,v,hc,h,hr,n,Y,hn=>by
  cases tv<;>first| (exact absurd (show none=some x from h) (by simp))|skip
  rename_i cs
  obtain⟨vs,rfl,hl⟩:=hr.dn
  unfold dep at hn
  obtain⟨m,rfl⟩:∃m,n=m+2:=⟨n-2,by omega⟩
  rw[Bq,jk l x cs vs (by unfold cSk at hc;exact hc) h hl (m+1) Y (by omega)];rfl
 |.cref l off,x,tv,v,hc,h,hr,n,Y,hn=>by
  cases tv<;>first| (exact absurd (show none=some x from h) (by simp))|skip
  rename_i cs off'
  have h':(bif Nat.beq off' off then pkL R l cs else none)=some x:=h
  obtain⟨hb,h'⟩:=bn h'
  rw[bB hb] at hr
  obtain⟨vs,rfl,hl⟩:=hr.gH
  unfold dep at hn
  obtain⟨m,rfl⟩:∃m,n=m+2:=⟨n-2,by omega⟩
  rw[CZ,jk l x cs vs (by unfold cSk at hc;exact hc) h' hl (m+1) Y (by omega)];rfl
 |.mapc k e,x,tv,v,_,h,hr,n,Y,hn=>by
  cases tv<;>first| (exact absurd (show none=some x from h) (by simp))|skip
  rename_i k' e' m
  obtain⟨e1,e2,e3⟩:=wS (show castM R m=some x from h)
  subst e1;subst e2;cases e3
  obtain⟨m',rfl⟩:∃m,n=m+3:=⟨n-3,by have:3<=n:=hn;omega⟩
  rw[hr.kG]
  exact dB (xH hR m)
 |.fn f a b,x,tv,v,hc,h,hr,n,Y,hn=>by
  cases tv<;>first| (exact absurd (show none=some x from h) (by simp))|skip
  rename_i f' a' b'
  have h':(bif Nat.beq f' f then (match pkL R a a' with
   |some x=>match pkL R b b' with
    |some y=>some (x,y)
    |none=>none
   |none=>none) else none)=some x:=h
  obtain⟨hb,h'⟩:=bn h'
  rw[bB hb] at hr
  obtain⟨va,vb,rfl,ha,hbb⟩:=hr.dW
  unfold cSk at hc
  rw[P6] at hc
  unfold dep at hn
  obtain⟨m,rfl⟩:∃m,n=m+2:=⟨n-2,by omega⟩
  cases h1:pkL R a a' with
  |none=>simp only[h1] at h';cases h'
  |some y=>
   cases h2:pkL R b b' with
   |none=>simp only[h1,h2] at h';cases h'
   |some z=>
    simp only[h1,h2] at h';cases h'
    rw[xG,jk a y a' va hc.1 h1 ha (m+1) Y (by omega),jk b z b' vb hc.2 h2 hbb (m+1) Y (by omega)];rfl
 |.ref _ _,_,_,_,h,_,_,_,_,_=>by simp[cSk] at h
 |.mapr _,_,_,_,h,_,_,_,_,_=>by simp[cSk] at h
 |.nils,_,_,_,h,_,_,_,_,_=>by simp[cSk] at h
 |.vw _ _,_,_,_,h,_,_,_,_,_=>by simp[cSk] at h
 |.sub _ _,_,_,_,h,_,_,_,_,_=>by simp[cSk] at h
 |.sg l,x,tv,v,_,h,hr,n,Y,hn=>by
  cases tv<;>first| (exact absurd (show none=some x from h) (by simp))|skip
  rename_i ss
  obtain⟨m,rfl⟩:∃m,n=m+1:=⟨n-1,by have:3<=n:=hn;omega⟩
  rw[hr.rP]
  show _=some (V.agg (sgV (upG l x)))
  rw[rW (show pkG l ss=some x from h)]
  exact dB (xM ss)
 |.undef,_,_,_,h,_,_,_,_,_=>by simp[cSk] at h
theorem jk:∀(l:List Sk) (x:PayL R.T l) (cs:List (TV R.T)) (vs:List V),cSkL l=true->pkL R l cs=some x->ah R Z top cs vs->∀n Y,depL l<=n->vs.mapM (closeV n Y)=some (encSL R l x)
 | [],x,cs,vs,_,h,hr,n,Y,hn=>by
   cases cs with
   |nil=>rw[hr.bA];rfl
   |cons c cs=>exact absurd (show none=some x from h) (by simp)
 | [k],x,cs,vs,hc,h,hr,n,Y,hn=>by
   unfold cSkL at hc
   rw[P6] at hc
   unfold depL at hn
   cases cs with
   |nil=>exact absurd (show none=some x from h) (by simp)
   |cons c cs=>
    cases cs with
    |nil=>
     obtain⟨v,l,rfl,h1,h2⟩:=hr.aS
     rw[h2.bA,Qk,Dk k x c v hc.1 h h1 n Y (by omega)];rfl
    |cons c' cs=>exact absurd (show none=some x from h) (by simp)
 |k::k'::l,x,cs,vs,hc,h,hr,n,Y,hn=>by
  unfold cSkL at hc
  rw[P6] at hc
  unfold depL at hn
  cases cs with
  |nil=>exact absurd (show none=some x from h) (by simp)
  |cons c cs=>
   have h':(match pk R k c with
    |some x=>match pkL R (k'::l) cs with
     |some p=>some (x,p)
     |none=>none
    |none=>none)=some x:=h
   obtain⟨v,vs,rfl,h1,h2⟩:=hr.aS
   cases hu:pk R k c with
   |none=>simp only[hu] at h';cases h'
   |some y=>
    cases hs:pkL R (k'::l) cs with
    |none=>simp only[hu,hs] at h';cases h'
    |some q=>
     simp only[hu,hs] at h'
     obtain rfl:=Qn h'
     rw[Qk,Dk k y c v hc.1 hu h1 n Y (by omega),jk (k'::l) q cs vs hc.2 hs h2 n Y (by omega)];rfl
end
mutual
theorem sJ:∀(tv:TV R.T) (v:V),stV tv=true->Rl R Z top tv v->pclean v=true
 |.int _ _,v,_,h=>by rw[h.bZ];exact wu _ _
 |.bool _,v,_,h=>by rw[h.fq];exact wB _
 |.blit _,v,_,h=>by rw[h.gG];exact wB _
 |.str _,v,_,h=>by rw[h.dN];exact Bo _
 |.nilp,v,_,h=>by unfold Rl at h;subst h;simp[pclean]
 |.nilf,v,_,h=>by unfold Rl at h;subst h;simp[pclean]
 |.nilm,v,_,h=>by unfold Rl at h;subst h;simp[pclean]
 |.nili,v,_,h=>by unfold Rl at h;subst h;simp[pclean]
 |.lst c t l,v,hs,h=>by
  cases c<;>simp only[stV,P8] at hs
  obtain⟨c',rfl,hc⟩:=h.dD
  obtain rfl:c'= .sh:=hc
  exact rM (fE hR t) l
 |.agg cs,v,hs,h=>by
  obtain⟨l,rfl,hl⟩:=h.dn
  unfold pclean;exact kP cs l (by unfold stV at hs;exact hs) hl
 |.tup cs,v,hs,h=>by
  obtain⟨l,rfl,hl⟩:=h.nH
  unfold pclean;exact kP cs l (by unfold stV at hs;exact hs) hl
 |.mapc k e m,v,_,h=>by rw[h.kG];exact xH hR m
 |.fn f a b,v,hs,h=>by
  obtain⟨a',b',rfl,ha,hb⟩:=h.dW
  unfold stV at hs
  rw[P6] at hs
  unfold pclean;rw[kP a a' hs.1 ha,kP b b' hs.2 hb];rfl
 |.nils,_,hs,_=>by simp[stV] at hs
 |.ref _ _,_,hs,_=>by simp[stV] at hs
 |.cref cs off,v,hs,h=>by
  obtain⟨l,rfl,hl⟩:=h.gH
  unfold pclean;exact kP cs l (by unfold stV at hs;exact hs) hl
 |.vw _ _,_,hs,_=>by simp[stV] at hs
 |.sub _ _ _ _,_,hs,_=>by simp[stV] at hs
 |.eref _ _ _ _,_,hs,_=>by simp[stV] at hs
 |.sg ss,v,_,h=>by rw[h.rP];exact xM ss
 |.sv _ _ _ _ _ _,_,hs,_=>by simp[stV] at hs
 |.sel _ _ _ _ _ _,_,hs,_=>by simp[stV] at hs
 |.gel _ _ _ _,_,hs,_=>by simp[stV] at hs
 |.mapr _,_,hs,_=>by simp[stV] at hs
 |.opt _ _ _,_,hs,_=>by simp[stV] at hs
 |.undef,_,hs,_=>by simp[stV] at hs
 |.gone,_,hs,_=>by simp[stV] at hs
theorem kP:∀(l:List (TV R.T)) (vs:List V),stL l=true->ah R Z top l vs->pcleanL vs=true
 | [],vs,_,h=>by rw[h.bA];rfl
 |x::l,vs,hs,h=>by
  obtain⟨v,ws,rfl,h1,h2⟩:=h.aS
  unfold stL at hs
  rw[P6] at hs
  unfold pcleanL;rw[sJ x v hs.1 h1,kP l ws hs.2 h2];rfl
end
theorem Dl {x:TV R.T} {v:V} (hs:cl1 x=true) (h:Rl R Z top x v):pclean (aR v)=true:=by
 have key:stV x=true->pclean (aR v)=true:=fun hs=>by
  have:=sJ hR x v hs h
  cases v with
  |lst c l=>cases c<;>simp[pclean] at this<;>simpa [aR,pclean] using this
  |_=>exact this
 cases x<;>first|exact key hs|skip
 .rw[h.jh];simp[aR,pclean,pcleanL]
 .obtain⟨c',rfl,hc⟩:=h.dD
  exact rM (fE hR _) _
theorem Dm:∀{x:List (TV R.T)} {v:List V},cl1s x=true->ah R Z top x v->pcleanL (v.map aR)=true
 | [],vs,_,h=>by rw[h.bA];rfl
 |x::l,vs,hs,h=>by
  obtain⟨v,ws,rfl,h1,h2⟩:=h.aS
  unfold cl1s at hs
  rw[P6] at hs
  rw[Qd];unfold pcleanL;rw[Dl hR hs.1 h1,Dm hs.2 h2];rfl
theorem M8 {x:TV R.T} {v:V} (hs:clV x=true) (h:Rl R Z top x v):pclean (er v)=true:=by
 by_cases hx:∃cs,x= .agg cs
 .obtain⟨cs,rfl⟩:=hx
  obtain⟨l,rfl,hl⟩:=h.dn
  show pclean (.agg (l.map aR))=true
  unfold pclean;exact Dm hR hs hl
 .by_cases hy:∃ss,x= .sg ss
  .obtain⟨ss,rfl⟩:=hy
   rw[h.rP,M6];exact xM ss
  have hs':cl1 x=true:=by cases x<;>first|exact hs|exact absurd ⟨_,rfl⟩ hx
  have h1:=Dl hR hs' h
  have hne:∀cs,v≠ .agg cs:=by
   rintro cs rfl
   cases x<;>first|exact hy ⟨_,rfl⟩| (unfold Rl at h;simp at h;done)|exact hx ⟨_,rfl⟩| (simp[cl1,stV] at hs';done)
  rw[Lx hne];exact h1
theorem xP:∀{x:List (TV R.T)} {v:List V},clVs x=true->ah R Z top x v->v.all (fun a=>pclean (er a))=true
 | [],vs,_,h=>by rw[h.bA];rfl
 |x::l,vs,hs,h=>by
  obtain⟨v,ws,rfl,h1,h2⟩:=h.aS
  unfold clVs at hs
  rw[P6] at hs
  rw[List.all_cons,M8 hR hs.1 h1,xP hs.2 h2];rfl
theorem xQ:∀(l:List Sk) (x:PayL R.T l),flatSk l=true->bS (encSL R l x)=true
 | [],x,_=>rfl
 | [k],x,h=>by
   cases k<;>simp only[flatSk,Bool.and_true,P8] at h
   .rename_i t
    show (flat (encD R t x)&& bS [])=true
    cases t<;>simp only[flatT,P8] at h<;>rfl
   .rename_i ks
    show (flat (.agg (sgV (upG ks x)))&& bS [])=true
    unfold flat;rw[sH];rfl
 |k::k'::l,x,h=>by
  cases k<;>simp only[flatSk,P8] at h
  .rename_i t
   rw[P6] at h
   show (flat (encD R t x.1)&& bS (encSL R (k'::l) x.2))=true
   rw[xQ (k'::l) x.2 h.2]
   have:=h.1
   cases t<;>simp only[flatT,P8] at this<;>rfl
  .rename_i ks
   show (flat (.agg (sgV (upG ks x.1)))&& bS (encSL R (k'::l) x.2))=true
   rw[xQ (k'::l) x.2 h]
   unfold flat;rw[sH];rfl
omit hR in
theorem M9 {vs:List V} (h:bS vs=true):flat (retV vs)=true:=by
 match vs with
 | []=>simp[retV,flat,bS]
 | [v]=>simp only[bS,Bool.and_true] at h;exact h
 |v::w::vs=>show flat (.tup _)=true;unfold flat;exact h
mutual
theorem Dn:∀(k:Sk) (x:PayS R.T k),cSk k=true->Rl R Z top (up R .sh k x) (encS R k x)
 |.d t,x,_=>BD hR t x
 |.l c t,x,h=>by
  refine⟨.sh,rfl,?_⟩
  cases c<;>first|trivial|rfl| (simp[cSk] at h;done)
 |.agg l,x,h=>⟨_,rfl,kQ l x (by unfold cSk at h;exact h)⟩
 |.cref l off,x,h=>⟨_,rfl,kQ l x (by unfold cSk at h;exact h)⟩
 |.mapc k e,x,_=>rfl
 |.fn f a b,x,h=>by
  unfold cSk at h
  rw[P6] at h
  exact⟨_,_,rfl,kQ a x.1 h.1,kQ b x.2 h.2⟩
 |.ref _ _,_,h=>by simp[cSk] at h
 |.mapr _,_,h=>by simp[cSk] at h
 |.nils,_,h=>by simp[cSk] at h
 |.vw _ _,_,h=>by simp[cSk] at h
 |.sub _ _,_,h=>by simp[cSk] at h
 |.sg l,x,_=>rfl
 |.undef,_,h=>by simp[cSk] at h
theorem kQ:∀(l:List Sk) (x:PayL R.T l),cSkL l=true->ah R Z top (upL R .sh l x) (encSL R l x)
 | [],_,_=>rfl
 | [k],x,h=>by
   unfold cSkL at h
   rw[P6] at h
   exact .cons' (Dn k x h.1) rfl
 |k::k'::l,x,h=>by
  unfold cSkL at h
  rw[P6] at h
  exact .cons' (Dn k x.1 h.1) (kQ (k'::l) x.2 h.2)
end
omit hR in
theorem Na {x:List (TV R.T)} {v:List V} (h:ah R Z top x v):Rl R Z top (retT R x) (retV v):=by
 match x,h with
 | [],h=>rw[h.bA];exact⟨[],rfl,rfl⟩
 | [a],h=>
   obtain⟨v,vs,rfl,h1,h2⟩:=h.aS
   rw[h2.bA];exact h1
 |a::b::l,h=>
  obtain⟨v,vs,rfl,h1,h2⟩:=h.aS
  obtain⟨w,ws,rfl,h3,h4⟩:=h2.aS
  exact⟨_,rfl,.cons' h1 (.cons' h3 h4)⟩
def Nb:List V->List V
 |_::l=>.lst .nil []::l
 | []=>[]
def RegsOK (E:Env) (F:Nat->List (FR R)):Prop:=∀f,∀r∈F f,∀p x,r.F p=some x->(cSkL r.args=true->Pure E f (encSL R r.args p) (retV (encSL R r.res x)))/\
 (r.own=true->∀(τ:Ty) (h:r.res=[.d (.slice τ)]) (l:List (Den R.T τ)),(h▸x:PayL R.T [.d (.slice τ)])=l->
   (cSkL r.args=true->E.ownN f=false/\rJ E f (encSL R r.args p) (szD R τ) (l.map (encD R τ)))/\
   (cSkL r.args=false->E.ownN f=true/\rJ E f (Nb (encSL R r.args p)) (szD R τ) (l.map (encD R τ))))
theorem Dp {F:Nat->List (FR R)} (hF:RegsOK E F) {f:Nat} {c:Call} {fo:Operand} {o:Oper} {stp:Nat} {a' b':List V} (ho:o.op= .call c) (bH:c.callee= .value fo) (hf:fr.ev E fo= .fn (.func f) a' b') (hi:E.imp f=false) {args:List (TV R.T)}
 (ha:ah R Z Y.top args (a'++c.args.toList.map (fr.ev E)++b')) (hi':aj Z b st fr Y):∀{l:List (FR R)} {r:Res R},(∀x∈l,x∈F f)->findF R args (cloMs st args) l=some r->fA E st Z stp fr Y o r
 | [],r,_,h=>by cases h
 |q::l,r,hl,h=>by
  unfold findF at h
  split at h
  .rename_i p hp
   obtain⟨hc,h⟩:=bn h
   cases h
   simp only[P6] at hc
   obtain⟨⟨⟨c1,c2⟩,c3⟩,c4⟩:=hc
   intro x hx
   have hP:=(hF f q (hl q (by simp)) p x hx).1 c1
   obtain⟨vs',v1,v2⟩:=xO hR hi' ha
   have Nc:=jk hR q.args p (cloMs st args) _ c1 hp v1 20 Y (by have:=QC c2;omega)
   have has:=(v2 16).trans Nc
   have hcl:((a'++c.args.toList.map (fr.ev E)++b').all (fun x=>pclean (er x))||flat (retV (encSL R q.res x)))=true:=by
    rw[QS] at c4⊢
    rcases c4 with c4|c4
    .exact .inl (xP hR c4 ha)
    .exact .inr (M9 (xQ hR _ _ c4))
   exact⟨retV (encSL R q.res x),⟨fun aW _ _ _ hw h'=>OW.call hw ho bH hf hi has hP hcl h' (Cq ho bH hf aW),fun aW _ _ _ _ _ hw h'=>aN.call hw ho bH hf hi has hP hcl h' (Cq ho bH hf aW)⟩,Na (kQ hR _ _ c3)⟩
  .exact Dp hF ho bH hf hi ha hi' (fun x hx=>hl x (by simp[hx])) h
theorem Nf {t:TypeId} {x i:TV R.T} {v w:V} {r:Res R} (h:iaM E R t x i=some r) (hx:Rl R Z top x v) (hi:Rl R Z top i w):eD Z top (indexAddrV E.P t v w) r:=by
 unfold iaM at h
 split at h
 .rename_i e c u l k n hu
  split at h
  .rename_i sz hs
   obtain⟨hb,h⟩:=bn h
   cases h
   have:=bB hb;subst this
   obtain⟨c',rfl,_⟩:=hx.dD
   rw[hi.bZ]
   intro a ha
   refine⟨.cref (encD R u a).cells 0,?_,?_⟩
   .rw[wC,if_pos (by unfold isSliceT;rw[hu])]
    have:elemT E.P t=some e:=by unfold elemT;rw[hu]
    rw[this];simp only[Option.bind_some,hs,ha]
    rw[if_pos (nQ hR u a).1]
   .unfold Rl
    refine⟨_,rfl,(gK ?_ (BD hR u a)).1⟩
    cases u<;>rfl
  .cases h
 .rename_i n e o off k m hu
  split at h
  .rename_i sz hs
   cases h
   obtain⟨s,h1,rfl⟩:=hx.iQ
   rw[hi.bZ]
   intro hc
   have hc':0<=m/\m<n:=of_decide_eq_true hc
   refine⟨.ref (Z.om.lc o) s (off+m.toNat*sz),?_,by unfold Rl;exact⟨s,h1,rfl⟩⟩
   unfold indexAddrV;rw[hu];dsimp only;rw[hs]
   simp[idx,fJ,hc']
  .cases h
 .rename_i n e cs off k m hu
  split at h
  .rename_i sz hs
   cases h
   obtain⟨l,rfl,h1⟩:=hx.gH
   rw[hi.bZ]
   intro hc
   have hc':0<=m/\m<n:=of_decide_eq_true hc
   refine⟨.cref l (off+m.toNat*sz),?_,by unfold Rl;exact⟨l,rfl,h1⟩⟩
   unfold indexAddrV;rw[hu];dsimp only;rw[hs]
   simp[idx,fJ,hc']
  .cases h
 .cases h
omit hR in
theorem Ng {t:TypeId} {x i:TV R.T} {v w:V} {r:Res R} (h:ixM E R t x i=some r) (hx:Rl R Z top x v) (hi:Rl R Z top i w):eD Z top (jY E.P t v w) r:=by
 unfold ixM at h
 split at h
 .rename_i s k n hu
  cases h
  rw[hx.dN,hi.bZ]
  intro a ha
  refine⟨.int .u8 (a.toNat:Int),?_,by unfold Rl;rfl⟩
  rw[Bt (by unfold isStrT;rw[hu]),ha];rfl
 .cases h
end
end Aq
end
section
namespace Aq
open Go
section
variable {R:Reg} {E:Env}
variable {Z:ak} {top:Nat->Nat} {b stp:Nat} {st:MS R.T} {fr:Fr} {Y:Sig} {o:Oper}
end
section
variable {R:Reg} {E:Env}
variable {Z:ak} {top:Nat->Nat} {b stp:Nat} {st:MS R.T} {fr:Fr} {Y:Sig} {o:Oper}
theorem Nh {x:TV R.T} (h:notG x=true):notG (erM x)=true:=by cases x<;>first|exact h|rfl
theorem Dr {top:Nat->Nat} {x:TV R.T} {v:V} (hs:stV (er1M x)=true) (h:Rl R Z top x v):Rl R Z top (er1M x) (aR v):=by
 cases x with
 |lst c t l=>obtain⟨c',rfl,hc⟩:=h.dD;unfold er1M Rl;exact⟨.sh,rfl,rfl⟩
 |int k n=>rw[h.bZ] at*;exact h
 |bool b=>rw[h.fq] at*;exact h
 |blit b=>rw[h.gG] at*;exact h
 |str s=>rw[h.dN] at*;exact h
 |agg cs=>obtain⟨l,rfl,hl⟩:=h.dn;exact h
 |tup cs=>obtain⟨l,rfl,hl⟩:=h.nH;exact h
 |mapc k e m=>rw[h.kG] at*;exact h
 |fn f a b=>obtain⟨a',b',rfl,ha,hb⟩:=h.dW;exact h
 |cref cs off=>obtain⟨l,rfl,hl⟩:=h.gH;exact h
 |sg ss=>rw[h.rP] at*;exact h
 |nilp=>unfold Rl at h;subst h;unfold er1M Rl;rfl
 |nilf=>unfold Rl at h;subst h;unfold er1M Rl;rfl
 |nilm=>unfold Rl at h;subst h;unfold er1M Rl;rfl
 |nili=>unfold Rl at h;subst h;unfold er1M Rl;rfl
 |_=>simp[er1M,stV] at hs
theorem Dt {top:Nat->Nat}:∀{l:List (TV R.T)} {vs:List V},stL (er1Ms l)=true->ah R Z top l vs->ah R Z top (er1Ms l) (vs.map aR)
 | [],vs,_,h=>by rw[h.bA];rfl
 |x::l,vs,hs,h=>by
  obtain⟨v,ws,rfl,h1,h2⟩:=h.aS
  unfold er1Ms stL at hs
  rw[P6] at hs
  exact .cons' (Dr hs.1 h1) (Dt hs.2 h2)
theorem Ni {top:Nat->Nat} {x:TV R.T} {v:V} (hs:stV (er1M x)=true) (hg:notG x=true) (hn:∀cs,x≠ .agg cs) (h:Rl R Z top x v):er v=aR v:=by
 cases x with
 |lst c t l=>obtain⟨c',rfl,hc⟩:=h.dD;rfl
 |int k n=>rw[h.bZ];rfl
 |bool b=>rw[h.fq];rfl
 |blit b=>rw[h.gG];rfl
 |str s=>rw[h.dN];rfl
 |agg cs=>exact absurd rfl (hn cs)
 |tup cs=>obtain⟨l,rfl,hl⟩:=h.nH;rfl
 |mapc k e m=>rw[h.kG];rfl
 |fn f a b=>obtain⟨a',b',rfl,ha,hb⟩:=h.dW;rfl
 |cref cs off=>obtain⟨l,rfl,hl⟩:=h.gH;rfl
 |sg ss=>cases hg
 |nilp=>unfold Rl at h;subst h;rfl
 |nilf=>unfold Rl at h;subst h;rfl
 |nilm=>unfold Rl at h;subst h;rfl
 |nili=>unfold Rl at h;subst h;rfl
 |_=>simp[er1M,stV] at hs
theorem Nj {top:Nat->Nat} {x:TV R.T} {v:V} (hs:(stV (erM x)&& notG x)=true) (h:Rl R Z top x v):Rl R Z top (erM x) (er v):=by
 rw[P6] at hs
 have key:(∀cs,x≠ .agg cs)->erM x=er1M x:=fun hne=>by cases x<;>first|rfl|exact absurd rfl (hne _)
 cases x with
 |agg cs=>
  obtain⟨l,rfl,hl⟩:=h.dn
  unfold erM Rl
  exact⟨_,rfl,Dt (by have:=hs.1;unfold erM stV at this;exact this) hl⟩
 |sg ss=>cases hs.2
 |_=>
  rw[key (fun _ e=>by cases e)] at hs⊢
  have h1:=Dr hs.1 h
  rw[Ni hs.1 hs.2 (fun _ e=>by cases e) h];exact h1
theorem fA.val {v:Option V} {r:Res R} (hv:eD Z Y.top v r) (ho:∀y,v=some y->aF E fr Y stp o=some (y,Y)):fA E st Z stp fr Y o r:=by
 cases r with
 |t x=>obtain⟨y,e,hr⟩:=hv;exact⟨y,.dx (ho y e),hr⟩
 |c c x=>intro hc;obtain⟨y,e,hr⟩:=hv hc;exact⟨y,.dx (ho y e),hr⟩
 |p U d o' f=>intro a ha;obtain⟨y,e,hr⟩:=hv a ha;exact⟨y,.dx (ho y e),hr⟩
 |w x s=>exact hv.elim
 |wc c x s=>exact hv.elim
theorem fA.tt {x:TV R.T} {y:V} (ho:aF E fr Y stp o=some (y,Y)) (hr:Rl R Z Y.top x y):fA E st Z stp fr Y o (.t x):=⟨y,.dx ho,hr⟩
theorem Du {top:Nat->Nat} {x y v:TV R.T} {w:V} (h:muxM true x y=some v) (hx:Rl R Z top x w):Rl R Z top v w:=by
 unfold muxM at h
 split at h<;>try cases h
 .split at h
  .cases h;exact hx
  .cases h
 all_goals first|exact hx| (unfold Rl at hx⊢;exact hx)
theorem Dv {top:Nat->Nat} {x y v:TV R.T} {w:V} (h:muxM false x y=some v) (hx:Rl R Z top y w):Rl R Z top v w:=by
 unfold muxM at h
 split at h<;>try cases h
 .split at h
  .rename_i e;subst e;cases h;exact hx
  .cases h
 all_goals first|exact hx| (unfold Rl at hx⊢;exact hx)
theorem nU {c a' b':Operand} {t:Bool} (hop:o.op= .pick c a' b') (hc:fr.ev E c= .bool t):aF E fr Y stp o=some (if t then fr.ev E a' else fr.ev E b',Y):=by
 simp only[aF,hop,hc,dY,Option.map_some]
variable (hR:RegOK R)
include hR
theorem Nk {t:TypeId} {m x:TV R.T} {v w:V} {ok:Bool} {r:Res R} (h:lookupM E R t m x ok st=some r) (hm:Rl R Z Y.top m v) (hx:Rl R Z Y.top x w) (hi:aj Z b st fr Y):eD Z Y.top (iY E.P Y t v w ok) r:=by
 unfold lookupM at h
 split at h
 .rename_i o
  split at h
  .rename_i k e m hl
   obtain⟨s,h1,rfl⟩:=hm.jM
   obtain⟨s',h2,h3⟩:=hi.rd hl
   rw[h1] at h2;cases h2
   exact xk hR h hx h3
  .cases h
 .rename_i k e m
  exact xk hR h hx (by rw[hm.kG];rfl)
 .split at h
  .split at h
   .unfold Rl at hm;subst hm
    exact xk hR h hx rfl
   .cases h
  .cases h
 .cases h
omit hR in
theorem Dw {top:Nat->Nat} {x y:TV R.T} {v w:V} {r:Bool} (h:eqKM x y=some r) (hx:Rl R Z top x v) (hy:Rl R Z top y w):dS v w=some r:=by
 unfold eqKM at h
 split at h
 .rw[hx.bZ,hy.bZ];exact h
 .cases h;rw[hx.dN,hy.dN];rfl
 .cases h
omit hR in
theorem Dx {top:Nat->Nat} {t:TypeId} {x:TV R.T} {v:V} (h:keyS E t x=true) (hx:Rl R Z top x v):dz E.P t v=true:=by
 unfold keyS at h
 split at h
 .rename_i hu;rw[hx.bZ];unfold dz;rw[hu]
 .rename_i hu;rw[hx.dN];unfold dz;rw[hu]
 .cases h
omit hR in
theorem Dy {top:Nat->Nat} {x y:TV R.T} {v w:V} (hx:Rl R Z top x v) (hy:Rl R Z top y w):∀{ks vs:List (TV R.T)} {ks' vs':List (TV R.T)} {k l:List V},setS x y ks vs=some (ks',vs')->ah R Z top ks k->ah R Z top vs l->
 ∃k' l',iX v w k l=some (k',l')/\ah R Z top ks' k'/\ah R Z top vs' l'
 | [],[],_,_,k,l,h,h1,h2=>by
   cases h
   rw[h1.bA,h2.bA]
   exact⟨_,_,rfl,.cons' hx rfl,.cons' hy rfl⟩
 | [],_::_,_,_,_,_,h,_,_=>by cases h
 |_::_,[],_,_,_,_,h,_,_=>by cases h
 |a::ks,b::vs,ks',vs',k,l,h,h1,h2=>by
  obtain⟨k0,k,rfl,g1,g2⟩:=h1.aS
  obtain⟨l0,l,rfl,g3,g4⟩:=h2.aS
  unfold setS at h
  split at h
  .rename_i c hc
   have he:=Dw hc hx g1
   cases c with
   |true=>cases h;exact⟨v::k,w::l,by simp[iX,he],.cons' hx g2,.cons' hy g4⟩
   |false=>
    rw[cond_false] at h
    split at h
    .rename_i PS vs1 hs
     cases h
     obtain⟨k',l',e1,e2,e3⟩:=Dy hx hy hs g2 g4
     exact⟨k0::k',l0::l',by simp[iX,he,e1],.cons' g1 e2,.cons' g3 e3⟩
    .cases h
  .cases h
theorem Dz {t:TypeId} {m x y:TV R.T} {v w u:V} {r:Res R} (h:updateM E R t m x y st=some r) (hm:Rl R Z Y.top m v) (hx:Rl R Z Y.top x w) (hy:Rl R Z Y.top y u) (hi:aj Z stp st fr Y)
 (ho:∀Y',fU E.P Y t v w u=some Y'->aF E fr Y stp o=some (undefV,Y')):fA E st Z stp fr Y o r:=by
 unfold updateM at h
 split at h
 .rename_i p
  split at h
  .rename_i k e m hl
   split at h
   .rename_i kt et ht
    obtain⟨hk,h⟩:=bn h
    split at h
    .rename_i a c ha hc
     cases h
     obtain⟨s,h1,rfl⟩:=hm.jM
     obtain⟨s',h2,h3⟩:=hi.ob _ _ hl
     rw[h1] at h2;cases h2
     have hw:=CG hR hk ha hx
     subst hw
     unfold unE at hc
     obtain⟨hs,hc⟩:=bn hc
     have hu:u=encD R e c:=by
      have h4:=wO hR hc hy
      have h5:=sJ hR y u hs hy
      have h6:=h4.2.2.1 0 Y
      rw[dB h5] at h6
      exact Qn h6
     subst hu
     have hup:fU E.P Y t (.mapr (Z.om.lc p) s) (encD R k a) (encD R e c)=some (Y.setObj (Z.om.lc p) s (.map ((mset (beqD R k) a c m).map fun q=>encD R k q.1) ((mset (beqD R k) a c m).map fun q=>encD R e q.2))):=by
      unfold fU
      rw[ht];simp only[Option.bind_some]
      rw[if_pos (sD hR hk a a).2,h3]
      simp only[Option.bind_some]
      rw[CF hR hk a c m];rfl
     refine⟨undefV,_,Z,.dx (ho _ hup),(hi.le (Qm _)).set p s ⟨s,h1,map_eq _ _ _ _ _⟩,rfl,by unfold Rl;rfl,fun q _=>aB.set hl rfl⟩
    .cases h
   .cases h
  .rename_i ks vs hl
   split at h
   .rename_i kt et ht
    obtain⟨hk,h⟩:=bn h
    split at h
    .rename_i ks' vs' hs
     cases h
     obtain⟨s,h1,rfl⟩:=hm.jM
     obtain⟨s',k0,l0,h2,h3,h4,h5⟩:=hi.ob _ _ hl
     rw[h1] at h2;cases h2
     obtain⟨k1,l1,g1,g2,g3⟩:=Dy hx hy hs h4 h5
     have hup:fU E.P Y t (.mapr (Z.om.lc p) s) w u=some (Y.setObj (Z.om.lc p) s (.map k1 l1)):=by
      unfold fU
      rw[ht];simp only[Option.bind_some]
      rw[if_pos (Dx hk hx),h3]
      simp only[Option.bind_some]
      rw[g1];rfl
     refine⟨undefV,_,Z,.dx (ho _ hup),(hi.le (Qm _)).set p s ⟨s,k1,l1,h1,map_eq _ _ _ _ _,g2,g3⟩,rfl,by unfold Rl;rfl,fun q _=>aB.set hl rfl⟩
    .cases h
   .cases h
  .cases h
 .cases h
omit hR in
theorem aj.at (h:aj Z b st fr Y) {d:Nat} (hd:d<F0):(fr.d,d)=Z.om.lc d:=by rw[h.d,Cx.wF _ hd]
omit hR in
theorem aj.DC (h:aj Z b st fr Y) {x:Option Nat} (hd:∀d,x=some d->d<F0):(x.map fun t=>(fr.d,t))=x.map fun t=>Z.om.lc t:=by
 cases x with
 |none=>rfl
 |some d=>exact congrArg some (h.at (hd d rfl))
theorem DF {d s:Nat} {cs:List (TV R.T)} {l:List V} (hi:aj Z b st fr Y) (hc:ah R Z Y.top cs l) (hm:mentL d cs=false):aj (Z.dO d s) b (st.new d (.cells cs)) fr (Y.setObj (Z.om.lc d) s (.cells l)):=
 hi.new d s ⟨s,l,iU,cells_eq _ _ _ _,ah.kill d nM rfl rfl cs l hm hc⟩
theorem Nl {g:List (Nat×Bool)} (bq:∀d,o.dst=some d->d<F0) (hg:fF fr g) (hi:aj Z stp st fr Y) {r:Res R} (h:opX E R g o.dst o.op st=some r):fA E st Z stp fr Y o r:=by
 unfold opX at h
 cases h
omit hR in
theorem DI {U:Type} (l:List U):∀n,(List.replicate n l).flatten.length=n*l.length
 |0=>by simp
 |n+1=>by rw[List.replicate_succ,List.flatten_cons,Qc,DI l n,QE];omega
omit hR in
theorem aj.set0 (h:aj Z b st fr Y) (o:Nat) {x:Ob R.T} (hx:aQ Z Y o x):aj Z b (st.set o x) fr Y:={h with
 fr:=h.fr
 ob:=fun p y hy=>by
  have hy':look ((o,x)::delF o st.ob) p=some y:=hy
  by_cases e:p=o
  .subst e
   rw[bP] at hy';cases hy'
   exact hx
  .rw[bg _ _ e,fu e] at hy'
   exact h.ob p y hy'}
omit hR in
theorem aB.set0 {nr:Bool} {o q:Nat} {x y:Ob R.T} (hl:look st.ob o=some y) (hy:isRo y=false):aB nr q st Z Y (st.set o x) Z Y:=⟨rfl,rfl,rfl,mF _,⟨fun _ _=>rfl,fun _ _=>rfl⟩,fun _ _ _=>rfl,fun hr=>by
 have hne:q≠o:=by rintro rfl;rw[hr y hl] at hy;cases hy
 refine⟨fun z hz=>?_,fun s'=>⟨rfl,rfl⟩⟩
 have hz':look ((o,x)::delF o st.ob) q=some z:=hz
 rw[bg _ _ hne,fu hne] at hz'
 exact hr z hz'⟩
theorem Nn {t:TypeId} {x:TV R.T} {v:V} {r:Res R} (h:clrM E R t x st=some r) (hx:Rl R Z Y.top x v) (hi:aj Z stp st fr Y)
 (ho:∀y Y',iy E.P Y t v=some (y,Y')->dG E fr Y stp o y Y'):fA E st Z stp fr Y o r:=by
 have hi1:=hi.le (Qm stp)
 unfold clrM at h
 split at h
 .rename_i p τ a c e τ' sz by_ hw he
  have hxs:=xE hR hw hx hi
  obtain⟨z0,e1,e2,e3,e4,e5,e6,e7,e8,e9⟩:=qg he
  split at h
  .rename_i et
   subst et
   split at h
   .rename_i τ2 l0 z hl hz
    split at h
    .rename_i l zz hc hzu
     obtain⟨hzc,h⟩:=bn h
     rw[P6] at hzc
     cases h
     obtain⟨ec,Np⟩:=gJ hc;subst ec;cases Np
     obtain⟨zv,z1,z2⟩:=qc (Z:=Z) (top:=Y.top) hz
     rw[e5] at z1;cases z1
     obtain⟨g0,g1,g2,hv⟩:=hxs.kH
     have hO:=hi.ob _ _ hl
     have hlen:l0.length=Z.ln p:=hO.1
     have hnr:isRo (Ob.arr τ2 l0)=false:=rfl
     have hcl:oneCells z0.cells=true:=nP hzc.1 (gK hzc.2 z2).1
     have hll:(clrL l0 a c zz).length=l0.length:=by
      unfold clrL
      rw[Qc,Qc,Qs,List.length_replicate,QY];omega
     have same:a=c->clrL l0 a c zz=l0:=fun e=>by
      unfold clrL
      rw[e,Int.sub_self];simp
     have quiet:a=c->iy E.P Y t v=some (undefV,Y)->fA E st Z stp fr Y o (.w .undef (st.set p (.arr τ2 (clrL l0 a c zz)))):=fun e hcv=>by
      rw[same e]
      exact⟨undefV,Y,Z,ho _ _ hcv,hi1.set0 p hO,rfl,by unfold Rl;rfl,fun q hq=>aB.set0 hl hnr⟩
     rcases hv with ⟨s,cp,h1,h2,rfl⟩| ⟨e,k,rfl⟩
     .rcases hO.2 with hO2| ⟨s',cs,k3,k4,k5⟩
      .rw[h1] at hO2;exact absurd hO2.2 (by simp)
      .rw[h1] at k3;cases k3
       have hlc:cs.length=l0.length*szD R τ2:=by rw[k5.length,kN]
       have hle:a.toNat*szD R τ2+(c-a).toNat*szD R τ2<=cs.length:=by
        rw[hlc,<-Qy];exact QD _ (by omega)
       subst e6
       by_cases hz0:(c-a).toNat=0
       .refine quiet (by omega) ?_
        unfold iy
        simp only[e1,e2,e3,e5,Option.bind_some,k4]
        rw[if_pos ⟨e9,hcl⟩,if_pos ⟨trivial,hle⟩,if_pos hz0]
       .have hcv:iy E.P Y t (.vw (Z.om.lc p) s (a.toNat*szD R τ2) (c-a).toNat cp (szD R τ2) (isSt τ2))=some (undefV,Y.setObj (Z.om.lc p) s (.cells (spliceL cs (a.toNat*szD R τ2) ((List.replicate (c-a).toNat z0).flatMap V.cells)))):=by
         unfold iy
         simp only[e1,e2,e3,e5,Option.bind_some,k4]
         rw[if_pos ⟨e9,hcl⟩,if_pos ⟨trivial,hle⟩,if_neg hz0]
        have hvl:((List.replicate (c-a).toNat z0).flatMap V.cells).length=(c-a).toNat*szD R τ2:=by
         rw[sF,DI,e9]
        have hrl:ah R Z Y.top ((clrL l0 a c zz).flatMap fun x=>(tvD R .any τ2 x).cells) (spliceL cs (a.toNat*szD R τ2) ((List.replicate (c-a).toNat z0).flatMap V.cells)):=by
         unfold clrL spliceL
         rw[hvl,List.flatMap_append,List.flatMap_append,<-xC (fun x=>kM .any τ2 x),<-xB (fun x=>kM .any τ2 x),Qt]
         refine(k5.take _).append (ah.append ?_ ?_)
         .rw[sF,sF]
          refine CX ?_ _
          have h1:=nN hR hzu z2
          refine(gK ?_ h1).1
          cases τ2<;>rfl
         .rw[<-Qy,show a.toNat+(c-a).toNat=c.toNat by omega]
          exact k5.drop _
        refine⟨undefV,_,Z,ho _ _ hcv,hi1.set p s ⟨hll.trans hO.1,.inr ⟨s,_,h1,cells_eq _ _ _ _,iT _ _ hrl⟩⟩,rfl,by unfold Rl;rfl,fun q hq=>aB.set hl hnr⟩
     .refine quiet e ?_
      unfold iy
      simp only[e1,e2,e3,e5,Option.bind_some]
      rw[if_pos ⟨e9,hcl⟩]
    .cases h
   .cases h
  .cases h
 .cases h
theorem Nq {om:Bool} {F:Nat->List (FR R)} (hF:RegsOK E F) (aD:Z.om.om=om) (bq:∀d,o.dst=some d->d<F0) {g:List (Nat×Bool)} (hg:fF fr g) (hi:aj Z stp st fr Y) {r:Res R} (h:opO E R om F g o.dst o.op st=some r):fA E st Z stp fr Y o r:=by
 unfold opO at h
 split at h
 ·
  rename_i x hop
  cases hz:fzM E o.dst
  .rw[hz] at h;dsimp only[cond_false] at h
   split at h
   .rename_i v hv;cases h;exact .tt (y:=fr.ev E x) (by simp only[aF,hop,hz,P8,if_false]) (aI hi hg hv)
   .cases h
  .rw[hz] at h;dsimp only[cond_true] at h
   split at h
   .rename_i p t hv
    split at h
    .rename_i t' l0 hl
     split at h
     .rename_i l hc
      cases h
      obtain⟨e1,e2⟩:=gJ hc
      subst e1
      cases e2
      have hO:=hi.ob p _ hl
      have hrl:∀Z',Rl R Z' Y.top (.lst .any t' l0) (.lst .sh (l0.map (encD R t'))):=fun Z'=>by unfold Rl;exact⟨.sh,rfl,trivial⟩
      rcases (aI (E:=E) hi hg hv).jN with ⟨s,h1,h2⟩| ⟨h1,h2⟩
      .rcases hO.2 with h3| ⟨s',cs,h3,h4,h5⟩
       .rw[h1] at h3;exact absurd h3.2 (by simp)
       .rw[h1] at h3;cases h3
        have hlc:cs.length=l0.length*szD R t':=by rw[h5.length,kN]
        have hlen:l0.length=Z.ln p:=hO.1
        refine⟨.lst .sh (l0.map (encD R t')),Y.bI (Z.om.lc p),Z,.dx ?_,(hi.del p).le (Qm _),rfl,hrl Z,fun q _=>aB.del hl rfl⟩
        simp only[aF,hop,hz,if_true,h2,iA,h4,Option.bind_some,Qz,Qu]
        rw[QJ (by rw[hlc,hlen];exact mF _),Db hR l0 cs h5,<-hlen,xJ hR l0,xK hR l0]
        rw[if_pos ⟨by rw[hlc];exact mF _,rfl⟩]
      .have hl0:l0=[]:=QB (hO.1.trans h1)
       subst hl0
       refine⟨.lst .sh [],Y,Z,.dx ?_,(hi.del' p).le (Qm _),rfl,hrl Z,fun q _=>aB.del' hl rfl⟩
       simp only[aF,hop,hz,if_true]
       rcases h2 with h2|h2<;>rw[h2]<;>rfl
     .cases h
    .cases h
   .rename_i k m hv
    cases h
    have hr:=aI (E:=E) hi hg hv
    refine .tt (y:=.int k m) ?_ (by unfold Rl;rfl)
    simp only[aF,hop,hz,if_true,hr.bZ,iA]
   .cases h
 .rename_i x hop
  split at h
  .rename_i v hv;cases h;exact .tt (y:=fr.ev E x) (by simp only[aF,hop]) (aI hi hg hv)
  .cases h
 ·
  rename_i c a' b' hop
  split at h
  .rename_i j
   split at h
   .rename_i t hc
    have hc':=(aI (E:=E) hi hg hc).fq
    split at h
    .rename_i x y hx hy
     split at h
     .rename_i v hv
      cases h
      refine .tt (nU hop hc') ?_
      rw[pW] at hc'
      cases t
      .exact Dv hv (aI (E:=E) hi (.cons hc' hg) hy)
      .exact Du hv (aI (E:=E) hi (.cons hc' hg) hx)
     .cases h
    .cases h
   .rename_i t hc
    have hc':=(aI (E:=E) hi hg hc).gG
    split at h
    .rename_i v hv
     cases h
     refine .tt (nU hop hc') ?_
     cases t
     .exact aI (E:=E) hi hg hv
     .exact aI (E:=E) hi hg hv
    .cases h
   .cases h
  .cases h
 ·
  rename_i t hop
  split at h
  .rename_i d z hd hz
   obtain⟨hc,h⟩:=bn h
   cases h
   simp only[P6,QN] at hc
   obtain⟨v,hv,hr⟩:=qc (Z:=Z) (top:=Y.top) hz
   have Nr:notG z=true:=by
    cases z<;>first|rfl| (have:=hc.1;simp[TV.cells,oneMs,oneM] at this)
   obtain⟨hcells,_⟩:=gK Nr hr
   refine⟨.ref (Z.om.lc d) stp 0,_,Z.dO d stp,.dx (o:=o) ?_,DF hR (hi.le (Qm _)) hcells hc.2,rfl,by unfold Rl;exact⟨stp,iU,rfl⟩,fun q hq=>aB.new (fun e=>hq.1 (by rw[hd,e]))⟩
   simp only[aF,hop,hd,Option.map_some,Option.bind_some,hv,nP hc.1 hcells,if_true,hi.at (bq _ hd)]
  .cases h
 ·
  rename_i t x hop
  cases hz:frzB E t o.dst with
  |true=>
   rw[hz,cond_true] at h
   split at h
   .rename_i v hv
    obtain⟨hc,h⟩:=bn h
    cases h
    rw[P6] at hc
    have hr:=aI (E:=E) hi hg hv
    have hnr:=(gK hc.2 hr).2
    have hr2:=Nj (by rw[P6];exact hc) hr
    obtain⟨hcells,_⟩:=gK (Nh hc.2) hr2
    refine .tt (y:=.cref (er (fr.ev E x)).cells 0) ?_ ?_
    .simp only[aF,hop,hz,if_true,sJ hR _ _ hc.1 hr2,hnr,and_self]
    .unfold Rl;exact⟨_,rfl,hcells⟩
   .cases h
  |false=>
  rw[hz,cond_false] at h
  split at h
  .rename_i d v hd hv
   obtain⟨hc,h⟩:=bn h
   cases h
   simp only[P6,QN] at hc
   have hr:=aI (E:=E) hi hg hv
   obtain⟨hcells,hnr⟩:=gK hc.1.2 hr
   refine⟨.ref (Z.om.lc d) stp 0,_,Z.dO d stp,.dx (o:=o) ?_,DF hR (hi.le (Qm _)) hcells hc.2,rfl,by unfold Rl;exact⟨stp,iU,rfl⟩,fun q hq=>aB.new (fun e=>hq.1 (by rw[hd,e]))⟩
   simp only[aF,hop,(show frzB E t (some d)=false from hd▸hz),P8,if_false,hd,Option.map_some,Option.bind_some,nP hc.1.1 hcells,hnr,and_self,if_true,hi.at (bq _ hd)]
  .cases h
 ·
  rename_i t parts hop
  split at h
  .rename_i pl z ps hpl hz hps
   split at h
   .rename_i cs hcs
    cases h
    obtain⟨zv,hzv,xq⟩:=qc (Z:=Z) (top:=Y.top) hz
    obtain⟨e1,e2⟩:=wR (E:=E) hi hg hps
    have hzc:ah R Z Y.top z.cells zv.cells:=by
     refine(gK ?_ xq).1
     unfold zeroM at hz
     cases z<;>first|rfl|skip
     all_goals
      exfalso
      split at hz
      .split at hz
       .unfold ofValueM at hz
        split at hz
        .split at hz<;>cases hz
        .unfold ofScalarM at hz;split at hz<;>cases hz
       .cases hz
      .cases hz
    obtain⟨l',f1,f2⟩:=Cr (qs:=parts.toList.map fun p=>(p.1,fr.ev E p.2)) pl (by rw[e1];simp[Function.comp_def]) (by simpa [Function.comp_def] using e2) hzc hcs
    refine .tt (y:=.agg l') ?_ (by unfold Rl;exact⟨l',rfl,f2⟩)
    simp only[aF,hop,hpl,hzv,Option.bind_some]
    rw[f1];rfl
   .cases h
  .cases h
 ·
  rename_i t len parts hop
  split at h
  .rename_i ps hps
   obtain⟨e1,e2⟩:=wR (E:=E) hi hg hps
   cases hz:bsM E o.dst
   .rw[hz,cond_false] at h
    refine .val (Mx hR (qs:=parts.toList.map fun p=>(p.1,fr.ev E p.2)) h (by rw[e1];simp[Function.comp_def]) (by simpa [Function.comp_def] using e2)) fun y hy=>?_
    simp only[aF,hop,hz,P8,if_false]
    rw[hy];rfl
   .rw[hz,cond_true] at h
    refine MR hR (qs:=parts.toList.map fun p=>(p.1,fr.ev E p.2)) h (by rw[e1];simp[Function.comp_def]) (by simpa [Function.comp_def] using e2) hi rfl fun y Y' hy=>.dx ?_
    simp only[aF,hop,hz,if_true]
    exact hy
  .cases h
 ·
  rename_i t a hop
  split at h
  .rename_i p off hv
   split at h
   .rename_i cs hl
    split at h
    .rename_i v hld
     cases h
     obtain⟨s,h1,h2⟩:=(aI (E:=E) hi hg hv).iQ
     obtain⟨s',l,h3,h4,h5⟩:=hi.rd hl
     rw[h1] at h3;cases h3
     obtain⟨y,hy,hr⟩:=jS h5 hld
     exact .tt (by simp only[aF,hop,h2,h4,Option.bind_some,hy,Option.map_some]) hr
    .cases h
   .cases h
  .rename_i cs off hv
   split at h
   .rename_i v hld
    cases h
    obtain⟨l,h2,h5⟩:=(aI (E:=E) hi hg hv).gH
    obtain⟨y,hy,hr⟩:=jS h5 hld
    exact .tt (by simp only[aF,hop,h2,hy,Option.map_some]) hr
   .cases h
  .rename_i p τ i off hv
   split at h
   .rename_i ob hl
    obtain⟨s,h1,_,h2⟩:=(aI (E:=E) hi hg hv).lV
    obtain⟨l,f,rfl,hf⟩:=MK h (hi.rd hl) h1
    intro y hy
    obtain⟨cs,w,h3,h4,h5⟩:=hf y hy
    exact⟨w,.dx (by simp only[aF,hop,h2,h3,Option.bind_some,h4,Option.map_some]),h5⟩
   .cases h
  .cases h
 ·
  rename_i t a x hop
  split at h
  .rename_i p off v hv hx
   split at h
   .rename_i cs sz hl hsz
    obtain⟨hc,h⟩:=bn h
    cases h
    simp only[P6] at hc
    obtain⟨⟨⟨c1,c2⟩,c3⟩,c4⟩:=hc
    obtain⟨s,h1,h2⟩:=(aI (E:=E) hi hg hv).iQ
    obtain⟨s',l,h3,h4,h5⟩:=hi.ob _ _ hl
    rw[h1] at h3;cases h3
    obtain⟨h6,h7⟩:=gK c4 (aI (E:=E) hi hg hx)
    refine⟨undefV,_,Z,.dx (o:=o) ?_,(hi.le (Qm _)).set p s ⟨s,_,h1,cells_eq _ _ _ _,wZ off h5 h6⟩,rfl,by unfold Rl;rfl,fun q _=>aB.set hl rfl⟩
    simp only[aF,hop,h2,h4,Option.bind_some]
    rw[if_pos ⟨by rw[hsz,h6.length,bB c1],by rw[h6.length,h5.length];exact QC c2,nP c3 h6⟩]
   .cases h
  .cases h
 ·
  rename_i x hop
  split at h
  .rename_i p off hv;cases h
   have hr:=aI (E:=E) hi hg hv
   obtain⟨s,h1,h2⟩:=hr.iQ
   exact .tt (y:=fr.ev E x) (by simp only[aF,hop,h2]) hr
  .rename_i p off hv;cases h
   have hr:=aI (E:=E) hi hg hv
   obtain⟨s,h2,h1⟩:=hr.gH
   exact .tt (y:=fr.ev E x) (by simp only[aF,hop,h2]) hr
  .rename_i p τ i off hv;cases h
   have hr:=aI (E:=E) hi hg hv
   obtain⟨s,h1,_,h2⟩:=hr.lV
   exact .tt (y:=fr.ev E x) (by simp only[aF,hop,h2]) hr
  .rename_i f a' b' hv;cases h
   have hr:=aI (E:=E) hi hg hv
   obtain⟨a',b',h2,h1⟩:=hr.dW
   exact .tt (y:=fr.ev E x) (by simp only[aF,hop,h2]) hr
  .cases h
 ·
  rename_i op t x y t' hop
  split at h
  .rename_i x' y' hx hy
   exact .val (Mi h (aI (E:=E) hi hg hx) (aI (E:=E) hi hg hy)) fun z hz=>by simp only[aF,hop,hz,Option.map_some]
  .cases h
 ·
  rename_i op t x hop
  split at h
  .rename_i x' hx
   exact .val (Mj h (aI (E:=E) hi hg hx)) fun z hz=>by simp only[aF,hop,hz,Option.map_some]
  .cases h
 ·
  rename_i a' b' x hop
  split at h
  .rename_i x' hx
   exact .val (Ml (Y:=Y) h (aI (E:=E) hi hg hx)) fun z hz=>by simp only[aF,hop,hz,Option.map_some]
  .cases h
 ·
  rename_i f a' b' hop
  split at h
  .rename_i xs ys hx hy
   cases h
   exact .tt (y:=.fn (.func f) (a'.toList.map (fr.ev E)) (b'.toList.map (fr.ev E))) (by simp only[aF,hop]) (by unfold Rl;exact⟨_,_,rfl,lX (E:=E) hi hg hx,lX (E:=E) hi hg hy⟩)
  .cases h
 ·
  rename_i t hop
  split at h
  .rename_i d k e hd ht
   split at h
   .rename_i k' e' hk he
    cases h
    refine⟨.mapr (Z.om.lc d) stp,_,Z.dO d stp,.dx (o:=o) ?_,(hi.le (Qm _)).new d stp (a:=.map [] []) ⟨stp,iU,map_eq Y (Z.om.lc d) stp [] []⟩,rfl,by unfold Rl;exact⟨stp,iU,rfl⟩,fun q hq=>aB.new (fun e=>hq.1 (by rw[hd,e]))⟩
    simp only[aF,hop,hd,Option.map_some,hi.at (bq _ hd)]
   .cases h
    refine⟨.mapr (Z.om.lc d) stp,_,Z.dO d stp,.dx (o:=o) ?_,(hi.le (Qm _)).new d stp (a:=.map [] []) ⟨stp,[],[],iU,map_eq Y (Z.om.lc d) stp [] [],rfl,rfl⟩,rfl,by unfold Rl;exact⟨stp,iU,rfl⟩,fun q hq=>aB.new (fun e=>hq.1 (by rw[hd,e]))⟩
    simp only[aF,hop,hd,Option.map_some,hi.at (bq _ hd)]
  .cases h
 ·
  rename_i t l c hop
  split at h
  .rename_i n m hn hm
   refine MV hR h (aI (E:=E) hi hg hn) (aI (E:=E) hi hg hm) hi rfl fun y Y' hy=>.dx ?_
   have e:(o.dst.map fun t=>(fr.d,t))=o.dst.map fun t=>(Z.om.lc t):=hi.DC bq
   simp only[aF,hop]
   rw[e,hi.om,aD];exact hy
  .cases h
 ·
  rename_i t x lo hi' hop
  split at h
  .rename_i x' hx
   have gW:=aI (E:=E) hi hg hx
   split at h
   .exact .val (sG hR (Y:=Y) (vl:=none) (vh:=none) h gW hi (fun y hy=>by cases hy) (fun _=>rfl) (fun y hy=>by cases hy) (fun _=>rfl)) fun z hz=>by simp only[aF,hop,dA,hz,Option.map_some]
   .rename_i lo
    split at h
    .rename_i l hl
     exact .val (sG hR (Y:=Y) (vl:=some (fr.ev E lo)) (vh:=none) h gW hi (fun y hy=>by cases hy;exact⟨_,rfl,aI (E:=E) hi hg hl⟩) (fun h=>by cases h) (fun y hy=>by cases hy) (fun _=>rfl)) fun z hz=>by simp only[aF,hop,dA,hz,Option.map_some]
    .cases h
   .rename_i hi2
    split at h
    .rename_i l hl
     exact .val (sG hR (Y:=Y) (vl:=none) (vh:=some (fr.ev E hi2)) h gW hi (fun y hy=>by cases hy) (fun _=>rfl) (fun y hy=>by cases hy;exact⟨_,rfl,aI (E:=E) hi hg hl⟩) (fun h=>by cases h)) fun z hz=>by simp only[aF,hop,dA,hz,Option.map_some]
    .cases h
   .rename_i lo hi2
    split at h
    .rename_i l l2 hl hl2
     exact .val (sG hR (Y:=Y) (vl:=some (fr.ev E lo)) (vh:=some (fr.ev E hi2)) h gW hi (fun y hy=>by cases hy;exact⟨_,rfl,aI (E:=E) hi hg hl⟩) (fun h=>by cases h) (fun y hy=>by cases hy;exact⟨_,rfl,aI (E:=E) hi hg hl2⟩) (fun h=>by cases h)) fun z hz=>by simp only[aF,hop,dA,hz,Option.map_some]
    .cases h
  .cases h
 ·
  rename_i t x f hop
  split at h
  .rename_i x' hx
   have gW:=aI (E:=E) hi hg hx
   split at h
   .rename_i v hv
    cases h
    unfold fieldsM at hv
    split at hv
    .rename_i p u hf
     split at hv
     .rename_i q off
      cases hv
      obtain⟨s,h1,h2⟩:=gW.iQ
      exact .tt (y:=.ref (Z.om.lc q) s (off+p)) (by simp only[aF,hop,hf,Option.bind_some,h2]) (by unfold Rl;exact⟨s,h1,rfl⟩)
     .rename_i q off
      cases hv
      obtain⟨l,h2,h1⟩:=gW.gH
      exact .tt (y:=.cref l (off+p)) (by simp only[aF,hop,hf,Option.bind_some,h2]) (by unfold Rl;exact⟨l,rfl,h1⟩)
     .rename_i q τ i off
      cases hv
      obtain⟨s,h1,h3,h2⟩:=gW.lV
      exact .tt (y:=.ref (Z.om.lc q) s (i.toNat*szD R τ+off+p)) (by simp only[aF,hop,hf,Option.bind_some,h2]) (by unfold Rl;exact⟨s,h1,h3,by rw[QK]⟩)
     .cases hv
    .cases hv
   .cases h
  .cases h
 ·
  rename_i t x f hop
  split at h
  .rename_i p u cs hf hx
   split at h
   .rename_i v hv
    cases h
    obtain⟨l,h1,h2⟩:=(aI (E:=E) hi hg hx).dn
    obtain⟨y,hy,hr⟩:=jS h2 hv
    exact .tt (by simp only[aF,hop,hf,Option.bind_some,h1,hy,Option.map_some]) hr
   .cases h
  .cases h
 ·
  rename_i t x i hop
  split at h
  .rename_i p τ y' hx hy
   exact .val (M0 hR (om:=false) h (aI (E:=E) hi hg hx) (aI (E:=E) hi hg hy) hi) fun z hz=>by simp only[aF,hop,hz,Option.map_some]
  .rename_i p τ a c y' hx hy
   exact .val (MZ hR h (aI (E:=E) hi hg hx) (aI (E:=E) hi hg hy) hi) fun z hz=>by simp only[aF,hop,hz,Option.map_some]
  .rename_i x' y' _ _ hx hy
   exact .val (Nf hR h (aI (E:=E) hi hg hx) (aI (E:=E) hi hg hy)) fun z hz=>by simp only[aF,hop,hz,Option.map_some]
  .cases h
 ·
  rename_i t x i hop
  split at h
  .rename_i x' y' hx hy
   exact .val (Ng h (aI (E:=E) hi hg hx) (aI (E:=E) hi hg hy)) fun z hz=>by simp only[aF,hop,hz,Option.map_some]
  .cases h
 ·
  rename_i t x i ok hop
  split at h
  .rename_i x' y' hx hy
   exact .val (Nk hR h (aI (E:=E) hi hg hx) (aI (E:=E) hi hg hy) hi) fun z hz=>by simp only[aF,hop,hz,Option.map_some]
  .cases h
 ·
  rename_i t m k v hop
  split at h
  .rename_i m' k' v' hm hk hv
   exact Dz hR h (aI (E:=E) hi hg hm) (aI (E:=E) hi hg hk) (aI (E:=E) hi hg hv) hi fun Y' hs=>by simp only[aF,hop,hs,Option.map_some]
  .cases h
 .rename_i t m k v hop
  split at h
  .rename_i m' k' v' hm hk hv
   exact Dz hR h (aI (E:=E) hi hg hm) (aI (E:=E) hi hg hk) (aI (E:=E) hi hg hv) hi fun Y' hs=>by simp only[aF,hop,hs,Option.map_some]
  .cases h
 ·
  rename_i x i hop
  split at h
  .rename_i vs hv
   split at h
   .rename_i v hx
    cases h
    obtain⟨l,h1,h2⟩:=(aI (E:=E) hi hg hv).nH
    obtain⟨y,hy,hr⟩:=h2.get hx
    exact .tt (by simp only[aF,hop,h1,hy,Option.map_some]) hr
   .cases h
  .cases h
 ·
  rename_i c hop
  split at h
  .rename_i bi bH
   split at h
   .rename_i vs hvs
    have hrs:=lX (E:=E) hi hg hvs
    have step:∀y Y',eH E fr.om (o.dst.map fun t=>(fr.d,E.cn t)) Y stp bi c.argTypes (c.args.toList.map (fr.ev E))=some (y,Y')->dG E fr Y stp o y Y':=fun y Y' hb=>.of fun S=>by
     simp only[opC,hop,bH,hb,Option.map_some]
    unfold blt at h
    split at h
    .rename_i x
     split at h
     .rename_i t ht
      split at h
      .rename_i n hn
       cases h
       obtain⟨v,l,e,h1,h2⟩:=hrs.aS
       rw[h2.bA] at e
       refine⟨_,step _ Y ?_,by unfold Rl;rfl⟩
       rw[e]
       simp only[eH,ht,Option.bind_some,ME hn h1 hi,Option.map_some]
      .cases h
     .cases h
    .rename_i x y
     split at h
     .rename_i t u ht hu
      obtain⟨v,l,e,h1,h2⟩:=hrs.aS
      obtain⟨w,l',e',h3,h4⟩:=h2.aS
      subst e'
      rw[h4.bA] at e
      have e0:(o.dst.map fun t=>(fr.d,t))=o.dst.map fun t=>(Z.om.lc t):=hi.DC bq
      have fin:isSS E u=true->∀z Y',cu E.P om false Y stp (o.dst.map fun t=>(fr.d,E.cn t)) t v w=some (z,Y')->dG E fr Y stp o z Y':=fun hss z Y' hz=>step z Y' (by
       rw[e]
       unfold isSS at hss
       simp only[eH,ht,hu,Option.bind_some,hi.om,aD]
       split at hss
       .rename_i hu';rw[hu'];simp only[hz,Option.bind_some]
       .rename_i hu';rw[hu'];simp only[hz,Option.bind_some]
       .cases hss)
      cases qh:om
      .rw[qh] at h fin
       have h':appM E R o.dst t u x y st=some r:=h
       have hss:isSS E u=true:=by
        unfold appM at h'
        split at h'
        .split at h'
         .exact(bn h').1
         .cases h'
        .cases h'
       exact MC hR (loc:=o.dst.map fun t=>(fr.d,E.cn t)) h' h1 h3 hi (fin hss)
      .rw[qh] at h fin
       have h':appOM E R o.dst t u x y st=some r:=h
       have hss:isSS E u=true:=by
        unfold appOM at h'
        split at h'
        .rename_i d' _
         cases hbl:Nat.ble F0 (E.cn d') with
         |true=>rw[hbl] at h';cases h'
         |false=>
          rw[hbl,cond_false] at h'
          split at h'
          .exact(bn h').1
          .cases h'
        .cases h'
       exact MU hR h' h1 h3 hi rfl (fin hss)
     .cases h
    .rename_i x
     split at h
     .rename_i t ht
      obtain⟨v,l,e,h1,h2⟩:=hrs.aS
      rw[h2.bA] at e
      exact Nn hR h h1 hi fun y Y' hy=>step y Y' (by rw[e];simp only[eH,ht,Option.bind_some,hy])
     .cases h
    .rename_i x l
     split at h
     .rename_i v hv
      cases h
      obtain⟨y,ys,e,h1,h2⟩:=hrs.aS
      obtain⟨w,hw,hr⟩:=CP false hv h1 h2
      refine⟨w,step w Y ?_,hr⟩
      rw[e]
      simp only[eH,hw,Option.map_some]
     .cases h
    .rename_i x l
     split at h
     .rename_i v hv
      cases h
      obtain⟨y,ys,e,h1,h2⟩:=hrs.aS
      obtain⟨w,hw,hr⟩:=CP true hv h1 h2
      refine⟨w,step w Y ?_,hr⟩
      rw[e]
      simp only[eH,hw,Option.map_some]
     .cases h
    .cases h
   .cases h
  .rename_i f bH
   split at h
   .rename_i f' a' b' vs hf hvs
    cases himp:E.imp f' with
    |true=>rw[himp] at h;cases h
    |false=>
     rw[himp,cond_false] at h
     obtain⟨va,vb,h1,h2,h3⟩:=(aI (E:=E) hi hg hf).dW
     exact Dp hR hF hop bH h1 himp ((h2.append (lX (E:=E) hi hg hvs)).append h3) hi (fun _ hx=>hx) h
   .cases h
  .cases h
 .cases h
theorem jl {om:Bool} {F:Nat->List (FR R)} (hF:RegsOK E F) (aD:Z.om.om=om) (bq:∀d,o.dst=some d->d<F0) {g:List (Nat×Bool)} (hg:fF fr g) (hi:aj Z stp st fr Y) {r:Res R} (h:opM E R om F g o.dst o.op st=some r):fA E st Z stp fr Y o r:=by
 unfold opM at h
 split at h
 .rename_i r' hx;cases h;exact Nl hR bq hg hi hx
 .exact Nq hR hF aD bq hg hi h
end
end Aq
end
