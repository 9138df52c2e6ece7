import Derived.Test.YtgdialomgeijcaaGreatF3808
set_option linter.all false
section
namespace Aq
open Go
section
variable {R:Tq}{E:Env}
variable {Z:ak}{top:Nat->Nat}{b:Nat}{st:MS R.T}{fr:Fr}{Y:qd}
theorem xC {n:Nat}{f:Nat}(a b:List V):Rf (n+2) Y (.fn (.func f) a b)=(a.mapM (Rf (n+1) Y)).bind fun a=>(b.mapM (Rf (n+1) Y)).map fun b=>.fn (.func f) a b:=by
 by_cases hp:Q9 (.fn (.func f) a b)=true
 .rw[Uw hp];have:∀cs:List V,Rz cs=true->cs.mapM (Rf (n+1) Y)=some cs:=by
   intro cs;induction cs with
   |nil=>intro _;rfl|cons a l ih=>intro h;simp only[Rz,Pz] at h;rw[PW,Uw h.1,ih h.2];rfl
  simp only[Q9,Pz] at hp;rw[this a hp.1,this b hp.2];rfl
 .conv=>lhs;unfold Rf
  simp only[hp,if_false,PE]
theorem CP {n:Nat}{off:Nat}(cs:List V):Rf (n+2) Y (.Q5 cs off)=(cs.mapM (Rf (n+1) Y)).map (.Q5 · off):=by
 by_cases hp:Q9 (.Q5 cs off)=true
 .rw[Uw hp];have:∀cs:List V,Rz cs=true->cs.mapM (Rf (n+1) Y)=some cs:=by
   intro cs;induction cs with
   |nil=>intro _;rfl|cons a l ih=>intro h;simp only[Rz,Pz] at h;rw[PW,Uw h.1,ih h.2];rfl
  rw[this cs (by simpa [Q9] using hp)];rfl
 .conv=>lhs;unfold Rf
  simp only[hp,if_false,PE]
variable (hR:VH R)
include hR
theorem xD {k e:Ty}(m:List (Den R.T k×Den R.T e)):Q9 (.RX (m.map fun p=>Q8 R k p.1) (m.map fun p=>Q8 R e p.2))=true:=by
 simp only[Q9,Pz];have h1:∀m:List (Den R.T k×Den R.T e),Rz (m.map fun p=>Q8 R k p.1)=true/\Rz (m.map fun p=>Q8 R e p.2)=true:=by
  intro m;induction m with
  |nil=>exact⟨rfl,rfl⟩|cons p m ih=>exact⟨by simp[Rz,Vd hR,ih.1],by simp[Rz,Vd hR,ih.2]⟩
 exact h1 m
theorem CQ:∀(t:Ty)(x:Den R.T t)(v:V),dK t=true->Rl R Z top (tv1 R .any t x) v->∀n Y,Rf (n+2) Y v=some (Q8 R t x)
 |.int k,x,v,_,h,n,Y=>by rw[Rl.bW (R:=R) h];exact vZ (n+1) _ _|.bool,x,v,_,h,n,Y=>by rw[Rl.eO (R:=R) h];exact aeu (n+1) _|.str,x,v,_,h,n,Y=>by rw[Rl.dL (R:=R) h];exact wh (n+1) _|.slice t,x,v,_,h,n,Y=>by obtain⟨c,rfl,_⟩:=Rl.dz (R:=R) h;exact Yr _ _ (Vd hR _)
 |.st n,_,_,h,_,_,_=>by simp[dK] at h
theorem nL:∀(l:List Ty)(p:Vm R.T l)(vs:List V),l.all dK=true->ah R Z top (TR R .any l p) vs->∀n Y,vs.mapM (Rf (n+2) Y)=some (encs R l p)
 | [],_,vs,_,h,n,Y=>by rw[ah.bg h];rfl| [t],x,vs,hl,h,n,Y=>by obtain⟨v,l,rfl,h1,h2⟩:=ah.aP h;rw[ah.bg h2,PW,CQ hR t x v (by simpa using hl) h1];rfl
 |t::u::l,p,vs,hl,h,n,Y=>by rw[List.all_cons,Pz] at hl;obtain⟨v,ws,rfl,h1,h2⟩:=ah.aP h;rw[PW,CQ hR t p.1 v hl.1 h1,nL (u::l) p.2 ws hl.2 h2];rfl
theorem MC (t:Ty)(x:Den R.T t)(vs:List V)(h:ah R Z top (SV R .any t x).cells vs)(n:Nat)(Y:qd):vs.mapM (Rf (n+2) Y)=some (Q8 R t x).cells:=by
 cases t with
 |st k=>have he:Q8 R (.st k) x= .agg (encs R (R.lf k) (R.of k x)):=hR.enc k x;rw[he];exact nL hR _ _ vs (hR.leaf k) h n Y|int k=>exact nL hR [.int k] x vs rfl h n Y|bool=>exact nL hR [.bool] x vs rfl h n Y|str=>exact nL hR [.str] x vs rfl h n Y|slice t=>exact nL hR [.slice t] x vs rfl h n Y
theorem xE {t:Ty}{Z:ak}{top:Nat->Nat}:∀(l:List (Den R.T t))(cs:List V),ah R Z top (l.flatMap fun x=>(SV R .any t x).cells) cs->∀(n:Nat)(Y:qd),cs.mapM (Rf (n+2) Y)=some ((l.map (Q8 R t)).flatMap V.cells)
 | [],cs,h,n,Y=>by rw[ah.bg h];rfl|x::l,cs,h,n,Y=>by rw[P6] at h;obtain⟨a,b,rfl,h1,h2⟩:=h.split;rw[List.mapM_append,xE l b h2 n Y,PO,P6];have:a.mapM (Rf (n+2) Y)=some (Q8 R t x).cells:=MC hR t x a h1 n Y;rw[this];rfl
omit hR in
theorem CS:∀(t:Ty)(x:Den R.T t)(v:V),dK t=true->Rl R Z top (tv1 R .any t x) v->aN v=Q8 R t x
 |.int k,x,v,_,h=>by rw[Rl.bW (R:=R) h];rfl|.bool,x,v,_,h=>by rw[Rl.eO (R:=R) h];rfl|.str,x,v,_,h=>by rw[Rl.dL (R:=R) h];rfl|.slice t,x,v,_,h=>by obtain⟨c,rfl,_⟩:=Rl.dz (R:=R) h;rfl
 |.st n,_,_,h,_=>by simp[dK] at h
omit hR in
theorem nM:∀(l:List Ty)(p:Vm R.T l)(vs:List V),l.all dK=true->ah R Z top (TR R .any l p) vs->vs.map aN=encs R l p
 | [],_,vs,_,h=>by rw[ah.bg h];rfl| [t],x,vs,hl,h=>by obtain⟨v,l,rfl,h1,h2⟩:=ah.aP h;rw[ah.bg h2,PO,CS t x v (by simpa using hl) h1];rfl
 |t::u::l,p,vs,hl,h=>by rw[List.all_cons,Pz] at hl;obtain⟨v,ws,rfl,h1,h2⟩:=ah.aP h;rw[PO,CS t p.1 v hl.1 h1,nM (u::l) p.2 ws hl.2 h2];rfl
theorem ME (t:Ty)(x:Den R.T t)(vs:List V)(h:ah R Z top (SV R .any t x).cells vs):vs.map aN=(Q8 R t x).cells:=by
 cases t with
 |st k=>have he:Q8 R (.st k) x= .agg (encs R (R.lf k) (R.of k x)):=hR.enc k x;rw[he];exact nM _ _ vs (hR.leaf k) h|int k=>exact nM [.int k] x vs rfl h|bool=>exact nM [.bool] x vs rfl h|str=>exact nM [.str] x vs rfl h|slice t=>exact nM [.slice t] x vs rfl h
theorem CU {t:Ty}{Z:ak}{top:Nat->Nat}:∀(l:List (Den R.T t))(cs:List V),ah R Z top (l.flatMap fun x=>(SV R .any t x).cells) cs->cs.map aN=(l.map (Q8 R t)).flatMap V.cells
 | [],cs,h=>by rw[ah.bg h];rfl|x::l,cs,h=>by rw[P6] at h;obtain⟨a,b,rfl,h1,h2⟩:=h.split;rw[QD,CU l b h2,PO,P6,ME hR t x a h1]
theorem xG {t:Ty}(l:List (Den R.T t)):chunks (Tk t) (RD R t) l.length ((l.map (Q8 R t)).flatMap V.cells)=l.map (Q8 R t):=by
 have:=xg (Tk t) (RD R t) (l.map (Q8 R t)) (fun v hv=>by obtain⟨x,_,rfl⟩:=Qo.1 hv;exact(nJ hR t x).1);rw[PY] at this;rw[this,QN];refine QM fun x _=>?_;show (if Tk t then V.agg (Q8 R t x).cells else (Q8 R t x).cells.headD FN)=Q8 R t x;cases hs:Tk t
 .cases t<;>first|rfl| (simp[Tk] at hs;done)
 .obtain⟨c,hc⟩:=(nJ hR t x).2.2.2.1 hs;rw[hc];rfl
theorem xH {t:Ty}(l:List (Den R.T t)):(Tk t||RD R t==1&& RN ((l.map (Q8 R t)).flatMap V.cells))=true:=by
 cases hs:Tk t
 .have h1:RD R t=1:=by cases t<;>first|rfl| (simp[Tk] at hs;done)
  rw[h1];have:RN ((l.map (Q8 R t)).flatMap V.cells)=true:=by have:=xq hR l;unfold RN at this⊢;rw[List.all_flatMap];exact this
  rw[this];rfl
 .rfl
omit hR in
theorem CV:∀(a b:List V),Rz (a++b)=(Rz a&& Rz b)
 | [],b=>by simp[Rz]|x::a,b=>by simp only[List.cons_append,Rz];rw[CV a b,Bool.and_assoc]
omit hR in
theorem CX (k:IntKind):∀l:List Int,Rz (l.map (V.int k))=true
 | []=>by simp[Rz]|x::l=>by simp only[PO,Rz,wm,Bool.true_and];exact CX k l
omit hR in
theorem xI:∀ss:List Sg,Rz (Uu ss)=true
 | []=>by simp[Uu,Rz]|.i k x::ss=>by show Rz (V.int k x::Uu ss)=true;unfold Rz;rw[xI ss];simp[Q9]|.a k n v::ss=>by show Rz (v.l.map (V.int k)++Uu ss)=true;rw[CV,CX,xI ss];rfl
omit hR in
theorem xJ (ss:List Sg):Q9 (.agg (Uu ss))=true:=by unfold Q9;exact xI ss
omit hR in
theorem CY:∀(a b:List V),bQ (a++b)=(bQ a&& bQ b)
 | [],b=>by simp[bQ]|x::a,b=>by simp only[List.cons_append,bQ];rw[CY a b,Bool.and_assoc]
omit hR in
theorem CZ (k:IntKind):∀l:List Int,bQ (l.map (V.int k))=true
 | []=>by simp[bQ]|x::l=>by simp only[PO,bQ,flat,Bool.true_and];exact CZ k l
omit hR in
theorem su:∀ss:List Sg,bQ (Uu ss)=true
 | []=>by simp[Uu,bQ]|.i k x::ss=>by show bQ (V.int k x::Uu ss)=true;unfold bQ;rw[su ss];simp[flat]|.a k n v::ss=>by show bQ (v.l.map (V.int k)++Uu ss)=true;rw[CY,CZ,su ss];rfl
omit hR in
theorem MF (ss:List Sg):er (.agg (Uu ss))= .agg (Uu ss):=by
 have:∀ss:List Sg,(Uu ss).map aN=Uu ss:=by
  intro ss;induction ss with
  |nil=>rfl|cons s ss ih=>
   cases s with
   |i k x=>show aN (.int k x)::(Uu ss).map aN=_;rw[ih];rfl|a k n v=>show (v.l.map (V.int k)++Uu ss).map aN=_;rw[QD,ih,QN];rfl
 show V.agg ((Uu ss).map aN)=_;rw[this]
omit hR in
theorem Sg.len:∀s:Sg,s.vs.length=s.w
 |.i _ _=>rfl|.a _ n v=>by show (v.l.map _).length=n;rw[PY,v.h]
theorem C8 (hi:aj Z b st fr Y){x:TV R.T}{v:V}(h:Rl R Z Y.top x v):∃v',Rl R Z Y.top (aae st x) v'/\∀n,Rf (n+3) Y v=Rf (n+3) Y v':=by
 by_cases hx:∃o off,x= .ref o off
 .obtain⟨o,off,rfl⟩:=hx;unfold aae;dsimp only;split
  .rename_i cs hl;obtain⟨s,h1,rfl⟩:=h.iM;obtain⟨s',l,h2,h3,h4⟩:=hi.rd hl;rw[h1] at h2;cases h2;refine⟨.Q5 l off,by unfold Rl;exact⟨l,rfl,h4⟩,fun n=>?_⟩;rw[CP]
   conv=>lhs;unfold Rf
   simp only[Q9,PE,if_false,h3,Option.bind_some]
  .exact⟨v,h,fun _=>rfl⟩
 .by_cases hy:∃o,x= .RA o
  .obtain⟨o,rfl⟩:=hy;unfold aae;dsimp only;split
   .rename_i k e m hl;obtain⟨s,h1,rfl⟩:=h.jG;obtain⟨s',h2,h3⟩:=hi.rd hl;rw[h1] at h2;cases h2;refine⟨.RX (m.map fun p=>Q8 R k p.1) (m.map fun p=>Q8 R e p.2),by unfold Rl;rfl,fun n=>?_⟩;have hp:=xD hR m;rw[Uw hp];have hp':=hp;simp only[Q9,Pz] at hp';have key:∀cs:List V,Rz cs=true->cs.mapM (Rf (n+2) Y)=some cs:=by
     intro cs;induction cs with
     |nil=>intro _;rfl|cons a l ih=>intro h;simp only[Rz,Pz] at h;rw[PW,Uw h.1,ih h.2];rfl
    conv=>lhs;unfold Rf
    simp only[Q9,PE,if_false,h3,Option.bind_some,key _ hp'.1,key _ hp'.2,Option.map_some]
   .exact⟨v,h,fun _=>rfl⟩
  .by_cases hz:∃o t,x= .vw o t
   .obtain⟨o,t,rfl⟩:=hz;unfold aae;dsimp only;split
    .rename_i t' l hl;split
     .rename_i e;subst e;have hO:=hi.rd hl;refine⟨.tX .sh (l.map (Q8 R t')),by unfold Rl;exact⟨.sh,rfl,rfl⟩,fun n=>?_⟩;rw[Yr _ _ (Vd hR t')];rcases h.jH with ⟨s,h1,rfl⟩| ⟨h1,h2⟩
      .rcases hO.2 with h2| ⟨s',cs,h2,h3,h4⟩
       .rw[h1] at h2;exact absurd h2.2 (by simp)
       .rw[h1] at h2;cases h2;have hlc:cs.length=l.length*RD R t':=(by rw[h4.length,kI]);have hlen:l.length=Z.ln o:=hO.1
        conv=>lhs;unfold Rf
        simp only[Q9,PE,if_false,h3,Option.bind_some,Qi,Qz];rw[if_pos (by rw[hlc,hlen];exact mF _),Qu (by rw[hlc,hlen];exact mF _),xE hR l cs h4 n Y];simp only[Option.bind_some];rw[<-hlen,xG hR l,xH hR l,if_pos rfl];rfl
      .have hl0:l=[]:=Qm (hO.1.trans h1);subst hl0;rcases h2 with rfl|rfl<;>exact Yr _ ([]:List (Den R.T t')) (Vd hR t')
     .exact⟨v,h,fun _=>rfl⟩
    .exact⟨v,h,fun _=>rfl⟩
   .by_cases hz2:∃o off k n lo hi,x= .sv o off k n lo hi
    .obtain⟨o,off,k,n,lo,hi',rfl⟩:=hz2;exact⟨v,h,fun _=>rfl⟩
    .by_cases hz3:∃o t a b,x= .sub o t a b
     .obtain⟨o,t,a,b,rfl⟩:=hz3;unfold aae;dsimp only;split
      .rename_i t' l hl;split
       .rename_i e;subst e;have hO:=hi.rd hl;have hlen:l.length=Z.ln o:=hO.1;obtain⟨g0,g1,g2,h⟩:=h.kC;refine⟨.tX .sh ((Yu l a b).map (Q8 R t')),by unfold Rl;exact⟨.sh,rfl,rfl⟩,fun n=>?_⟩;rw[Yr _ _ (Vd hR t')];have hsl:(Yu l a b).length=(b-a).toNat:=(by rw[CF g0 g1,Qb,QK];omega);rcases h with ⟨s,cp,h1,h2,rfl⟩| ⟨e,c,rfl⟩
        .rcases hO.2 with h2| ⟨s',cs,h2,h3,h4⟩
         .rw[h1] at h2;exact absurd h2.2 (by simp)
         .rw[h1] at h2;cases h2;have hlc:cs.length=l.length*RD R t':=(by rw[h4.length,kI]);have hp:=Mc g0 g1 h4;have hle:a.toNat*RD R t'+(b-a).toNat*RD R t'<=cs.length:=by rw[hlc,<-Qj];exact Ql _ (by omega)
          conv=>lhs;unfold Rf
          simp only[Q9,PE,if_false,h3,Option.bind_some];rw[if_pos hle,xE hR _ _ hp n Y];simp only[Option.bind_some];rw[<-hsl,xG hR,xH hR,if_pos rfl];rfl
        .have hl0:Yu l a b=[]:=Qm (by rw[hsl,e];simp);rw[hl0];exact Yr _ ([]:List (Den R.T t')) (Vd hR t')
       .exact⟨v,h,fun _=>rfl⟩
      .exact⟨v,h,fun _=>rfl⟩
     .have:aae st x=x:=(by cases x<;>first|rfl|exact absurd ⟨_,_,rfl⟩ hx|exact absurd ⟨_,rfl⟩ hy|exact absurd ⟨_,_,rfl⟩ hz|exact absurd ⟨_,_,_,_,_,_,rfl⟩ hz2|exact absurd ⟨_,_,_,_,rfl⟩ hz3);rw[this];exact⟨v,h,fun _=>rfl⟩
theorem sD (hi:aj Z b st fr Y):∀{x:List (TV R.T)}{v:List V},ah R Z Y.top x v->∃v',ah R Z Y.top (ac2 st x) v'/\∀n,v.mapM (Rf (n+3) Y)=v'.mapM (Rf (n+3) Y)
 | [],v,h=>by rw[h.bg];exact⟨[],rfl,fun _=>rfl⟩
 |x::xs,v,h=>by obtain⟨w,ws,rfl,h1,h2⟩:=h.aP;obtain⟨w',a1,a2⟩:=C8 hR hi h1;obtain⟨ws',b1,b2⟩:=sD hi h2;exact⟨w'::ws',.cons' a1 b1,fun n=>by rw[PW,PW,a2,b2]⟩
theorem MG (hi:aj Z b st fr Y){x:TV R.T}{v:V}(h:Rl R Z Y.top x v):∃v',Rl R Z Y.top (aeF st x) v'/\∀n,Rf (n+4) Y v=Rf (n+4) Y v':=by
 by_cases hx:∃f a b,x= .fn f a b
 .obtain⟨f,a,b,rfl⟩:=hx;obtain⟨a',b',rfl,ha,hb⟩:=h.dS;obtain⟨va,a1,a2⟩:=sD hR hi ha;obtain⟨vb,b1,b2⟩:=sD hR hi hb;refine⟨.fn (.func f) va vb,⟨va,vb,rfl,a1,b1⟩,fun n=>?_⟩;rw[xC,xC,a2,b2]
 .by_cases hy:∃cs,x= .agg cs
  .obtain⟨cs,rfl⟩:=hy;obtain⟨l,rfl,hl⟩:=h.cO;obtain⟨v',a1,a2⟩:=sD hR hi hl;refine⟨.agg v',by unfold aeF;unfold Rl;exact⟨v',rfl,a1⟩,fun n=>?_⟩;rw[wK,wK,a2]
  .have:aeF st x=aae st x:=by cases x<;>first|rfl|exact absurd ⟨_,_,_,rfl⟩ hx|exact absurd ⟨_,rfl⟩ hy
   rw[this];obtain⟨v',h1,h2⟩:=C8 hR hi h;exact⟨v',h1,fun n=>h2 (n+1)⟩
theorem xK (hi:aj Z b st fr Y):∀{x:List (TV R.T)}{v:List V},ah R Z Y.top x v->∃v',ah R Z Y.top (aaf st x) v'/\∀n,v.mapM (Rf (n+4) Y)=v'.mapM (Rf (n+4) Y)
 | [],v,h=>by rw[h.bg];exact⟨[],rfl,fun _=>rfl⟩
 |x::xs,v,h=>by obtain⟨w,ws,rfl,h1,h2⟩:=h.aP;obtain⟨w',a1,a2⟩:=MG hR hi h1;obtain⟨ws',b1,b2⟩:=xK hi h2;exact⟨w'::ws',.cons' a1 b1,fun n=>by rw[PW,PW,a2,b2]⟩
mutual
theorem Da:∀(k:Sk)(x:VZ R.T k)(tv:TV R.T)(v:V),UF k=true->pk R k tv=some x->Rl R Z top tv v->∀n Y,dep k<=n->Rf n Y v=some (encS R k x)
 |.d t,x,tv,v,_,h,hr,n,Y,hn=>by obtain⟨m,rfl⟩:∃m,n=m+3:=⟨n-3,by have:3<=n:=hn;omega⟩;exact(wL hR (show V5 R t tv=some x from h) hr).2.2.1 m Y
 |.l c t,x,tv,v,_,h,hr,n,Y,hn=>by obtain⟨m,rfl⟩:∃m,n=m+3:=⟨n-3,by have:3<=n:=hn;omega⟩;obtain⟨c',rfl,_⟩:=(BP (show aeH R c t tv=some x from h) hr).dz;exact Yr _ _ (Vd hR _)
 |.agg l,x,tv,v,hc,h,hr,n,Y,hn=>by
  cases tv<;>first| (exact absurd (show none=some x from h) (by simp))|skip
  rename_i cs;obtain⟨vs,rfl,hl⟩:=hr.cO;unfold dep at hn;obtain⟨m,rfl⟩:∃m,n=m+2:=⟨n-2,by omega⟩;rw[Bg,jg l x cs vs (by unfold UF at hc;exact hc) h hl (m+1) Y (by omega)];rfl
 |.Q5 l off,x,tv,v,hc,h,hr,n,Y,hn=>by
  cases tv<;>first| (exact absurd (show none=some x from h) (by simp))|skip
  rename_i cs off';have h':(bif Nat.beq off' off then TL R l cs else none)=some x:=h;obtain⟨hb,h'⟩:=aZ h';rw[bn hb] at hr;obtain⟨vs,rfl,hl⟩:=hr.gD;unfold dep at hn;obtain⟨m,rfl⟩:∃m,n=m+2:=⟨n-2,by omega⟩;rw[CP,jg l x cs vs (by unfold UF at hc;exact hc) h' hl (m+1) Y (by omega)];rfl
 |.RX k e,x,tv,v,_,h,hr,n,Y,hn=>by
  cases tv<;>first| (exact absurd (show none=some x from h) (by simp))|skip
  rename_i k' e' m;obtain⟨e1,e2,e3⟩:=wP (show ab2 R m=some x from h);subst e1;subst e2;cases e3;obtain⟨m',rfl⟩:∃m,n=m+3:=⟨n-3,by have:3<=n:=hn;omega⟩;rw[hr.ku];exact Uw (xD hR m)
 |.fn f a b,x,tv,v,hc,h,hr,n,Y,hn=>by
  cases tv<;>first| (exact absurd (show none=some x from h) (by simp))|skip
  rename_i f' a' b';have h':(bif Nat.beq f' f then (match TL R a a' with
   |some x=>match TL R b b' with
    |some y=>some (x,y)|none=>none
   |none=>none) else none)=some x:=h
  obtain⟨hb,h'⟩:=aZ h';rw[bn hb] at hr;obtain⟨va,vb,rfl,ha,hbb⟩:=hr.dS;unfold UF at hc;rw[Pz] at hc;unfold dep at hn;obtain⟨m,rfl⟩:∃m,n=m+2:=⟨n-2,by omega⟩;cases h1:TL R a a' with
  |none=>simp only[h1] at h';cases h'|some y=>
   cases h2:TL R b b' with
   |none=>simp only[h1,h2] at h';cases h'|some z=>simp only[h1,h2] at h';cases h';rw[xC,jg a y a' va hc.1 h1 ha (m+1) Y (by omega),jg b z b' vb hc.2 h2 hbb (m+1) Y (by omega)];rfl
 |.ref _ _,_,_,_,h,_,_,_,_,_=>by simp[UF] at h|.RA _,_,_,_,h,_,_,_,_,_=>by simp[UF] at h|.TK,_,_,_,h,_,_,_,_,_=>by simp[UF] at h|.vw _ _,_,_,_,h,_,_,_,_,_=>by simp[UF] at h|.sub _ _,_,_,_,h,_,_,_,_,_=>by simp[UF] at h|.sg l,x,tv,v,_,h,hr,n,Y,hn=>by
  cases tv<;>first| (exact absurd (show none=some x from h) (by simp))|skip
  rename_i ss;obtain⟨m,rfl⟩:∃m,n=m+1:=⟨n-1,by have:3<=n:=hn;omega⟩;rw[hr.rH];show _=some (V.agg (Uu (XV l x)));rw[rQ (show RZ l ss=some x from h)];exact Uw (xJ ss)
 |.undef,_,_,_,h,_,_,_,_,_=>by simp[UF] at h
theorem jg:∀(l:List Sk)(x:Lv R.T l)(cs:List (TV R.T))(vs:List V),Ur l=true->TL R l cs=some x->ah R Z top cs vs->∀n Y,WE l<=n->vs.mapM (Rf n Y)=some (Ri R l x)
 | [],x,cs,vs,_,h,hr,n,Y,hn=>by
   cases cs with
   |nil=>rw[hr.bg];rfl|cons c cs=>exact absurd (show none=some x from h) (by simp)
 | [k],x,cs,vs,hc,h,hr,n,Y,hn=>by
   unfold Ur at hc;rw[Pz] at hc;unfold WE at hn;cases cs with
   |nil=>exact absurd (show none=some x from h) (by simp)|cons c cs=>
    cases cs with
    |nil=>obtain⟨v,l,rfl,h1,h2⟩:=hr.aP;rw[h2.bg,PW,Da k x c v hc.1 h h1 n Y (by omega)];rfl
    |cons c' cs=>exact absurd (show none=some x from h) (by simp)
 |k::k'::l,x,cs,vs,hc,h,hr,n,Y,hn=>by
  unfold Ur at hc;rw[Pz] at hc;unfold WE at hn;cases cs with
  |nil=>exact absurd (show none=some x from h) (by simp)|cons c cs=>
   have h':(match pk R k c with
    |some x=>match TL R (k'::l) cs with
     |some p=>some (x,p)|none=>none
    |none=>none)=some x:=h
   obtain⟨v,vs,rfl,h1,h2⟩:=hr.aP;cases hu:pk R k c with
   |none=>simp only[hu] at h';cases h'|some y=>
    cases hs:TL R (k'::l) cs with
    |none=>simp only[hu,hs] at h';cases h'|some q=>simp only[hu,hs] at h';obtain rfl:=P9 h';rw[PW,Da k y c v hc.1 hu h1 n Y (by omega),jg (k'::l) q cs vs hc.2 hs h2 n Y (by omega)];rfl
end
mutual
theorem sF:∀(tv:TV R.T)(v:V),TS tv=true->Rl R Z top tv v->Q9 v=true
 |.int _ _,v,_,h=>by rw[h.bW];exact wm _ _|.bool _,v,_,h=>by rw[h.eO];exact wo _|.Tn _,v,_,h=>by rw[h.gB];exact wo _|.str _,v,_,h=>by rw[h.dL];exact Bc _|.SX,v,_,h=>by unfold Rl at h;subst h;simp[Q9]|.SQ,v,_,h=>by unfold Rl at h;subst h;simp[Q9]|.SF,v,_,h=>by unfold Rl at h;subst h;simp[Q9]|.Sw,v,_,h=>by unfold Rl at h;subst h;simp[Q9]|.tX c t l,v,hs,h=>by
  cases c<;>simp only[TS,PE] at hs;obtain⟨c',rfl,hc⟩:=h.dz;obtain rfl:c'= .sh:=hc;exact rF (Vd hR t) l
 |.agg cs,v,hs,h=>by obtain⟨l,rfl,hl⟩:=h.cO;unfold Q9;exact kJ cs l (by unfold TS at hs;exact hs) hl
 |.Rm cs,v,hs,h=>by obtain⟨l,rfl,hl⟩:=h.nu;unfold Q9;exact kJ cs l (by unfold TS at hs;exact hs) hl
 |.RX k e m,v,_,h=>by rw[h.ku];exact xD hR m|.fn f a b,v,hs,h=>by obtain⟨a',b',rfl,ha,hb⟩:=h.dS;unfold TS at hs;rw[Pz] at hs;unfold Q9;rw[kJ a a' hs.1 ha,kJ b b' hs.2 hb];rfl
 |.TK,_,hs,_=>by simp[TS] at hs|.ref _ _,_,hs,_=>by simp[TS] at hs|.Q5 cs off,v,hs,h=>by obtain⟨l,rfl,hl⟩:=h.gD;unfold Q9;exact kJ cs l (by unfold TS at hs;exact hs) hl
 |.vw _ _,_,hs,_=>by simp[TS] at hs|.sub _ _ _ _,_,hs,_=>by simp[TS] at hs|.Uo _ _ _ _,_,hs,_=>by simp[TS] at hs|.sg ss,v,_,h=>by rw[h.rH];exact xJ ss|.sv _ _ _ _ _ _,_,hs,_=>by simp[TS] at hs|.sel _ _ _ _ _ _,_,hs,_=>by simp[TS] at hs|.XY _ _ _ _,_,hs,_=>by simp[TS] at hs|.RA _,_,hs,_=>by simp[TS] at hs|.opt _ _ _,_,hs,_=>by simp[TS] at hs|.undef,_,hs,_=>by simp[TS] at hs|.gone,_,hs,_=>by simp[TS] at hs
theorem kJ:∀(l:List (TV R.T))(vs:List V),VF l=true->ah R Z top l vs->Rz vs=true
 | [],vs,_,h=>by rw[h.bg];rfl|x::l,vs,hs,h=>by obtain⟨v,ws,rfl,h1,h2⟩:=h.aP;unfold VF at hs;rw[Pz] at hs;unfold Rz;rw[sF x v hs.1 h1,kJ l ws hs.2 h2];rfl
end
theorem Db {x:TV R.T}{v:V}(hs:cl1 x=true)(h:Rl R Z top x v):Q9 (aN v)=true:=by
 have key:TS x=true->Q9 (aN v)=true:=fun hs=>by
  have:=sF hR x v hs h;cases v with
  |tX c l=>cases c<;>simp[Q9] at this<;>simpa [aN,Q9] using this|_=>exact this
 cases x<;>first|exact key hs|skip
 .rw[h.je];simp[aN,Q9,Rz]
 .obtain⟨c',rfl,hc⟩:=h.dz;exact rF (Vd hR _) _
theorem Dc:∀{x:List (TV R.T)}{v:List V},aeG x=true->ah R Z top x v->Rz (v.map aN)=true
 | [],vs,_,h=>by rw[h.bg];rfl|x::l,vs,hs,h=>by obtain⟨v,ws,rfl,h1,h2⟩:=h.aP;unfold aeG at hs;rw[Pz] at hs;rw[PO];unfold Rz;rw[Db hR hs.1 h1,Dc hs.2 h2];rfl
theorem MH {x:TV R.T}{v:V}(hs:clV x=true)(h:Rl R Z top x v):Q9 (er v)=true:=by
 by_cases hx:∃cs,x= .agg cs
 .obtain⟨cs,rfl⟩:=hx;obtain⟨l,rfl,hl⟩:=h.cO;show Q9 (.agg (l.map aN))=true;unfold Q9;exact Dc hR hs hl
 .by_cases hy:∃ss,x= .sg ss
  .obtain⟨ss,rfl⟩:=hy;rw[h.rH,MF];exact xJ ss
  have hs':cl1 x=true:=by cases x<;>first|exact hs|exact absurd ⟨_,rfl⟩ hx
  have h1:=Db hR hs' h;have hne:∀cs,v≠ .agg cs:=by rintro cs rfl;cases x<;>first|exact hy ⟨_,rfl⟩| (unfold Rl at h;simp at h;done)|exact hx ⟨_,rfl⟩| (simp[cl1,TS] at hs';done)
  rw[K5 hne];exact h1
theorem xL:∀{x:List (TV R.T)}{v:List V},abo x=true->ah R Z top x v->v.all (fun a=>Q9 (er a))=true
 | [],vs,_,h=>by rw[h.bg];rfl|x::l,vs,hs,h=>by obtain⟨v,ws,rfl,h1,h2⟩:=h.aP;unfold abo at hs;rw[Pz] at hs;rw[List.all_cons,MH hR hs.1 h1,xL hs.2 h2];rfl
theorem xM:∀(l:List Sk)(x:Lv R.T l),ab0 l=true->bQ (Ri R l x)=true
 | [],x,_=>rfl| [k],x,h=>by
   cases k<;>simp only[ab0,Bool.and_true,PE] at h
   .rename_i t;show (flat (Q8 R t x)&& bQ [])=true;cases t<;>simp only[af5,PE] at h<;>rfl
   .rename_i ks;show (flat (.agg (Uu (XV ks x)))&& bQ [])=true;unfold flat;rw[su];rfl
 |k::k'::l,x,h=>by
  cases k<;>simp only[ab0,PE] at h
  .rename_i t;rw[Pz] at h;show (flat (Q8 R t x.1)&& bQ (Ri R (k'::l) x.2))=true;rw[xM (k'::l) x.2 h.2];have:=h.1;cases t<;>simp only[af5,PE] at this<;>rfl
  .rename_i ks;show (flat (.agg (Uu (XV ks x.1)))&& bQ (Ri R (k'::l) x.2))=true;rw[xM (k'::l) x.2 h];unfold flat;rw[su];rfl
omit hR in
theorem MI {vs:List V}(h:bQ vs=true):flat (SA vs)=true:=by
 match vs with
 | []=>simp[SA,flat,bQ]| [v]=>simp only[bQ,Bool.and_true] at h;exact h|v::w::vs=>show flat (.Rm _)=true;unfold flat;exact h
mutual
theorem Df:∀(k:Sk)(x:VZ R.T k),UF k=true->Rl R Z top (up R .sh k x) (encS R k x)
 |.d t,x,_=>Br hR t x|.l c t,x,h=>by refine⟨.sh,rfl,?_⟩;cases c<;>first|trivial|rfl| (simp[UF] at h;done)
 |.agg l,x,h=>⟨_,rfl,kK l x (by unfold UF at h;exact h)⟩|.Q5 l off,x,h=>⟨_,rfl,kK l x (by unfold UF at h;exact h)⟩|.RX k e,x,_=>rfl|.fn f a b,x,h=>by unfold UF at h;rw[Pz] at h;exact⟨_,_,rfl,kK a x.1 h.1,kK b x.2 h.2⟩|.ref _ _,_,h=>by simp[UF] at h|.RA _,_,h=>by simp[UF] at h|.TK,_,h=>by simp[UF] at h|.vw _ _,_,h=>by simp[UF] at h|.sub _ _,_,h=>by simp[UF] at h|.sg l,x,_=>rfl|.undef,_,h=>by simp[UF] at h
theorem kK:∀(l:List Sk)(x:Lv R.T l),Ur l=true->ah R Z top (Ti R .sh l x) (Ri R l x)
 | [],_,_=>rfl| [k],x,h=>by unfold Ur at h;rw[Pz] at h;exact .cons' (Df k x h.1) rfl|k::k'::l,x,h=>by unfold Ur at h;rw[Pz] at h;exact .cons' (Df k x.1 h.1) (kK (k'::l) x.2 h.2)
end
omit hR in
theorem MJ {x:List (TV R.T)}{v:List V}(h:ah R Z top x v):Rl R Z top (ak9 R x) (SA v):=by
 match x,h with
 | [],h=>rw[h.bg];exact⟨[],rfl,rfl⟩| [a],h=>obtain⟨v,vs,rfl,h1,h2⟩:=h.aP;rw[h2.bg];exact h1
 |a::b::l,h=>obtain⟨v,vs,rfl,h1,h2⟩:=h.aP;obtain⟨w,ws,rfl,h3,h4⟩:=h2.aP;exact⟨_,rfl,.cons' h1 (.cons' h3 h4)⟩
def MK:List V->List V
 |_::l=>.tX .nil []::l| []=>[]
def Ro (E:Env)(F:Nat->List (FR R)):Prop:=∀f,∀r∈F f,∀p x,r.F p=some x->(Ur r.args=true->Pure E f (Ri R r.args p) (SA (Ri R r.res x)))/\
 (r.own=true->∀(τ:Ty)(h:r.res=[.d (.slice τ)])(l:List (Den R.T τ)),(h▸x:Lv R.T [.d (.slice τ)])=l->
   (Ur r.args=true->E.akV f=false/\rE E f (Ri R r.args p) (RD R τ) (l.map (Q8 R τ)))/\
   (Ur r.args=false->E.akV f=true/\rE E f (MK (Ri R r.args p)) (RD R τ) (l.map (Q8 R τ))))
theorem Dh {F:Nat->List (FR R)}(hF:Ro E F){f:Nat}{c:Call}{fo:Operand}{o:Oper}{L6:Nat}{a' b':List V}(ho:o.op= .call c)(bD:c.callee= .value fo)(hf:fr.ev E fo= .fn (.func f) a' b')(hi:E.imp f=false){args:List (TV R.T)}(ha:ah R Z Y.top args (a'++c.args.toList.map (fr.ev E)++b'))(hi':aj Z b st fr Y):∀{l:List (FR R)}{r:R3 R},(∀x∈l,x∈F f)->findF R args (aaf st args) l=some r->eT E st Z L6 fr Y o r
 | [],r,_,h=>by cases h|q::l,r,hl,h=>by
  unfold findF at h;split at h
  .rename_i p hp;obtain⟨hc,h⟩:=aZ h;cases h;simp only[Pz] at hc;obtain⟨⟨⟨c1,c2⟩,c3⟩,c4⟩:=hc;intro x hx;have hP:=(hF f q (hl q (by simp)) p x hx).1 c1;obtain⟨vs',v1,v2⟩:=xK hR hi' ha;have ML:=jg hR q.args p (aaf st args) _ c1 hp v1 20 Y (by have:=Qp c2;omega);have has:=(v2 16).trans ML;have hcl:((a'++c.args.toList.map (fr.ev E)++b').all (fun x=>Q9 (er x))||flat (SA (Ri R q.res x)))=true:=by
    rw[QE] at c4⊢;rcases c4 with c4|c4
    .exact .inl (xL hR c4 ha)
    .exact .inr (MI (xM hR _ _ c4))
   exact⟨SA (Ri R q.res x),⟨fun aS _ _ _ hw h'=>OW.call hw ho bD hf hi has hP hcl h' (Ch ho bD hf aS),fun aS _ _ _ _ _ hw h'=>bO.call hw ho bD hf hi has hP hcl h' (Ch ho bD hf aS)⟩,MJ (kK hR _ _ c3)⟩
  .exact Dh hF ho bD hf hi ha hi' (fun x hx=>hl x (by simp[hx])) h
theorem MN {t:TypeId}{x i:TV R.T}{v w:V}{r:R3 R}(h:iaM E R t x i=some r)(hx:Rl R Z top x v)(hi:Rl R Z top i w):dX Z top (Vj E.P t v w) r:=by
 unfold iaM at h;split at h
 .rename_i e c u l k n hu;split at h
  .rename_i sz hs;obtain⟨hb,h⟩:=aZ h;cases h;have:=bn hb;subst this;obtain⟨c',rfl,_⟩:=hx.dz;rw[hi.bW];intro a ha;refine⟨.Q5 (Q8 R u a).cells 0,?_,?_⟩
   .rw[wu,if_pos (by unfold XD;rw[hu])];have:UD E.P t=some e:=(by unfold UD;rw[hu]);rw[this];simp only[Option.bind_some,hs,ha];rw[if_pos (nJ hR u a).1]
   .unfold Rl;refine⟨_,rfl,(gG ?_ (Br hR u a)).1⟩;cases u<;>rfl
  .cases h
 .rename_i n e o off k m hu;split at h
  .rename_i sz hs;cases h;obtain⟨s,h1,rfl⟩:=hx.iM;rw[hi.bW];intro hc;have hc':0<=m/\m<n:=of_decide_eq_true hc;refine⟨.ref (Z.om.lc o) s (off+m.toNat*sz),?_,by unfold Rl;exact⟨s,h1,rfl⟩⟩;unfold Vj;rw[hu];dsimp only;rw[hs];simp[idx,fu,hc']
  .cases h
 .rename_i n e cs off k m hu;split at h
  .rename_i sz hs;cases h;obtain⟨l,rfl,h1⟩:=hx.gD;rw[hi.bW];intro hc;have hc':0<=m/\m<n:=of_decide_eq_true hc;refine⟨.Q5 l (off+m.toNat*sz),?_,by unfold Rl;exact⟨l,rfl,h1⟩⟩;unfold Vj;rw[hu];dsimp only;rw[hs];simp[idx,fu,hc']
  .cases h
 .cases h
omit hR in
theorem MO {t:TypeId}{x i:TV R.T}{v w:V}{r:R3 R}(h:ixM E R t x i=some r)(hx:Rl R Z top x v)(hi:Rl R Z top i w):dX Z top (mg E.P t v w) r:=by
 unfold ixM at h;split at h
 .rename_i s k n hu;cases h;rw[hx.dL,hi.bW];intro a ha;refine⟨.int .u8 (a.toNat:Int),?_,by unfold Rl;rfl⟩;rw[Bj (by unfold afY;rw[hu]),ha];rfl
 .cases h
end
end Aq
end
section
namespace Aq
open Go
section
variable {R:Tq}{E:Env}
variable {Z:ak}{top:Nat->Nat}{b L6:Nat}{st:MS R.T}{fr:Fr}{Y:qd}{o:Oper}
end
section
variable {R:Tq}{E:Env}
variable {Z:ak}{top:Nat->Nat}{b L6:Nat}{st:MS R.T}{fr:Fr}{Y:qd}{o:Oper}
theorem MP {x:TV R.T}(h:WC x=true):WC (erM x)=true:=by cases x<;>first|exact h|rfl
theorem Di {top:Nat->Nat}{x:TV R.T}{v:V}(hs:TS (XG x)=true)(h:Rl R Z top x v):Rl R Z top (XG x) (aN v):=by
 cases x with
 |tX c t l=>obtain⟨c',rfl,hc⟩:=h.dz;unfold XG Rl;exact⟨.sh,rfl,rfl⟩
 |int k n=>rw[h.bW] at*;exact h|bool b=>rw[h.eO] at*;exact h|Tn b=>rw[h.gB] at*;exact h|str s=>rw[h.dL] at*;exact h|agg cs=>obtain⟨l,rfl,hl⟩:=h.cO;exact h
 |Rm cs=>obtain⟨l,rfl,hl⟩:=h.nu;exact h
 |RX k e m=>rw[h.ku] at*;exact h|fn f a b=>obtain⟨a',b',rfl,ha,hb⟩:=h.dS;exact h
 |Q5 cs off=>obtain⟨l,rfl,hl⟩:=h.gD;exact h
 |sg ss=>rw[h.rH] at*;exact h|SX=>unfold Rl at h;subst h;unfold XG Rl;rfl|SQ=>unfold Rl at h;subst h;unfold XG Rl;rfl|SF=>unfold Rl at h;subst h;unfold XG Rl;rfl|Sw=>unfold Rl at h;subst h;unfold XG Rl;rfl|_=>simp[XG,TS] at hs
theorem Dj {top:Nat->Nat}:∀{l:List (TV R.T)}{vs:List V},VF (ac3 l)=true->ah R Z top l vs->ah R Z top (ac3 l) (vs.map aN)
 | [],vs,_,h=>by rw[h.bg];rfl|x::l,vs,hs,h=>by obtain⟨v,ws,rfl,h1,h2⟩:=h.aP;unfold ac3 VF at hs;rw[Pz] at hs;exact .cons' (Di hs.1 h1) (Dj hs.2 h2)
theorem MQ {top:Nat->Nat}{x:TV R.T}{v:V}(hs:TS (XG x)=true)(hg:WC x=true)(hn:∀cs,x≠ .agg cs)(h:Rl R Z top x v):er v=aN v:=by
 cases x with
 |tX c t l=>obtain⟨c',rfl,hc⟩:=h.dz;rfl
 |int k n=>rw[h.bW];rfl|bool b=>rw[h.eO];rfl|Tn b=>rw[h.gB];rfl|str s=>rw[h.dL];rfl|agg cs=>exact absurd rfl (hn cs)|Rm cs=>obtain⟨l,rfl,hl⟩:=h.nu;rfl
 |RX k e m=>rw[h.ku];rfl|fn f a b=>obtain⟨a',b',rfl,ha,hb⟩:=h.dS;rfl
 |Q5 cs off=>obtain⟨l,rfl,hl⟩:=h.gD;rfl
 |sg ss=>cases hg|SX=>unfold Rl at h;subst h;rfl|SQ=>unfold Rl at h;subst h;rfl|SF=>unfold Rl at h;subst h;rfl|Sw=>unfold Rl at h;subst h;rfl|_=>simp[XG,TS] at hs
theorem MR {top:Nat->Nat}{x:TV R.T}{v:V}(hs:(TS (erM x)&& WC x)=true)(h:Rl R Z top x v):Rl R Z top (erM x) (er v):=by
 rw[Pz] at hs;have key:(∀cs,x≠ .agg cs)->erM x=XG x:=fun hne=>by cases x<;>first|rfl|exact absurd rfl (hne _)
 cases x with
 |agg cs=>obtain⟨l,rfl,hl⟩:=h.cO;unfold erM Rl;exact⟨_,rfl,Dj (by have:=hs.1;unfold erM TS at this;exact this) hl⟩
 |sg ss=>cases hs.2|_=>rw[key (fun _ e=>by cases e)] at hs⊢;have h1:=Di hs.1 h;rw[MQ hs.1 hs.2 (fun _ e=>by cases e) h];exact h1
theorem eT.val {v:Option V}{r:R3 R}(hv:dX Z Y.top v r)(ho:∀y,v=some y->aH E fr Y L6 o=some (y,Y)):eT E st Z L6 fr Y o r:=by
 cases r with
 |t x=>obtain⟨y,e,hr⟩:=hv;exact⟨y,.dh (ho y e),hr⟩
 |c c x=>intro hc;obtain⟨y,e,hr⟩:=hv hc;exact⟨y,.dh (ho y e),hr⟩
 |p U d o' f=>intro a ha;obtain⟨y,e,hr⟩:=hv a ha;exact⟨y,.dh (ho y e),hr⟩
 |w x s=>exact hv.elim|wc c x s=>exact hv.elim
theorem eT.tt {x:TV R.T}{y:V}(ho:aH E fr Y L6 o=some (y,Y))(hr:Rl R Z Y.top x y):eT E st Z L6 fr Y o (.t x):=⟨y,.dh ho,hr⟩
theorem Dk {top:Nat->Nat}{x y v:TV R.T}{w:V}(h:acf true x y=some v)(hx:Rl R Z top x w):Rl R Z top v w:=by
 unfold acf at h;split at h<;>try cases h
 .split at h
  .cases h;exact hx
  .cases h
 all_goals first|exact hx| (unfold Rl at hx⊢;exact hx)
theorem Dl {top:Nat->Nat}{x y v:TV R.T}{w:V}(h:acf false x y=some v)(hx:Rl R Z top y w):Rl R Z top v w:=by
 unfold acf at h;split at h<;>try cases h
 .split at h
  .rename_i e;subst e;cases h;exact hx
  .cases h
 all_goals first|exact hx| (unfold Rl at hx⊢;exact hx)
theorem nN {c a' b':Operand}{t:Bool}(hop:o.op= .pick c a' b')(hc:fr.ev E c= .bool t):aH E fr Y L6 o=some (if t then fr.ev E a' else fr.ev E b',Y):=by simp only[aH,hop,hc,dI,Option.map_some]
variable (hR:VH R)
include hR
theorem MU {t:TypeId}{m x:TV R.T}{v w:V}{ok:Bool}{r:R3 R}(h:aeQ E R t m x ok st=some r)(hm:Rl R Z Y.top m v)(hx:Rl R Z Y.top x w)(hi:aj Z b st fr Y):dX Z Y.top (iV E.P Y t v w ok) r:=by
 unfold aeQ at h;split at h
 .rename_i o;split at h
  .rename_i k e m hl;obtain⟨s,h1,rfl⟩:=hm.jG;obtain⟨s',h2,h3⟩:=hi.rd hl;rw[h1] at h2;cases h2;exact wZ hR h hx h3
  .cases h
 .rename_i k e m;exact wZ hR h hx (by rw[hm.ku];rfl)
 .split at h
  .split at h
   .unfold Rl at hm;subst hm;exact wZ hR h hx rfl
   .cases h
  .cases h
 .cases h
omit hR in
theorem Dm {top:Nat->Nat}{x y:TV R.T}{v w:V}{r:Bool}(h:aeR x y=some r)(hx:Rl R Z top x v)(hy:Rl R Z top y w):dP v w=some r:=by
 unfold aeR at h;split at h
 .rw[hx.bW,hy.bW];exact h
 .cases h;rw[hx.dL,hy.dL];rfl
 .cases h
omit hR in
theorem Dn {top:Nat->Nat}{t:TypeId}{x:TV R.T}{v:V}(h:aeS E t x=true)(hx:Rl R Z top x v):dw E.P t v=true:=by
 unfold aeS at h;split at h
 .rename_i hu;rw[hx.bW];unfold dw;rw[hu]
 .rename_i hu;rw[hx.dL];unfold dw;rw[hu]
 .cases h
omit hR in
theorem Dp {top:Nat->Nat}{x y:TV R.T}{v w:V}(hx:Rl R Z top x v)(hy:Rl R Z top y w):∀{ks vs:List (TV R.T)}{ks' vs':List (TV R.T)}{k l:List V},aeT x y ks vs=some (ks',vs')->ah R Z top ks k->ah R Z top vs l->
 ∃k' l',iU v w k l=some (k',l')/\ah R Z top ks' k'/\ah R Z top vs' l'
 | [],[],_,_,k,l,h,h1,h2=>by
   cases h;rw[h1.bg,h2.bg];exact⟨_,_,rfl,.cons' hx rfl,.cons' hy rfl⟩
 | [],_::_,_,_,_,_,h,_,_=>by cases h|_::_,[],_,_,_,_,h,_,_=>by cases h|a::ks,b::vs,ks',vs',k,l,h,h1,h2=>by
  obtain⟨k0,k,rfl,g1,g2⟩:=h1.aP;obtain⟨l0,l,rfl,g3,g4⟩:=h2.aP;unfold aeT at h;split at h
  .rename_i c hc;have he:=Dm hc hx g1;cases c with
   |true=>cases h;exact⟨v::k,w::l,by simp[iU,he],.cons' hx g2,.cons' hy g4⟩|false=>
    rw[cond_false] at h;split at h
    .rename_i Po vs1 hs;cases h;obtain⟨k',l',e1,e2,e3⟩:=Dp hx hy hs g2 g4;exact⟨k0::k',l0::l',by simp[iU,he,e1],.cons' g1 e2,.cons' g3 e3⟩
    .cases h
  .cases h
theorem Dr {t:TypeId}{m x y:TV R.T}{v w u:V}{r:R3 R}(h:acd E R t m x y st=some r)(hm:Rl R Z Y.top m v)(hx:Rl R Z Y.top x w)(hy:Rl R Z Y.top y u)(hi:aj Z L6 st fr Y)(ho:∀Y',fO E.P Y t v w u=some Y'->aH E fr Y L6 o=some (FN,Y')):eT E st Z L6 fr Y o r:=by
 unfold acd at h;split at h
 .rename_i p;split at h
  .rename_i k e m hl;split at h
   .rename_i kt et ht;obtain⟨hk,h⟩:=aZ h;split at h
    .rename_i a c ha hc;cases h;obtain⟨s,h1,rfl⟩:=hm.jG;obtain⟨s',h2,h3⟩:=hi.ob _ _ hl;rw[h1] at h2;cases h2;have hw:=Cu hR hk ha hx;subst hw;unfold unE at hc;obtain⟨hs,hc⟩:=aZ hc;have hu:u=Q8 R e c:=(by have h4:=wL hR hc hy;have h5:=sF hR y u hs hy;have h6:=h4.2.2.1 0 Y;rw[Uw h5] at h6;exact P9 h6);subst hu;have hup:fO E.P Y t (.RA (Z.om.lc p) s) (Q8 R k a) (Q8 R e c)=some (Y.setObj (Z.om.lc p) s (.map ((V9 (SB R k) a c m).map fun q=>Q8 R k q.1) ((V9 (SB R k) a c m).map fun q=>Q8 R e q.2))):=(by unfold fO;rw[ht];simp only[Option.bind_some];rw[if_pos (rY hR hk a a).2,h3];simp only[Option.bind_some];rw[Ct hR hk a c m];rfl);refine⟨FN,_,Z,.dh (ho _ hup),(hi.le (P8 _)).set p s ⟨s,h1,map_eq _ _ _ _ _⟩,rfl,by unfold Rl;rfl,fun q _=>aA.set hl rfl⟩
    .cases h
   .cases h
  .rename_i ks vs hl;split at h
   .rename_i kt et ht;obtain⟨hk,h⟩:=aZ h;split at h
    .rename_i ks' vs' hs;cases h;obtain⟨s,h1,rfl⟩:=hm.jG;obtain⟨s',k0,l0,h2,h3,h4,h5⟩:=hi.ob _ _ hl;rw[h1] at h2;cases h2;obtain⟨k1,l1,g1,g2,g3⟩:=Dp hx hy hs h4 h5;have hup:fO E.P Y t (.RA (Z.om.lc p) s) w u=some (Y.setObj (Z.om.lc p) s (.map k1 l1)):=(by unfold fO;rw[ht];simp only[Option.bind_some];rw[if_pos (Dn hk hx),h3];simp only[Option.bind_some];rw[g1];rfl);refine⟨FN,_,Z,.dh (ho _ hup),(hi.le (P8 _)).set p s ⟨s,k1,l1,h1,map_eq _ _ _ _ _,g2,g3⟩,rfl,by unfold Rl;rfl,fun q _=>aA.set hl rfl⟩
    .cases h
   .cases h
  .cases h
 .cases h
omit hR in
theorem aj.at (h:aj Z b st fr Y){d:Nat}(hd:d<F0):(fr.d,d)=Z.om.lc d:=by rw[h.d,Cx.wC _ hd]
omit hR in
theorem aj.Dt (h:aj Z b st fr Y){x:Option Nat}(hd:∀d,x=some d->d<F0):(x.map fun t=>(fr.d,t))=x.map fun t=>Z.om.lc t:=by
 cases x with
 |none=>rfl|some d=>exact congrArg some (h.at (hd d rfl))
theorem Du {d s:Nat}{cs:List (TV R.T)}{l:List V}(hi:aj Z b st fr Y)(hc:ah R Z Y.top cs l)(hm:Vn d cs=false):aj (Z.dM d s) b (st.new d (.cells cs)) fr (Y.setObj (Z.om.lc d) s (.cells l)):=
 hi.new d s ⟨s,l,iO,Z7 _ _ _ _,ah.kill d nD rfl rfl cs l hm hc⟩
theorem MV {g:List (Nat×Bool)}(bf:∀d,o.dst=some d->d<F0)(hg:eX fr g)(hi:aj Z L6 st fr Y){r:R3 R}(h:WJ E R g o.dst o.op st=some r):eT E st Z L6 fr Y o r:=by unfold WJ at h;cases h
omit hR in
theorem Dv {U:Type}(l:List U):∀n,(List.replicate n l).flatten.length=n*l.length
 |0=>by simp|n+1=>by rw[List.replicate_succ,List.flatten_cons,PU,Dv l n,Qr];omega
omit hR in
theorem aj.set0 (h:aj Z b st fr Y)(o:Nat){x:Ob R.T}(hx:aM Z Y o x):aj Z b (st.set o x) fr Y:={h with
 fr:=h.fr
 ob:=fun p y hy=>by
  have hy':look ((o,x)::Tx o st.ob) p=some y:=hy;by_cases e:p=o
  .subst e;rw[bL] at hy';cases hy';exact hx
  .rw[aY _ _ e,eP e] at hy';exact h.ob p y hy'}
omit hR in
theorem aA.set0 {nr:Bool}{o q:Nat}{x y:Ob R.T}(hl:look st.ob o=some y)(hy:Vo y=false):aA nr q st Z Y (st.set o x) Z Y:=⟨rfl,rfl,rfl,mF _,⟨fun _ _=>rfl,fun _ _=>rfl⟩,fun _ _ _=>rfl,fun hr=>by
 have hne:q≠o:=by rintro rfl;rw[hr y hl] at hy;cases hy
 refine⟨fun z hz=>?_,fun s'=>⟨rfl,rfl⟩⟩;have hz':look ((o,x)::Tx o st.ob) q=some z:=hz;rw[aY _ _ hne,eP hne] at hz';exact hr z hz'⟩
theorem MW {t:TypeId}{x:TV R.T}{v:V}{r:R3 R}(h:agf E R t x st=some r)(hx:Rl R Z Y.top x v)(hi:aj Z L6 st fr Y)(ho:∀y Y',ig E.P Y t v=some (y,Y')->dB E fr Y L6 o y Y'):eT E st Z L6 fr Y o r:=by
 have hi1:=hi.le (P8 L6);unfold agf at h;split at h
 .rename_i p τ a c e τ' sz Sz hw he;have hxs:=xB hR hw hx hi;obtain⟨z0,e1,e2,e3,e4,e5,e6,e7,e8,e9⟩:=pW he;split at h
  .rename_i et;subst et;split at h
   .rename_i τ2 l0 z hl hz;split at h
    .rename_i l zz hc hzu;obtain⟨hzc,h⟩:=aZ h;rw[Pz] at hzc;cases h;obtain⟨ec,MX⟩:=gF hc;subst ec;cases MX;obtain⟨zv,z1,z2⟩:=pV (Z:=Z) (top:=Y.top) hz;rw[e5] at z1;cases z1;obtain⟨g0,g1,g2,hv⟩:=hxs.kC;have hO:=hi.ob _ _ hl;have hlen:l0.length=Z.ln p:=hO.1;have hnr:Vo (Ob.arr τ2 l0)=false:=rfl;have hcl:RN z0.cells=true:=nH hzc.1 (gG hzc.2 z2).1;have hll:(U3 l0 a c zz).length=l0.length:=(by unfold U3;rw[PU,PU,Qb,List.length_replicate,QK];omega);have same:a=c->U3 l0 a c zz=l0:=fun e=>by unfold U3;rw[e,Int.sub_self];simp
     have quiet:a=c->ig E.P Y t v=some (FN,Y)->eT E st Z L6 fr Y o (.w .undef (st.set p (.arr τ2 (U3 l0 a c zz)))):=fun e hcv=>by rw[same e];exact⟨FN,Y,Z,ho _ _ hcv,hi1.set0 p hO,rfl,by unfold Rl;rfl,fun q hq=>aA.set0 hl hnr⟩
     rcases hv with ⟨s,cp,h1,h2,rfl⟩| ⟨e,k,rfl⟩
     .rcases hO.2 with hO2| ⟨s',cs,k3,k4,k5⟩
      .rw[h1] at hO2;exact absurd hO2.2 (by simp)
      .rw[h1] at k3;cases k3;have hlc:cs.length=l0.length*RD R τ2:=(by rw[k5.length,kI]);have hle:a.toNat*RD R τ2+(c-a).toNat*RD R τ2<=cs.length:=(by rw[hlc,<-Qj];exact Ql _ (by omega));subst e6;by_cases hz0:(c-a).toNat=0
       .refine quiet (by omega) ?_;unfold ig;simp only[e1,e2,e3,e5,Option.bind_some,k4];rw[if_pos ⟨e9,hcl⟩,if_pos ⟨trivial,hle⟩,if_pos hz0]
       .have hcv:ig E.P Y t (.vw (Z.om.lc p) s (a.toNat*RD R τ2) (c-a).toNat cp (RD R τ2) (Tk τ2))=some (FN,Y.setObj (Z.om.lc p) s (.cells (Tf cs (a.toNat*RD R τ2) ((List.replicate (c-a).toNat z0).flatMap V.cells)))):=(by unfold ig;simp only[e1,e2,e3,e5,Option.bind_some,k4];rw[if_pos ⟨e9,hcl⟩,if_pos ⟨trivial,hle⟩,if_neg hz0]);have hvl:((List.replicate (c-a).toNat z0).flatMap V.cells).length=(c-a).toNat*RD R τ2:=(by rw[rZ,Dv,e9]);have hrl:ah R Z Y.top ((U3 l0 a c zz).flatMap fun x=>(SV R .any τ2 x).cells) (Tf cs (a.toNat*RD R τ2) ((List.replicate (c-a).toNat z0).flatMap V.cells)):=by
         unfold U3 Tf;rw[hvl,List.flatMap_append,List.flatMap_append,<-xw (fun x=>kH .any τ2 x),<-xu (fun x=>kH .any τ2 x),Qe];refine(k5.take _).append (ah.append ?_ ?_)
         .rw[rZ,rZ];refine CK ?_ _;have h1:=nE hR hzu z2;refine(gG ?_ h1).1;cases τ2<;>rfl
         .rw[<-Qj,show a.toNat+(c-a).toNat=c.toNat by omega];exact k5.drop _
        refine⟨FN,_,Z,ho _ _ hcv,hi1.set p s ⟨hll.trans hO.1,.inr ⟨s,_,h1,Z7 _ _ _ _,iN _ _ hrl⟩⟩,rfl,by unfold Rl;rfl,fun q hq=>aA.set hl hnr⟩
     .refine quiet e ?_;unfold ig;simp only[e1,e2,e3,e5,Option.bind_some];rw[if_pos ⟨e9,hcl⟩]
    .cases h
   .cases h
  .cases h
 .cases h
theorem MZ {om:Bool}{F:Nat->List (FR R)}(hF:Ro E F)(aC:Z.om.om=om)(bf:∀d,o.dst=some d->d<F0){g:List (Nat×Bool)}(hg:eX fr g)(hi:aj Z L6 st fr Y){r:R3 R}(h:WK E R om F g o.dst o.op st=some r):eT E st Z L6 fr Y o r:=by
 unfold WK at h;split at h
 ·
  rename_i x hop;cases hz:Yo E o.dst
  .rw[hz] at h;dsimp only[cond_false] at h;split at h
   .rename_i v hv;cases h;exact .tt (y:=fr.ev E x) (by simp only[aH,hop,hz,PE,if_false]) (aI hi hg hv)
   .cases h
  .rw[hz] at h;dsimp only[cond_true] at h;split at h
   .rename_i p t hv;split at h
    .rename_i t' l0 hl;split at h
     .rename_i l hc;cases h;obtain⟨e1,e2⟩:=gF hc;subst e1;cases e2;have hO:=hi.ob p _ hl;have hrl:∀Z',Rl R Z' Y.top (.tX .any t' l0) (.tX .sh (l0.map (Q8 R t'))):=fun Z'=>by unfold Rl;exact⟨.sh,rfl,trivial⟩
      rcases (aI (E:=E) hi hg hv).jH with ⟨s,h1,h2⟩| ⟨h1,h2⟩
      .rcases hO.2 with h3| ⟨s',cs,h3,h4,h5⟩
       .rw[h1] at h3;exact absurd h3.2 (by simp)
       .rw[h1] at h3;cases h3;have hlc:cs.length=l0.length*RD R t':=(by rw[h5.length,kI]);have hlen:l0.length=Z.ln p:=hO.1;refine⟨.tX .sh (l0.map (Q8 R t')),Y.bF (Z.om.lc p),Z,.dh ?_,(hi.del p).le (P8 _),rfl,hrl Z,fun q _=>aA.del hl rfl⟩;simp only[aH,hop,hz,if_true,h2,iq,h4,Option.bind_some,Qi,Qz];rw[Qu (by rw[hlc,hlen];exact mF _),CU hR l0 cs h5,<-hlen,xG hR l0,xH hR l0];rw[if_pos ⟨by rw[hlc];exact mF _,rfl⟩]
      .have hl0:l0=[]:=Qm (hO.1.trans h1);subst hl0;refine⟨.tX .sh [],Y,Z,.dh ?_,(hi.del' p).le (P8 _),rfl,hrl Z,fun q _=>aA.del' hl rfl⟩;simp only[aH,hop,hz,if_true];rcases h2 with h2|h2<;>rw[h2]<;>rfl
     .cases h
    .cases h
   .rename_i k m hv;cases h;have hr:=aI (E:=E) hi hg hv;refine .tt (y:=.int k m) ?_ (by unfold Rl;rfl);simp only[aH,hop,hz,if_true,hr.bW,iq]
   .cases h
 .rename_i x hop;split at h
  .rename_i v hv;cases h;exact .tt (y:=fr.ev E x) (by simp only[aH,hop]) (aI hi hg hv)
  .cases h
 ·
  rename_i c a' b' hop;split at h
  .rename_i j;split at h
   .rename_i t hc;have hc':=(aI (E:=E) hi hg hc).eO;split at h
    .rename_i x y hx hy;split at h
     .rename_i v hv;cases h;refine .tt (nN hop hc') ?_;rw[pK] at hc';cases t
      .exact Dl hv (aI (E:=E) hi (.cons hc' hg) hy)
      .exact Dk hv (aI (E:=E) hi (.cons hc' hg) hx)
     .cases h
    .cases h
   .rename_i t hc;have hc':=(aI (E:=E) hi hg hc).gB;split at h
    .rename_i v hv;cases h;refine .tt (nN hop hc') ?_;cases t
     .exact aI (E:=E) hi hg hv
     .exact aI (E:=E) hi hg hv
    .cases h
   .cases h
  .cases h
 ·
  rename_i t hop;split at h
  .rename_i d z hd hz;obtain⟨hc,h⟩:=aZ h;cases h;simp only[Pz,Qy] at hc;obtain⟨v,hv,hr⟩:=pV (Z:=Z) (top:=Y.top) hz;have M0:WC z=true:=by
    cases z<;>first|rfl| (have:=hc.1;simp[TV.cells,aag,af4] at this)
   obtain⟨hcells,_⟩:=gG M0 hr;refine⟨.ref (Z.om.lc d) L6 0,_,Z.dM d L6,.dh (o:=o) ?_,Du hR (hi.le (P8 _)) hcells hc.2,rfl,by unfold Rl;exact⟨L6,iO,rfl⟩,fun q hq=>aA.new (fun e=>hq.1 (by rw[hd,e]))⟩;simp only[aH,hop,hd,Option.map_some,Option.bind_some,hv,nH hc.1 hcells,if_true,hi.at (bf _ hd)]
  .cases h
 ·
  rename_i t x hop;cases hz:Xz E t o.dst with
  |true=>
   rw[hz,cond_true] at h;split at h
   .rename_i v hv;obtain⟨hc,h⟩:=aZ h;cases h;rw[Pz] at hc;have hr:=aI (E:=E) hi hg hv;have hnr:=(gG hc.2 hr).2;have hr2:=MR (by rw[Pz];exact hc) hr;obtain⟨hcells,_⟩:=gG (MP hc.2) hr2;refine .tt (y:=.Q5 (er (fr.ev E x)).cells 0) ?_ ?_
    .simp only[aH,hop,hz,if_true,sF hR _ _ hc.1 hr2,hnr,and_self]
    .unfold Rl;exact⟨_,rfl,hcells⟩
   .cases h
  |false=>
  rw[hz,cond_false] at h;split at h
  .rename_i d v hd hv;obtain⟨hc,h⟩:=aZ h;cases h;simp only[Pz,Qy] at hc;have hr:=aI (E:=E) hi hg hv;obtain⟨hcells,hnr⟩:=gG hc.1.2 hr;refine⟨.ref (Z.om.lc d) L6 0,_,Z.dM d L6,.dh (o:=o) ?_,Du hR (hi.le (P8 _)) hcells hc.2,rfl,by unfold Rl;exact⟨L6,iO,rfl⟩,fun q hq=>aA.new (fun e=>hq.1 (by rw[hd,e]))⟩;simp only[aH,hop,(show Xz E t (some d)=false from hd▸hz),PE,if_false,hd,Option.map_some,Option.bind_some,nH hc.1.1 hcells,hnr,and_self,if_true,hi.at (bf _ hd)]
  .cases h
 ·
  rename_i t parts hop;split at h
  .rename_i pl z ps hpl hz hps;split at h
   .rename_i cs hcs;cases h;obtain⟨zv,hzv,w9⟩:=pV (Z:=Z) (top:=Y.top) hz;obtain⟨e1,e2⟩:=wO (E:=E) hi hg hps;have hzc:ah R Z Y.top z.cells zv.cells:=by
     refine(gG ?_ w9).1;unfold aaO at hz;cases z<;>first|rfl|skip
     all_goals
      exfalso;split at hz
      .split at hz
       .unfold abY at hz;split at hz
        .split at hz<;>cases hz
        .unfold abn at hz;split at hz<;>cases hz
       .cases hz
      .cases hz
    obtain⟨l',f1,f2⟩:=Ci (qs:=parts.toList.map fun p=>(p.1,fr.ev E p.2)) pl (by rw[e1];simp[Function.comp_def]) (by simpa [Function.comp_def] using e2) hzc hcs;refine .tt (y:=.agg l') ?_ (by unfold Rl;exact⟨l',rfl,f2⟩);simp only[aH,hop,hpl,hzv,Option.bind_some];rw[f1];rfl
   .cases h
  .cases h
 ·
  rename_i t len parts hop;split at h
  .rename_i ps hps;obtain⟨e1,e2⟩:=wO (E:=E) hi hg hps;cases hz:bsM E o.dst
   .rw[hz,cond_false] at h;refine .val (LZ hR (qs:=parts.toList.map fun p=>(p.1,fr.ev E p.2)) h (by rw[e1];simp[Function.comp_def]) (by simpa [Function.comp_def] using e2)) fun y hy=>?_;simp only[aH,hop,hz,PE,if_false];rw[hy];rfl
   .rw[hz,cond_true] at h;refine Mr hR (qs:=parts.toList.map fun p=>(p.1,fr.ev E p.2)) h (by rw[e1];simp[Function.comp_def]) (by simpa [Function.comp_def] using e2) hi rfl fun y Y' hy=>.dh ?_;simp only[aH,hop,hz,if_true];exact hy
  .cases h
 ·
  rename_i t a hop;split at h
  .rename_i p off hv;split at h
   .rename_i cs hl;split at h
    .rename_i v hld;cases h;obtain⟨s,h1,h2⟩:=(aI (E:=E) hi hg hv).iM;obtain⟨s',l,h3,h4,h5⟩:=hi.rd hl;rw[h1] at h3;cases h3;obtain⟨y,hy,hr⟩:=jM h5 hld;exact .tt (by simp only[aH,hop,h2,h4,Option.bind_some,hy,Option.map_some]) hr
    .cases h
   .cases h
  .rename_i cs off hv;split at h
   .rename_i v hld;cases h;obtain⟨l,h2,h5⟩:=(aI (E:=E) hi hg hv).gD;obtain⟨y,hy,hr⟩:=jM h5 hld;exact .tt (by simp only[aH,hop,h2,hy,Option.map_some]) hr
   .cases h
  .rename_i p τ i off hv;split at h
   .rename_i ob hl;obtain⟨s,h1,_,h2⟩:=(aI (E:=E) hi hg hv).lQ;obtain⟨l,f,rfl,hf⟩:=Mh h (hi.rd hl) h1;intro y hy;obtain⟨cs,w,h3,h4,h5⟩:=hf y hy;exact⟨w,.dh (by simp only[aH,hop,h2,h3,Option.bind_some,h4,Option.map_some]),h5⟩
   .cases h
  .cases h
 ·
  rename_i t a x hop;split at h
  .rename_i p off v hv hx;split at h
   .rename_i cs sz hl hsz;obtain⟨hc,h⟩:=aZ h;cases h;simp only[Pz] at hc;obtain⟨⟨⟨c1,c2⟩,c3⟩,c4⟩:=hc;obtain⟨s,h1,h2⟩:=(aI (E:=E) hi hg hv).iM;obtain⟨s',l,h3,h4,h5⟩:=hi.ob _ _ hl;rw[h1] at h3;cases h3;obtain⟨h6,h7⟩:=gG c4 (aI (E:=E) hi hg hx);refine⟨FN,_,Z,.dh (o:=o) ?_,(hi.le (P8 _)).set p s ⟨s,_,h1,Z7 _ _ _ _,wW off h5 h6⟩,rfl,by unfold Rl;rfl,fun q _=>aA.set hl rfl⟩;simp only[aH,hop,h2,h4,Option.bind_some];rw[if_pos ⟨by rw[hsz,h6.length,bn c1],by rw[h6.length,h5.length];exact Qp c2,nH c3 h6⟩]
   .cases h
  .cases h
 ·
  rename_i x hop;split at h
  .rename_i p off hv;cases h;have hr:=aI (E:=E) hi hg hv;obtain⟨s,h1,h2⟩:=hr.iM;exact .tt (y:=fr.ev E x) (by simp only[aH,hop,h2]) hr
  .rename_i p off hv;cases h;have hr:=aI (E:=E) hi hg hv;obtain⟨s,h2,h1⟩:=hr.gD;exact .tt (y:=fr.ev E x) (by simp only[aH,hop,h2]) hr
  .rename_i p τ i off hv;cases h;have hr:=aI (E:=E) hi hg hv;obtain⟨s,h1,_,h2⟩:=hr.lQ;exact .tt (y:=fr.ev E x) (by simp only[aH,hop,h2]) hr
  .rename_i f a' b' hv;cases h;have hr:=aI (E:=E) hi hg hv;obtain⟨a',b',h2,h1⟩:=hr.dS;exact .tt (y:=fr.ev E x) (by simp only[aH,hop,h2]) hr
  .cases h
 ·
  rename_i op t x y t' hop;split at h
  .rename_i x' y' hx hy;exact .val (LJ h (aI (E:=E) hi hg hx) (aI (E:=E) hi hg hy)) fun z hz=>by simp only[aH,hop,hz,Option.map_some]
  .cases h
 ·
  rename_i op t x hop;split at h
  .rename_i x' hx;exact .val (LK h (aI (E:=E) hi hg hx)) fun z hz=>by simp only[aH,hop,hz,Option.map_some]
  .cases h
 ·
  rename_i a' b' x hop;split at h
  .rename_i x' hx;exact .val (LP (Y:=Y) h (aI (E:=E) hi hg hx)) fun z hz=>by simp only[aH,hop,hz,Option.map_some]
  .cases h
 ·
  rename_i f a' b' hop;split at h
  .rename_i xs ys hx hy;cases h;exact .tt (y:=.fn (.func f) (a'.toList.map (fr.ev E)) (b'.toList.map (fr.ev E))) (by simp only[aH,hop]) (by unfold Rl;exact⟨_,_,rfl,lT (E:=E) hi hg hx,lT (E:=E) hi hg hy⟩)
  .cases h
 ·
  rename_i t hop;split at h
  .rename_i d k e hd ht;split at h
   .rename_i k' e' hk he;cases h;refine⟨.RA (Z.om.lc d) L6,_,Z.dM d L6,.dh (o:=o) ?_,(hi.le (P8 _)).new d L6 (a:=.map [] []) ⟨L6,iO,map_eq Y (Z.om.lc d) L6 [] []⟩,rfl,by unfold Rl;exact⟨L6,iO,rfl⟩,fun q hq=>aA.new (fun e=>hq.1 (by rw[hd,e]))⟩;simp only[aH,hop,hd,Option.map_some,hi.at (bf _ hd)]
   .cases h;refine⟨.RA (Z.om.lc d) L6,_,Z.dM d L6,.dh (o:=o) ?_,(hi.le (P8 _)).new d L6 (a:=.map [] []) ⟨L6,[],[],iO,map_eq Y (Z.om.lc d) L6 [] [],rfl,rfl⟩,rfl,by unfold Rl;exact⟨L6,iO,rfl⟩,fun q hq=>aA.new (fun e=>hq.1 (by rw[hd,e]))⟩;simp only[aH,hop,hd,Option.map_some,hi.at (bf _ hd)]
  .cases h
 ·
  rename_i t l c hop;split at h
  .rename_i n m hn hm;refine Mt hR h (aI (E:=E) hi hg hn) (aI (E:=E) hi hg hm) hi rfl fun y Y' hy=>.dh ?_;have e:(o.dst.map fun t=>(fr.d,t))=o.dst.map fun t=>(Z.om.lc t):=hi.Dt bf;simp only[aH,hop];rw[e,hi.om,aC];exact hy
  .cases h
 ·
  rename_i t x lo hi' hop;split at h
  .rename_i x' hx;have gQ:=aI (E:=E) hi hg hx;split at h
   .exact .val (sj hR (Y:=Y) (vl:=none) (vh:=none) h gQ hi (fun y hy=>by cases hy) (fun _=>rfl) (fun y hy=>by cases hy) (fun _=>rfl)) fun z hz=>by simp only[aH,hop,dx,hz,Option.map_some]
   .rename_i lo;split at h
    .rename_i l hl;exact .val (sj hR (Y:=Y) (vl:=some (fr.ev E lo)) (vh:=none) h gQ hi (fun y hy=>by cases hy;exact⟨_,rfl,aI (E:=E) hi hg hl⟩) (fun h=>by cases h) (fun y hy=>by cases hy) (fun _=>rfl)) fun z hz=>by simp only[aH,hop,dx,hz,Option.map_some]
    .cases h
   .rename_i hi2;split at h
    .rename_i l hl;exact .val (sj hR (Y:=Y) (vl:=none) (vh:=some (fr.ev E hi2)) h gQ hi (fun y hy=>by cases hy) (fun _=>rfl) (fun y hy=>by cases hy;exact⟨_,rfl,aI (E:=E) hi hg hl⟩) (fun h=>by cases h)) fun z hz=>by simp only[aH,hop,dx,hz,Option.map_some]
    .cases h
   .rename_i lo hi2;split at h
    .rename_i l l2 hl hl2;exact .val (sj hR (Y:=Y) (vl:=some (fr.ev E lo)) (vh:=some (fr.ev E hi2)) h gQ hi (fun y hy=>by cases hy;exact⟨_,rfl,aI (E:=E) hi hg hl⟩) (fun h=>by cases h) (fun y hy=>by cases hy;exact⟨_,rfl,aI (E:=E) hi hg hl2⟩) (fun h=>by cases h)) fun z hz=>by simp only[aH,hop,dx,hz,Option.map_some]
    .cases h
  .cases h
 ·
  rename_i t x f hop;split at h
  .rename_i x' hx;have gQ:=aI (E:=E) hi hg hx;split at h
   .rename_i v hv;cases h;unfold ak6 at hv;split at hv
    .rename_i p u hf;split at hv
     .rename_i q off;cases hv;obtain⟨s,h1,h2⟩:=gQ.iM;exact .tt (y:=.ref (Z.om.lc q) s (off+p)) (by simp only[aH,hop,hf,Option.bind_some,h2]) (by unfold Rl;exact⟨s,h1,rfl⟩)
     .rename_i q off;cases hv;obtain⟨l,h2,h1⟩:=gQ.gD;exact .tt (y:=.Q5 l (off+p)) (by simp only[aH,hop,hf,Option.bind_some,h2]) (by unfold Rl;exact⟨l,rfl,h1⟩)
     .rename_i q τ i off;cases hv;obtain⟨s,h1,h3,h2⟩:=gQ.lQ;exact .tt (y:=.ref (Z.om.lc q) s (i.toNat*RD R τ+off+p)) (by simp only[aH,hop,hf,Option.bind_some,h2]) (by unfold Rl;exact⟨s,h1,h3,by rw[Qv]⟩)
     .cases hv
    .cases hv
   .cases h
  .cases h
 ·
  rename_i t x f hop;split at h
  .rename_i p u cs hf hx;split at h
   .rename_i v hv;cases h;obtain⟨l,h1,h2⟩:=(aI (E:=E) hi hg hx).cO;obtain⟨y,hy,hr⟩:=jM h2 hv;exact .tt (by simp only[aH,hop,hf,Option.bind_some,h1,hy,Option.map_some]) hr
   .cases h
  .cases h
 ·
  rename_i t x i hop;split at h
  .rename_i p τ y' hx hy;exact .val (MB hR (om:=false) h (aI (E:=E) hi hg hx) (aI (E:=E) hi hg hy) hi) fun z hz=>by simp only[aH,hop,hz,Option.map_some]
  .rename_i p τ a c y' hx hy;exact .val (Mx hR h (aI (E:=E) hi hg hx) (aI (E:=E) hi hg hy) hi) fun z hz=>by simp only[aH,hop,hz,Option.map_some]
  .rename_i x' y' _ _ hx hy;exact .val (MN hR h (aI (E:=E) hi hg hx) (aI (E:=E) hi hg hy)) fun z hz=>by simp only[aH,hop,hz,Option.map_some]
  .cases h
 ·
  rename_i t x i hop;split at h
  .rename_i x' y' hx hy;exact .val (MO h (aI (E:=E) hi hg hx) (aI (E:=E) hi hg hy)) fun z hz=>by simp only[aH,hop,hz,Option.map_some]
  .cases h
 ·
  rename_i t x i ok hop;split at h
  .rename_i x' y' hx hy;exact .val (MU hR h (aI (E:=E) hi hg hx) (aI (E:=E) hi hg hy) hi) fun z hz=>by simp only[aH,hop,hz,Option.map_some]
  .cases h
 ·
  rename_i t m k v hop;split at h
  .rename_i m' k' v' hm hk hv;exact Dr hR h (aI (E:=E) hi hg hm) (aI (E:=E) hi hg hk) (aI (E:=E) hi hg hv) hi fun Y' hs=>by simp only[aH,hop,hs,Option.map_some]
  .cases h
 .rename_i t m k v hop;split at h
  .rename_i m' k' v' hm hk hv;exact Dr hR h (aI (E:=E) hi hg hm) (aI (E:=E) hi hg hk) (aI (E:=E) hi hg hv) hi fun Y' hs=>by simp only[aH,hop,hs,Option.map_some]
  .cases h
 ·
  rename_i x i hop;split at h
  .rename_i vs hv;split at h
   .rename_i v hx;cases h;obtain⟨l,h1,h2⟩:=(aI (E:=E) hi hg hv).nu;obtain⟨y,hy,hr⟩:=h2.get hx;exact .tt (by simp only[aH,hop,h1,hy,Option.map_some]) hr
   .cases h
  .cases h
 ·
  rename_i c hop;split at h
  .rename_i bi bD;split at h
   .rename_i vs hvs;have hrs:=lT (E:=E) hi hg hvs;have step:∀y Y',eu E fr.om (o.dst.map fun t=>(fr.d,E.cn t)) Y L6 bi c.argTypes (c.args.toList.map (fr.ev E))=some (y,Y')->dB E fr Y L6 o y Y':=fun y Y' hb=>.of fun S=>by simp only[opC,hop,bD,hb,Option.map_some]
    unfold blt at h;split at h
    .rename_i x;split at h
     .rename_i t ht;split at h
      .rename_i n hn;cases h;obtain⟨v,l,e,h1,h2⟩:=hrs.aP;rw[h2.bg] at e;refine⟨_,step _ Y ?_,by unfold Rl;rfl⟩;rw[e];simp only[eu,ht,Option.bind_some,Ma hn h1 hi,Option.map_some]
      .cases h
     .cases h
    .rename_i x y;split at h
     .rename_i t u ht hu;obtain⟨v,l,e,h1,h2⟩:=hrs.aP;obtain⟨w,l',e',h3,h4⟩:=h2.aP;subst e';rw[h4.bg] at e;have e0:(o.dst.map fun t=>(fr.d,t))=o.dst.map fun t=>(Z.om.lc t):=hi.Dt bf;have fin:ace E u=true->∀z Y',bT E.P om false Y L6 (o.dst.map fun t=>(fr.d,E.cn t)) t v w=some (z,Y')->dB E fr Y L6 o z Y':=fun hss z Y' hz=>step z Y' (by
       rw[e];unfold ace at hss;simp only[eu,ht,hu,Option.bind_some,hi.om,aC];split at hss
       .rename_i hu';rw[hu'];simp only[hz,Option.bind_some]
       .rename_i hu';rw[hu'];simp only[hz,Option.bind_some]
       .cases hss)
      cases pX:om
      .rw[pX] at h fin;have h':ac8 E R o.dst t u x y st=some r:=h;have hss:ace E u=true:=by
        unfold ac8 at h';split at h'
        .split at h'
         .exact(aZ h').1
         .cases h'
        .cases h'
       exact L9 hR (loc:=o.dst.map fun t=>(fr.d,E.cn t)) h' h1 h3 hi (fin hss)
      .rw[pX] at h fin;have h':ac9 E R o.dst t u x y st=some r:=h;have hss:ace E u=true:=by
        unfold ac9 at h';split at h'
        .rename_i d' _;cases hbl:Nat.ble F0 (E.cn d') with
         |true=>rw[hbl] at h';cases h'|false=>
          rw[hbl,cond_false] at h';split at h'
          .exact(aZ h').1
          .cases h'
        .cases h'
       exact Ms hR h' h1 h3 hi rfl (fin hss)
     .cases h
    .rename_i x;split at h
     .rename_i t ht;obtain⟨v,l,e,h1,h2⟩:=hrs.aP;rw[h2.bg] at e;exact MW hR h h1 hi fun y Y' hy=>step y Y' (by rw[e];simp only[eu,ht,Option.bind_some,hy])
     .cases h
    .rename_i x l;split at h
     .rename_i v hv;cases h;obtain⟨y,ys,e,h1,h2⟩:=hrs.aP;obtain⟨w,hw,hr⟩:=Cz false hv h1 h2;refine⟨w,step w Y ?_,hr⟩;rw[e];simp only[eu,hw,Option.map_some]
     .cases h
    .rename_i x l;split at h
     .rename_i v hv;cases h;obtain⟨y,ys,e,h1,h2⟩:=hrs.aP;obtain⟨w,hw,hr⟩:=Cz true hv h1 h2;refine⟨w,step w Y ?_,hr⟩;rw[e];simp only[eu,hw,Option.map_some]
     .cases h
    .cases h
   .cases h
  .rename_i f bD;split at h
   .rename_i f' a' b' vs hf hvs;cases himp:E.imp f' with
    |true=>rw[himp] at h;cases h|false=>rw[himp,cond_false] at h;obtain⟨va,vb,h1,h2,h3⟩:=(aI (E:=E) hi hg hf).dS;exact Dh hR hF hop bD h1 himp ((h2.append (lT (E:=E) hi hg hvs)).append h3) hi (fun _ hx=>hx) h
   .cases h
  .cases h
 .cases h
theorem jh {om:Bool}{F:Nat->List (FR R)}(hF:Ro E F)(aC:Z.om.om=om)(bf:∀d,o.dst=some d->d<F0){g:List (Nat×Bool)}(hg:eX fr g)(hi:aj Z L6 st fr Y){r:R3 R}(h:Yw E R om F g o.dst o.op st=some r):eT E st Z L6 fr Y o r:=by
 unfold Yw at h;split at h
 .rename_i r' hx;cases h;exact MV hR bf hg hi hx
 .exact MZ hR hF aC bf hg hi h
end
end Aq
end
