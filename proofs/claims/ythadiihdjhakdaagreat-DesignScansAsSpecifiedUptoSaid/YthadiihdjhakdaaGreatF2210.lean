import Derived.Test.YthadiihdjhakdaaGreatF2209
set_option linter.all false
section
namespace aR
open Go
section
variable {R:iI}{E:Env}
variable {ρ:aV}{top:Nat->Nat}{b:Nat}{st:aH R.T}{fr:Fr}{σ:ak}
theorem aaD {n:Nat}{f:Nat}(a b:List V):bG (n+2) σ (.fn (.func f) a b)=(a.mapM (bG (n+1) σ)).bind fun a=>(b.mapM (bG (n+1) σ)).map fun b=>.fn (.func f) a b:=by
 by_cases hp:aW (.fn (.func f) a b)=true
 ·rw[mY hp]
  have:∀cs:List V,cB cs=true->cs.mapM (bG (n+1) σ)=some cs:=by
   intro cs;induction cs with
   |nil=>intro _;rfl|cons a l ih=>intro h;simp only[cB,aT] at h;rw[j5,mY h.1,ih h.2];rfl
  simp only[aW,aT] at hp;rw[this a hp.1,this b hp.2];rfl
 ·conv=>lhs;unfold bG
  simp only[hp,if_false,dL]
theorem ahd {n:Nat}{off:Nat}(cs:List V):bG (n+2) σ (.aY cs off)=(cs.mapM (bG (n+1) σ)).map (.aY · off):=by
 by_cases hp:aW (.aY cs off)=true
 ·rw[mY hp]
  have:∀cs:List V,cB cs=true->cs.mapM (bG (n+1) σ)=some cs:=by
   intro cs;induction cs with
   |nil=>intro _;rfl|cons a l ih=>intro h;simp only[cB,aT] at h;rw[j5,mY h.1,ih h.2];rfl
  rw[this cs Cq];rfl
 ·conv=>lhs;unfold bG
  simp only[hp,if_false,dL]
variable (hR:qE R)
include hR
theorem aaE {k e:Ty}(m:List (Den R.T k×Den R.T e)):aW (.dV (m.map fun p=>aP R k p.1) (m.map fun p=>aP R e p.2))=true:=by
 simp only[aW,aT];have h1:∀m:List (Den R.T k×Den R.T e),cB (m.map fun p=>aP R k p.1)=true/\cB (m.map fun p=>aP R e p.2)=true:=by
  intro m;induction m with
  |nil=>exact⟨rfl,rfl⟩|cons p m ih=>exact⟨by simp[cB,qF hR,ih.1],by simp[cB,qF hR,ih.2]⟩
 exact h1 m
theorem ahe:∀(t:Ty)(x:Den R.T t)(v:V),oZ t=true->aB R ρ top (Bo R .any t x) v->∀n σ,bG (n+2) σ v=some (aP R t x)
 |.int k,x,v,_,h,n,σ=>by rw[aB.kI (R:=R) h];exact Zq (n+1) _ _|.bool,x,v,_,h,n,σ=>by rw[aB.q9 (R:=R) h];exact Zr (n+1) _|.str,x,v,_,h,n,σ=>by rw[aB.o7 (R:=R) h];exact Zt (n+1) _|.slice t,x,v,_,h,n,σ=>by obtain⟨c,rfl,_⟩:=aB.lU (R:=R) h;exact Bl _ _ (qF hR _)
 |.st n,_,_,h,_,_,_=>by simp[oZ] at h
theorem I7:∀(l:List Ty)(p:pV R.T l)(vs:List V),l.all oZ=true->aI R ρ top (fJ R .any l p) vs->∀n σ,vs.mapM (bG (n+2) σ)=some (encs R l p)
 | [],_,vs,_,h,n,σ=>by rw[aI.iq h];rfl| [t],x,vs,hl,h,n,σ=>by obtain⟨v,l,rfl,h1,h2⟩:=aI.dS h;rw[aI.iq h2,j5,ahe hR t x v xI h1];rfl
 |t::u::l,p,vs,hl,h,n,σ=>by rw[List.all_cons,aT] at hl;obtain⟨v,ws,rfl,h1,h2⟩:=aI.dS h;rw[j5,ahe hR t p.1 v hl.1 h1,I7 (u::l) p.2 ws hl.2 h2];rfl
theorem at1 (t:Ty)(x:Den R.T t)(vs:List V)(h:aI R ρ top (iJ R .any t x).cells vs)(n:Nat)(σ:ak):vs.mapM (bG (n+2) σ)=some (aP R t x).cells:=by
 cases t with
 |st k=>have he:aP R (.st k) x= .agg (encs R (R.lf k) (R.of k x)):=hR.enc k x;rw[he];exact I7 hR _ _ vs (hR.leaf k) h n σ|int k=>exact I7 hR [.int k] x vs rfl h n σ|bool=>exact I7 hR [.bool] x vs rfl h n σ|str=>exact I7 hR [.str] x vs rfl h n σ|slice t=>exact I7 hR [.slice t] x vs rfl h n σ
theorem aaF {t:Ty}{ρ:aV}{top:Nat->Nat}:∀(l:List (Den R.T t))(cs:List V),aI R ρ top (l.flatMap fun x=>(iJ R .any t x).cells) cs->∀(n:Nat)(σ:ak),cs.mapM (bG (n+2) σ)=some ((l.map (aP R t)).flatMap V.cells)
 | [],cs,h,n,σ=>by rw[aI.iq h];rfl|x::l,cs,h,n,σ=>by rw[mo] at h;obtain⟨a,b,rfl,h1,h2⟩:=h.split;rw[List.mapM_append,aaF l b h2 n σ,fQ,mo];have:a.mapM (bG (n+2) σ)=some (aP R t x).cells:=at1 hR t x a h1 n σ;rw[this];rfl
omit hR in
theorem ahf:∀(t:Ty)(x:Den R.T t)(v:V),oZ t=true->aB R ρ top (Bo R .any t x) v->fB v=aP R t x
 |.int k,x,v,_,h=>by rw[aB.kI (R:=R) h];rfl|.bool,x,v,_,h=>by rw[aB.q9 (R:=R) h];rfl|.str,x,v,_,h=>by rw[aB.o7 (R:=R) h];rfl|.slice t,x,v,_,h=>by obtain⟨c,rfl,_⟩:=aB.lU (R:=R) h;rfl
 |.st n,_,_,h,_=>by simp[oZ] at h
omit hR in
theorem I8:∀(l:List Ty)(p:pV R.T l)(vs:List V),l.all oZ=true->aI R ρ top (fJ R .any l p) vs->vs.map fB=encs R l p
 | [],_,vs,_,h=>by rw[aI.iq h];rfl| [t],x,vs,hl,h=>by obtain⟨v,l,rfl,h1,h2⟩:=aI.dS h;rw[aI.iq h2,fQ,ahf t x v xI h1];rfl
 |t::u::l,p,vs,hl,h=>by rw[List.all_cons,aT] at hl;obtain⟨v,ws,rfl,h1,h2⟩:=aI.dS h;rw[fQ,ahf t p.1 v hl.1 h1,I8 (u::l) p.2 ws hl.2 h2];rfl
theorem at5 (t:Ty)(x:Den R.T t)(vs:List V)(h:aI R ρ top (iJ R .any t x).cells vs):vs.map fB=(aP R t x).cells:=by
 cases t with
 |st k=>have he:aP R (.st k) x= .agg (encs R (R.lf k) (R.of k x)):=hR.enc k x;rw[he];exact I8 _ _ vs (hR.leaf k) h|int k=>exact I8 [.int k] x vs rfl h|bool=>exact I8 [.bool] x vs rfl h|str=>exact I8 [.str] x vs rfl h|slice t=>exact I8 [.slice t] x vs rfl h
theorem ahg {t:Ty}{ρ:aV}{top:Nat->Nat}:∀(l:List (Den R.T t))(cs:List V),aI R ρ top (l.flatMap fun x=>(iJ R .any t x).cells) cs->cs.map fB=(l.map (aP R t)).flatMap V.cells
 | [],cs,h=>by rw[aI.iq h];rfl|x::l,cs,h=>by rw[mo] at h;obtain⟨a,b,rfl,h1,h2⟩:=h.split;rw[nU,ahg l b h2,fQ,mo,at5 hR t x a h1]
theorem aaG {t:Ty}(l:List (Den R.T t)):chunks (jq t) (dA R t) l.length ((l.map (aP R t)).flatMap V.cells)=l.map (aP R t):=by
 have:=aaz (jq t) (dA R t) (l.map (aP R t)) (fun v hv=>by obtain⟨x,_,rfl⟩:=xL.1 hv;exact(I4 hR t x).1);rw[iG] at this;rw[this,CF];refine GK fun x _=>?_;show (if jq t then V.agg (aP R t x).cells else (aP R t x).cells.headD aL)=aP R t x;cases hs:jq t
 ·cases t<;>first|rfl| (simp[jq] at hs;done)
 ·obtain⟨c,hc⟩:=(I4 hR t x).2.2.2.1 hs
  rw[hc];rfl
theorem aaH {t:Ty}(l:List (Den R.T t)):(jq t||dA R t==1&& dU ((l.map (aP R t)).flatMap V.cells))=true:=by
 cases hs:jq t
 ·have h1:dA R t=1:=by cases t<;>first|rfl| (simp[jq] at hs;done)
  rw[h1];have:dU ((l.map (aP R t)).flatMap V.cells)=true:=by have:=aaB hR l;unfold dU at this⊢;rw[List.all_flatMap];exact this
  rw[this];rfl
 ·rfl
omit hR in
theorem ahh:∀(a b:List V),cB (a++b)=(cB a&& cB b)
 | [],b=>by simp[cB]|x::a,b=>by simp only[List.cons_append,cB];rw[ahh a b,Bool.and_assoc]
omit hR in
theorem ahi (k:IntKind):∀l:List Int,cB (l.map (V.int k))=true
 | []=>by simp[cB]|x::l=>by simp only[fQ,cB,Zu,Bool.true_and];exact ahi k l
omit hR in
theorem aaI:∀ss:List nM,cB (l6 ss)=true
 | []=>by simp[l6,cB]|.i k x::ss=>by show cB (V.int k x::l6 ss)=true;unfold cB;rw[aaI ss];simp[aW]|.a k n v::ss=>by show cB (v.l.map (V.int k)++l6 ss)=true;rw[ahh,ahi,aaI ss];rfl
omit hR in
theorem aaJ (ss:List nM):aW (.agg (l6 ss))=true:=by unfold aW;exact aaI ss
omit hR in
theorem ahj:∀(a b:List V),kM (a++b)=(kM a&& kM b)
 | [],b=>by simp[kM]|x::a,b=>by simp only[List.cons_append,kM];rw[ahj a b,Bool.and_assoc]
omit hR in
theorem ahk (k:IntKind):∀l:List Int,kM (l.map (V.int k))=true
 | []=>by simp[kM]|x::l=>by simp only[fQ,kM,flat,Bool.true_and];exact ahk k l
omit hR in
theorem Wj:∀ss:List nM,kM (l6 ss)=true
 | []=>by simp[l6,kM]|.i k x::ss=>by show kM (V.int k x::l6 ss)=true;unfold kM;rw[Wj ss];simp[flat]|.a k n v::ss=>by show kM (v.l.map (V.int k)++l6 ss)=true;rw[ahj,ahk,Wj ss];rfl
omit hR in
theorem at6 (ss:List nM):er (.agg (l6 ss))= .agg (l6 ss):=by
 have:∀ss:List nM,(l6 ss).map fB=l6 ss:=by
  intro ss;induction ss with
  |nil=>rfl|cons s ss ih=>
   cases s with
   |i k x=>show fB (.int k x)::(l6 ss).map fB=_;rw[ih];rfl|a k n v=>show (v.l.map (V.int k)++l6 ss).map fB=_;rw[nU,ih,CF];rfl
 show V.agg ((l6 ss).map fB)=_;rw[this]
omit hR in
theorem nM.len:∀s:nM,s.vs.length=s.w
 |.i _ _=>rfl|.a _ n v=>by show (v.l.map _).length=n;rw[iG,v.h]
theorem ahl (hi:aO ρ b st fr σ){x:au R.T}{v:V}(h:aB R ρ σ.top x v):∃v',aB R ρ σ.top (zS st x) v'/\∀n,bG (n+3) σ v=bG (n+3) σ v':=by
 by_cases hx:∃o off,x= .ref o off
 ·obtain⟨o,off,rfl⟩:=hx
  unfold zS;dsimp only;split
  ·rename_i cs hl
   obtain⟨s,h1,rfl⟩:=h.uj;obtain⟨s',l,h2,h3,h4⟩:=hi.rd hl;rw[h1] at h2;cases h2;refine⟨.aY l off,by unfold aB;exact⟨l,rfl,h4⟩,fun n=>?_⟩;rw[ahd]
   conv=>lhs;unfold bG
   simp only[aW,dL,if_false,h3,Option.bind_some]
  ·exact⟨v,h,fun _=>rfl⟩
 ·by_cases hy:∃o,x= .cu o
  ·obtain⟨o,rfl⟩:=hy
   unfold zS;dsimp only;split
   ·rename_i k e m hl
    obtain⟨s,h1,rfl⟩:=h.zZ;obtain⟨s',h2,h3⟩:=hi.rd hl;rw[h1] at h2;cases h2;refine⟨.dV (m.map fun p=>aP R k p.1) (m.map fun p=>aP R e p.2),iY,fun n=>?_⟩;have hp:=aaE hR m;rw[mY hp];have hp':=hp;simp only[aW,aT] at hp';have key:∀cs:List V,cB cs=true->cs.mapM (bG (n+2) σ)=some cs:=by
     intro cs;induction cs with
     |nil=>intro _;rfl|cons a l ih=>intro h;simp only[cB,aT] at h;rw[j5,mY h.1,ih h.2];rfl
    conv=>lhs;unfold bG
    simp only[aW,dL,if_false,h3,Option.bind_some,key _ hp'.1,key _ hp'.2,Option.map_some]
   ·exact⟨v,h,fun _=>rfl⟩
  ·by_cases hz:∃o t,x= .aM o t
   ·obtain⟨o,t,rfl⟩:=hz
    unfold zS;dsimp only;split
    ·rename_i t' l hl
     split
     ·rename_i e
      subst e;have hO:=hi.rd hl;refine⟨.ay .sh (l.map (aP R t')),by unfold aB;exact⟨.sh,rfl,rfl⟩,fun n=>?_⟩;rw[Bl _ _ (qF hR t')];rcases h.z8 with ⟨s,h1,rfl⟩| ⟨h1,h2⟩
      ·rcases hO.2 with h2| ⟨s',cs,h2,h3,h4⟩
       ·rw[h1] at h2;exact absurd h2.2 aD
       ·rw[h1] at h2;cases h2
        have hlc:cs.length=l.length*dA R t':=(by rw[h4.length,sK]);have hlen:l.length=ρ.ln o:=hO.1
        conv=>lhs;unfold bG
        simp only[aW,dL,if_false,h3,Option.bind_some,nH,CG];rw[if_pos Gy,uM Gy,aaF hR l cs h4 n σ];simp only[Option.bind_some];rw[<-hlen,aaG hR l,aaH hR l,if_pos rfl];rfl
      ·have hl0:l=[]:=mh (hO.1.trans h1)
       subst hl0;rcases h2 with rfl|rfl<;>exact Bl _ ([]:List (Den R.T t')) (qF hR t')
     ·exact⟨v,h,fun _=>rfl⟩
    ·exact⟨v,h,fun _=>rfl⟩
   ·by_cases hz2:∃o off k n lo hi,x= .sv o off k n lo hi
    ·obtain⟨o,off,k,n,lo,hi',rfl⟩:=hz2
     exact⟨v,h,fun _=>rfl⟩
    ·by_cases hz3:∃o t a b,x= .sub o t a b
     ·obtain⟨o,t,a,b,rfl⟩:=hz3
      unfold zS;dsimp only;split
      ·rename_i t' l hl
       split
       ·rename_i e
        subst e;have hO:=hi.rd hl;have hlen:l.length=ρ.ln o:=hO.1;obtain⟨g0,g1,g2,h⟩:=h.BA;refine⟨.ay .sh ((Bq l a b).map (aP R t')),by unfold aB;exact⟨.sh,rfl,rfl⟩,fun n=>?_⟩;rw[Bl _ _ (qF hR t')];have hsl:(Bq l a b).length=(b-a).toNat:=(by rw[ag8 g0 g1,j3,vZ];omega);rcases h with ⟨s,cp,h1,h2,rfl⟩| ⟨e,c,rfl⟩
        ·rcases hO.2 with h2| ⟨s',cs,h2,h3,h4⟩
         ·rw[h1] at h2;exact absurd h2.2 aD
         ·rw[h1] at h2;cases h2
          have hlc:cs.length=l.length*dA R t':=(by rw[h4.length,sK]);have hp:=atI g0 g1 h4;have hle:a.toNat*dA R t'+(b-a).toNat*dA R t'<=cs.length:=by rw[hlc,<-rM];exact rO _ ah
          conv=>lhs;unfold bG
          simp only[aW,dL,if_false,h3,Option.bind_some];rw[if_pos hle,aaF hR _ _ hp n σ];simp only[Option.bind_some];rw[<-hsl,aaG hR,aaH hR,if_pos rfl];rfl
        ·have hl0:Bq l a b=[]:=mh (by rw[hsl,e];simp)
         rw[hl0];exact Bl _ ([]:List (Den R.T t')) (qF hR t')
       ·exact⟨v,h,fun _=>rfl⟩
      ·exact⟨v,h,fun _=>rfl⟩
     ·have:zS st x=x:=by cases x<;>first|rfl|exact absurd ⟨_,_,rfl⟩ hx|exact absurd ⟨_,rfl⟩ hy|exact absurd ⟨_,_,rfl⟩ hz|exact absurd ⟨_,_,_,_,_,_,rfl⟩ hz2|exact absurd ⟨_,_,_,_,rfl⟩ hz3
      rw[this];exact⟨v,h,fun _=>rfl⟩
theorem Wm (hi:aO ρ b st fr σ):∀{x:List (au R.T)}{v:List V},aI R ρ σ.top x v->∃v',aI R ρ σ.top (Om st x) v'/\∀n,v.mapM (bG (n+3) σ)=v'.mapM (bG (n+3) σ)
 | [],v,h=>by rw[h.iq];exact⟨[],rfl,fun _=>rfl⟩
 |x::xs,v,h=>by obtain⟨w,ws,rfl,h1,h2⟩:=h.dS;obtain⟨w',a1,a2⟩:=ahl hR hi h1;obtain⟨ws',b1,b2⟩:=Wm hi h2;exact⟨w'::ws',.cons' a1 b1,fun n=>by rw[j5,j5,a2,b2]⟩
theorem at7 (hi:aO ρ b st fr σ){x:au R.T}{v:V}(h:aB R ρ σ.top x v):∃v',aB R ρ σ.top (EU st x) v'/\∀n,bG (n+4) σ v=bG (n+4) σ v':=by
 by_cases hx:∃f a b,x= .fn f a b
 ·obtain⟨f,a,b,rfl⟩:=hx
  obtain⟨a',b',rfl,ha,hb⟩:=h.lG;obtain⟨va,a1,a2⟩:=Wm hR hi ha;obtain⟨vb,b1,b2⟩:=Wm hR hi hb;refine⟨.fn (.func f) va vb,⟨va,vb,rfl,a1,b1⟩,fun n=>?_⟩;rw[aaD,aaD,a2,b2]
 ·by_cases hy:∃cs,x= .agg cs
  ·obtain⟨cs,rfl⟩:=hy
   obtain⟨l,rfl,hl⟩:=h.mH;obtain⟨v',a1,a2⟩:=Wm hR hi hl;refine⟨.agg v',by unfold EU;unfold aB;exact⟨v',rfl,a1⟩,fun n=>?_⟩;rw[aal,aal,a2]
  ·have:EU st x=zS st x:=by cases x<;>first|rfl|exact absurd ⟨_,_,_,rfl⟩ hx|exact absurd ⟨_,rfl⟩ hy
   rw[this];obtain⟨v',h1,h2⟩:=ahl hR hi h;exact⟨v',h1,fun n=>h2 (n+1)⟩
theorem I9 (hi:aO ρ b st fr σ):∀{x:List (au R.T)}{v:List V},aI R ρ σ.top x v->∃v',aI R ρ σ.top (ng st x) v'/\∀n,v.mapM (bG (n+4) σ)=v'.mapM (bG (n+4) σ)
 | [],v,h=>by rw[h.iq];exact⟨[],rfl,fun _=>rfl⟩
 |x::xs,v,h=>by obtain⟨w,ws,rfl,h1,h2⟩:=h.dS;obtain⟨w',a1,a2⟩:=at7 hR hi h1;obtain⟨ws',b1,b2⟩:=I9 hi h2;exact⟨w'::ws',.cons' a1 b1,fun n=>by rw[j5,j5,a2,b2]⟩
mutual
theorem aaK:∀(k:aC)(x:qA R.T k)(tv:au R.T)(v:V),vW k=true->pk R k tv=some x->aB R ρ top tv v->∀n σ,dep k<=n->bG n σ v=some (encS R k x)
 |.d t,x,tv,v,_,h,hr,n,σ,hn=>by obtain⟨m,rfl⟩:∃m,n=m+3:=⟨n-3,Un⟩;exact(aam hR (show tZ R t tv=some x from h) hr).2.2.1 m σ
 |.l c t,x,tv,v,_,h,hr,n,σ,hn=>by obtain⟨m,rfl⟩:∃m,n=m+3:=⟨n-3,Un⟩;obtain⟨c',rfl,_⟩:=(agE (show Vl R c t tv=some x from h) hr).lU;exact Bl _ _ (qF hR _)
 |.agg l,x,tv,v,hc,h,hr,n,σ,hn=>by
  cases tv<;>first| (exact absurd (show none=some x from h) aD)|skip
  rename_i cs;obtain⟨vs,rfl,hl⟩:=hr.mH;unfold dep at hn;obtain⟨m,rfl⟩:∃m,n=m+2:=⟨n-2,ah⟩;rw[afX,qb l x cs vs (by unfold vW at hc;exact hc) h hl (m+1) σ ah];rfl
 |.aY l off,x,tv,v,hc,h,hr,n,σ,hn=>by
  cases tv<;>first| (exact absurd (show none=some x from h) aD)|skip
  rename_i cs off';have h':(bif Nat.beq off' off then dQ R l cs else none)=some x:=h;obtain⟨hb,h'⟩:=gH h';rw[iK hb] at hr;obtain⟨vs,rfl,hl⟩:=hr.vw;unfold dep at hn;obtain⟨m,rfl⟩:∃m,n=m+2:=⟨n-2,ah⟩;rw[ahd,qb l x cs vs (by unfold vW at hc;exact hc) h' hl (m+1) σ ah];rfl
 |.dV k e,x,tv,v,_,h,hr,n,σ,hn=>by
  cases tv<;>first| (exact absurd (show none=some x from h) aD)|skip
  rename_i k' e' m;obtain⟨e1,e2,e3⟩:=aaq (show Ij R m=some x from h);subst e1;subst e2;cases e3;obtain⟨m',rfl⟩:∃m,n=m+3:=⟨n-3,Un⟩;rw[hr.Du];exact mY (aaE hR m)
 |.fn f a b,x,tv,v,hc,h,hr,n,σ,hn=>by
  cases tv<;>first| (exact absurd (show none=some x from h) aD)|skip
  rename_i f' a' b';have h':(bif Nat.beq f' f then (match dQ R a a' with
   |some x=>match dQ R b b' with
    |some y=>some (x,y)|none=>none
   |none=>none) else none)=some x:=h
  obtain⟨hb,h'⟩:=gH h';rw[iK hb] at hr;obtain⟨va,vb,rfl,ha,hbb⟩:=hr.lG;unfold vW at hc;rw[aT] at hc;unfold dep at hn;obtain⟨m,rfl⟩:∃m,n=m+2:=⟨n-2,ah⟩;cases h1:dQ R a a' with
  |none=>simp only[h1] at h';cases h'|some y=>
   cases h2:dQ R b b' with
   |none=>simp only[h1,h2] at h';cases h'|some z=>simp only[h1,h2] at h';cases h';rw[aaD,qb a y a' va hc.1 h1 ha (m+1) σ ah,qb b z b' vb hc.2 h2 hbb (m+1) σ ah];rfl
 |.ref _ _,_,_,_,h,_,_,_,_,_=>vV|.cu _,_,_,_,h,_,_,_,_,_=>vV|.fF,_,_,_,h,_,_,_,_,_=>vV|.aM _ _,_,_,_,h,_,_,_,_,_=>vV|.sub _ _,_,_,_,h,_,_,_,_,_=>vV|.sg l,x,tv,v,_,h,hr,n,σ,hn=>by
  cases tv<;>first| (exact absurd (show none=some x from h) aD)|skip
  rename_i ss;obtain⟨m,rfl⟩:∃m,n=m+1:=⟨n-1,Un⟩;rw[hr.VT];show _=some (V.agg (l6 (yw l x)));rw[VY (show Bn l ss=some x from h)];exact mY (aaJ ss)
 |.undef,_,_,_,h,_,_,_,_,_=>vV
theorem qb:∀(l:List aC)(x:av R.T l)(cs:List (au R.T))(vs:List V),gP l=true->dQ R l cs=some x->aI R ρ top cs vs->∀n σ,l8 l<=n->vs.mapM (bG n σ)=some (aF R l x)
 | [],x,cs,vs,_,h,hr,n,σ,hn=>by
   cases cs with
   |nil=>rw[hr.iq];rfl|cons c cs=>exact absurd (show none=some x from h) aD
 | [k],x,cs,vs,hc,h,hr,n,σ,hn=>by
   unfold gP at hc;rw[aT] at hc;unfold l8 at hn;cases cs with
   |nil=>exact absurd (show none=some x from h) aD|cons c cs=>
    cases cs with
    |nil=>obtain⟨v,l,rfl,h1,h2⟩:=hr.dS;rw[h2.iq,j5,aaK k x c v hc.1 h h1 n σ ah];rfl
    |cons c' cs=>exact absurd (show none=some x from h) aD
 |k::k'::l,x,cs,vs,hc,h,hr,n,σ,hn=>by
  unfold gP at hc;rw[aT] at hc;unfold l8 at hn;cases cs with
  |nil=>exact absurd (show none=some x from h) aD|cons c cs=>
   have h':(match pk R k c with
    |some x=>match dQ R (k'::l) cs with
     |some p=>some (x,p)|none=>none
    |none=>none)=some x:=h
   obtain⟨v,vs,rfl,h1,h2⟩:=hr.dS;cases hu:pk R k c with
   |none=>simp only[hu] at h';cases h'|some y=>
    cases hs:dQ R (k'::l) cs with
    |none=>simp only[hu,hs] at h';cases h'|some q=>simp only[hu,hs] at h';obtain rfl:=jP h';rw[j5,aaK k y c v hc.1 hu h1 n σ ah,qb (k'::l) q cs vs hc.2 hs h2 n σ ah];rfl
end
mutual
theorem OU:∀(tv:au R.T)(v:V),nT tv=true->aB R ρ top tv v->aW v=true
 |.int _ _,v,_,h=>by rw[h.kI];exact Zu _ _|.bool _,v,_,h=>by rw[h.q9];exact Zv _|.jA _,v,_,h=>by rw[h.vv];exact Zv _|.str _,v,_,h=>by rw[h.o7];exact afQ _|.iC,v,_,h=>Ug|.gQ,v,_,h=>Ug|.gD,v,_,h=>Ug|.iH,v,_,h=>Ug|.ay c t l,v,hs,h=>by
  cases c<;>simp only[nT,dL] at hs;obtain⟨c',rfl,hc⟩:=h.lU;obtain rfl:c'= .sh:=hc;exact Og (qF hR t) l
 |.agg cs,v,hs,h=>by obtain⟨l,rfl,hl⟩:=h.mH;unfold aW;exact xg cs l (by unfold nT at hs;exact hs) hl
 |.bB cs,v,hs,h=>by obtain⟨l,rfl,hl⟩:=h.IQ;unfold aW;exact xg cs l (by unfold nT at hs;exact hs) hl
 |.dV k e m,v,_,h=>by rw[h.Du];exact aaE hR m|.fn f a b,v,hs,h=>by obtain⟨a',b',rfl,ha,hb⟩:=h.lG;unfold nT at hs;rw[aT] at hs;unfold aW;rw[xg a a' hs.1 ha,xg b b' hs.2 hb];rfl
 |.fF,_,hs,_=>vU|.ref _ _,_,hs,_=>vU|.aY cs off,v,hs,h=>by obtain⟨l,rfl,hl⟩:=h.vw;unfold aW;exact xg cs l (by unfold nT at hs;exact hs) hl
 |.aM _ _,_,hs,_=>vU|.sub _ _ _ _,_,hs,_=>vU|.lT _ _ _ _,_,hs,_=>vU|.sg ss,v,_,h=>by rw[h.VT];exact aaJ ss|.sv _ _ _ _ _ _,_,hs,_=>vU|.sel _ _ _ _ _ _,_,hs,_=>vU|.yx _ _ _ _,_,hs,_=>vU|.cu _,_,hs,_=>vU|.opt _ _ _,_,hs,_=>vU|.undef,_,hs,_=>vU|.gone,_,hs,_=>vU
theorem xg:∀(l:List (au R.T))(vs:List V),ni l=true->aI R ρ top l vs->cB vs=true
 | [],vs,_,h=>M9|x::l,vs,hs,h=>by obtain⟨v,ws,rfl,h1,h2⟩:=h.dS;unfold ni at hs;rw[aT] at hs;unfold cB;rw[OU x v hs.1 h1,xg l ws hs.2 h2];rfl
end
theorem ahm {x:au R.T}{v:V}(hs:Oq x=true)(h:aB R ρ top x v):aW (fB v)=true:=by
 have key:nT x=true->aW (fB v)=true:=fun hs=>by
  have:=OU hR x v hs h;cases v with
  |ay c l=>cases c<;>simp[aW] at this<;>simpa [fB,aW] using this|_=>exact this
 cases x<;>first|exact key hs|skip
 ·rw[h.p8];simp[fB,aW,cB]
 ·obtain⟨c',rfl,hc⟩:=h.lU
  exact Og (qF hR _) _
theorem ahn:∀{x:List (au R.T)}{v:List V},Vk x=true->aI R ρ top x v->cB (v.map fB)=true
 | [],vs,_,h=>M9|x::l,vs,hs,h=>by obtain⟨v,ws,rfl,h1,h2⟩:=h.dS;unfold Vk at hs;rw[aT] at hs;rw[fQ];unfold cB;rw[ahm hR hs.1 h1,ahn hs.2 h2];rfl
theorem aua {x:au R.T}{v:V}(hs:af3 x=true)(h:aB R ρ top x v):aW (er v)=true:=by
 by_cases hx:∃cs,x= .agg cs
 ·obtain⟨cs,rfl⟩:=hx
  obtain⟨l,rfl,hl⟩:=h.mH;show aW (.agg (l.map fB))=true;unfold aW;exact ahn hR hs hl
 ·by_cases hy:∃ss,x= .sg ss
  ·obtain⟨ss,rfl⟩:=hy
   rw[h.VT,at6];exact aaJ ss
  have hs':Oq x=true:=by cases x<;>first|exact hs|exact absurd ⟨_,rfl⟩ hx
  have h1:=ahm hR hs' h;have hne:∀cs,v≠ .agg cs:=by rintro cs rfl;cases x<;>first|exact hy ⟨_,rfl⟩| (unfold aB at h;simp at h;done)|exact hx ⟨_,rfl⟩| (simp[Oq,nT] at hs';done)
  rw[asX hne];exact h1
theorem OV:∀{x:List (au R.T)}{v:List V},yA x=true->aI R ρ top x v->v.all (fun a=>aW (er a))=true
 | [],vs,_,h=>M9|x::l,vs,hs,h=>by obtain⟨v,ws,rfl,h1,h2⟩:=h.dS;unfold yA at hs;rw[aT] at hs;rw[List.all_cons,aua hR hs.1 h1,OV hs.2 h2];rfl
theorem aaL:∀(l:List aC)(x:av R.T l),Br l=true->kM (aF R l x)=true
 | [],x,_=>rfl| [k],x,h=>by
   cases k<;>simp only[Br,Bool.and_true,dL] at h
   ·rename_i t
    show (flat (aP R t x)&& kM [])=true;cases t<;>simp only[ZJ,dL] at h<;>rfl
   ·rename_i ks
    show (flat (.agg (l6 (yw ks x)))&& kM [])=true;unfold flat;rw[Wj];rfl
 |k::k'::l,x,h=>by
  cases k<;>simp only[Br,dL] at h
  ·rename_i t
   rw[aT] at h;show (flat (aP R t x.1)&& kM (aF R (k'::l) x.2))=true;rw[aaL (k'::l) x.2 h.2];have:=h.1;cases t<;>simp only[ZJ,dL] at this<;>rfl
  ·rename_i ks
   show (flat (.agg (l6 (yw ks x.1)))&& kM (aF R (k'::l) x.2))=true;rw[aaL (k'::l) x.2 h];unfold flat;rw[Wj];rfl
omit hR in
theorem aub {vs:List V}(h:kM vs=true):flat (bq vs)=true:=by
 match vs with
 | []=>simp[bq,flat,kM]| [v]=>simp only[kM,Bool.and_true] at h;exact h|v::w::vs=>show flat (.bB _)=true;unfold flat;exact h
mutual
theorem aaM:∀(k:aC)(x:qA R.T k),vW k=true->aB R ρ top (up R .sh k x) (encS R k x)
 |.d t,x,_=>agl hR t x|.l c t,x,h=>by refine⟨.sh,rfl,?_⟩;cases c<;>first|trivial|rfl| (simp[vW] at h;done)
 |.agg l,x,h=>⟨_,rfl,xk l x (by unfold vW at h;exact h)⟩|.aY l off,x,h=>⟨_,rfl,xk l x (by unfold vW at h;exact h)⟩|.dV k e,x,_=>rfl|.fn f a b,x,h=>by unfold vW at h;rw[aT] at h;exact⟨_,_,rfl,xk a x.1 h.1,xk b x.2 h.2⟩|.ref _ _,_,h=>vV|.cu _,_,h=>vV|.fF,_,h=>vV|.aM _ _,_,h=>vV|.sub _ _,_,h=>vV|.sg l,x,_=>rfl|.undef,_,h=>vV
theorem xk:∀(l:List aC)(x:av R.T l),gP l=true->aI R ρ top (eF R .sh l x) (aF R l x)
 | [],_,_=>rfl| [k],x,h=>by unfold gP at h;rw[aT] at h;exact .cons' (aaM k x h.1) rfl|k::k'::l,x,h=>by unfold gP at h;rw[aT] at h;exact .cons' (aaM k x.1 h.1) (xk (k'::l) x.2 h.2)
end
omit hR in
theorem auc {x:List (au R.T)}{v:List V}(h:aI R ρ top x v):aB R ρ top (VA R x) (bq v):=by
 match x,h with
 | [],h=>rw[h.iq];exact⟨[],rfl,rfl⟩| [a],h=>obtain⟨v,vs,rfl,h1,h2⟩:=h.dS;rw[h2.iq];exact h1
 |a::b::l,h=>obtain⟨v,vs,rfl,h1,h2⟩:=h.dS;obtain⟨w,ws,rfl,h3,h4⟩:=h2.dS;exact⟨_,rfl,.cons' h1 (.cons' h3 h4)⟩
def aho:List V->List V
 |_::l=>.ay .nil []::l| []=>[]
def aZ (E:Env)(F:Nat->List (fC R)):Prop:=∀f,∀r∈F f,∀p x,r.F p=some x->(gP r.args=true->Pure E f (aF R r.args p) (bq (aF R r.res x)))/\
 (r.own=true->∀(τ:Ty)(h:r.res=[.d (.slice τ)])(l:List (Den R.T τ)),(h▸x:av R.T [.d (.slice τ)])=l->
   (gP r.args=true->E.zC f=false/\wO E f (aF R r.args p) (dA R τ) (l.map (aP R τ)))/\
   (gP r.args=false->E.zC f=true/\wO E f (aho (aF R r.args p)) (dA R τ) (l.map (aP R τ))))
theorem ahp {F:Nat->List (fC R)}(hF:aZ E F){f:Nat}{c:Call}{fo:Operand}{o:Oper}{aK:Nat}{a' b':List V}(ho:o.op= .call c)(fE:c.callee= .value fo)(hf:fr.ev E fo= .fn (.func f) a' b')(hi:E.imp f=false){args:List (au R.T)}(ha:aI R ρ σ.top args (a'++c.args.toList.map (fr.ev E)++b'))(hi':aO ρ b st fr σ){q:fC R}(hq:q∈F f){p:av R.T q.args}(hp:dQ R q.args (ng st args)=some p)(hc:(gP q.args&& Nat.ble (l8 q.args) 18&& gP q.res&& (yA args||Br q.res))=true){x:av R.T q.res}(hx:q.F p=some x):
 ∃y,l9 E fr σ aK o y σ/\aB R ρ σ.top (VA R (eF R .sh q.res x)) y:=by
 simp only[aT] at hc;obtain⟨⟨⟨c1,c2⟩,c3⟩,c4⟩:=hc;have hP:=(hF f q hq p x hx).1 c1;obtain⟨vs',v1,v2⟩:=I9 hR hi' ha;have OW:=qb hR q.args p (ng st args) _ c1 hp v1 20 σ (by have:=lN c2;omega);have has:=(v2 16).trans OW;have hcl:((a'++c.args.toList.map (fr.ev E)++b').all (fun x=>aW (er x))||flat (bq (aF R q.res x)))=true:=by
  rw[oF] at c4⊢;rcases c4 with c4|c4
  ·exact .inl (OV hR c4 ha)
  ·exact .inr (aub (aaL hR _ _ c4))
 exact⟨bq (aF R q.res x),⟨fun fT _ _ _ hw h'=>bW.call hw ho fE hf hi has hP hcl h' (agQ ho fE hf fT),fun fT _ _ _ _ _ hw h'=>je.call hw ho fE hf hi has hP hcl h' (agQ ho fE hf fT)⟩,auc (xk hR _ _ c3)⟩
theorem Wn {F:Nat->List (fC R)}(hF:aZ E F){f:Nat}{c:Call}{fo:Operand}{o:Oper}{aK:Nat}{a' b':List V}(ho:o.op= .call c)(fE:c.callee= .value fo)(hf:fr.ev E fo= .fn (.func f) a' b')(hi:E.imp f=false){args:List (au R.T)}(ha:aI R ρ σ.top args (a'++c.args.toList.map (fr.ev E)++b'))(hi':aO ρ b st fr σ){β:Type}{k:au R.T->Option β}{r:β}:∀{l:List (fC R)},(∀x∈l,x∈F f)->EX k (IC R args (ng st args) l)=some r->∃v y,k v=some r/\l9 E fr σ aK o y σ/\aB R ρ σ.top v y
 | [],_,h=>bL|q::l,hl,h=>by
  unfold IC at h;split at h
  ·rename_i p hp
   cases hb:(q.alt&& (gP q.args&& Nat.ble (l8 q.args) 18&& gP q.res&& (yA args||Br q.res)))
   ·rw[hb] at h
    exact Wn hF ho fE hf hi ha hi' (fun x hx=>hl x zm) h
   ·rw[hb,cond_true] at h
    rw[aT] at hb;unfold EX at h;cases hx:q.F p with
    |none=>rw[hx] at h;exact Wn hF ho fE hf hi ha hi' (fun x hx=>hl x zm) h
    |some x=>rw[hx] at h;obtain⟨y,h1,h2⟩:=ahp hR hF ho fE hf hi ha hi' (hl q aD) hp hb.2 hx;exact⟨_,y,h,h1,h2⟩
  ·exact Wn hF ho fE hf hi ha hi' (fun x hx=>hl x zm) h
theorem ahq {F:Nat->List (fC R)}(hF:aZ E F){f:Nat}{c:Call}{fo:Operand}{o:Oper}{aK:Nat}{a' b':List V}(ho:o.op= .call c)(fE:c.callee= .value fo)(hf:fr.ev E fo= .fn (.func f) a' b')(hi:E.imp f=false){args:List (au R.T)}(ha:aI R ρ σ.top args (a'++c.args.toList.map (fr.ev E)++b'))(hi':aO ρ b st fr σ):∀{l:List (fC R)}{r:eT R},(∀x∈l,x∈F f)->findF R args (ng st args) l=some r->sJ E st ρ aK fr σ o r
 | [],r,_,h=>bL|q::l,r,hl,h=>by
  unfold findF at h;split at h
  ·rename_i p hp
   cases hal:q.alt
   ·rw[hal,cond_false] at h
    obtain⟨hc,h⟩:=gH h;cases h;intro x hx;exact ahp hR hF ho fE hf hi ha hi' (hl q aD) hp hc hx
   ·rw[hal,cond_true] at h
    cases h;intro β k r hk;exact Wn hR hF ho fE hf hi ha hi' hl hk
  ·exact ahq hF ho fE hf hi ha hi' (fun x hx=>hl x zm) h
theorem aud {t:TypeId}{x i:au R.T}{v w:V}{r:eT R}(h:ZV E R t x i=some r)(hx:aB R ρ top x v)(hi:aB R ρ top i w):qH ρ top (qU E.P t v w) r:=by
 unfold ZV at h;split at h
 ·rename_i e c u l k n hu
  split at h
  ·rename_i sz hs
   obtain⟨hb,h⟩:=gH h;cases h;have:=iK hb;subst this;obtain⟨c',rfl,_⟩:=hx.lU;rw[hi.kI];intro a ha;refine⟨.aY (aP R u a).cells 0,?_,?_⟩
   ·rw[Zw,if_pos (by unfold Bj;rw[hu])]
    have:nW E.P t=some e:=(by unfold nW;rw[hu]);rw[this];simp only[Option.bind_some,hs,ha];rw[if_pos (I4 hR u a).1]
   ·unfold aB
    refine⟨_,rfl,(yJ ?_ (agl hR u a)).1⟩;cases u<;>rfl
  ·cases h
 ·rename_i n e o off k m hu
  split at h
  ·rename_i sz hs
   cases h;obtain⟨s,h1,rfl⟩:=hx.uj;rw[hi.kI];intro hc;have hc':0<=m/\m<n:=of_decide_eq_true hc;refine⟨.ref (ρ.aj.lc o) s (off+m.toNat*sz),?_,by unfold aB;exact⟨s,h1,rfl⟩⟩;unfold qU;rw[hu];dsimp only;rw[hs];simp[idx,oG,hc']
  ·cases h
 ·rename_i n e cs off k m hu
  split at h
  ·rename_i sz hs
   cases h;obtain⟨l,rfl,h1⟩:=hx.vw;rw[hi.kI];intro hc;have hc':0<=m/\m<n:=of_decide_eq_true hc;refine⟨.aY l (off+m.toNat*sz),?_,by unfold aB;exact⟨l,rfl,h1⟩⟩;unfold qU;rw[hu];dsimp only;rw[hs];simp[idx,oG,hc']
  ·cases h
 ·cases h
omit hR in
theorem aue {t:TypeId}{x i:au R.T}{v w:V}{r:eT R}(h:Z4 E R t x i=some r)(hx:aB R ρ top x v)(hi:aB R ρ top i w):qH ρ top (GU E.P t v w) r:=by
 unfold Z4 at h;split at h
 ·rename_i s k n hu
  cases h;rw[hx.o7,hi.kI];intro a ha;refine⟨.int .u8 (a.toNat:Int),?_,iY⟩;rw[af2 (by unfold Zn;rw[hu]),ha];rfl
 ·cases h
end
end aR
end
section
namespace aR
open Go
section
variable {R:iI}{E:Env}
variable {ρ:aV}{top:Nat->Nat}{b aK:Nat}{st:aH R.T}{fr:Fr}{σ:ak}{o:Oper}
end
section
variable {R:iI}{E:Env}
variable {ρ:aV}{top:Nat->Nat}{b aK:Nat}{st:aH R.T}{fr:Fr}{σ:ak}{o:Oper}
theorem auf {x:au R.T}(h:wQ x=true):wQ (Dm x)=true:=by cases x<;>first|exact h|rfl
theorem ahr {top:Nat->Nat}{x:au R.T}{v:V}(hs:nT (wR x)=true)(h:aB R ρ top x v):aB R ρ top (wR x) (fB v):=by
 cases x with
 |ay c t l=>obtain⟨c',rfl,hc⟩:=h.lU;unfold wR aB;exact⟨.sh,rfl,rfl⟩
 |int k n=>rw[h.kI] at*;exact h|bool b=>rw[h.q9] at*;exact h|jA b=>rw[h.vv] at*;exact h|str s=>rw[h.o7] at*;exact h|agg cs=>obtain⟨l,rfl,hl⟩:=h.mH;exact h
 |bB cs=>obtain⟨l,rfl,hl⟩:=h.IQ;exact h
 |dV k e m=>rw[h.Du] at*;exact h|fn f a b=>obtain⟨a',b',rfl,ha,hb⟩:=h.lG;exact h
 |aY cs off=>obtain⟨l,rfl,hl⟩:=h.vw;exact h
 |sg ss=>rw[h.VT] at*;exact h|iC=>unfold aB at h;subst h;unfold wR aB;rfl|gQ=>unfold aB at h;subst h;unfold wR aB;rfl|gD=>unfold aB at h;subst h;unfold wR aB;rfl|iH=>unfold aB at h;subst h;unfold wR aB;rfl|_=>simp[wR,nT] at hs
theorem ahs {top:Nat->Nat}:∀{l:List (au R.T)}{vs:List V},ni (Oo l)=true->aI R ρ top l vs->aI R ρ top (Oo l) (vs.map fB)
 | [],vs,_,h=>M9|x::l,vs,hs,h=>by obtain⟨v,ws,rfl,h1,h2⟩:=h.dS;unfold Oo ni at hs;rw[aT] at hs;exact .cons' (ahr hs.1 h1) (ahs hs.2 h2)
theorem aug {top:Nat->Nat}{x:au R.T}{v:V}(hs:nT (wR x)=true)(hg:wQ x=true)(hn:∀cs,x≠ .agg cs)(h:aB R ρ top x v):er v=fB v:=by
 cases x with
 |ay c t l=>obtain⟨c',rfl,hc⟩:=h.lU;rfl
 |int k n=>rw[h.kI];rfl|bool b=>rw[h.q9];rfl|jA b=>rw[h.vv];rfl|str s=>rw[h.o7];rfl|agg cs=>exact absurd rfl (hn cs)|bB cs=>obtain⟨l,rfl,hl⟩:=h.IQ;rfl
 |dV k e m=>rw[h.Du];rfl|fn f a b=>obtain⟨a',b',rfl,ha,hb⟩:=h.lG;rfl
 |aY cs off=>obtain⟨l,rfl,hl⟩:=h.vw;rfl
 |sg ss=>cases hg|iC=>unfold aB at h;subst h;rfl|gQ=>unfold aB at h;subst h;rfl|gD=>unfold aB at h;subst h;rfl|iH=>unfold aB at h;subst h;rfl|_=>simp[wR,nT] at hs
theorem auh {top:Nat->Nat}{x:au R.T}{v:V}(hs:(nT (Dm x)&& wQ x)=true)(h:aB R ρ top x v):aB R ρ top (Dm x) (er v):=by
 rw[aT] at hs;have key:(∀cs,x≠ .agg cs)->Dm x=wR x:=fun hne=>by cases x<;>first|rfl|exact absurd rfl (hne _)
 cases x with
 |agg cs=>obtain⟨l,rfl,hl⟩:=h.mH;unfold Dm aB;exact⟨_,rfl,ahs (by have:=hs.1;unfold Dm nT at this;exact this) hl⟩
 |sg ss=>cases hs.2|_=>rw[key (fun _ e=>by cases e)] at hs⊢;have h1:=ahr hs.1 h;rw[aug hs.1 hs.2 (fun _ e=>by cases e) h];exact h1
theorem sJ.val {v:Option V}{r:eT R}(hv:qH ρ σ.top v r)(ho:∀y,v=some y->d9 E fr σ aK o=some (y,σ)):sJ E st ρ aK fr σ o r:=by
 cases r with
 |t x=>obtain⟨y,e,hr⟩:=hv;exact⟨y,.mJ (ho y e),hr⟩
 |c c x=>intro hc;obtain⟨y,e,hr⟩:=hv hc;exact⟨y,.mJ (ho y e),hr⟩
 |p α d o' f=>intro a ha;obtain⟨y,e,hr⟩:=hv a ha;exact⟨y,.mJ (ho y e),hr⟩
 |alt l=>intro β k r hk;obtain⟨x,y,h1,e,hr⟩:=hv β k r hk;exact⟨x,y,h1,.mJ (ho y e),hr⟩
 |w x s=>exact hv.elim|wc c x s=>exact hv.elim
theorem sJ.tt {x:au R.T}{y:V}(ho:d9 E fr σ aK o=some (y,σ))(hr:aB R ρ σ.top x y):sJ E st ρ aK fr σ o (.t x):=⟨y,.mJ ho,hr⟩
theorem aht {top:Nat->Nat}{x y v:au R.T}{w:V}(h:IE true x y=some v)(hx:aB R ρ top x w):aB R ρ top v w:=by
 unfold IE at h;split at h<;>try cases h
 ·split at h
  ·cases h;exact hx
  ·cases h
 all_goals first|exact hx| (unfold aB at hx⊢;exact hx)
theorem ahu {top:Nat->Nat}{x y v:au R.T}{w:V}(h:IE false x y=some v)(hx:aB R ρ top y w):aB R ρ top v w:=by
 unfold IE at h;split at h<;>try cases h
 ·split at h
  ·rename_i e;subst e;cases h;exact hx
  ·cases h
 all_goals first|exact hx| (unfold aB at hx⊢;exact hx)
theorem Ja {c a' b':Operand}{t:Bool}(hop:o.op= .pick c a' b')(hc:fr.ev E c= .bool t):d9 E fr σ aK o=some (if t then fr.ev E a' else fr.ev E b',σ):=by simp only[d9,hop,hc,zD,Option.map_some]
variable (hR:qE R)
include hR
theorem aui {t:TypeId}{m x:au R.T}{v w:V}{ok:Bool}{r:eT R}(h:Vw E R t m x ok st=some r)(hm:aB R ρ σ.top m v)(hx:aB R ρ σ.top x w)(hi:aO ρ b st fr σ):qH ρ σ.top (zB E.P σ t v w ok) r:=by
 unfold Vw at h;split at h
 ·rename_i o
  split at h
  ·rename_i k e m hl
   obtain⟨s,h1,rfl⟩:=hm.zZ;obtain⟨s',h2,h3⟩:=hi.rd hl;rw[h1] at h2;cases h2;exact aax hR h hx h3
  ·cases h
 ·rename_i k e m
  exact aax hR h hx (by rw[hm.Du];rfl)
 ·split at h
  ·split at h
   ·unfold aB at hm;subst hm
    exact aax hR h hx rfl
   ·cases h
  ·cases h
 ·cases h
omit hR in
theorem ahv {top:Nat->Nat}{x y:au R.T}{v w:V}{r:Bool}(h:Vx x y=some r)(hx:aB R ρ top x v)(hy:aB R ρ top y w):pJ v w=some r:=by
 unfold Vx at h;split at h
 ·rw[hx.kI,hy.kI];exact h
 ·cases h;rw[hx.o7,hy.o7];rfl
 ·cases h
omit hR in
theorem ahw {top:Nat->Nat}{t:TypeId}{x:au R.T}{v:V}(h:zU E t x=true)(hx:aB R ρ top x v):nJ E.P t v=true:=by
 unfold zU at h;split at h
 ·rename_i hu;rw[hx.kI];unfold nJ;rw[hu]
 ·rename_i hu;rw[hx.o7];unfold nJ;rw[hu]
 ·cases h
omit hR in
theorem ahx {top:Nat->Nat}{x y:au R.T}{v w:V}(hx:aB R ρ top x v)(hy:aB R ρ top y w):∀{ks vs:List (au R.T)}{ks' vs':List (au R.T)}{k l:List V},Vy x y ks vs=some (ks',vs')->aI R ρ top ks k->aI R ρ top vs l->
 ∃k' l',zA v w k l=some (k',l')/\aI R ρ top ks' k'/\aI R ρ top vs' l'
 | [],[],_,_,k,l,h,h1,h2=>by
   cases h;rw[h1.iq,h2.iq];exact⟨_,_,rfl,.cons' hx rfl,.cons' hy rfl⟩
 | [],_::_,_,_,_,_,h,_,_=>bL|_::_,[],_,_,_,_,h,_,_=>bL|a::ks,b::vs,ks',vs',k,l,h,h1,h2=>by
  obtain⟨k0,k,rfl,g1,g2⟩:=h1.dS;obtain⟨l0,l,rfl,g3,g4⟩:=h2.dS;unfold Vy at h;split at h
  ·rename_i c hc
   have he:=ahv hc hx g1;cases c with
   |true=>cases h;exact⟨v::k,w::l,by simp[zA,he],.cons' hx g2,.cons' hy g4⟩|false=>
    rw[cond_false] at h;split at h
    ·rename_i aEB vs1 hs
     cases h;obtain⟨k',l',e1,e2,e3⟩:=ahx hx hy hs g2 g4;exact⟨k0::k',l0::l',by simp[zA,he,e1],.cons' g1 e2,.cons' g3 e3⟩
    ·cases h
  ·cases h
theorem ahy {t:TypeId}{m x y:au R.T}{v w u:V}{r:eT R}(h:Iw E R t m x y st=some r)(hm:aB R ρ σ.top m v)(hx:aB R ρ σ.top x w)(hy:aB R ρ σ.top y u)(hi:aO ρ aK st fr σ)(ho:∀σ',uO E.P σ t v w u=some σ'->d9 E fr σ aK o=some (aL,σ')):sJ E st ρ aK fr σ o r:=by
 unfold Iw at h;split at h
 ·rename_i p
  split at h
  ·rename_i k e m hl
   split at h
   ·rename_i kt et ht
    obtain⟨hk,h⟩:=gH h;split at h
    ·rename_i a c ha hc
     cases h;obtain⟨s,h1,rfl⟩:=hm.zZ;obtain⟨s',h2,h3⟩:=hi.ob _ _ hl;rw[h1] at h2;cases h2;have hw:=ag1 hR hk ha hx;subst hw;unfold af6 at hc;obtain⟨hs,hc⟩:=gH hc;have hu:u=aP R e c:=(by have h4:=aam hR hc hy;have h5:=OU hR y u hs hy;have h6:=h4.2.2.1 0 σ;rw[mY h5] at h6;exact jP h6);subst hu;have hup:uO E.P σ t (.cu (ρ.aj.lc p) s) (aP R k a) (aP R e c)=some (σ.setObj (ρ.aj.lc p) s (.map ((wT (jo R k) a c m).map fun q=>aP R k q.1) ((wT (jo R k) a c m).map fun q=>aP R e q.2))):=(by unfold uO;rw[ht];simp only[Option.bind_some];rw[if_pos (V9 hR hk a a).2,h3];simp only[Option.bind_some];rw[ag0 hR hk a c m];rfl);refine⟨aL,_,ρ,.mJ (ho _ hup),(hi.le (j4 _)).set p s ⟨s,h1,map_eq _ _ _ _ _⟩,rfl,iY,fun q _=>bF.set hl rfl⟩
    ·cases h
   ·cases h
  ·rename_i ks vs hl
   split at h
   ·rename_i kt et ht
    obtain⟨hk,h⟩:=gH h;split at h
    ·rename_i ks' vs' hs
     cases h;obtain⟨s,h1,rfl⟩:=hm.zZ;obtain⟨s',k0,l0,h2,h3,h4,h5⟩:=hi.ob _ _ hl;rw[h1] at h2;cases h2;obtain⟨k1,l1,g1,g2,g3⟩:=ahx hx hy hs h4 h5;have hup:uO E.P σ t (.cu (ρ.aj.lc p) s) w u=some (σ.setObj (ρ.aj.lc p) s (.map k1 l1)):=(by unfold uO;rw[ht];simp only[Option.bind_some];rw[if_pos (ahw hk hx),h3];simp only[Option.bind_some];rw[g1];rfl);refine⟨aL,_,ρ,.mJ (ho _ hup),(hi.le (j4 _)).set p s ⟨s,k1,l1,h1,map_eq _ _ _ _ _,g2,g3⟩,rfl,iY,fun q _=>bF.set hl rfl⟩
    ·cases h
   ·cases h
  ·cases h
 ·cases h
omit hR in
theorem aO.at (h:aO ρ b st fr σ){d:Nat}(hd:d<F0):(fr.d,d)=ρ.aj.lc d:=by rw[h.d,cZ.Fj _ hd]
omit hR in
theorem aO.ahz (h:aO ρ b st fr σ){x:Option Nat}(hd:∀d,x=some d->d<F0):(x.map fun t=>(fr.d,t))=x.map fun t=>ρ.aj.lc t:=by
 cases x with
 |none=>rfl|some d=>exact congrArg some (h.at (hd d rfl))
theorem ahA {d s:Nat}{cs:List (au R.T)}{l:List V}(hi:aO ρ b st fr σ)(hc:aI R ρ σ.top cs l)(hm:nO d cs=false):aO (ρ.mI d s) b (st.new d (.cells cs)) fr (σ.setObj (ρ.aj.lc d) s (.cells l)):=
 hi.new d s ⟨s,l,vY,zP _ _ _ _,aI.kill d IX rfl rfl cs l hm hc⟩
theorem auj {g:List (Nat×Bool)}(gW:∀d,o.dst=some d->d<F0)(hg:sH fr g)(hi:aO ρ aK st fr σ){r:eT R}(h:u7 E R g o.dst o.op st=some r):sJ E st ρ aK fr σ o r:=by unfold u7 at h;cases h
theorem auk {t:TypeId}{x:au R.T}{v:V}{r:eT R}(h:ZU E R t x st=some r)(hx:aB R ρ σ.top x v)(hi:aO ρ aK st fr σ)(ho:∀y σ',GV E.P σ t v=some (y,σ')->l9 E fr σ aK o y σ'):sJ E st ρ aK fr σ o r:=by
 unfold ZU at h;cases h
theorem aul {aj:Bool}{F:Nat->List (fC R)}(hF:aZ E F)(bO:ρ.aj.aj=aj)(gW:∀d,o.dst=some d->d<F0){g:List (Nat×Bool)}(hg:sH fr g)(hi:aO ρ aK st fr σ){r:eT R}(h:vg E R aj F g o.dst o.op st=some r):sJ E st ρ aK fr σ o r:=by
 unfold vg at h;split at h
 ·
  rename_i x hop;cases hz:zG E o.dst
  ·rw[hz] at h;dsimp only[cond_false] at h
   split at h
   ·rename_i v hv;cases h;exact .tt (y:=fr.ev E x) (by simp only[d9,hop,hz,dL,if_false]) (dw hi hg hv)
   ·cases h
  ·rw[hz] at h;dsimp only[cond_true] at h
   split at h
   ·rename_i p t hv
    split at h
    ·rename_i t' l0 hl
     split at h
     ·rename_i l hc
      cases h;obtain⟨e1,e2⟩:=vB hc;subst e1;cases e2;have hO:=hi.ob p _ hl;have hrl:∀ρ',aB R ρ' σ.top (.ay .any t' l0) (.ay .sh (l0.map (aP R t'))):=fun ρ'=>by unfold aB;exact⟨.sh,rfl,trivial⟩
      rcases (dw (E:=E) hi hg hv).z8 with ⟨s,h1,h2⟩| ⟨h1,h2⟩
      ·rcases hO.2 with h3| ⟨s',cs,h3,h4,h5⟩
       ·rw[h1] at h3;exact absurd h3.2 aD
       ·rw[h1] at h3;cases h3
        have hlc:cs.length=l0.length*dA R t':=(by rw[h5.length,sK]);have hlen:l0.length=ρ.ln p:=hO.1;refine⟨.ay .sh (l0.map (aP R t')),σ.eu (ρ.aj.lc p),ρ,.mJ ?_,(hi.del p).le (j4 _),rfl,hrl ρ,fun q _=>bF.del hl rfl⟩;simp only[d9,hop,hz,if_true,h2,xU,h4,Option.bind_some,nH,CG];rw[uM Gy,ahg hR l0 cs h5,<-hlen,aaG hR l0,aaH hR l0];rw[if_pos ⟨by rw[hlc];exact iP _,rfl⟩]
      ·have hl0:l0=[]:=mh (hO.1.trans h1)
       subst hl0;refine⟨.ay .sh [],σ,ρ,.mJ ?_,(hi.del' p).le (j4 _),rfl,hrl ρ,fun q _=>bF.del' hl rfl⟩;simp only[d9,hop,hz,if_true];rcases h2 with h2|h2<;>rw[h2]<;>rfl
     ·cases h
    ·cases h
   ·rename_i k m hv
    cases h;have hr:=dw (E:=E) hi hg hv;refine .tt (y:=.int k m) ?_ iY;simp only[d9,hop,hz,if_true,hr.kI,xU]
   ·cases h
 ·rename_i x hop
  split at h
  ·rename_i v hv;cases h;exact .tt (y:=fr.ev E x) (by simp only[d9,hop]) (dw hi hg hv)
  ·cases h
 ·
  rename_i c a' b' hop;split at h
  ·rename_i j
   split at h
   ·rename_i t hc
    have hc':=(dw (E:=E) hi hg hc).q9;split at h
    ·rename_i x y hx hy
     split at h
     ·rename_i v hv
      cases h;refine .tt (Ja hop hc') ?_;rw[Od] at hc';cases t
      ·exact ahu hv (dw (E:=E) hi (.cons hc' hg) hy)
      ·exact aht hv (dw (E:=E) hi (.cons hc' hg) hx)
     ·cases h
    ·cases h
   ·rename_i t hc
    have hc':=(dw (E:=E) hi hg hc).vv;split at h
    ·rename_i v hv
     cases h;refine .tt (Ja hop hc') ?_;cases t
     ·exact dw (E:=E) hi hg hv
     ·exact dw (E:=E) hi hg hv
    ·cases h
   ·cases h
  ·cases h
 ·
  rename_i t hop;split at h
  ·rename_i d z hd hz
   obtain⟨hc,h⟩:=gH h;cases h;simp only[aT,pE] at hc;obtain⟨v,hv,hr⟩:=V4 (ρ:=ρ) (top:=σ.top) hz;have aum:wQ z=true:=by
    cases z<;>first|rfl| (have:=hc.1;simp[au.cells,Dl,ZI] at this)
   obtain⟨hcells,_⟩:=yJ aum hr;refine⟨.ref (ρ.aj.lc d) aK 0,_,ρ.mI d aK,.mJ (o:=o) ?_,ahA hR (hi.le (j4 _)) hcells hc.2,rfl,Ui,fun q hq=>bF.new (fun e=>hq.1 (by rw[hd,e]))⟩;simp only[d9,hop,hd,Option.map_some,Option.bind_some,hv,OT hc.1 hcells,if_true,hi.at (gW _ hd)]
  ·cases h
 ·
  rename_i t x hop;cases hz:AZ E t o.dst with
  |true=>
   rw[hz,cond_true] at h;split at h
   ·rename_i v hv
    obtain⟨hc,h⟩:=gH h;cases h;rw[aT] at hc;have hr:=dw (E:=E) hi hg hv;have hnr:=(yJ hc.2 hr).2;have hr2:=auh (by rw[aT];exact hc) hr;obtain⟨hcells,_⟩:=yJ (auf hc.2) hr2;refine .tt (y:=.aY (er (fr.ev E x)).cells 0) ?_ ?_
    ·simp only[d9,hop,hz,if_true,OU hR _ _ hc.1 hr2,hnr,and_self]
    ·unfold aB;exact⟨_,rfl,hcells⟩
   ·cases h
  |false=>
  rw[hz,cond_false] at h;split at h
  ·rename_i d v hd hv
   obtain⟨hc,h⟩:=gH h;cases h;simp only[aT,pE] at hc;have hr:=dw (E:=E) hi hg hv;obtain⟨hcells,hnr⟩:=yJ hc.1.2 hr;refine⟨.ref (ρ.aj.lc d) aK 0,_,ρ.mI d aK,.mJ (o:=o) ?_,ahA hR (hi.le (j4 _)) hcells hc.2,rfl,Ui,fun q hq=>bF.new (fun e=>hq.1 (by rw[hd,e]))⟩;simp only[d9,hop,(show AZ E t (some d)=false from hd▸hz),dL,if_false,hd,Option.map_some,Option.bind_some,OT hc.1.1 hcells,hnr,and_self,if_true,hi.at (gW _ hd)]
  ·cases h
 ·
  rename_i t parts hop;split at h
  ·rename_i pl z ps hpl hz hps
   split at h
   ·rename_i cs hcs
    cases h;obtain⟨zv,hzv,aay⟩:=V4 (ρ:=ρ) (top:=σ.top) hz;obtain⟨e1,e2⟩:=aap (E:=E) hi hg hps;have hzc:aI R ρ σ.top z.cells zv.cells:=by
     refine(yJ ?_ aay).1;unfold EY at hz;cases z<;>first|rfl|skip
     all_goals
      exfalso;split at hz
      ·split at hz
       ·unfold Ig at hz
        split at hz
        ·split at hz<;>cases hz
        ·unfold ET at hz;split at hz<;>cases hz
       ·cases hz
      ·cases hz
    obtain⟨l',f1,f2⟩:=agR (qs:=parts.toList.map fun p=>(p.1,fr.ev E p.2)) pl (by rw[e1];simp[Function.comp_def]) (by simpa [Function.comp_def] using e2) hzc hcs;refine .tt (y:=.agg l') ?_ (by unfold aB;exact⟨l',rfl,f2⟩);simp only[d9,hop,hpl,hzv,Option.bind_some];rw[f1];rfl
   ·cases h
  ·cases h
 ·
  rename_i t len parts hop;split at h
  ·rename_i ps hps
   obtain⟨e1,e2⟩:=aap (E:=E) hi hg hps;cases hz:CQ E o.dst
   ·rw[hz,cond_false] at h
    refine .val (atE hR (qs:=parts.toList.map fun p=>(p.1,fr.ev E p.2)) h (by rw[e1];simp[Function.comp_def]) (by simpa [Function.comp_def] using e2)) fun y hy=>?_;simp only[d9,hop,hz,dL,if_false];rw[hy];rfl
   ·rw[hz,cond_true] at h
    refine atU hR (qs:=parts.toList.map fun p=>(p.1,fr.ev E p.2)) h (by rw[e1];simp[Function.comp_def]) (by simpa [Function.comp_def] using e2) hi rfl fun y σ' hy=>.mJ ?_;simp only[d9,hop,hz,if_true];exact hy
  ·cases h
 ·
  rename_i t a hop;split at h
  ·rename_i p off hv
   split at h
   ·rename_i cs hl
    split at h
    ·rename_i v hld
     cases h;obtain⟨s,h1,h2⟩:=(dw (E:=E) hi hg hv).uj;obtain⟨s',l,h3,h4,h5⟩:=hi.rd hl;rw[h1] at h3;cases h3;obtain⟨y,hy,hr⟩:=BH h5 hld;exact .tt (by simp only[d9,hop,h2,h4,Option.bind_some,hy,Option.map_some]) hr
    ·cases h
   ·cases h
  ·rename_i cs off hv
   split at h
   ·rename_i v hld
    cases h;obtain⟨l,h2,h5⟩:=(dw (E:=E) hi hg hv).vw;obtain⟨y,hy,hr⟩:=BH h5 hld;exact .tt (by simp only[d9,hop,h2,hy,Option.map_some]) hr
   ·cases h
  ·rename_i p τ i off hv
   split at h
   ·rename_i ob hl
    obtain⟨s,h1,_,h2⟩:=(dw (E:=E) hi hg hv).Fp;obtain⟨l,f,rfl,hf⟩:=atN h (hi.rd hl) h1;intro y hy;obtain⟨cs,w,h3,h4,h5⟩:=hf y hy;exact⟨w,.mJ (by simp only[d9,hop,h2,h3,Option.bind_some,h4,Option.map_some]),h5⟩
   ·cases h
  ·cases h
 ·
  rename_i t a x hop;split at h
  ·rename_i p off v hv hx
   split at h
   ·rename_i cs sz hl hsz
    obtain⟨hc,h⟩:=gH h;cases h;simp only[aT] at hc;obtain⟨⟨⟨c1,c2⟩,c3⟩,c4⟩:=hc;obtain⟨s,h1,h2⟩:=(dw (E:=E) hi hg hv).uj;obtain⟨s',l,h3,h4,h5⟩:=hi.ob _ _ hl;rw[h1] at h3;cases h3;obtain⟨h6,h7⟩:=yJ c4 (dw (E:=E) hi hg hx);refine⟨aL,_,ρ,.mJ (o:=o) ?_,(hi.le (j4 _)).set p s ⟨s,_,h1,zP _ _ _ _,aau off h5 h6⟩,rfl,iY,fun q _=>bF.set hl rfl⟩;simp only[d9,hop,h2,h4,Option.bind_some];rw[if_pos ⟨by rw[hsz,h6.length,iK c1],by rw[h6.length,h5.length];exact lN c2,OT c3 h6⟩]
   ·cases h
  ·cases h
 ·
  rename_i x hop;split at h
  ·rename_i p off hv;cases h
   have hr:=dw (E:=E) hi hg hv;obtain⟨s,h1,h2⟩:=hr.uj;exact .tt (y:=fr.ev E x) Ul hr
  ·rename_i p off hv;cases h
   have hr:=dw (E:=E) hi hg hv;obtain⟨s,h2,h1⟩:=hr.vw;exact .tt (y:=fr.ev E x) Ul hr
  ·rename_i p τ i off hv;cases h
   have hr:=dw (E:=E) hi hg hv;obtain⟨s,h1,_,h2⟩:=hr.Fp;exact .tt (y:=fr.ev E x) Ul hr
  ·rename_i f a' b' hv;cases h
   have hr:=dw (E:=E) hi hg hv;obtain⟨a',b',h2,h1⟩:=hr.lG;exact .tt (y:=fr.ev E x) Ul hr
  ·cases h
 ·
  rename_i op t x y t' hop;split at h
  ·rename_i x' y' hx hy
   exact .val (atu h (dw (E:=E) hi hg hx) (dw (E:=E) hi hg hy)) fun z hz=>Co
  ·cases h
 ·
  rename_i op t x hop;split at h
  ·rename_i x' hx
   exact .val (atv h (dw (E:=E) hi hg hx)) fun z hz=>Co
  ·cases h
 ·
  rename_i a' b' x hop;split at h
  ·rename_i x' hx
   exact .val (atx (σ:=σ) h (dw (E:=E) hi hg hx)) fun z hz=>Co
  ·cases h
 ·
  rename_i f a' b' hop;split at h
  ·rename_i xs ys hx hy
   cases h;exact .tt (y:=.fn (.func f) (a'.toList.map (fr.ev E)) (b'.toList.map (fr.ev E))) (by simp only[d9,hop]) (by unfold aB;exact⟨_,_,rfl,BD (E:=E) hi hg hx,BD (E:=E) hi hg hy⟩)
  ·cases h
 ·
  rename_i t hop;split at h
  ·rename_i d k e hd ht
   split at h
   ·rename_i k' e' hk he
    cases h;refine⟨.cu (ρ.aj.lc d) aK,_,ρ.mI d aK,.mJ (o:=o) ?_,(hi.le (j4 _)).new d aK (a:=.map [] []) ⟨aK,vY,map_eq σ (ρ.aj.lc d) aK [] []⟩,rfl,Ui,fun q hq=>bF.new (fun e=>hq.1 (by rw[hd,e]))⟩;simp only[d9,hop,hd,Option.map_some,hi.at (gW _ hd)]
   ·cases h
    refine⟨.cu (ρ.aj.lc d) aK,_,ρ.mI d aK,.mJ (o:=o) ?_,(hi.le (j4 _)).new d aK (a:=.map [] []) ⟨aK,[],[],vY,map_eq σ (ρ.aj.lc d) aK [] [],rfl,rfl⟩,rfl,Ui,fun q hq=>bF.new (fun e=>hq.1 (by rw[hd,e]))⟩;simp only[d9,hop,hd,Option.map_some,hi.at (gW _ hd)]
  ·cases h
 ·
  rename_i t l c hop;split at h
  ·rename_i n m hn hm
   refine atW hR h (dw (E:=E) hi hg hn) (dw (E:=E) hi hg hm) hi rfl fun y σ' hy=>.mJ ?_;have e:(o.dst.map fun t=>(fr.d,t))=o.dst.map fun t=>(ρ.aj.lc t):=hi.ahz gW;simp only[d9,hop];rw[e,hi.aj,bO];exact hy
  ·cases h
 ·
  rename_i t x lo hi' hop;split at h
  ·rename_i x' hx
   have sj:=dw (E:=E) hi hg hx;split at h
   ·exact .val (Wi hR (σ:=σ) (vl:=none) (vh:=none) h sj hi (fun y hy=>by cases hy) (fun _=>rfl) (fun y hy=>by cases hy) (fun _=>rfl)) fun z hz=>T9
   ·rename_i lo
    split at h
    ·rename_i l hl
     exact .val (Wi hR (σ:=σ) (vl:=some (fr.ev E lo)) (vh:=none) h sj hi (fun y hy=>by cases hy;exact⟨_,rfl,dw (E:=E) hi hg hl⟩) (fun h=>bL) (fun y hy=>by cases hy) (fun _=>rfl)) fun z hz=>T9
    ·cases h
   ·rename_i hi2
    split at h
    ·rename_i l hl
     exact .val (Wi hR (σ:=σ) (vl:=none) (vh:=some (fr.ev E hi2)) h sj hi (fun y hy=>by cases hy) (fun _=>rfl) (fun y hy=>by cases hy;exact⟨_,rfl,dw (E:=E) hi hg hl⟩) (fun h=>bL)) fun z hz=>T9
    ·cases h
   ·rename_i lo hi2
    split at h
    ·rename_i l l2 hl hl2
     exact .val (Wi hR (σ:=σ) (vl:=some (fr.ev E lo)) (vh:=some (fr.ev E hi2)) h sj hi (fun y hy=>by cases hy;exact⟨_,rfl,dw (E:=E) hi hg hl⟩) (fun h=>bL) (fun y hy=>by cases hy;exact⟨_,rfl,dw (E:=E) hi hg hl2⟩) (fun h=>bL)) fun z hz=>T9
    ·cases h
  ·cases h
 ·
  rename_i t x f hop;split at h
  ·rename_i x' hx
   have sj:=dw (E:=E) hi hg hx;split at h
   ·rename_i v hv
    cases h;unfold af5 at hv;split at hv
    ·rename_i p u hf
     split at hv
     ·rename_i q off
      cases hv;obtain⟨s,h1,h2⟩:=sj.uj;exact .tt (y:=.ref (ρ.aj.lc q) s (off+p)) (by simp only[d9,hop,hf,Option.bind_some,h2]) (by unfold aB;exact⟨s,h1,rfl⟩)
     ·rename_i q off
      cases hv;obtain⟨l,h2,h1⟩:=sj.vw;exact .tt (y:=.aY l (off+p)) (by simp only[d9,hop,hf,Option.bind_some,h2]) (by unfold aB;exact⟨l,rfl,h1⟩)
     ·rename_i q τ i off
      cases hv;obtain⟨s,h1,h3,h2⟩:=sj.Fp;exact .tt (y:=.ref (ρ.aj.lc q) s (i.toNat*dA R τ+off+p)) (by simp only[d9,hop,hf,Option.bind_some,h2]) (by unfold aB;exact⟨s,h1,h3,by rw[sZ]⟩)
     ·cases hv
    ·cases hv
   ·cases h
  ·cases h
 ·
  rename_i t x f hop;split at h
  ·rename_i p u cs hf hx
   split at h
   ·rename_i v hv
    cases h;obtain⟨l,h1,h2⟩:=(dw (E:=E) hi hg hx).mH;obtain⟨y,hy,hr⟩:=BH h2 hv;exact .tt (by simp only[d9,hop,hf,Option.bind_some,h1,hy,Option.map_some]) hr
   ·cases h
  ·cases h
 ·
  rename_i t x i hop;split at h
  ·rename_i p τ y' hx hy
   exact .val (at0 hR (aj:=false) h (dw (E:=E) hi hg hx) (dw (E:=E) hi hg hy) hi) fun z hz=>Co
  ·rename_i p τ a c y' hx hy
   exact .val (atZ hR h (dw (E:=E) hi hg hx) (dw (E:=E) hi hg hy) hi) fun z hz=>Co
  ·rename_i x' y' _ _ hx hy
   exact .val (aud hR h (dw (E:=E) hi hg hx) (dw (E:=E) hi hg hy)) fun z hz=>Co
  ·cases h
 ·
  rename_i t x i hop;split at h
  ·rename_i x' y' hx hy
   exact .val (aue h (dw (E:=E) hi hg hx) (dw (E:=E) hi hg hy)) fun z hz=>Co
  ·cases h
 ·
  rename_i t x i ok hop;split at h
  ·rename_i x' y' hx hy
   exact .val (aui hR h (dw (E:=E) hi hg hx) (dw (E:=E) hi hg hy) hi) fun z hz=>Co
  ·cases h
 ·
  rename_i t m k v hop;split at h
  ·rename_i m' k' v' hm hk hv
   exact ahy hR h (dw (E:=E) hi hg hm) (dw (E:=E) hi hg hk) (dw (E:=E) hi hg hv) hi fun σ' hs=>by simp only[d9,hop,hs,Option.map_some]
  ·cases h
 ·rename_i t m k v hop
  split at h
  ·rename_i m' k' v' hm hk hv
   exact ahy hR h (dw (E:=E) hi hg hm) (dw (E:=E) hi hg hk) (dw (E:=E) hi hg hv) hi fun σ' hs=>by simp only[d9,hop,hs,Option.map_some]
  ·cases h
 ·
  rename_i x i hop;split at h
  ·rename_i vs hv
   split at h
   ·rename_i v hx
    cases h;obtain⟨l,h1,h2⟩:=(dw (E:=E) hi hg hv).IQ;obtain⟨y,hy,hr⟩:=h2.get hx;exact .tt (by simp only[d9,hop,h1,hy,Option.map_some]) hr
   ·cases h
  ·cases h
 ·
  rename_i c hop;split at h
  ·rename_i bi fE
   split at h
   ·rename_i vs hvs
    have hrs:=BD (E:=E) hi hg hvs;have step:∀y σ',nK E fr.aj (o.dst.map fun t=>(fr.d,E.cn t)) σ aK bi c.argTypes (c.args.toList.map (fr.ev E))=some (y,σ')->l9 E fr σ aK o y σ':=fun y σ' hb=>.of fun S=>by simp only[opC,hop,fE,hb,Option.map_some]
    unfold blt at h;split at h
    ·rename_i x
     split at h
     ·rename_i t ht
      split at h
      ·rename_i n hn
       cases h;obtain⟨v,l,e,h1,h2⟩:=hrs.dS;rw[h2.iq] at e;refine⟨_,step _ σ ?_,iY⟩;rw[e];simp only[nK,ht,Option.bind_some,atH hn h1 hi,Option.map_some]
      ·cases h
     ·cases h
    ·rename_i x y
     split at h
     ·rename_i t u ht hu
      obtain⟨v,l,e,h1,h2⟩:=hrs.dS;obtain⟨w,l',e',h3,h4⟩:=h2.dS;subst e';rw[h4.iq] at e;have e0:(o.dst.map fun t=>(fr.d,t))=o.dst.map fun t=>(ρ.aj.lc t):=hi.ahz gW;have fin:Iz E u=true->∀z σ',mR E.P aj false σ aK (o.dst.map fun t=>(fr.d,E.cn t)) t v w=some (z,σ')->l9 E fr σ aK o z σ':=fun hss z σ' hz=>step z σ' (by
       rw[e];unfold Iz at hss;simp only[nK,ht,hu,Option.bind_some,hi.aj,bO];split at hss
       ·rename_i hu';rw[hu'];simp only[hz,Option.bind_some]
       ·rename_i hu';rw[hu'];simp only[hz,Option.bind_some]
       ·cases hss)
      cases OX:aj
      ·rw[OX] at h fin
       have h':Ox E R o.dst t u x y st=some r:=h;have hss:Iz E u=true:=by
        unfold Ox at h';split at h'
        ·split at h'
         ·exact(gH h').1
         ·cases h'
        ·cases h'
       exact atG hR (loc:=o.dst.map fun t=>(fr.d,E.cn t)) h' h1 h3 hi (fin hss)
      ·rw[OX] at h fin
       have h':Oy E R o.dst t u x y st=some r:=h;have hss:Iz E u=true:=by
        unfold Oy at h';split at h'
        ·rename_i d' _
         cases hbl:Nat.ble F0 (E.cn d') with
         |true=>rw[hbl] at h';cases h'|false=>
          rw[hbl,cond_false] at h';split at h'
          ·exact(gH h').1
          ·cases h'
        ·cases h'
       exact atV hR h' h1 h3 hi rfl (fin hss)
     ·cases h
    ·rename_i x
     split at h
     ·rename_i t ht
      obtain⟨v,l,e,h1,h2⟩:=hrs.dS;rw[h2.iq] at e;exact auk hR h h1 hi fun y σ' hy=>step y σ' (by rw[e];simp only[nK,ht,Option.bind_some,hy])
     ·cases h
    ·rename_i x l
     split at h
     ·rename_i v hv
      cases h;obtain⟨y,ys,e,h1,h2⟩:=hrs.dS;obtain⟨w,hw,hr⟩:=aaC false hv h1 h2;refine⟨w,step w σ ?_,hr⟩;rw[e];simp only[nK,hw,Option.map_some]
     ·cases h
    ·rename_i x l
     split at h
     ·rename_i v hv
      cases h;obtain⟨y,ys,e,h1,h2⟩:=hrs.dS;obtain⟨w,hw,hr⟩:=aaC true hv h1 h2;refine⟨w,step w σ ?_,hr⟩;rw[e];simp only[nK,hw,Option.map_some]
     ·cases h
    ·cases h
   ·cases h
  ·rename_i f fE
   split at h
   ·rename_i f' a' b' vs hf hvs
    cases himp:E.imp f' with
    |true=>rw[himp] at h;cases h|false=>rw[himp,cond_false] at h;obtain⟨va,vb,h1,h2,h3⟩:=(dw (E:=E) hi hg hf).lG;exact ahq hR hF hop fE h1 himp ((h2.append (BD (E:=E) hi hg hvs)).append h3) hi (fun _ hx=>hx) h
   ·cases h
  ·cases h
 ·cases h
theorem yK {aj:Bool}{F:Nat->List (fC R)}(hF:aZ E F)(bO:ρ.aj.aj=aj)(gW:∀d,o.dst=some d->d<F0){g:List (Nat×Bool)}(hg:sH fr g)(hi:aO ρ aK st fr σ){r:eT R}(h:zV E R aj F g o.dst o.op st=some r):sJ E st ρ aK fr σ o r:=by
 unfold zV at h;split at h
 ·rename_i r' hx;cases h;exact auj hR gW hg hi hx
 ·exact aul hR hF bO gW hg hi h
end
end aR
end
