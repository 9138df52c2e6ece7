import Derived.Test.YthadiihdjhakdaaGreatF2909
set_option linter.all false
section
namespace aY
open Go
section
variable {R:gY}{E:Env}
variable {ρ:aT}{top:Nat->Nat}{b:Nat}{st:aD R.T}{fr:Fr}{σ:au}
theorem Nl {n:Nat}{f:Nat}(a b:List V):bn (n+2) σ (.fn (.func f) a b)=(a.mapM (bn (n+1) σ)).bind fun a=>(b.mapM (bn (n+1) σ)).map fun b=>.fn (.func f) a b:=by
 by_cases hp:aU (.fn (.func f) a b)=true
 ·rw[l8 hp]
  have:∀cs:List V,bN cs=true->cs.mapM (bn (n+1) σ)=some cs:=by
   intro cs;induction cs with
   |nil=>intro _;rfl|cons a l ih=>intro h;simp only[bN,iP] at h;rw[jL,l8 h.1,ih h.2];rfl
  simp only[aU,iP] at hp;rw[this a hp.1,this b hp.2];rfl
 ·conv=>lhs;unfold bn
  simp only[hp,if_false,dO]
theorem agR {n:Nat}{off:Nat}(cs:List V):bn (n+2) σ (.aI cs off)=(cs.mapM (bn (n+1) σ)).map (.aI · off):=by
 by_cases hp:aU (.aI cs off)=true
 ·rw[l8 hp]
  have:∀cs:List V,bN cs=true->cs.mapM (bn (n+1) σ)=some cs:=by
   intro cs;induction cs with
   |nil=>intro _;rfl|cons a l ih=>intro h;simp only[bN,iP] at h;rw[jL,l8 h.1,ih h.2];rfl
  rw[this cs Cy];rfl
 ·conv=>lhs;unfold bn
  simp only[hp,if_false,dO]
theorem ZL {n:Nat}{c:Cap}(cs:List V):bn (n+2) σ (.ay c cs)=(cs.mapM (bn (n+1) σ)).map (.ay .sh):=by
 by_cases hp:aU (.ay c cs)=true
 ·rw[l8 hp]
  have:∀cs:List V,bN cs=true->cs.mapM (bn (n+1) σ)=some cs:=by
   intro cs;induction cs with
   |nil=>intro _;rfl|cons a l ih=>intro h;simp only[bN,iP] at h;rw[jL,l8 h.1,ih h.2];rfl
  cases c<;>simp only[aU,dO] at hp;rw[this cs hp];rfl
 ·conv=>lhs;unfold bn
  simp only[hp,if_false,dO]
variable (hR:rE R)
include hR
theorem ZM {k e:Ty}(m:List (Den R.T k×Den R.T e)):aU (.eU (m.map fun p=>aX R k p.1) (m.map fun p=>aX R e p.2))=true:=by
 simp only[aU,iP];have h1:∀m:List (Den R.T k×Den R.T e),bN (m.map fun p=>aX R k p.1)=true/\bN (m.map fun p=>aX R e p.2)=true:=by
  intro m;induction m with
  |nil=>exact⟨rfl,rfl⟩|cons p m ih=>exact⟨by simp[bN,qC hR,ih.1],by simp[bN,qC hR,ih.2]⟩
 exact h1 m
theorem agS:∀(t:Ty)(x:Den R.T t)(v:V),pR t=true->av R ρ top (BM R .any t x) v->∀n σ,bn (n+2) σ v=some (aX R t x)
 |.int k,x,v,_,h,n,σ=>by rw[av.kS (R:=R) h];exact YT (n+1) _ _|.bool,x,v,_,h,n,σ=>by rw[av.rF (R:=R) h];exact YU (n+1) _|.str,x,v,_,h,n,σ=>by rw[av.rG (R:=R) h];exact YV (n+1) _|.slice t,x,v,_,h,n,σ=>by obtain⟨c,rfl,_⟩:=av.lU (R:=R) h;exact BK _ _ (qC hR _)
 |.st n,_,_,h,_,_,_=>by simp[pR] at h
theorem Jm:∀(l:List Ty)(p:qx R.T l)(vs:List V),l.all pR=true->aF R ρ top (gq R .any l p) vs->∀n σ,vs.mapM (bn (n+2) σ)=some (encs R l p)
 | [],_,vs,_,h,n,σ=>by rw[aF.iJ h];rfl| [t],x,vs,hl,h,n,σ=>by obtain⟨v,l,rfl,h1,h2⟩:=aF.dW h;rw[aF.iJ h2,jL,agS hR t x v yN h1];rfl
 |t::u::l,p,vs,hl,h,n,σ=>by rw[List.all_cons,iP] at hl;obtain⟨v,ws,rfl,h1,h2⟩:=aF.dW h;rw[jL,agS hR t p.1 v hl.1 h1,Jm (u::l) p.2 ws hl.2 h2];rfl
theorem aq4 (t:Ty)(x:Den R.T t)(vs:List V)(h:aF R ρ top (jk R .any t x).cells vs)(n:Nat)(σ:au):vs.mapM (bn (n+2) σ)=some (aX R t x).cells:=by
 cases t with
 |st k=>have he:aX R (.st k) x= .agg (encs R (R.lf k) (R.of k x)):=hR.enc k x;rw[he];exact Jm hR _ _ vs (hR.leaf k) h n σ|int k=>exact Jm hR [.int k] x vs rfl h n σ|bool=>exact Jm hR [.bool] x vs rfl h n σ|str=>exact Jm hR [.str] x vs rfl h n σ|slice t=>exact Jm hR [.slice t] x vs rfl h n σ
theorem ZN {t:Ty}{ρ:aT}{top:Nat->Nat}:∀(l:List (Den R.T t))(cs:List V),aF R ρ top (l.flatMap fun x=>(jk R .any t x).cells) cs->∀(n:Nat)(σ:au),cs.mapM (bn (n+2) σ)=some ((l.map (aX R t)).flatMap V.cells)
 | [],cs,h,n,σ=>by rw[aF.iJ h];rfl|x::l,cs,h,n,σ=>by rw[ny] at h;obtain⟨a,b,rfl,h1,h2⟩:=h.split;rw[List.mapM_append,ZN l b h2 n σ,fG,ny];have:a.mapM (bn (n+2) σ)=some (aX R t x).cells:=aq4 hR t x a h1 n σ;rw[this];rfl
omit hR in
theorem agT:∀(t:Ty)(x:Den R.T t)(v:V),pR t=true->av R ρ top (BM R .any t x) v->eD v=aX R t x
 |.int k,x,v,_,h=>by rw[av.kS (R:=R) h];rfl|.bool,x,v,_,h=>by rw[av.rF (R:=R) h];rfl|.str,x,v,_,h=>by rw[av.rG (R:=R) h];rfl|.slice t,x,v,_,h=>by obtain⟨c,rfl,_⟩:=av.lU (R:=R) h;rfl
 |.st n,_,_,h,_=>by simp[pR] at h
omit hR in
theorem Jo:∀(l:List Ty)(p:qx R.T l)(vs:List V),l.all pR=true->aF R ρ top (gq R .any l p) vs->vs.map eD=encs R l p
 | [],_,vs,_,h=>by rw[aF.iJ h];rfl| [t],x,vs,hl,h=>by obtain⟨v,l,rfl,h1,h2⟩:=aF.dW h;rw[aF.iJ h2,fG,agT t x v yN h1];rfl
 |t::u::l,p,vs,hl,h=>by rw[List.all_cons,iP] at hl;obtain⟨v,ws,rfl,h1,h2⟩:=aF.dW h;rw[fG,agT t p.1 v hl.1 h1,Jo (u::l) p.2 ws hl.2 h2];rfl
theorem aq5 (t:Ty)(x:Den R.T t)(vs:List V)(h:aF R ρ top (jk R .any t x).cells vs):vs.map eD=(aX R t x).cells:=by
 cases t with
 |st k=>have he:aX R (.st k) x= .agg (encs R (R.lf k) (R.of k x)):=hR.enc k x;rw[he];exact Jo _ _ vs (hR.leaf k) h|int k=>exact Jo [.int k] x vs rfl h|bool=>exact Jo [.bool] x vs rfl h|str=>exact Jo [.str] x vs rfl h|slice t=>exact Jo [.slice t] x vs rfl h
theorem Uf {t:Ty}{ρ:aT}{top:Nat->Nat}:∀(l:List (Den R.T t))(cs:List V),aF R ρ top (l.flatMap fun x=>(jk R .any t x).cells) cs->cs.map eD=(l.map (aX R t)).flatMap V.cells
 | [],cs,h=>by rw[aF.iJ h];rfl|x::l,cs,h=>by rw[ny] at h;obtain⟨a,b,rfl,h1,h2⟩:=h.split;rw[oV,Uf l b h2,fG,ny,aq5 hR t x a h1]
theorem Ug {t:Ty}(l:List (Den R.T t)):chunks (iA t) (cK R t) l.length ((l.map (aX R t)).flatMap V.cells)=l.map (aX R t):=by
 have:=Ub (iA t) (cK R t) (l.map (aX R t)) (fun v hv=>by obtain⟨x,_,rfl⟩:=EF.1 hv;exact(Jk hR t x).1);rw[jS] at this;rw[this,G5];refine ED fun x _=>?_;show (if iA t then V.agg (aX R t x).cells else (aX R t x).cells.headD aK)=aX R t x;cases hs:iA t
 ·cases t<;>first|rfl| (simp[iA] at hs;done)
 ·obtain⟨c,hc⟩:=(Jk hR t x).2.2.2.1 hs
  rw[hc];rfl
theorem ZO {t:Ty}(l:List (Den R.T t)):(iA t||cK R t==1&& dD ((l.map (aX R t)).flatMap V.cells))=true:=by
 cases hs:iA t
 ·have h1:cK R t=1:=by cases t<;>first|rfl| (simp[iA] at hs;done)
  rw[h1];have:dD ((l.map (aX R t)).flatMap V.cells)=true:=by have:=Uc hR l;unfold dD at this⊢;rw[List.all_flatMap];exact this
  rw[this];rfl
 ·rfl
omit hR in
theorem ZP (ag:Bool)(sz:Nat):∀(n:Nat)(cs:List V),(ag=true\/sz=1/\dD cs=true/\n<=cs.length)->(chunks ag sz n cs).map er=chunks ag sz n (cs.map eD)
 |0,_,_=>rfl|n+1,cs,h=>by
  unfold chunks;rw[fG,<-List.map_drop];cases ag with
  |true=>rw[ZP true sz n _ (.inl rfl)];simp only[if_true,<-List.map_take];rfl|false=>
   rcases h with h| ⟨rfl,h2,h3⟩
   ·cases h
   cases cs with
   |nil=>simp at h3|cons c cs=>unfold dD at h2;rw[List.all_cons,iP] at h2;rw[ZP false 1 n ((c::cs).drop 1) (.inr ⟨rfl,by simpa [dD] using h2.2,by simpa using h3⟩)];congr 1;simp only[dO,if_false,List.headD_cons,fG];exact afP (fun l e=>by subst e;cases h2.1)
omit hR in
theorem ZQ {P:Program}{aj zeros:Bool}{σ:au}{aH:Nat}{loc:Option Loc}{t e:TypeId}{sz:Nat}{ag:Bool}{x w w':V}(h1:mW P t=some e)(h2:eX P e=some sz)(h3:nU P e=some ag)(h:∀z,tO σ ag sz z w=tO σ ag sz z w')(hi:EK w=EK w'):
 mI P aj zeros σ aH loc t x w=mI P aj zeros σ aH loc t x w':=by
 unfold mI;simp only[h1,h2,h3,Option.bind_some,h,hi]
theorem aq6 {d:Option Nat}{t u:TypeId}{x y:ak R.T}{v w:V}{r:eZ R}{aH:Nat}{o:Oper}(h:MW E R d t u x y st=some r)(hx:av R ρ σ.top x v)(hy:av R ρ σ.top y w)(hi:aL ρ aH st fr σ)(hd:o.dst=d)(ho:∀y σ',mI E.P true false σ aH (d.map fun t=>(fr.d,E.cn t)) t v w=some (y,σ')->mo E fr σ aH o y σ'):sH E st ρ aH fr σ o r:=by
 unfold MW at h;split at h
 ·rename_i e τ sz iF he
  obtain⟨z,e1,e2,e3,e4,e5,e6,e7,e8,e9⟩:=Nk he;split at h
  ·rename_i p fO
   split at h
   ·rename_i e0
    subst e0;split at h
    ·rename_i yj l hl
     split at h
     ·rename_i l2 hl2
      obtain⟨e,e2'⟩:=vC hl2;subst e;cases e2';refine agO hR h hx (w:=.ay .sh (l.map (aX R yj))) (by unfold av;exact⟨.sh,rfl,trivial⟩) hi hd (fun y' σ' hy'=>ho y' σ' ?_);rw[<-hy'];subst e6;have hO:=hi.rd hl;rcases hy.zw with ⟨s,k1,rfl⟩| ⟨k1,k2⟩
      ·rcases hO.2 with hO2| ⟨s',cs,k3,k4,k5⟩
       ·rw[k1] at hO2;exact absurd hO2.2 aC
       ·rw[k1] at k3;cases k3
        refine ZQ e1 e2 e4 (fun z'=>?_) rfl;have he:=Uf hR l cs k5;have hlc:cs.length=l.length*cK R yj:=(by rw[k5.length,DJ]);have hoc:dD cs=true:=(by have h1:dD (cs.map eD)=dD cs:=(by unfold dD;rw[List.all_map];congr 1;funext c;cases c<;>rfl);rw[<-h1,he];have:=Uc hR l;unfold dD at this⊢;rw[List.all_flatMap];exact this);show (if cK R yj≠cK R yj then none else (σ.dB (ρ.aj.lc p) s).bind fun cs=>if 0+ρ.ln p*cK R yj<=cs.length/\(dD cs=true\/iA yj=true) then some ((chunks (iA yj) (cK R yj) (ρ.ln p) (cs.drop 0)).map er) else none)=(if qR _ _=true then _ else _);rw[if_neg aC,k4,Option.bind_some,if_pos ⟨by rw[hlc,hO.1];omega,.inl hoc⟩,if_pos (Ua hR _),Ag,<-hO.1,
         ZP _ _ _ _ ?_,he,Ug hR]
        cases hs:iA yj
        ·right
         have h1:cK R yj=1:=(by cases yj<;>first|rfl| (simp[iA] at hs;done));exact⟨h1,hoc,by rw[hlc,h1];omega⟩
        ·exact .inl rfl
      ·have hl0:l=[]:=lZ (by rw[hO.1];exact k1)
       subst hl0;rcases k2 with rfl|rfl
       ·exact ZQ e1 e2 e4 (fun _=>rfl) rfl
       ·exact ZQ e1 e2 e4 (fun _=>rfl) rfl
     ·cases h
    ·cases h
   ·cases h
  ·cases h
 ·cases h
omit hR in
theorem agU:∀(a b:List V),bN (a++b)=(bN a&& bN b)
 | [],b=>by simp[bN]|x::a,b=>by simp only[List.cons_append,bN];rw[agU a b,Bool.and_assoc]
omit hR in
theorem agV (k:IntKind):∀l:List Int,bN (l.map (V.int k))=true
 | []=>by simp[bN]|x::l=>by simp only[fG,bN,YW,Bool.true_and];exact agV k l
omit hR in
theorem ZR:∀ss:List nY,bN (mK ss)=true
 | []=>by simp[mK,bN]|.i k x::ss=>by show bN (V.int k x::mK ss)=true;unfold bN;rw[ZR ss];simp[aU]|.a k n v::ss=>by show bN (v.l.map (V.int k)++mK ss)=true;rw[agU,agV,ZR ss];rfl
omit hR in
theorem ZT (ss:List nY):aU (.agg (mK ss))=true:=by unfold aU;exact ZR ss
omit hR in
theorem agW:∀(a b:List V),kW (a++b)=(kW a&& kW b)
 | [],b=>by simp[kW]|x::a,b=>by simp only[List.cons_append,kW];rw[agW a b,Bool.and_assoc]
omit hR in
theorem agX (k:IntKind):∀l:List Int,kW (l.map (V.int k))=true
 | []=>by simp[kW]|x::l=>by simp only[fG,kW,flat,Bool.true_and];exact agX k l
omit hR in
theorem Uh:∀ss:List nY,kW (mK ss)=true
 | []=>by simp[mK,kW]|.i k x::ss=>by show kW (V.int k x::mK ss)=true;unfold kW;rw[Uh ss];simp[flat]|.a k n v::ss=>by show kW (v.l.map (V.int k)++mK ss)=true;rw[agW,agX,Uh ss];rfl
omit hR in
theorem aq7 (ss:List nY):er (.agg (mK ss))= .agg (mK ss):=by
 have:∀ss:List nY,(mK ss).map eD=mK ss:=by
  intro ss;induction ss with
  |nil=>rfl|cons s ss ih=>
   cases s with
   |i k x=>show eD (.int k x)::(mK ss).map eD=_;rw[ih];rfl|a k n v=>show (v.l.map (V.int k)++mK ss).map eD=_;rw[oV,ih,G5];rfl
 show V.agg ((mK ss).map eD)=_;rw[this]
omit hR in
theorem nY.len:∀s:nY,s.vs.length=s.w
 |.i _ _=>rfl|.a _ n v=>by show (v.l.map _).length=n;rw[jS,v.h]
theorem ZU (hi:aL ρ b st fr σ){x:ak R.T}{v:V}(h:av R ρ σ.top x v):∃v',av R ρ σ.top (x9 st x) v'/\∀n,bn (n+3) σ v=bn (n+3) σ v':=by
 by_cases hx:∃o off,x= .ref o off
 ·obtain⟨o,off,rfl⟩:=hx
  unfold x9;dsimp only;split
  ·rename_i cs hl
   obtain⟨s,h1,rfl⟩:=h.sF;obtain⟨s',l,h2,h3,h4⟩:=hi.rd hl;rw[h1] at h2;cases h2;refine⟨.aI l off,by unfold av;exact⟨l,rfl,h4⟩,fun n=>?_⟩;rw[agR]
   conv=>lhs;unfold bn
   simp only[aU,dO,if_false,h3,Option.bind_some]
  ·exact⟨v,h,fun _=>rfl⟩
 ·by_cases hy:∃o,x= .dJ o
  ·obtain⟨o,rfl⟩:=hy
   unfold x9;dsimp only;split
   ·rename_i k e m hl
    obtain⟨s,h1,rfl⟩:=h.Na;obtain⟨s',h2,h3⟩:=hi.rd hl;rw[h1] at h2;cases h2;refine⟨.eU (m.map fun p=>aX R k p.1) (m.map fun p=>aX R e p.2),jJ,fun n=>?_⟩;have hp:=ZM hR m;rw[l8 hp];have hp':=hp;simp only[aU,iP] at hp';have key:∀cs:List V,bN cs=true->cs.mapM (bn (n+2) σ)=some cs:=by
     intro cs;induction cs with
     |nil=>intro _;rfl|cons a l ih=>intro h;simp only[bN,iP] at h;rw[jL,l8 h.1,ih h.2];rfl
    conv=>lhs;unfold bn
    simp only[aU,dO,if_false,h3,Option.bind_some,key _ hp'.1,key _ hp'.2,Option.map_some]
   ·exact⟨v,h,fun _=>rfl⟩
  ·by_cases hz:∃o t,x= .aJ o t
   ·obtain⟨o,t,rfl⟩:=hz
    unfold x9;dsimp only;split
    ·rename_i t' l hl
     split
     ·rename_i e
      subst e;have hO:=hi.rd hl;refine⟨.ay .sh (l.map (aX R t')),by unfold av;exact⟨.sh,rfl,rfl⟩,fun n=>?_⟩;rw[BK _ _ (qC hR t')];rcases h.zw with ⟨s,h1,rfl⟩| ⟨h1,h2⟩
      ·rcases hO.2 with h2| ⟨s',cs,h2,h3,h4⟩
       ·rw[h1] at h2;exact absurd h2.2 aC
       ·rw[h1] at h2;cases h2
        have hlc:cs.length=l.length*cK R t':=(by rw[h4.length,DJ]);have hlen:l.length=ρ.ln o:=hO.1
        conv=>lhs;unfold bn
        simp only[aU,dO,if_false,h3,Option.bind_some,nS,Ag];rw[if_pos GN,RG GN,ZN hR l cs h4 n σ];simp only[Option.bind_some];rw[<-hlen,Ug hR l,ZO hR l,if_pos rfl];rfl
      ·have hl0:l=[]:=lZ (hO.1.trans h1)
       subst hl0;rcases h2 with rfl|rfl<;>exact BK _ ([]:List (Den R.T t')) (qC hR t')
     ·exact⟨v,h,fun _=>rfl⟩
    ·exact⟨v,h,fun _=>rfl⟩
   ·by_cases hz2:∃o off k n lo hi,x= .sv o off k n lo hi
    ·obtain⟨o,off,k,n,lo,hi',rfl⟩:=hz2
     exact⟨v,h,fun _=>rfl⟩
    ·by_cases hz3:∃o t a b,x= .sub o t a b
     ·obtain⟨o,t,a,b,rfl⟩:=hz3
      unfold x9;dsimp only;split
      ·rename_i t' l hl
       split
       ·rename_i e
        subst e;have hO:=hi.rd hl;have hlen:l.length=ρ.ln o:=hO.1;obtain⟨g0,g1,g2,h⟩:=h.BU;refine⟨.ay .sh ((Fh l a b).map (aX R t')),by unfold av;exact⟨.sh,rfl,rfl⟩,fun n=>?_⟩;rw[BK _ _ (qC hR t')];have hsl:(Fh l a b).length=(b-a).toNat:=(by rw[agL g0 g1,oz,yO];omega);rcases h with ⟨s,cp,h1,h2,rfl⟩| ⟨e,c,rfl⟩
        ·rcases hO.2 with h2| ⟨s',cs,h2,h3,h4⟩
         ·rw[h1] at h2;exact absurd h2.2 aC
         ·rw[h1] at h2;cases h2
          have hlc:cs.length=l.length*cK R t':=(by rw[h4.length,DJ]);have hp:=aqN g0 g1 h4;have hle:a.toNat*cK R t'+(b-a).toNat*cK R t'<=cs.length:=by rw[hlc,<-tJ];exact tK _ ah
          conv=>lhs;unfold bn
          simp only[aU,dO,if_false,h3,Option.bind_some];rw[if_pos hle,ZN hR _ _ hp n σ];simp only[Option.bind_some];rw[<-hsl,Ug hR,ZO hR,if_pos rfl];rfl
        ·have hl0:Fh l a b=[]:=lZ (by rw[hsl,e];simp)
         rw[hl0];exact BK _ ([]:List (Den R.T t')) (qC hR t')
       ·exact⟨v,h,fun _=>rfl⟩
      ·exact⟨v,h,fun _=>rfl⟩
     ·have:x9 st x=x:=by cases x<;>first|rfl|exact absurd ⟨_,_,rfl⟩ hx|exact absurd ⟨_,rfl⟩ hy|exact absurd ⟨_,_,rfl⟩ hz|exact absurd ⟨_,_,_,_,_,_,rfl⟩ hz2|exact absurd ⟨_,_,_,_,rfl⟩ hz3
      rw[this];exact⟨v,h,fun _=>rfl⟩
theorem Nn (hi:aL ρ b st fr σ):∀{x:List (ak R.T)}{v:List V},aF R ρ σ.top x v->∃v',aF R ρ σ.top (Iz st x) v'/\∀n,v.mapM (bn (n+3) σ)=v'.mapM (bn (n+3) σ)
 | [],v,h=>Rl
 |x::xs,v,h=>by obtain⟨w,ws,rfl,h1,h2⟩:=h.dW;obtain⟨w',a1,a2⟩:=ZU hR hi h1;obtain⟨ws',b1,b2⟩:=Nn hi h2;exact⟨w'::ws',.cons' a1 b1,fun n=>by rw[jL,jL,a2,b2]⟩
theorem agY (hi:aL ρ b st fr σ){x:ak R.T}{v:V}(h:av R ρ σ.top x v):∃v',av R ρ σ.top (MN st x) v'/\∀n,bn (n+4) σ v=bn (n+4) σ v':=by
 by_cases hx:∃f a b,x= .fn f a b
 ·obtain⟨f,a,b,rfl⟩:=hx
  obtain⟨a',b',rfl,ha,hb⟩:=h.lg;obtain⟨va,a1,a2⟩:=Nn hR hi ha;obtain⟨vb,b1,b2⟩:=Nn hR hi hb;refine⟨.fn (.func f) va vb,⟨va,vb,rfl,a1,b1⟩,fun n=>?_⟩;rw[Nl,Nl,a2,b2]
 ·have:MN st x=x9 st x:=by cases x<;>first|rfl|exact absurd ⟨_,_,_,rfl⟩ hx
  rw[this];obtain⟨v',h1,h2⟩:=ZU hR hi h;exact⟨v',h1,fun n=>h2 (n+1)⟩
theorem ZV (hi:aL ρ b st fr σ):∀{x:List (ak R.T)}{v:List V},aF R ρ σ.top x v->∃v',aF R ρ σ.top (SN st x) v'/\∀n,v.mapM (bn (n+4) σ)=v'.mapM (bn (n+4) σ)
 | [],v,h=>Rl
 |x::xs,v,h=>by obtain⟨w,ws,rfl,h1,h2⟩:=h.dW;obtain⟨w',a1,a2⟩:=agY hR hi h1;obtain⟨ws',b1,b2⟩:=ZV hi h2;exact⟨w'::ws',.cons' a1 b1,fun n=>by rw[jL,jL,a2,b2]⟩
theorem aq8 (hi:aL ρ b st fr σ){x:ak R.T}{v:V}(h:av R ρ σ.top x v):∃v',av R ρ σ.top (SQ st x) v'/\∀n,bn (n+5) σ v=bn (n+5) σ v':=by
 by_cases hy:∃cs,x= .agg cs
 ·obtain⟨cs,rfl⟩:=hy
  obtain⟨l,rfl,hl⟩:=h.lT;obtain⟨v',a1,a2⟩:=ZV hR hi hl;refine⟨.agg v',by unfold SQ;unfold av;exact⟨v',rfl,a1⟩,fun n=>?_⟩;have e:n+5=n+3+2:=rfl;rw[e,Il,Il,a2]
 ·have:SQ st x=MN st x:=by cases x<;>first|rfl|exact absurd ⟨_,rfl⟩ hy
  rw[this];obtain⟨v',h1,h2⟩:=agY hR hi h;exact⟨v',h1,fun n=>h2 (n+1)⟩
theorem agZ (hi:aL ρ b st fr σ):∀{x:List (ak R.T)}{v:List V},aF R ρ σ.top x v->∃v',aF R ρ σ.top (Y5 st x) v'/\∀n,v.mapM (bn (n+5) σ)=v'.mapM (bn (n+5) σ)
 | [],v,h=>Rl
 |x::xs,v,h=>by obtain⟨w,ws,rfl,h1,h2⟩:=h.dW;obtain⟨w',a1,a2⟩:=aq8 hR hi h1;obtain⟨ws',b1,b2⟩:=agZ hi h2;exact⟨w'::ws',.cons' a1 b1,fun n=>by rw[jL,jL,a2,b2]⟩
theorem aq9 (hi:aL ρ b st fr σ){x:ak R.T}{v:V}(h:av R ρ σ.top x v):∃v',av R ρ σ.top (Dq st x) v'/\∀n,bn (n+6) σ v=bn (n+6) σ v':=by
 by_cases hx:∃f a b,x= .fn f a b
 ·obtain⟨f,a,b,rfl⟩:=hx
  obtain⟨a',b',rfl,ha,hb⟩:=h.lg;obtain⟨va,a1,a2⟩:=Nn hR hi ha;obtain⟨vb,b1,b2⟩:=Nn hR hi hb;refine⟨.fn (.func f) va vb,⟨va,vb,rfl,a1,b1⟩,fun n=>?_⟩;rw[Nl,Nl,a2,b2]
 ·by_cases hy:∃cs,x= .agg cs
  ·obtain⟨cs,rfl⟩:=hy
   obtain⟨l,rfl,hl⟩:=h.lT;obtain⟨v',a1,a2⟩:=ZV hR hi hl;refine⟨.agg v',by unfold Dq;unfold av;exact⟨v',rfl,a1⟩,fun n=>?_⟩;have e:n+6=n+4+2:=rfl;rw[e,Il,Il,a2 (n+1)]
  ·by_cases hz:∃cs,x= .kl cs
   ·obtain⟨cs,rfl⟩:=hz
    obtain⟨c,l,rfl,hl⟩:=h.DC;obtain⟨v',a1,a2⟩:=agZ hR hi hl;refine⟨.ay c v',by unfold Dq;unfold av;exact⟨c,v',rfl,a1⟩,fun n=>?_⟩;have e:n+6=n+4+2:=rfl;rw[e,ZL,ZL,a2 n]
   ·have:Dq st x=x9 st x:=by cases x<;>first|rfl|exact absurd ⟨_,_,_,rfl⟩ hx|exact absurd ⟨_,rfl⟩ hy|exact absurd ⟨_,rfl⟩ hz
    rw[this];obtain⟨v',h1,h2⟩:=ZU hR hi h;exact⟨v',h1,fun n=>h2 (n+3)⟩
theorem Jp (hi:aL ρ b st fr σ):∀{x:List (ak R.T)}{v:List V},aF R ρ σ.top x v->∃v',aF R ρ σ.top (pK st x) v'/\∀n,v.mapM (bn (n+6) σ)=v'.mapM (bn (n+6) σ)
 | [],v,h=>Rl
 |x::xs,v,h=>by obtain⟨w,ws,rfl,h1,h2⟩:=h.dW;obtain⟨w',a1,a2⟩:=aq9 hR hi h1;obtain⟨ws',b1,b2⟩:=Jp hi h2;exact⟨w'::ws',.cons' a1 b1,fun n=>by rw[jL,jL,a2,b2]⟩
mutual
theorem ZW:∀(k:aM)(x:ru R.T k)(tv:ak R.T)(v:V),uM k=true->pk R k tv=some x->av R ρ top tv v->∀n σ,dep k<=n->bn n σ v=some (encS R k x)
 |.d t,x,tv,v,_,h,hr,n,σ,hn=>by obtain⟨m,rfl⟩:∃m,n=m+3:=⟨n-3,GU⟩;exact(afY hR (show BN R t tv=some x from h) hr).2.2.1 m σ
 |.l c t,x,tv,v,_,h,hr,n,σ,hn=>by obtain⟨m,rfl⟩:∃m,n=m+3:=⟨n-3,GU⟩;obtain⟨c',rfl,_⟩:=(agh (show SV R c t tv=some x from h) hr).lU;exact BK _ _ (qC hR _)
 |.agg l,x,tv,v,hc,h,hr,n,σ,hn=>by
  cases tv<;>first| (exact absurd (show none=some x from h) aC)|skip
  rename_i cs;obtain⟨vs,rfl,hl⟩:=hr.lT;unfold dep at hn;obtain⟨m,rfl⟩:∃m,n=m+2:=⟨n-2,ah⟩;rw[Il,qE l x cs vs (by unfold uM at hc;exact hc) h hl (m+1) σ ah];rfl
 |.aI l off,x,tv,v,hc,h,hr,n,σ,hn=>by
  cases tv<;>first| (exact absurd (show none=some x from h) aC)|skip
  rename_i cs off';have h':(bif Nat.beq off' off then dV R l cs else none)=some x:=h;obtain⟨hb,h'⟩:=gH h';rw[gG hb] at hr;obtain⟨vs,rfl,hl⟩:=hr.uj;unfold dep at hn;obtain⟨m,rfl⟩:∃m,n=m+2:=⟨n-2,ah⟩;rw[agR,qE l x cs vs (by unfold uM at hc;exact hc) h' hl (m+1) σ ah];rfl
 |.kl l,x,tv,v,hc,h,hr,n,σ,hn=>by
  cases tv<;>first| (exact absurd (show none=some x from h) aC)|skip
  rename_i cs;obtain⟨c,vs,rfl,hl⟩:=hr.DC;unfold dep at hn;obtain⟨m,rfl⟩:∃m,n=m+2:=⟨n-2,ah⟩;rw[ZL,qE l x cs vs (by unfold uM at hc;exact hc) h hl (m+1) σ ah];rfl
 |.dF,x,tv,v,_,h,hr,n,σ,hn=>by
  cases tv<;>first| (exact absurd (show none=some x from h) aC)|skip
  obtain⟨m,rfl⟩:∃m,n=m+3:=⟨n-3,GU⟩;unfold av at hr;subst hr;exact l8 uN
 |.cB,x,tv,v,_,h,hr,n,σ,hn=>by
  cases tv<;>first| (exact absurd (show none=some x from h) aC)|skip
  obtain⟨m,rfl⟩:∃m,n=m+3:=⟨n-3,GU⟩;unfold av at hr;subst hr;exact l8 uN
 |.eU k e,x,tv,v,_,h,hr,n,σ,hn=>by
  cases tv<;>first| (exact absurd (show none=some x from h) aC)|skip
  rename_i k' e' m;obtain⟨e1,e2,e3⟩:=ZC (show IC R m=some x from h);subst e1;subst e2;cases e3;obtain⟨m',rfl⟩:∃m,n=m+3:=⟨n-3,GU⟩;rw[hr.FB];exact l8 (ZM hR m)
 |.fn f a b,x,tv,v,hc,h,hr,n,σ,hn=>by
  cases tv<;>first| (exact absurd (show none=some x from h) aC)|skip
  rename_i f' a' b';have h':(bif Nat.beq f' f then (match dV R a a' with
   |some x=>match dV R b b' with
    |some y=>some (x,y)|none=>none
   |none=>none) else none)=some x:=h
  obtain⟨hb,h'⟩:=gH h';rw[gG hb] at hr;obtain⟨va,vb,rfl,ha,hbb⟩:=hr.lg;unfold uM at hc;rw[iP] at hc;unfold dep at hn;obtain⟨m,rfl⟩:∃m,n=m+2:=⟨n-2,ah⟩;cases h1:dV R a a' with
  |none=>simp only[h1] at h';cases h'|some y=>
   cases h2:dV R b b' with
   |none=>simp only[h1,h2] at h';cases h'|some z=>simp only[h1,h2] at h';cases h';rw[Nl,qE a y a' va hc.1 h1 ha (m+1) σ ah,qE b z b' vb hc.2 h2 hbb (m+1) σ ah];rfl
 |.ref _ _,_,_,_,h,_,_,_,_,_=>xB|.dJ _,_,_,_,h,_,_,_,_,_=>xB|.gT,_,_,_,h,_,_,_,_,_=>xB|.aJ _ _,_,_,_,h,_,_,_,_,_=>xB|.sub _ _,_,_,_,h,_,_,_,_,_=>xB|.sg l,x,tv,v,_,h,hr,n,σ,hn=>by
  cases tv<;>first| (exact absurd (show none=some x from h) aC)|skip
  rename_i ss;obtain⟨m,rfl⟩:∃m,n=m+1:=⟨n-1,GU⟩;rw[hr.TM];show _=some (V.agg (mK (zf l x)));rw[TR (show BL l ss=some x from h)];exact l8 (ZT ss)
 |.undef,_,_,_,h,_,_,_,_,_=>xB
theorem qE:∀(l:List aM)(x:aW R.T l)(cs:List (ak R.T))(vs:List V),gu l=true->dV R l cs=some x->aF R ρ top cs vs->∀n σ,kY l<=n->vs.mapM (bn n σ)=some (bX R l x)
 | [],x,cs,vs,_,h,hr,n,σ,hn=>by
   cases cs with
   |nil=>rw[hr.iJ];rfl|cons c cs=>exact absurd (show none=some x from h) aC
 | [k],x,cs,vs,hc,h,hr,n,σ,hn=>by
   unfold gu at hc;rw[iP] at hc;unfold kY at hn;cases cs with
   |nil=>exact absurd (show none=some x from h) aC|cons c cs=>
    cases cs with
    |nil=>obtain⟨v,l,rfl,h1,h2⟩:=hr.dW;rw[h2.iJ,jL,ZW k x c v hc.1 h h1 n σ ah];rfl
    |cons c' cs=>exact absurd (show none=some x from h) aC
 |k::k'::l,x,cs,vs,hc,h,hr,n,σ,hn=>by
  unfold gu at hc;rw[iP] at hc;unfold kY at hn;cases cs with
  |nil=>exact absurd (show none=some x from h) aC|cons c cs=>
   have h':(match pk R k c with
    |some x=>match dV R (k'::l) cs with
     |some p=>some (x,p)|none=>none
    |none=>none)=some x:=h
   obtain⟨v,vs,rfl,h1,h2⟩:=hr.dW;cases hu:pk R k c with
   |none=>simp only[hu] at h';cases h'|some y=>
    cases hs:dV R (k'::l) cs with
    |none=>simp only[hu,hs] at h';cases h'|some q=>simp only[hu,hs] at h';obtain rfl:=lX h';rw[jL,ZW k y c v hc.1 hu h1 n σ ah,qE (k'::l) q cs vs hc.2 hs h2 n σ ah];rfl
end
mutual
theorem Ui:∀(tv:ak R.T)(v:V),oU tv=true->av R ρ top tv v->aU v=true
 |.int _ _,v,_,h=>by rw[h.kS];exact YW _ _|.bool _,v,_,h=>by rw[h.rF];exact YX _|.ji _,v,_,h=>by rw[h.vB];exact YX _|.str _,v,_,h=>by rw[h.rG];exact afr _|.cB,v,_,h=>Rp|.dF,v,_,h=>Rp|.gL,v,_,h=>Rp|.iD,v,_,h=>Rp|.ay c t l,v,hs,h=>by
  cases c<;>simp only[oU,dO] at hs;obtain⟨c',rfl,hc⟩:=h.lU;obtain rfl:c'= .sh:=hc;exact MH (qC hR t) l
 |.agg cs,v,hs,h=>by obtain⟨l,rfl,hl⟩:=h.lT;unfold aU;exact yA cs l (by unfold oU at hs;exact hs) hl
 |.bq cs,v,hs,h=>by obtain⟨l,rfl,hl⟩:=h.Jd;unfold aU;exact yA cs l (by unfold oU at hs;exact hs) hl
 |.eU k e m,v,_,h=>by rw[h.FB];exact ZM hR m|.fn f a b,v,hs,h=>by obtain⟨a',b',rfl,ha,hb⟩:=h.lg;unfold oU at hs;rw[iP] at hs;unfold aU;rw[yA a a' hs.1 ha,yA b b' hs.2 hb];rfl
 |.gT,_,hs,_=>vQ|.ref _ _,_,hs,_=>vQ|.aI cs off,v,hs,h=>by obtain⟨l,rfl,hl⟩:=h.uj;unfold aU;exact yA cs l (by unfold oU at hs;exact hs) hl
 |.kl _,_,hs,_=>vQ|.aJ _ _,_,hs,_=>vQ|.sub _ _ _ _,_,hs,_=>vQ|.l9 _ _ _ _,_,hs,_=>vQ|.sg ss,v,_,h=>by rw[h.TM];exact ZT ss|.sv _ _ _ _ _ _,_,hs,_=>vQ|.sel _ _ _ _ _ _,_,hs,_=>vQ|.zh _ _ _ _,_,hs,_=>vQ|.dJ _,_,hs,_=>vQ|.opt _ _ _,_,hs,_=>vQ|.undef,_,hs,_=>vQ
 |.gone,_,hs,_=>vQ
theorem yA:∀(l:List (ak R.T))(vs:List V),j4 l=true->aF R ρ top l vs->bN vs=true
 | [],vs,_,h=>Ls|x::l,vs,hs,h=>by obtain⟨v,ws,rfl,h1,h2⟩:=h.dW;unfold j4 at hs;rw[iP] at hs;unfold bN;rw[Ui x v hs.1 h1,yA l ws hs.2 h2];rfl
end
theorem ag0 {x:ak R.T}{v:V}(hs:MP x=true)(h:av R ρ top x v):aU (eD v)=true:=by
 have key:oU x=true->aU (eD v)=true:=fun hs=>by
  have:=Ui hR x v hs h;cases v with
  |ay c l=>cases c<;>simp[aU] at this<;>simpa [eD,aU] using this|_=>exact this
 cases x<;>first|exact key hs|skip
 ·rw[h.qB];simp[eD,aU,bN]
 ·obtain⟨c',rfl,hc⟩:=h.lU
  exact MH (qC hR _) _
theorem ag1:∀{x:List (ak R.T)}{v:List V},SS x=true->aF R ρ top x v->bN (v.map eD)=true
 | [],vs,_,h=>Ls|x::l,vs,hs,h=>by obtain⟨v,ws,rfl,h1,h2⟩:=h.dW;unfold SS at hs;rw[iP] at hs;rw[fG];unfold bN;rw[ag0 hR hs.1 h1,ag1 hs.2 h2];rfl
theorem ara {x:ak R.T}{v:V}(hs:afy x=true)(h:av R ρ top x v):aU (er v)=true:=by
 by_cases hx:∃cs,x= .agg cs
 ·obtain⟨cs,rfl⟩:=hx
  obtain⟨l,rfl,hl⟩:=h.lT;show aU (.agg (l.map eD))=true;unfold aU;exact ag1 hR hs hl
 ·by_cases hy:∃ss,x= .sg ss
  ·obtain⟨ss,rfl⟩:=hy
   rw[h.TM,aq7];exact ZT ss
  have hs':MP x=true:=by cases x<;>first|exact hs|exact absurd ⟨_,rfl⟩ hx
  have h1:=ag0 hR hs' h;have hne:∀cs,v≠ .agg cs:=by rintro cs rfl;cases x<;>first|exact hy ⟨_,rfl⟩| (unfold av at h;simp at h;done)|exact hx ⟨_,rfl⟩| (simp[MP,oU] at hs';done)
  rw[afP hne];exact h1
theorem FK:∀{x:List (ak R.T)}{v:List V},wC x=true->aF R ρ top x v->v.all (fun a=>aU (er a))=true
 | [],vs,_,h=>Ls|x::l,vs,hs,h=>by obtain⟨v,ws,rfl,h1,h2⟩:=h.dW;unfold wC at hs;rw[iP] at hs;rw[List.all_cons,ara hR hs.1 h1,FK hs.2 h2];rfl
theorem ZX:∀(l:List aM)(x:aW R.T l),BP l=true->kW (bX R l x)=true
 | [],x,_=>rfl| [k],x,h=>by
   cases k<;>simp only[BP,Bool.and_true,dO] at h
   ·rename_i t
    show (flat (aX R t x)&& kW [])=true;cases t<;>simp only[Y7,dO] at h<;>rfl
   ·rename_i ks
    show (flat (.agg (mK (zf ks x)))&& kW [])=true;unfold flat;rw[Uh];rfl
 |k::k'::l,x,h=>by
  cases k<;>simp only[BP,dO] at h
  ·rename_i t
   rw[iP] at h;show (flat (aX R t x.1)&& kW (bX R (k'::l) x.2))=true;rw[ZX (k'::l) x.2 h.2];have:=h.1;cases t<;>simp only[Y7,dO] at this<;>rfl
  ·rename_i ks
   show (flat (.agg (mK (zf ks x.1)))&& kW (bX R (k'::l) x.2))=true;rw[ZX (k'::l) x.2 h];unfold flat;rw[Uh];rfl
omit hR in
theorem arb {vs:List V}(h:kW vs=true):flat (nZ vs)=true:=by
 match vs with
 | []=>simp[nZ,flat,kW]| [v]=>simp only[kW,Bool.and_true] at h;exact h|v::w::vs=>show flat (.bq _)=true;unfold flat;exact h
mutual
theorem ZY:∀(k:aM)(x:ru R.T k),uM k=true->av R ρ top (up R .sh k x) (encS R k x)
 |.d t,x,_=>afS hR t x|.l c t,x,h=>by refine⟨.sh,rfl,?_⟩;cases c<;>first|trivial|rfl| (simp[uM] at h;done)
 |.agg l,x,h=>⟨_,rfl,yB l x (by unfold uM at h;exact h)⟩|.aI l off,x,h=>⟨_,rfl,yB l x (by unfold uM at h;exact h)⟩|.kl l,x,h=>⟨.sh,_,rfl,yB l x (by unfold uM at h;exact h)⟩|.dF,_,_=>rfl|.cB,_,_=>rfl|.eU k e,x,_=>rfl|.fn f a b,x,h=>by unfold uM at h;rw[iP] at h;exact⟨_,_,rfl,yB a x.1 h.1,yB b x.2 h.2⟩|.ref _ _,_,h=>xB|.dJ _,_,h=>xB|.gT,_,h=>xB|.aJ _ _,_,h=>xB
 |.sub _ _,_,h=>xB|.sg l,x,_=>rfl|.undef,_,h=>xB
theorem yB:∀(l:List aM)(x:aW R.T l),gu l=true->aF R ρ top (eY R .sh l x) (bX R l x)
 | [],_,_=>rfl| [k],x,h=>by unfold gu at h;rw[iP] at h;exact .cons' (ZY k x h.1) rfl|k::k'::l,x,h=>by unfold gu at h;rw[iP] at h;exact .cons' (ZY k x.1 h.1) (yB (k'::l) x.2 h.2)
end
omit hR in
theorem ard {x:List (ak R.T)}{v:List V}(h:aF R ρ top x v):av R ρ top (Tq R x) (nZ v):=by
 match x,h with
 | [],h=>rw[h.iJ];exact⟨[],rfl,rfl⟩| [a],h=>obtain⟨v,vs,rfl,h1,h2⟩:=h.dW;rw[h2.iJ];exact h1
 |a::b::l,h=>obtain⟨v,vs,rfl,h1,h2⟩:=h.dW;obtain⟨w,ws,rfl,h3,h4⟩:=h2.dW;exact⟨_,rfl,.cons' h1 (.cons' h3 h4)⟩
def ag2:List V->List V
 |_::l=>.ay .nil []::l| []=>[]
def bg (E:Env)(F:Nat->List (fM R)):Prop:=∀f,∀r∈F f,∀p x,r.F p=some x->(gu r.args=true->Pure E f (bX R r.args p) (nZ (bX R r.res x)))/\
 (r.own=true->∀(τ:Ty)(h:r.res=[.d (.slice τ)])(l:List (Den R.T τ)),(h▸x:aW R.T [.d (.slice τ)])=l->
   (gu r.args=true->E.vU f=false/\xY E f (bX R r.args p) (cK R τ) (l.map (aX R τ)))/\
   (gu r.args=false->E.vU f=true/\xY E f (ag2 (bX R r.args p)) (cK R τ) (l.map (aX R τ))))
theorem ag3 {F:Nat->List (fM R)}(hF:bg E F){f:Nat}{c:Call}{fo:Operand}{o:Oper}{aH:Nat}{a' b':List V}(ho:o.op= .call c)(fC:c.callee= .value fo)(hf:fr.ev E fo= .fn (.func f) a' b')(hi:E.imp f=false){args:List (ak R.T)}(ha:aF R ρ σ.top args (a'++c.args.toList.map (fr.ev E)++b'))(hi':aL ρ b st fr σ){q:fM R}(hq:q∈F f){p:aW R.T q.args}(hp:dV R q.args (pK st args)=some p)(hc:(gu q.args&& Nat.ble (kY q.args) 18&& gu q.res&& (wC args||BP q.res))=true){x:aW R.T q.res}(hx:q.F p=some x):
 ∃y,mo E fr σ aH o y σ/\av R ρ σ.top (Tq R (eY R .sh q.res x)) y:=by
 simp only[iP] at hc;obtain⟨⟨⟨c1,c2⟩,c3⟩,c4⟩:=hc;have hP:=(hF f q hq p x hx).1 c1;obtain⟨vs',v1,v2⟩:=Jp hR hi' ha;have FL:=qE hR q.args p (pK st args) _ c1 hp v1 20 σ (by have:=kQ c2;omega);have has:=(v2 14).trans FL;have hcl:((a'++c.args.toList.map (fr.ev E)++b').all (fun x=>aU (er x))||flat (nZ (bX R q.res x)))=true:=by
  rw[qP] at c4⊢;rcases c4 with c4|c4
  ·exact .inl (FK hR c4 ha)
  ·exact .inr (arb (ZX hR _ _ c4))
 exact⟨nZ (bX R q.res x),⟨fun fZ _ _ _ hw h'=>bL.call hw ho fC hf hi has hP hcl h' (agu ho fC hf fZ),fun fZ _ _ _ _ _ hw h'=>iZ.call hw ho fC hf hi has hP hcl h' (agu ho fC hf fZ)⟩,ard (yB hR _ _ c3)⟩
theorem Uj {F:Nat->List (fM R)}(hF:bg E F){f:Nat}{c:Call}{fo:Operand}{o:Oper}{aH:Nat}{a' b':List V}(ho:o.op= .call c)(fC:c.callee= .value fo)(hf:fr.ev E fo= .fn (.func f) a' b')(hi:E.imp f=false){args:List (ak R.T)}(ha:aF R ρ σ.top args (a'++c.args.toList.map (fr.ev E)++b'))(hi':aL ρ b st fr σ){β:Type}{k:ak R.T->Option β}{r:β}:∀{l:List (fM R)},(∀x∈l,x∈F f)->zk k (IZ R args (pK st args) l)=some r->∃v y,k v=some r/\mo E fr σ aH o y σ/\av R ρ σ.top v y
 | [],_,h=>bC|q::l,hl,h=>by
  unfold IZ at h;split at h
  ·rename_i p hp
   cases hb:(q.alt&& (gu q.args&& Nat.ble (kY q.args) 18&& gu q.res&& (wC args||BP q.res)))
   ·rw[hb] at h
    exact Uj hF ho fC hf hi ha hi' (fun x hx=>hl x zZ) h
   ·rw[hb,cond_true] at h
    rw[iP] at hb;unfold zk at h;cases hx:q.F p with
    |none=>rw[hx] at h;exact Uj hF ho fC hf hi ha hi' (fun x hx=>hl x zZ) h
    |some x=>rw[hx] at h;obtain⟨y,h1,h2⟩:=ag3 hR hF ho fC hf hi ha hi' (hl q aC) hp hb.2 hx;exact⟨_,y,h,h1,h2⟩
  ·exact Uj hF ho fC hf hi ha hi' (fun x hx=>hl x zZ) h
theorem ag4 {F:Nat->List (fM R)}(hF:bg E F){f:Nat}{c:Call}{fo:Operand}{o:Oper}{aH:Nat}{a' b':List V}(ho:o.op= .call c)(fC:c.callee= .value fo)(hf:fr.ev E fo= .fn (.func f) a' b')(hi:E.imp f=false){args:List (ak R.T)}(ha:aF R ρ σ.top args (a'++c.args.toList.map (fr.ev E)++b'))(hi':aL ρ b st fr σ):∀{l:List (fM R)}{r:eZ R},(∀x∈l,x∈F f)->findF R args (pK st args) l=some r->sH E st ρ aH fr σ o r
 | [],r,_,h=>bC|q::l,r,hl,h=>by
  unfold findF at h;split at h
  ·rename_i p hp
   cases hal:q.alt
   ·rw[hal,cond_false] at h
    obtain⟨hc,h⟩:=gH h;cases h;intro x hx;exact ag3 hR hF ho fC hf hi ha hi' (hl q aC) hp hc hx
   ·rw[hal,cond_true] at h
    cases h;intro β k r hk;exact Uj hR hF ho fC hf hi ha hi' hl hk
  ·exact ag4 hF ho fC hf hi ha hi' (fun x hx=>hl x zZ) h
omit hR in
theorem ag5 {sz:Nat}{β:Type}{k:ak R.T->Option β}{r:β}{n:Int}:∀(L:List (ak R.T))(l:List V)(i:Nat),Tt sz L=true->aF R ρ top L l->zk k (SX n i L)=some r->
 ∃(x:ak R.T) (y:V) (j:Nat),k x=some r/\n=((i+j:Nat):Int)/\l[j]? =some y/\av R ρ top x (.aI y.cells 0)/\y.cells.length=sz
 | [],l,i,_,_,h=>bC|c::L,l,i,hs,hr,h=>by
  obtain⟨v,vs,rfl,h1,h2⟩:=hr.dW;unfold Tt at hs;rw[iP] at hs;unfold SX zk at h;cases hb:(n==(i:Int))
  ·rw[hb,cond_false] at h
   obtain⟨x,y,j,a,b,c,d,e⟩:=ag5 L vs (i+1) hs.2 h2 h;exact⟨x,y,j+1,a,by rw[b];congr 1;omega,by simpa using c,d,e⟩
  ·rw[hb,cond_true] at h
   have hs1:=hs.1;split at hs1
   ·rename_i cs
    obtain⟨l,rfl,hl⟩:=h1.lT;exact⟨_,.agg l,0,h,Cz,rfl,by unfold av;exact⟨l,rfl,hl⟩,by show l.length=sz;rw[hl.length];exact gG hs1⟩
   ·cases hs1
omit hR in
theorem ag6 {o off sz:Nat}{β:Type}{k:ak R.T->Option β}{r:β}{n:Int}:∀(m:Nat),zk k (SY o off sz n m)=some r->∃j:Nat,j<m/\k (.ref o (off+j*sz))=some r/\n=(j:Int)
 |0,h=>bC|m+1,h=>by
  unfold SY zk at h;cases hb:(n==(m:Int))
  ·rw[hb,cond_false] at h
   obtain⟨j,a,b,c⟩:=ag6 m h;exact⟨j,ah,b,c⟩
  ·rw[hb,cond_true] at h
   exact⟨m,ah,h,Cz⟩
theorem arf {t:TypeId}{x i:ak R.T}{v w:V}{r:eZ R}(h:Zi E R t x i=some r)(hx:av R ρ top x v)(hi:av R ρ top i w):qD ρ top (qU E.P t v w) r:=by
 unfold Zi at h;split at h
 ·rename_i e c u l k n hu
  split at h
  ·rename_i sz hs
   obtain⟨hb,h⟩:=gH h;cases h;have:=gG hb;subst this;obtain⟨c',rfl,_⟩:=hx.lU;rw[hi.kS];intro a ha;refine⟨.aI (aX R u a).cells 0,?_,?_⟩
   ·rw[SE,if_pos (by unfold Aw;rw[hu])]
    have:mW E.P t=some e:=(by unfold mW;rw[hu]);rw[this];simp only[Option.bind_some,hs,ha];rw[if_pos (Jk hR u a).1]
   ·unfold av
    refine⟨_,rfl,(zA ?_ (afS hR u a)).1⟩;cases u<;>rfl
  ·cases h
 ·rename_i e l k n hu
  split at h
  ·rename_i sz hs
   obtain⟨hb,h⟩:=gH h;cases h;obtain⟨c',vs,rfl,hl⟩:=hx.DC;rw[hi.kS];intro β kk r hk;obtain⟨x,y,j,g1,g2,g3,g4,g5⟩:=ag5 l vs 0 hb hl hk;refine⟨x,.aI y.cells 0,g1,?_,g4⟩;have:vs=vs.map id:=aC
   rw[this,SE,if_pos (by unfold Aw;rw[hu])];have:mW E.P t=some e:=by unfold mW;rw[hu]
   rw[this];simp only[Option.bind_some,hs];have e2:aR vs n=some y:=by unfold aR;rw[g2,if_pos ⟨ah,by have:=(oC.1 g3).1;omega⟩];simpa using g3
   rw[e2];simp only[Option.bind_some,id];rw[if_pos g5]
  ·cases h
 ·rename_i n e o off k m hu
  split at h
  ·rename_i sz hs
   cases hfn:afF E e;case true=>
    rw[hfn,cond_true] at h;cases h;obtain⟨s,h1,rfl⟩:=hx.sF;rw[hi.kS];intro β kk r hk;obtain⟨j,g1,g2,g3⟩:=ag6 n hk;refine⟨_,.ref (ρ.aj.lc o) s (off+j*sz),g2,?_,by unfold av;exact⟨s,h1,rfl⟩⟩;unfold qU;rw[hu];dsimp only;rw[hs];have hc':0<=m/\m<n:=ah;subst g3;simp[idx,oF,g1]
   rw[hfn,cond_false] at h;cases h;obtain⟨s,h1,rfl⟩:=hx.sF;rw[hi.kS];intro hc;have hc':0<=m/\m<n:=of_decide_eq_true hc;refine⟨.ref (ρ.aj.lc o) s (off+m.toNat*sz),?_,by unfold av;exact⟨s,h1,rfl⟩⟩;unfold qU;rw[hu];dsimp only;rw[hs];simp[idx,oF,hc']
  ·cases h
 ·rename_i n e cs off k m hu
  split at h
  ·rename_i sz hs
   cases h;obtain⟨l,rfl,h1⟩:=hx.uj;rw[hi.kS];intro hc;have hc':0<=m/\m<n:=of_decide_eq_true hc;refine⟨.aI l (off+m.toNat*sz),?_,by unfold av;exact⟨l,rfl,h1⟩⟩;unfold qU;rw[hu];dsimp only;rw[hs];simp[idx,oF,hc']
  ·cases h
 ·cases h
omit hR in
theorem arh {t:TypeId}{x i:ak R.T}{v w:V}{r:eZ R}(h:Zn E R t x i=some r)(hx:av R ρ top x v)(hi:av R ρ top i w):qD ρ top (He E.P t v w) r:=by
 unfold Zn at h;split at h
 ·rename_i s k n hu
  cases h;rw[hx.rG,hi.kS];intro a ha;refine⟨.int .u8 (a.toNat:Int),?_,jJ⟩;rw[afx (by unfold YR;rw[hu]),ha];rfl
 ·cases h
end
end aY
end
section
namespace aY
open Go
section
variable {R:gY}{E:Env}
variable {ρ:aT}{top:Nat->Nat}{b aH:Nat}{st:aD R.T}{fr:Fr}{σ:au}{o:Oper}
end
section
variable {R:gY}{E:Env}
variable {ρ:aT}{top:Nat->Nat}{b aH:Nat}{st:aD R.T}{fr:Fr}{σ:au}{o:Oper}
theorem ari {x:ak R.T}(h:yc x=true):yc (Dt x)=true:=by cases x<;>first|exact h|rfl
theorem ag7 {top:Nat->Nat}{x:ak R.T}{v:V}(hs:oU (yg x)=true)(h:av R ρ top x v):av R ρ top (yg x) (eD v):=by
 cases x with
 |ay c t l=>obtain⟨c',rfl,hc⟩:=h.lU;unfold yg av;exact⟨.sh,rfl,rfl⟩
 |int k n=>rw[h.kS] at*;exact h|bool b=>rw[h.rF] at*;exact h|ji b=>rw[h.vB] at*;exact h|str s=>rw[h.rG] at*;exact h|agg cs=>obtain⟨l,rfl,hl⟩:=h.lT;exact h
 |bq cs=>obtain⟨l,rfl,hl⟩:=h.Jd;exact h
 |eU k e m=>rw[h.FB] at*;exact h|fn f a b=>obtain⟨a',b',rfl,ha,hb⟩:=h.lg;exact h
 |aI cs off=>obtain⟨l,rfl,hl⟩:=h.uj;exact h
 |sg ss=>rw[h.TM] at*;exact h|cB=>unfold av at h;subst h;unfold yg av;rfl|dF=>unfold av at h;subst h;unfold yg av;rfl|gL=>unfold av at h;subst h;unfold yg av;rfl|iD=>unfold av at h;subst h;unfold yg av;rfl|_=>simp[yg,oU] at hs
theorem ag8 {top:Nat->Nat}:∀{l:List (ak R.T)}{vs:List V},j4 (MO l)=true->aF R ρ top l vs->aF R ρ top (MO l) (vs.map eD)
 | [],vs,_,h=>Ls|x::l,vs,hs,h=>by obtain⟨v,ws,rfl,h1,h2⟩:=h.dW;unfold MO j4 at hs;rw[iP] at hs;exact .cons' (ag7 hs.1 h1) (ag8 hs.2 h2)
theorem arj {top:Nat->Nat}{x:ak R.T}{v:V}(hs:oU (yg x)=true)(hg:yc x=true)(hn:∀cs,x≠ .agg cs)(h:av R ρ top x v):er v=eD v:=by
 cases x with
 |ay c t l=>obtain⟨c',rfl,hc⟩:=h.lU;rfl
 |int k n=>rw[h.kS];rfl|bool b=>rw[h.rF];rfl|ji b=>rw[h.vB];rfl|str s=>rw[h.rG];rfl|agg cs=>exact absurd rfl (hn cs)|bq cs=>obtain⟨l,rfl,hl⟩:=h.Jd;rfl
 |eU k e m=>rw[h.FB];rfl|fn f a b=>obtain⟨a',b',rfl,ha,hb⟩:=h.lg;rfl
 |aI cs off=>obtain⟨l,rfl,hl⟩:=h.uj;rfl
 |sg ss=>cases hg|cB=>unfold av at h;subst h;rfl|dF=>unfold av at h;subst h;rfl|gL=>unfold av at h;subst h;rfl|iD=>unfold av at h;subst h;rfl|_=>simp[yg,oU] at hs
theorem ark {top:Nat->Nat}{x:ak R.T}{v:V}(hs:(oU (Dt x)&& yc x)=true)(h:av R ρ top x v):av R ρ top (Dt x) (er v):=by
 rw[iP] at hs;have key:(∀cs,x≠ .agg cs)->Dt x=yg x:=fun hne=>by cases x<;>first|rfl|exact absurd rfl (hne _)
 cases x with
 |agg cs=>obtain⟨l,rfl,hl⟩:=h.lT;unfold Dt av;exact⟨_,rfl,ag8 (by have:=hs.1;unfold Dt oU at this;exact this) hl⟩
 |sg ss=>cases hs.2|_=>rw[key (fun _ e=>by cases e)] at hs⊢;have h1:=ag7 hs.1 h;rw[arj hs.1 hs.2 (fun _ e=>by cases e) h];exact h1
theorem sH.val {v:Option V}{r:eZ R}(hv:qD ρ σ.top v r)(ho:∀y,v=some y->eP E fr σ aH o=some (y,σ)):sH E st ρ aH fr σ o r:=by
 cases r with
 |t x=>obtain⟨y,e,hr⟩:=hv;exact⟨y,.oM (ho y e),hr⟩
 |c c x=>intro hc;obtain⟨y,e,hr⟩:=hv hc;exact⟨y,.oM (ho y e),hr⟩
 |p α d o' f=>intro a ha;obtain⟨y,e,hr⟩:=hv a ha;exact⟨y,.oM (ho y e),hr⟩
 |alt l=>intro β k r hk;obtain⟨x,y,h1,e,hr⟩:=hv β k r hk;exact⟨x,y,h1,.oM (ho y e),hr⟩
 |w x s=>exact hv.elim|wc c x s=>exact hv.elim
theorem sH.tt {x:ak R.T}{y:V}(ho:eP E fr σ aH o=some (y,σ))(hr:av R ρ σ.top x y):sH E st ρ aH fr σ o (.t x):=⟨y,.oM ho,hr⟩
theorem ag9 {top:Nat->Nat}{x y v:ak R.T}{w:V}(h:I4 true x y=some v)(hx:av R ρ top x w):av R ρ top v w:=by
 unfold I4 at h;split at h<;>try cases h
 ·split at h
  ·cases h;exact hx
  ·cases h
 all_goals first|exact hx| (unfold av at hx⊢;exact hx)
theorem aha {top:Nat->Nat}{x y v:ak R.T}{w:V}(h:I4 false x y=some v)(hx:av R ρ top y w):av R ρ top v w:=by
 unfold I4 at h;split at h<;>try cases h
 ·split at h
  ·rename_i e;subst e;cases h;exact hx
  ·cases h
 all_goals first|exact hx| (unfold av at hx⊢;exact hx)
theorem Jq {c a' b':Operand}{t:Bool}(hop:o.op= .pick c a' b')(hc:fr.ev E c= .bool t):eP E fr σ aH o=some (if t then fr.ev E a' else fr.ev E b',σ):=by simp only[eP,hop,hc,xJ,Option.map_some]
variable (hR:rE R)
include hR
theorem arl {t:TypeId}{m x:ak R.T}{v w:V}{ok:Bool}{r:eZ R}(h:Tk E R t m x ok st=some r)(hm:av R ρ σ.top m v)(hx:av R ρ σ.top x w)(hi:aL ρ b st fr σ):qD ρ σ.top (EJ E.P σ t v w ok) r:=by unfold Tk at h;cases h
theorem ahb {t:TypeId}{m x y:ak R.T}{v w u:V}{r:eZ R}(h:IW E R t m x y st=some r)(hm:av R ρ σ.top m v)(hx:av R ρ σ.top x w)(hy:av R ρ σ.top y u)(hi:aL ρ aH st fr σ)(ho:∀σ',Bz E.P σ t v w u=some σ'->eP E fr σ aH o=some (aK,σ')):sH E st ρ aH fr σ o r:=by
 unfold IW at h;cases h
omit hR in
theorem aL.at (h:aL ρ b st fr σ){d:Nat}(hd:d<F0):(fr.d,d)=ρ.aj.lc d:=by rw[h.d,cu.Dz _ hd]
omit hR in
theorem aL.ahc (h:aL ρ b st fr σ){x:Option Nat}(hd:∀d,x=some d->d<F0):(x.map fun t=>(fr.d,t))=x.map fun t=>ρ.aj.lc t:=by
 cases x with
 |none=>rfl|some d=>exact congrArg some (h.at (hd d rfl))
theorem ahd {d s:Nat}{cs:List (ak R.T)}{l:List V}(hi:aL ρ b st fr σ)(hc:aF R ρ σ.top cs l)(hm:nE d cs=false):aL (ρ.mh d s) b (st.new d (.cells cs)) fr (σ.setObj (ρ.aj.lc d) s (.cells l)):=
 hi.new d s ⟨s,l,uO,Av _ _ _ _,aF.kill d Jh rfl rfl cs l hm hc⟩
theorem arn {g:List (Nat×Bool)}(gV:∀d,o.dst=some d->d<F0)(hg:uo fr g)(hi:aL ρ aH st fr σ){r:eZ R}(h:wE E R g o.dst o.op st=some r):sH E st ρ aH fr σ o r:=by unfold wE at h;cases h
theorem aro {t:TypeId}{x:ak R.T}{v:V}{r:eZ R}(h:Zh E R t x st=some r)(hx:av R ρ σ.top x v)(hi:aL ρ aH st fr σ)(ho:∀y σ',Hg E.P σ t v=some (y,σ')->mo E fr σ aH o y σ'):sH E st ρ aH fr σ o r:=by
 unfold Zh at h;cases h
theorem arp {aj:Bool}{F:Nat->List (fM R)}(hF:bg E F)(bK:ρ.aj.aj=aj)(gV:∀d,o.dst=some d->d<F0){g:List (Nat×Bool)}(hg:uo fr g)(hi:aL ρ aH st fr σ){r:eZ R}(h:wF E R aj F g o.dst o.op st=some r):sH E st ρ aH fr σ o r:=by
 unfold wF at h;split at h
 ·
  rename_i x hop;cases hz:Ak E o.dst
  ·rw[hz] at h;dsimp only[cond_false] at h
   split at h
   ·rename_i v hv;cases h;exact .tt (y:=fr.ev E x) (by simp only[eP,hop,hz,dO,if_false]) (dz hi hg hv)
   ·cases h
  ·rw[hz] at h;dsimp only[cond_true] at h
   split at h
   ·rename_i p t hv
    split at h
    ·rename_i t' l0 hl
     split at h
     ·rename_i l hc
      cases h;obtain⟨e1,e2⟩:=vC hc;subst e1;cases e2;have hO:=hi.ob p _ hl;have hrl:∀ρ',av R ρ' σ.top (.ay .any t' l0) (.ay .sh (l0.map (aX R t'))):=fun ρ'=>by unfold av;exact⟨.sh,rfl,trivial⟩
      rcases (dz (E:=E) hi hg hv).zw with ⟨s,h1,h2⟩| ⟨h1,h2⟩
      ·rcases hO.2 with h3| ⟨s',cs,h3,h4,h5⟩
       ·rw[h1] at h3;exact absurd h3.2 aC
       ·rw[h1] at h3;cases h3
        have hlc:cs.length=l0.length*cK R t':=(by rw[h5.length,DJ]);have hlen:l0.length=ρ.ln p:=hO.1;refine⟨.ay .sh (l0.map (aX R t')),σ.eG (ρ.aj.lc p),ρ,.oM ?_,(hi.del p).le (kD _),rfl,hrl ρ,fun q _=>bB.del hl rfl⟩;simp only[eP,hop,hz,if_true,h2,yS,h4,Option.bind_some,nS,Ag];rw[RG GN,Uf hR l0 cs h5,<-hlen,Ug hR l0,ZO hR l0];rw[if_pos ⟨by rw[hlc];exact RS _,rfl⟩]
      ·have hl0:l0=[]:=lZ (hO.1.trans h1)
       subst hl0;refine⟨.ay .sh [],σ,ρ,.oM ?_,(hi.del' p).le (kD _),rfl,hrl ρ,fun q _=>bB.del' hl rfl⟩;simp only[eP,hop,hz,if_true];rcases h2 with h2|h2<;>rw[h2]<;>rfl
     ·cases h
    ·cases h
   ·rename_i k m hv
    cases h;have hr:=dz (E:=E) hi hg hv;refine .tt (y:=.int k m) ?_ jJ;simp only[eP,hop,hz,if_true,hr.kS,yS]
   ·cases h
 ·rename_i x hop
  split at h
  ·rename_i v hv;cases h;exact .tt (y:=fr.ev E x) (by simp only[eP,hop]) (dz hi hg hv)
  ·cases h
 ·
  rename_i c a' b' hop;split at h
  ·rename_i j
   split at h
   ·rename_i t hc
    have hc':=(dz (E:=E) hi hg hc).rF;split at h
    ·rename_i x y hx hy
     split at h
     ·rename_i v hv
      cases h;refine .tt (Jq hop hc') ?_;rw[MF] at hc';cases t
      ·exact aha hv (dz (E:=E) hi (.cons hc' hg) hy)
      ·exact ag9 hv (dz (E:=E) hi (.cons hc' hg) hx)
     ·cases h
    ·cases h
   ·rename_i t hc
    have hc':=(dz (E:=E) hi hg hc).vB;split at h
    ·rename_i v hv
     cases h;refine .tt (Jq hop hc') ?_;cases t
     ·exact dz (E:=E) hi hg hv
     ·exact dz (E:=E) hi hg hv
    ·cases h
   ·cases h
  ·cases h
 ·
  rename_i t hop;split at h
  ·rename_i d z hd hz
   obtain⟨hc,h⟩:=gH h;cases h;simp only[iP,rU] at hc;obtain⟨v,hv,hr⟩:=agv (ρ:=ρ) (top:=σ.top) hz;have arq:yc z=true:=by
    cases z<;>first|rfl| (have:=hc.1;simp[ak.cells,Dr,Y6] at this)
   obtain⟨hcells,_⟩:=zA arq hr;refine⟨.ref (ρ.aj.lc d) aH 0,_,ρ.mh d aH,.oM (o:=o) ?_,ahd hR (hi.le (kD _)) hcells hc.2,rfl,Rs,fun q hq=>bB.new (fun e=>hq.1 (by rw[hd,e]))⟩;simp only[eP,hop,hd,Option.map_some,Option.bind_some,hv,Nj hc.1 hcells,if_true,hi.at (gV _ hd)]
  ·cases h
 ·
  rename_i t x hop;cases hz:LD E t o.dst with
  |true=>
   rw[hz,cond_true] at h;split at h
   ·rename_i v hv
    obtain⟨hc,h⟩:=gH h;cases h;rw[iP] at hc;have hr:=dz (E:=E) hi hg hv;have hnr:=(zA hc.2 hr).2;have hr2:=ark (by rw[iP];exact hc) hr;obtain⟨hcells,_⟩:=zA (ari hc.2) hr2;refine .tt (y:=.aI (er (fr.ev E x)).cells 0) ?_ ?_
    ·simp only[eP,hop,hz,if_true,Ui hR _ _ hc.1 hr2,hnr,and_self]
    ·unfold av;exact⟨_,rfl,hcells⟩
   ·cases h
  |false=>
  rw[hz,cond_false] at h;split at h
  ·rename_i d v hd hv
   obtain⟨hc,h⟩:=gH h;cases h;simp only[iP,rU] at hc;have hr:=dz (E:=E) hi hg hv;obtain⟨hcells,hnr⟩:=zA hc.1.2 hr;refine⟨.ref (ρ.aj.lc d) aH 0,_,ρ.mh d aH,.oM (o:=o) ?_,ahd hR (hi.le (kD _)) hcells hc.2,rfl,Rs,fun q hq=>bB.new (fun e=>hq.1 (by rw[hd,e]))⟩;simp only[eP,hop,(show LD E t (some d)=false from hd▸hz),dO,if_false,hd,Option.map_some,Option.bind_some,Nj hc.1.1 hcells,hnr,and_self,if_true,hi.at (gV _ hd)]
  ·cases h
 ·
  rename_i t parts hop;split at h
  ·rename_i pl z ps hpl hz hps
   split at h
   ·rename_i cs hcs
    cases h;obtain⟨zv,hzv,ars⟩:=agv (ρ:=ρ) (top:=σ.top) hz;obtain⟨e1,e2⟩:=ZB (E:=E) hi hg hps;have hzc:aF R ρ σ.top z.cells zv.cells:=by
     refine(zA ?_ ars).1;unfold MS at hz;cases z<;>first|rfl|skip
     all_goals
      exfalso;split at hz
      ·split at hz
       ·unfold Iw at hz
        split at hz
        ·split at hz<;>cases hz
        ·unfold Fg at hz;split at hz<;>cases hz
       ·cases hz
      ·cases hz
    obtain⟨l',f1,f2⟩:=agw (qs:=parts.toList.map fun p=>(p.1,fr.ev E p.2)) pl Ro Rc hzc hcs;refine .tt (y:=.agg l') ?_ (by unfold av;exact⟨l',rfl,f2⟩);simp only[eP,hop,hpl,hzv,Option.bind_some];rw[f1];rfl
   ·cases h
  ·cases h
 ·
  rename_i t len parts hop;split at h
  ·rename_i ps hps
   obtain⟨e1,e2⟩:=ZB (E:=E) hi hg hps;cases hz:EL E o.dst
   ·rw[hz,cond_false] at h
    have hb:qD ρ σ.top (CW E t len (parts.toList.map fun p=>(p.1,fr.ev E p.2))) r:=by
     split at h
     ·rename_i r' hr'
      cases h;exact aqH hR (qs:=parts.toList.map fun p=>(p.1,fr.ev E p.2)) hr' Ro Rc
     ·exact aqJ (qs:=parts.toList.map fun p=>(p.1,fr.ev E p.2)) h Ro Rc
    refine .val hb fun y hy=>?_;simp only[eP,hop,hz,dO,if_false];rw[hy];rfl
   ·rw[hz,cond_true] at h
    refine aqY hR (qs:=parts.toList.map fun p=>(p.1,fr.ev E p.2)) h Ro Rc hi rfl fun y σ' hy=>.oM ?_;simp only[eP,hop,hz,if_true];exact hy
  ·cases h
 ·
  rename_i t a hop;split at h
  ·rename_i p off hv
   split at h
   ·rename_i cs hl
    split at h
    ·rename_i v hld
     cases h;obtain⟨s,h1,h2⟩:=(dz (E:=E) hi hg hv).sF;obtain⟨s',l,h3,h4,h5⟩:=hi.rd hl;rw[h1] at h3;cases h3;obtain⟨y,hy,hr⟩:=Cb h5 hld;exact .tt (by simp only[eP,hop,h2,h4,Option.bind_some,hy,Option.map_some]) hr
    ·cases h
   ·cases h
  ·rename_i cs off hv
   split at h
   ·rename_i v hld
    cases h;obtain⟨l,h2,h5⟩:=(dz (E:=E) hi hg hv).uj;obtain⟨y,hy,hr⟩:=Cb h5 hld;exact .tt (by simp only[eP,hop,h2,hy,Option.map_some]) hr
   ·cases h
  ·rename_i p τ i off hv
   split at h
   ·rename_i ob hl
    obtain⟨s,h1,_,h2⟩:=(dz (E:=E) hi hg hv).FC;obtain⟨l,f,rfl,hf⟩:=aqS h (hi.rd hl) h1;intro y hy;obtain⟨cs,w,h3,h4,h5⟩:=hf y hy;exact⟨w,.oM (by simp only[eP,hop,h2,h3,Option.bind_some,h4,Option.map_some]),h5⟩
   ·cases h
  ·cases h
 ·
  rename_i t a x hop;split at h
  ·rename_i p off v hv hx
   split at h
   ·rename_i cs sz hl hsz
    obtain⟨hc,h⟩:=gH h;cases h;simp only[iP] at hc;obtain⟨⟨⟨c1,c2⟩,c3⟩,c4⟩:=hc;obtain⟨s,h1,h2⟩:=(dz (E:=E) hi hg hv).sF;obtain⟨s',l,h3,h4,h5⟩:=hi.ob _ _ hl;rw[h1] at h3;cases h3;obtain⟨h6,h7⟩:=zA c4 (dz (E:=E) hi hg hx);refine⟨aK,_,ρ,.oM (o:=o) ?_,(hi.le (kD _)).set p s ⟨s,_,h1,Av _ _ _ _,ZH off h5 h6⟩,rfl,jJ,fun q _=>bB.set hl rfl⟩;simp only[eP,hop,h2,h4,Option.bind_some];rw[if_pos ⟨by rw[hsz,h6.length,gG c1],by rw[h6.length,h5.length];exact kQ c2,Nj c3 h6⟩]
   ·cases h
  ·cases h
 ·
  rename_i x hop;split at h
  ·rename_i p off hv;cases h
   have hr:=dz (E:=E) hi hg hv;obtain⟨s,h1,h2⟩:=hr.sF;exact .tt (y:=fr.ev E x) Rw hr
  ·rename_i p off hv;cases h
   have hr:=dz (E:=E) hi hg hv;obtain⟨s,h2,h1⟩:=hr.uj;exact .tt (y:=fr.ev E x) Rw hr
  ·rename_i p τ i off hv;cases h
   have hr:=dz (E:=E) hi hg hv;obtain⟨s,h1,_,h2⟩:=hr.FC;exact .tt (y:=fr.ev E x) Rw hr
  ·rename_i f a' b' hv;cases h
   have hr:=dz (E:=E) hi hg hv;obtain⟨a',b',h2,h1⟩:=hr.lg;exact .tt (y:=fr.ev E x) Rw hr
  ·cases h
 ·
  rename_i op t x y t' hop;split at h
  ·rename_i x' y' hx hy
   exact .val (aqy h (dz (E:=E) hi hg hx) (dz (E:=E) hi hg hy)) fun z hz=>Cx
  ·cases h
 ·
  rename_i op t x hop;split at h
  ·rename_i x' hx
   exact .val (aqz h (dz (E:=E) hi hg hx)) fun z hz=>Cx
  ·cases h
 ·
  rename_i a' b' x hop;split at h
  ·rename_i x' hx
   exact .val (aqB (σ:=σ) h (dz (E:=E) hi hg hx)) fun z hz=>Cx
  ·cases h
 ·
  rename_i f a' b' hop;split at h
  ·rename_i xs ys hx hy
   cases h;exact .tt (y:=.fn (.func f) (a'.toList.map (fr.ev E)) (b'.toList.map (fr.ev E))) (by simp only[eP,hop]) (by unfold av;exact⟨_,_,rfl,AQ (E:=E) hi hg hx,AQ (E:=E) hi hg hy⟩)
  ·cases h
 ·
  rename_i t hop;split at h
  ·rename_i d k e hd ht
   split at h
   ·rename_i k' e' hk he
    cases h;refine⟨.dJ (ρ.aj.lc d) aH,_,ρ.mh d aH,.oM (o:=o) ?_,(hi.le (kD _)).new d aH (a:=.map [] []) ⟨aH,uO,map_eq σ (ρ.aj.lc d) aH [] []⟩,rfl,Rs,fun q hq=>bB.new (fun e=>hq.1 (by rw[hd,e]))⟩;simp only[eP,hop,hd,Option.map_some,hi.at (gV _ hd)]
   ·cases h
    refine⟨.dJ (ρ.aj.lc d) aH,_,ρ.mh d aH,.oM (o:=o) ?_,(hi.le (kD _)).new d aH (a:=.map [] []) ⟨aH,[],[],uO,map_eq σ (ρ.aj.lc d) aH [] [],rfl,rfl⟩,rfl,Rs,fun q hq=>bB.new (fun e=>hq.1 (by rw[hd,e]))⟩;simp only[eP,hop,hd,Option.map_some,hi.at (gV _ hd)]
  ·cases h
 ·
  rename_i t l c hop;split at h
  ·rename_i n m hn hm
   refine aqZ hR h (dz (E:=E) hi hg hn) (dz (E:=E) hi hg hm) hi rfl fun y σ' hy=>.oM ?_;have e:(o.dst.map fun t=>(fr.d,t))=o.dst.map fun t=>(ρ.aj.lc t):=hi.ahc gV;simp only[eP,hop];rw[e,hi.aj,bK];exact hy
  ·cases h
 ·
  rename_i t x lo hi' hop;split at h
  ·rename_i x' hx
   have tY:=dz (E:=E) hi hg hx;split at h
   ·exact .val (Ue hR (σ:=σ) (vl:=none) (vh:=none) h tY hi (fun y hy=>by cases hy) (fun _=>rfl) (fun y hy=>by cases hy) (fun _=>rfl)) fun z hz=>Rb
   ·rename_i lo
    split at h
    ·rename_i l hl
     exact .val (Ue hR (σ:=σ) (vl:=some (fr.ev E lo)) (vh:=none) h tY hi (fun y hy=>by cases hy;exact⟨_,rfl,dz (E:=E) hi hg hl⟩) (fun h=>bC) (fun y hy=>by cases hy) (fun _=>rfl)) fun z hz=>Rb
    ·cases h
   ·rename_i hi2
    split at h
    ·rename_i l hl
     exact .val (Ue hR (σ:=σ) (vl:=none) (vh:=some (fr.ev E hi2)) h tY hi (fun y hy=>by cases hy) (fun _=>rfl) (fun y hy=>by cases hy;exact⟨_,rfl,dz (E:=E) hi hg hl⟩) (fun h=>bC)) fun z hz=>Rb
    ·cases h
   ·rename_i lo hi2
    split at h
    ·rename_i l l2 hl hl2
     exact .val (Ue hR (σ:=σ) (vl:=some (fr.ev E lo)) (vh:=some (fr.ev E hi2)) h tY hi (fun y hy=>by cases hy;exact⟨_,rfl,dz (E:=E) hi hg hl⟩) (fun h=>bC) (fun y hy=>by cases hy;exact⟨_,rfl,dz (E:=E) hi hg hl2⟩) (fun h=>bC)) fun z hz=>Rb
    ·cases h
  ·cases h
 ·
  rename_i t x f hop;split at h
  ·rename_i x' hx
   have tY:=dz (E:=E) hi hg hx;split at h
   ·rename_i v hv
    cases h;unfold afB at hv;split at hv
    ·rename_i p u hf
     split at hv
     ·rename_i q off
      cases hv;obtain⟨s,h1,h2⟩:=tY.sF;exact .tt (y:=.ref (ρ.aj.lc q) s (off+p)) (by simp only[eP,hop,hf,Option.bind_some,h2]) (by unfold av;exact⟨s,h1,rfl⟩)
     ·rename_i q off
      cases hv;obtain⟨l,h2,h1⟩:=tY.uj;exact .tt (y:=.aI l (off+p)) (by simp only[eP,hop,hf,Option.bind_some,h2]) (by unfold av;exact⟨l,rfl,h1⟩)
     ·rename_i q τ i off
      cases hv;obtain⟨s,h1,h3,h2⟩:=tY.FC;exact .tt (y:=.ref (ρ.aj.lc q) s (i.toNat*cK R τ+off+p)) (by simp only[eP,hop,hf,Option.bind_some,h2]) (by unfold av;exact⟨s,h1,h3,by rw[uP]⟩)
     ·cases hv
    ·cases hv
   ·cases h
  ·cases h
 ·
  rename_i t x f hop;split at h
  ·rename_i p u cs hf hx
   split at h
   ·rename_i v hv
    cases h;obtain⟨l,h1,h2⟩:=(dz (E:=E) hi hg hx).lT;obtain⟨y,hy,hr⟩:=Cb h2 hv;exact .tt (by simp only[eP,hop,hf,Option.bind_some,h1,hy,Option.map_some]) hr
   ·cases h
  ·cases h
 ·
  rename_i t x i hop;split at h
  ·rename_i p τ y' hx hy
   exact .val (aq3 hR (aj:=false) h (dz (E:=E) hi hg hx) (dz (E:=E) hi hg hy) hi) fun z hz=>Cx
  ·rename_i p τ a c y' hx hy
   exact .val (aq2 hR h (dz (E:=E) hi hg hx) (dz (E:=E) hi hg hy) hi) fun z hz=>Cx
  ·rename_i x' y' _ _ hx hy
   exact .val (arf hR h (dz (E:=E) hi hg hx) (dz (E:=E) hi hg hy)) fun z hz=>Cx
  ·cases h
 ·
  rename_i t x i hop;split at h
  ·rename_i x' y' hx hy
   exact .val (arh h (dz (E:=E) hi hg hx) (dz (E:=E) hi hg hy)) fun z hz=>Cx
  ·cases h
 ·
  rename_i t x i ok hop;split at h
  ·rename_i x' y' hx hy
   exact .val (arl hR h (dz (E:=E) hi hg hx) (dz (E:=E) hi hg hy) hi) fun z hz=>Cx
  ·cases h
 ·
  rename_i t m k v hop;split at h
  ·rename_i m' k' v' hm hk hv
   exact ahb hR h (dz (E:=E) hi hg hm) (dz (E:=E) hi hg hk) (dz (E:=E) hi hg hv) hi fun σ' hs=>by simp only[eP,hop,hs,Option.map_some]
  ·cases h
 ·rename_i t m k v hop
  split at h
  ·rename_i m' k' v' hm hk hv
   exact ahb hR h (dz (E:=E) hi hg hm) (dz (E:=E) hi hg hk) (dz (E:=E) hi hg hv) hi fun σ' hs=>by simp only[eP,hop,hs,Option.map_some]
  ·cases h
 ·
  rename_i x i hop;split at h
  ·rename_i vs hv
   split at h
   ·rename_i v hx
    cases h;obtain⟨l,h1,h2⟩:=(dz (E:=E) hi hg hv).Jd;obtain⟨y,hy,hr⟩:=h2.get hx;exact .tt (by simp only[eP,hop,h1,hy,Option.map_some]) hr
   ·cases h
  ·cases h
 ·
  rename_i c hop;split at h
  ·rename_i bi fC
   split at h
   ·rename_i vs hvs
    have hrs:=AQ (E:=E) hi hg hvs;have step:∀y σ',qg E fr.aj (o.dst.map fun t=>(fr.d,E.cn t)) σ aH bi c.argTypes (c.args.toList.map (fr.ev E))=some (y,σ')->mo E fr σ aH o y σ':=fun y σ' hb=>.of fun S=>by simp only[opC,hop,fC,hb,Option.map_some]
    unfold blt at h;split at h
    ·rename_i x
     split at h
     ·rename_i t ht
      split at h
      ·rename_i n hn
       cases h;obtain⟨v,l,e,h1,h2⟩:=hrs.dW;rw[h2.iJ] at e;refine⟨_,step _ σ ?_,jJ⟩;rw[e];simp only[qg,ht,Option.bind_some,aqM hn h1 hi,Option.map_some]
      ·cases h
     ·cases h
    ·rename_i x y
     split at h
     ·rename_i t u ht hu
      obtain⟨v,l,e,h1,h2⟩:=hrs.dW;obtain⟨w,l',e',h3,h4⟩:=h2.dW;subst e';rw[h4.iJ] at e;have e0:(o.dst.map fun t=>(fr.d,t))=o.dst.map fun t=>(ρ.aj.lc t):=hi.ahc gV;have fin:IX E u=true->∀z σ',mI E.P aj false σ aH (o.dst.map fun t=>(fr.d,E.cn t)) t v w=some (z,σ')->mo E fr σ aH o z σ':=fun hss z σ' hz=>step z σ' (by
       rw[e];unfold IX at hss;simp only[qg,ht,hu,Option.bind_some,hi.aj,bK];split at hss
       ·rename_i hu';rw[hu'];simp only[hz,Option.bind_some]
       ·rename_i hu';rw[hu'];simp only[hz,Option.bind_some]
       ·cases hss)
      cases Np:aj
      ·rw[Np] at h fin
       have h':ug E R o.dst t u x y st=some r:=h;have hss:IX E u=true:=by
        unfold ug at h';split at h'
        ·split at h'
         ·exact(gH h').1
         ·cases h'
        ·cases h'
       exact aqL hR (loc:=o.dst.map fun t=>(fr.d,E.cn t)) h' h1 h3 hi (fin hss)
      ·rw[Np] at h fin
       have ahe:∀{y r},Fq E R o.dst t u x y st=some r->IX E u=true:=by
        intro y r h';unfold Fq at h';split at h'
        ·rename_i d' _
         cases hbl:Nat.ble F0 (E.cn d') with
         |true=>rw[hbl] at h';cases h'|false=>
          rw[hbl,cond_false] at h';split at h'
          ·exact(gH h').1
          ·cases h'
        ·cases h'
       have h0:(match Fq E R o.dst t u x y st with
        |some r=>some r|none=>MW E R o.dst t u x y st)=some r:=h
       split at h0
       ·rename_i r' h'
        cases h0;exact agO hR h' h1 h3 hi rfl (fin (ahe h'))
       ·refine aq6 hR h0 h1 h3 hi rfl (fin ?_)
        unfold MW at h0;split at h0
        ·split at h0
         ·split at h0
          ·split at h0
           ·split at h0
            ·exact ahe h0
            ·cases h0
           ·cases h0
          ·cases h0
         ·cases h0
        ·cases h0
     ·cases h
    ·rename_i x
     split at h
     ·rename_i t ht
      obtain⟨v,l,e,h1,h2⟩:=hrs.dW;rw[h2.iJ] at e;exact aro hR h h1 hi fun y σ' hy=>step y σ' (by rw[e];simp only[qg,ht,Option.bind_some,hy])
     ·cases h
    ·rename_i x l
     split at h
     ·rename_i v hv
      cases h;obtain⟨y,ys,e,h1,h2⟩:=hrs.dW;obtain⟨w,hw,hr⟩:=ZK false hv h1 h2;refine⟨w,step w σ ?_,hr⟩;rw[e];simp only[qg,hw,Option.map_some]
     ·cases h
    ·rename_i x l
     split at h
     ·rename_i v hv
      cases h;obtain⟨y,ys,e,h1,h2⟩:=hrs.dW;obtain⟨w,hw,hr⟩:=ZK true hv h1 h2;refine⟨w,step w σ ?_,hr⟩;rw[e];simp only[qg,hw,Option.map_some]
     ·cases h
    ·cases h
   ·cases h
  ·rename_i f fC
   split at h
   ·rename_i f' a' b' vs hf hvs
    cases himp:E.imp f' with
    |true=>rw[himp] at h;cases h|false=>rw[himp,cond_false] at h;obtain⟨va,vb,h1,h2,h3⟩:=(dz (E:=E) hi hg hf).lg;exact ag4 hR hF hop fC h1 himp ((h2.append (AQ (E:=E) hi hg hvs)).append h3) hi (fun _ hx=>hx) h
   ·cases h
  ·cases h
 ·cases h
theorem zB {aj:Bool}{F:Nat->List (fM R)}(hF:bg E F)(bK:ρ.aj.aj=aj)(gV:∀d,o.dst=some d->d<F0){g:List (Nat×Bool)}(hg:uo fr g)(hi:aL ρ aH st fr σ){r:eZ R}(h:AB E R aj F g o.dst o.op st=some r):sH E st ρ aH fr σ o r:=by
 unfold AB at h;split at h
 ·rename_i r' hx;cases h;exact arn hR gV hg hi hx
 ·exact arp hR hF bK gV hg hi h
end
end aY
end
