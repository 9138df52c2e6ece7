import Derived.Test.YteniejlbjfigdaaGreatDoorF509
set_option linter.all false
section
namespace aR
open Go
section
variable {R:kE}{E:Env}
variable {C:bA}{top:Nat->Nat}{b:Nat}{st:aM R.T}{fr:Fr}{Z:ah}
theorem XF {n:Nat}{f:Nat}(a b:List V):bg (n+2) Z (.fn (.func f) a b)=(a.mapM (bg (n+1) Z)).bind fun a=>(b.mapM (bg (n+1) Z)).map fun b=>.fn (.func f) a b:=by
 by_cases hp:aQ (.fn (.func f) a b)=true
 .rw[ni hp];have:∀cs:List V,bQ cs=true->cs.mapM (bg (n+1) Z)=some cs:=by
   intro cs;induction cs with
   |nil=>intro _;rfl|cons a l ih=>intro h;simp only[bQ,aZ] at h;rw[iG,ni h.1,ih h.2];rfl
  simp only[aQ,aZ] at hp;rw[this a hp.1,this b hp.2];rfl
 .conv=>lhs;unfold bg
  simp only[hp,if_false,bZ]
theorem agH {n:Nat}{off:Nat}(cs:List V):bg (n+2) Z (.aX cs off)=(cs.mapM (bg (n+1) Z)).map (.aX · off):=by
 by_cases hp:aQ (.aX cs off)=true
 .rw[ni hp];have:∀cs:List V,bQ cs=true->cs.mapM (bg (n+1) Z)=some cs:=by
   intro cs;induction cs with
   |nil=>intro _;rfl|cons a l ih=>intro h;simp only[bQ,aZ] at h;rw[iG,ni h.1,ih h.2];rfl
  rw[this cs Bw];rfl
 .conv=>lhs;unfold bg
  simp only[hp,if_false,bZ]
variable (hR:rG R)
include hR
theorem XG {k e:Ty}(m:List (Den R.T k×Den R.T e)):aQ (.eF (m.map fun p=>aO R k p.1) (m.map fun p=>aO R e p.2))=true:=by
 simp only[aQ,aZ];have h1:∀m:List (Den R.T k×Den R.T e),bQ (m.map fun p=>aO R k p.1)=true/\bQ (m.map fun p=>aO R e p.2)=true:=by
  intro m;induction m with
  |nil=>exact⟨rfl,rfl⟩|cons p m ih=>exact⟨by simp[bQ,qN hR,ih.1],by simp[bQ,qN hR,ih.2]⟩
 exact h1 m
theorem agI:∀(t:Ty)(x:Den R.T t)(v:V),pQ t=true->aA R C top (Ar R .any t x) v->∀n Z,bg (n+2) Z v=some (aO R t x)
 |.int k,x,v,_,h,n,Z=>by rw[aA.iO (R:=R) h];exact Wh (n+1) _ _|.bool,x,v,_,h,n,Z=>by rw[aA.rH (R:=R) h];exact Wi (n+1) _|.str,x,v,_,h,n,Z=>by rw[aA.oN (R:=R) h];exact Wj (n+1) _|.slice t,x,v,_,h,n,Z=>by obtain⟨c,rfl,_⟩:=aA.mo (R:=R) h;exact x9 _ _ (qN hR _)
 |.st n,_,_,h,_,_,_=>by simp[pQ] at h
theorem II:∀(l:List Ty)(p:qj R.T l)(vs:List V),l.all pQ=true->aF R C top (l9 R .any l p) vs->∀n Z,vs.mapM (bg (n+2) Z)=some (encs R l p)
 | [],_,vs,_,h,n,Z=>by rw[aF.iL h];rfl| [t],x,vs,hl,h,n,Z=>by obtain⟨v,l,rfl,h1,h2⟩:=aF.fB h;rw[aF.iL h2,iG,agI hR t x v xH h1];rfl
 |t::u::l,p,vs,hl,h,n,Z=>by rw[List.all_cons,aZ] at hl;obtain⟨v,ws,rfl,h1,h2⟩:=aF.fB h;rw[iG,agI hR t p.1 v hl.1 h1,II (u::l) p.2 ws hl.2 h2];rfl
theorem arj (t:Ty)(x:Den R.T t)(vs:List V)(h:aF R C top (iI R .any t x).cells vs)(n:Nat)(Z:ah):vs.mapM (bg (n+2) Z)=some (aO R t x).cells:=by
 cases t with
 |st k=>have he:aO R (.st k) x= .agg (encs R (R.lf k) (R.of k x)):=hR.enc k x;rw[he];exact II hR _ _ vs (hR.leaf k) h n Z|int k=>exact II hR [.int k] x vs rfl h n Z|bool=>exact II hR [.bool] x vs rfl h n Z|str=>exact II hR [.str] x vs rfl h n Z|slice t=>exact II hR [.slice t] x vs rfl h n Z
theorem XH {t:Ty}{C:bA}{top:Nat->Nat}:∀(l:List (Den R.T t))(cs:List V),aF R C top (l.flatMap fun x=>(iI R .any t x).cells) cs->∀(n:Nat)(Z:ah),cs.mapM (bg (n+2) Z)=some ((l.map (aO R t)).flatMap V.cells)
 | [],cs,h,n,Z=>by rw[aF.iL h];rfl|x::l,cs,h,n,Z=>by rw[lY] at h;obtain⟨a,b,rfl,h1,h2⟩:=h.split;rw[List.mapM_append,XH l b h2 n Z,iA,lY];have:a.mapM (bg (n+2) Z)=some (aO R t x).cells:=arj hR t x a h1 n Z;rw[this];rfl
omit hR in
theorem agJ:∀(t:Ty)(x:Den R.T t)(v:V),pQ t=true->aA R C top (Ar R .any t x) v->gu v=aO R t x
 |.int k,x,v,_,h=>by rw[aA.iO (R:=R) h];rfl|.bool,x,v,_,h=>by rw[aA.rH (R:=R) h];rfl|.str,x,v,_,h=>by rw[aA.oN (R:=R) h];rfl|.slice t,x,v,_,h=>by obtain⟨c,rfl,_⟩:=aA.mo (R:=R) h;rfl
 |.st n,_,_,h,_=>by simp[pQ] at h
omit hR in
theorem IJ:∀(l:List Ty)(p:qj R.T l)(vs:List V),l.all pQ=true->aF R C top (l9 R .any l p) vs->vs.map gu=encs R l p
 | [],_,vs,_,h=>by rw[aF.iL h];rfl| [t],x,vs,hl,h=>by obtain⟨v,l,rfl,h1,h2⟩:=aF.fB h;rw[aF.iL h2,iA,agJ t x v xH h1];rfl
 |t::u::l,p,vs,hl,h=>by rw[List.all_cons,aZ] at hl;obtain⟨v,ws,rfl,h1,h2⟩:=aF.fB h;rw[iA,agJ t p.1 v hl.1 h1,IJ (u::l) p.2 ws hl.2 h2];rfl
theorem ark (t:Ty)(x:Den R.T t)(vs:List V)(h:aF R C top (iI R .any t x).cells vs):vs.map gu=(aO R t x).cells:=by
 cases t with
 |st k=>have he:aO R (.st k) x= .agg (encs R (R.lf k) (R.of k x)):=hR.enc k x;rw[he];exact IJ _ _ vs (hR.leaf k) h|int k=>exact IJ [.int k] x vs rfl h|bool=>exact IJ [.bool] x vs rfl h|str=>exact IJ [.str] x vs rfl h|slice t=>exact IJ [.slice t] x vs rfl h
theorem agK {t:Ty}{C:bA}{top:Nat->Nat}:∀(l:List (Den R.T t))(cs:List V),aF R C top (l.flatMap fun x=>(iI R .any t x).cells) cs->cs.map gu=(l.map (aO R t)).flatMap V.cells
 | [],cs,h=>by rw[aF.iL h];rfl|x::l,cs,h=>by rw[lY] at h;obtain⟨a,b,rfl,h1,h2⟩:=h.split;rw[pF,agK l b h2,iA,lY,ark hR t x a h1]
theorem XI {t:Ty}(l:List (Den R.T t)):chunks (jC t) (dB R t) l.length ((l.map (aO R t)).flatMap V.cells)=l.map (aO R t):=by
 have:=Xz (jC t) (dB R t) (l.map (aO R t)) (fun v hv=>by obtain⟨x,_,rfl⟩:=tH.1 hv;exact(IC hR t x).1);rw[eU] at this;rw[this,yT];refine BI fun x _=>?_;show (if jC t then V.agg (aO R t x).cells else (aO R t x).cells.headD aJ)=aO R t x;cases hs:jC t
 .cases t<;>first|rfl| (simp[jC] at hs;done)
 .obtain⟨c,hc⟩:=(IC hR t x).2.2.2.1 hs;rw[hc];rfl
theorem XJ {t:Ty}(l:List (Den R.T t)):(jC t||dB R t==1&& bY ((l.map (aO R t)).flatMap V.cells))=true:=by
 cases hs:jC t
 .have h1:dB R t=1:=by cases t<;>first|rfl| (simp[jC] at hs;done)
  rw[h1];have:bY ((l.map (aO R t)).flatMap V.cells)=true:=by have:=XB hR l;unfold bY at this⊢;rw[List.all_flatMap];exact this
  rw[this];rfl
 .rfl
omit hR in
theorem agL:∀(a b:List V),bQ (a++b)=(bQ a&& bQ b)
 | [],b=>by simp[bQ]|x::a,b=>by simp only[List.cons_append,bQ];rw[agL a b,Bool.and_assoc]
omit hR in
theorem R3 (k:IntKind):∀l:List Int,bQ (l.map (V.int k))=true
 | []=>by simp[bQ]|x::l=>by simp only[iA,bQ,Wm,Bool.true_and];exact R3 k l
omit hR in
theorem XK:∀ss:List bS,bQ (dN ss)=true
 | []=>by simp[dN,bQ]|.i k x::ss=>by show bQ (V.int k x::dN ss)=true;unfold bQ;rw[XK ss];simp[aQ]|.a k n v::ss=>by show bQ (v.l.map (V.int k)++dN ss)=true;rw[agL,R3,XK ss];rfl
omit hR in
theorem XL (ss:List bS):aQ (.agg (dN ss))=true:=by unfold aQ;exact XK ss
omit hR in
theorem agM:∀(a b:List V),kW (a++b)=(kW a&& kW b)
 | [],b=>by simp[kW]|x::a,b=>by simp only[List.cons_append,kW];rw[agM a b,Bool.and_assoc]
omit hR in
theorem agN (k:IntKind):∀l:List Int,kW (l.map (V.int k))=true
 | []=>by simp[kW]|x::l=>by simp only[iA,kW,flat,Bool.true_and];exact agN k l
omit hR in
theorem R4:∀ss:List bS,kW (dN ss)=true
 | []=>by simp[dN,kW]|.i k x::ss=>by show kW (V.int k x::dN ss)=true;unfold kW;rw[R4 ss];simp[flat]|.a k n v::ss=>by show kW (v.l.map (V.int k)++dN ss)=true;rw[agM,agN,R4 ss];rfl
omit hR in
theorem arl (ss:List bS):er (.agg (dN ss))= .agg (dN ss):=by
 have:∀ss:List bS,(dN ss).map gu=dN ss:=by
  intro ss;induction ss with
  |nil=>rfl|cons s ss ih=>
   cases s with
   |i k x=>show gu (.int k x)::(dN ss).map gu=_;rw[ih];rfl|a k n v=>show (v.l.map (V.int k)++dN ss).map gu=_;rw[pF,ih,yT];rfl
 show V.agg ((dN ss).map gu)=_;rw[this]
omit hR in
theorem uz:∀(a b:List bS),dN (a++b)=dN a++dN b
 | [],b=>rfl|s::a,b=>by show s.vs++dN (a++b)=s.vs++dN a++dN b;rw[uz a b,eZ]
omit hR in
theorem bS.len:∀s:bS,s.vs.length=s.w
 |.i _ _=>rfl|.a _ n v=>by show (v.l.map _).length=n;rw[eU,v.h]
omit hR in
theorem jL:∀ss:List bS,(dN ss).length=kR ss
 | []=>rfl|s::ss=>by show (s.vs++dN ss).length=s.w+kR ss;rw[iP,s.len,jL ss]
omit hR in
theorem yB:∀{ss:List bS}{n:Nat}{a b:List bS},sG ss n=some (a,b)->ss=a++b/\kR a=n
 |ss,0,a,b,h=>by
  have h':some (([]:List bS),ss)=some (a,b):=by cases ss<;>exact h
  cases h';exact⟨rfl,rfl⟩
 | [],n+1,a,b,h=>bU|s::ss,n+1,a,b,h=>by
  unfold sG at h;obtain⟨h1,h⟩:=fI h;split at h
  .rename_i a' b' h2;cases h;obtain⟨e,hw⟩:=yB h2;have:=nY h1;refine⟨by rw[e];rfl,?_⟩;show s.w+kR a'=n+1;omega
  .cases h
omit hR in
theorem R5 {C:bA}{top:Nat->Nat}{k:IntKind}:∀{cs:List (au R.T)}{xs:List Int}{vs:List V},Cm k cs=some xs->aF R C top cs vs->vs=xs.map (V.int k)
 | [],xs,vs,h,hr=>by cases h;exact hr.iL|c::cs,xs,vs,h,hr=>by
  obtain⟨v,ws,rfl,h1,h2⟩:=hr.fB;cases c<;>first| (exact absurd (show none=some xs from h) aB)|skip
  rename_i k' x;have h':(if k'=k then (match Cm k cs with
   |some xs=>some (x::xs)|none=>none) else none)=some xs:=h
  split at h'
  .rename_i e;subst e;split at h'
   .rename_i ys hy;cases h';rw[h1.iO,R5 hy h2];rfl
   .cases h'
  .cases h'
omit hR in
theorem XM (k:IntKind):∀(l:List Int)(rest:List V),chunks false 1 l.length (l.map (V.int k)++rest)=l.map (V.int k)
 | [],rest=>rfl|x::l,rest=>by show V.int k x::chunks false 1 l.length (l.map (V.int k)++rest)=_;rw[XM k l rest];rfl
omit hR in
theorem Fe {n:Nat}{lo hi:Option Int}(h:qK n lo hi=true):(fG lo).toNat<=(iX n hi).toNat/\(iX n hi).toNat<=n/\((fG lo).toNat< (iX n hi).toNat\/(fG lo).toNat=0)/\0<=fG lo/\fG lo<=iX n hi:=by
 cases lo<;>cases hi<;>simp only[qK,fG,iX,decide_eq_true_eq] at h⊢ <;>omega
omit hR in
theorem arn {J:Type}{n:Nat}{lo hi:Option Int}(h:qK n lo hi=true){l:List J}(hl:l.length=n):Hw l lo hi=(l.drop (fG lo).toNat).take ((iX n hi).toNat-(fG lo).toNat):=by
 obtain⟨h1,h2,_⟩:=Fe h;cases lo<;>cases hi<;>simp only[Hw,fG,iX] at*
 .simp[hl];rw[qZ RS]
 .simp
 .rw[qZ];rw[nV];omega
 .rw[List.take_drop];congr 1;congr 1;omega
theorem agO (hi:aT C b st fr Z){o off n:Nat}{k:IntKind}{lo hi':Option Int}{l:List Int}(h:Rb st o off k n lo hi'=some l){s:Nat}(hs:C.ob o=some s)(hB:qK n lo hi'=true):
 ∃cs,Z.dK (C.aj.lc o) s=some cs/\off+n<=cs.length/\(cs.drop (off+(fG lo).toNat)).take ((iX n hi').toNat-(fG lo).toNat)=l.map (V.int k)/\l.length=(iX n hi').toNat-(fG lo).toNat:=by
 obtain⟨p1,p2,p3,_,_⟩:=Fe hB;have fin:∀(cs:List V)(xs:List Int),xs.length=n->(cs.drop off).take n=xs.map (V.int k)->off+n<=cs.length->l=Hw xs lo hi'->(cs.drop (off+(fG lo).toNat)).take ((iX n hi').toNat-(fG lo).toNat)=l.map (V.int k)/\l.length=(iX n hi').toNat-(fG lo).toNat:=by
  intro cs xs hx hc hle hl;rw[arn hB hx] at hl;subst hl;constructor
  .rw[List.map_take,List.map_drop,<-hc,List.drop_take,List.take_take,List.drop_drop];congr 1;omega
  .rw[jV,nV];omega
 unfold Rb at h;split at h
 .rename_i ss hl;obtain⟨s',h1,h2⟩:=hi.rd hl;rw[hs] at h1;cases h1;split at h
  .rename_i pre k' n' v post hsp;by_cases e:k'=k
   .subst e;rw[if_pos rfl] at h;cases e2:Nat.beq n' n
    .rw[e2] at h;cases h
    rw[e2] at h;have e2:=fH e2;subst e2;obtain rfl:Hw v.l lo hi'=l:=jW h;obtain⟨e3,hw⟩:=yB hsp;refine⟨_,h2,?_,?_⟩
    .rw[e3,jL];have:∀a b:List bS,kR (a++b)=kR a+kR b:=fun a b=>by rw[<-jL,uz,iP,jL,jL]
     rw[this,hw];show off+n'<=off+(n'+kR post);omega
    .refine fin _ v.l v.h ?_ ?_ rfl
     .rw[e3,uz,KX (by rw[jL,hw];exact mF _),Gm (by rw[jL,hw];exact mF _),List.nil_append];show ((v.l.map (V.int k'))++dN post).take n'=_;rw[Ej (by rw[eU,v.h];exact mF _),qZ (by rw[eU,v.h];exact mF _)]
     .rw[e3,uz,iP,jL,hw,jL];show off+n'<=off+(n'+kR post);omega
   .rw[if_neg e] at h;cases h
  .cases h
 .rename_i cs hl;obtain⟨s',vs,h1,h2,h3⟩:=hi.rd hl;rw[hs] at h1;cases h1;obtain⟨hb,h⟩:=fI h;have hb:=nY hb;split at h
  .rename_i xs hx;cases h;have hv:=R5 hx ((h3.drop off).take n);have hlen:off+n<=vs.length:=by rw[h3.length];exact hb
   refine⟨vs,h2,hlen,fin vs xs ?_ hv hlen rfl⟩;have:=congrArg List.length hv;rw[eU,jV,nV] at this;omega
  .cases h
 .cases h
theorem agP (hi:aT C b st fr Z){x:au R.T}{v:V}(h:aA R C Z.top x v):∃v',aA R C Z.top (yg st x) v'/\∀n,bg (n+3) Z v=bg (n+3) Z v':=by
 by_cases hx:∃o off,x= .ref o off
 .obtain⟨o,off,rfl⟩:=hx;unfold yg;dsimp only;split
  .rename_i cs hl;obtain⟨s,h1,rfl⟩:=h.rJ;obtain⟨s',l,h2,h3,h4⟩:=hi.rd hl;rw[h1] at h2;cases h2;refine⟨.aX l off,by unfold aA;exact⟨l,rfl,h4⟩,fun n=>?_⟩;rw[agH]
   conv=>lhs;unfold bg
   simp only[aQ,bZ,if_false,h3,Option.bind_some]
  .exact⟨v,h,fun _=>rfl⟩
 .by_cases hy:∃o,x= .dQ o
  .obtain⟨o,rfl⟩:=hy;unfold yg;dsimp only;split
   .rename_i k e m hl;obtain⟨s,h1,rfl⟩:=h.AB;obtain⟨s',h2,h3⟩:=hi.rd hl;rw[h1] at h2;cases h2;refine⟨.eF (m.map fun p=>aO R k p.1) (m.map fun p=>aO R e p.2),fV,fun n=>?_⟩;have hp:=XG hR m;rw[ni hp];have hp':=hp;simp only[aQ,aZ] at hp';have key:∀cs:List V,bQ cs=true->cs.mapM (bg (n+2) Z)=some cs:=by
     intro cs;induction cs with
     |nil=>intro _;rfl|cons a l ih=>intro h;simp only[bQ,aZ] at h;rw[iG,ni h.1,ih h.2];rfl
    conv=>lhs;unfold bg
    simp only[aQ,bZ,if_false,h3,Option.bind_some,key _ hp'.1,key _ hp'.2,Option.map_some]
   .exact⟨v,h,fun _=>rfl⟩
  .by_cases hz:∃o t,x= .aU o t
   .obtain⟨o,t,rfl⟩:=hz;unfold yg;dsimp only;split
    .rename_i t' l hl;split
     .rename_i e;subst e;have hO:=hi.rd hl;refine⟨.ak .sh (l.map (aO R t')),by unfold aA;exact⟨.sh,rfl,rfl⟩,fun n=>?_⟩;rw[x9 _ _ (qN hR t')];rcases h.AJ with ⟨s,h1,rfl⟩| ⟨h1,h2⟩
      .rcases hO.2 with h2| ⟨s',cs,h2,h3,h4⟩
       .rw[h1] at h2;exact absurd h2.2 aB
       .rw[h1] at h2;cases h2;have hlc:cs.length=l.length*dB R t':=(by rw[h4.length,E9]);have hlen:l.length=C.ln o:=hO.1
        conv=>lhs;unfold bg
        simp only[aQ,bZ,if_false,h3,Option.bind_some,nX,qC];rw[if_pos Gc,qZ Gc,XH hR l cs h4 n Z];simp only[Option.bind_some];rw[<-hlen,XI hR l,XJ hR l,if_pos rfl];rfl
      .have hl0:l=[]:=lF (hO.1.trans h1);subst hl0;rcases h2 with rfl|rfl<;>exact x9 _ ([]:List (Den R.T t')) (qN hR t')
     .exact⟨v,h,fun _=>rfl⟩
    .exact⟨v,h,fun _=>rfl⟩
   .by_cases hz2:∃o off k n lo hi,x= .sv o off k n lo hi
    .obtain⟨o,off,k,n,lo,hi',rfl⟩:=hz2;unfold yg;dsimp only;split
     .rename_i l hl;obtain⟨s,h1,hB,rfl⟩:=h.CF;obtain⟨cs,c1,c2,c3,c4⟩:=agO hR hi hl h1 hB;obtain⟨p1,p2,p3,_,_⟩:=Fe hB;refine⟨.ak .sh (l.map (V.int k)),by unfold aA;exact⟨.sh,rfl,rfl⟩,fun m=>?_⟩;have hcl:bg (m+3) Z (.ak .sh (l.map (V.int k)))=some (.ak .sh (l.map (V.int k))):=ni (by unfold aQ;exact R3 k l);rw[hcl]
      conv=>lhs;unfold bg
      simp only[aQ,bZ,if_false,c1,Option.bind_some,Nat.mul_one];rw[if_pos RS,c3];have key:∀cs:List V,bQ cs=true->cs.mapM (bg (m+2) Z)=some cs:=by
       intro cs;induction cs with
       |nil=>intro _;rfl|cons a l ih=>intro h;simp only[bQ,aZ] at h;rw[iG,ni h.1,ih h.2];rfl
      rw[key _ (R3 k l)];simp only[Option.bind_some];have hone:bY (l.map (V.int k))=true:=(by unfold bY;rw[List.all_map];simp[oneCell]);rw[hone,<-c4];have:=XM k l [];rw[iV] at this;rw[this];rfl
     .exact⟨v,h,fun _=>rfl⟩
    .by_cases hz3:∃o t a b,x= .sub o t a b
     .obtain⟨o,t,a,b,rfl⟩:=hz3;unfold yg;dsimp only;split
      .rename_i t' l hl;split
       .rename_i e;subst e;have hO:=hi.rd hl;have hlen:l.length=C.ln o:=hO.1;obtain⟨g0,g1,g2,h⟩:=h.EY;refine⟨.ak .sh ((EN l a b).map (aO R t')),by unfold aA;exact⟨.sh,rfl,rfl⟩,fun n=>?_⟩;rw[x9 _ _ (qN hR t')];have hsl:(EN l a b).length=(b-a).toNat:=(by rw[agC g0 g1,jV,nV];omega);rcases h with ⟨s,cp,h1,h2,rfl⟩| ⟨e,c,rfl⟩
        .rcases hO.2 with h2| ⟨s',cs,h2,h3,h4⟩
         .rw[h1] at h2;exact absurd h2.2 aB
         .rw[h1] at h2;cases h2;have hlc:cs.length=l.length*dB R t':=(by rw[h4.length,E9]);have hp:=aqY g0 g1 h4;have hle:a.toNat*dB R t'+(b-a).toNat*dB R t'<=cs.length:=by rw[hlc,<-qy];exact nJ _ RS
          conv=>lhs;unfold bg
          simp only[aQ,bZ,if_false,h3,Option.bind_some];rw[if_pos hle,XH hR _ _ hp n Z];simp only[Option.bind_some];rw[<-hsl,XI hR,XJ hR,if_pos rfl];rfl
        .have hl0:EN l a b=[]:=lF (by rw[hsl,e];simp);rw[hl0];exact x9 _ ([]:List (Den R.T t')) (qN hR t')
       .exact⟨v,h,fun _=>rfl⟩
      .exact⟨v,h,fun _=>rfl⟩
     .have:yg st x=x:=(by cases x<;>first|rfl|exact absurd ⟨_,_,rfl⟩ hx|exact absurd ⟨_,rfl⟩ hy|exact absurd ⟨_,_,rfl⟩ hz|exact absurd ⟨_,_,_,_,_,_,rfl⟩ hz2|exact absurd ⟨_,_,_,_,rfl⟩ hz3);rw[this];exact⟨v,h,fun _=>rfl⟩
theorem R6 (hi:aT C b st fr Z):∀{x:List (au R.T)}{v:List V},aF R C Z.top x v->∃v',aF R C Z.top (LY st x) v'/\∀n,v.mapM (bg (n+3) Z)=v'.mapM (bg (n+3) Z)
 | [],v,h=>by rw[h.iL];exact⟨[],rfl,fun _=>rfl⟩
 |x::xs,v,h=>by obtain⟨w,ws,rfl,h1,h2⟩:=h.fB;obtain⟨w',a1,a2⟩:=agP hR hi h1;obtain⟨ws',b1,b2⟩:=R6 hi h2;exact⟨w'::ws',.cons' a1 b1,fun n=>by rw[iG,iG,a2,b2]⟩
theorem aro (hi:aT C b st fr Z){x:au R.T}{v:V}(h:aA R C Z.top x v):∃v',aA R C Z.top (EO st x) v'/\∀n,bg (n+4) Z v=bg (n+4) Z v':=by
 by_cases hx:∃f a b,x= .fn f a b
 .obtain⟨f,a,b,rfl⟩:=hx;obtain⟨a',b',rfl,ha,hb⟩:=h.oO;obtain⟨va,a1,a2⟩:=R6 hR hi ha;obtain⟨vb,b1,b2⟩:=R6 hR hi hb;refine⟨.fn (.func f) va vb,⟨va,vb,rfl,a1,b1⟩,fun n=>?_⟩;rw[XF,XF,a2,b2]
 .by_cases hy:∃cs,x= .agg cs
  .obtain⟨cs,rfl⟩:=hy;obtain⟨l,rfl,hl⟩:=h.mh;obtain⟨v',a1,a2⟩:=R6 hR hi hl;refine⟨.agg v',by unfold EO;unfold aA;exact⟨v',rfl,a1⟩,fun n=>?_⟩;rw[Xd,Xd,a2]
  .have:EO st x=yg st x:=by cases x<;>first|rfl|exact absurd ⟨_,_,_,rfl⟩ hx|exact absurd ⟨_,rfl⟩ hy
   rw[this];obtain⟨v',h1,h2⟩:=agP hR hi h;exact⟨v',h1,fun n=>h2 (n+1)⟩
theorem MB (hi:aT C b st fr Z):∀{x:List (au R.T)}{v:List V},aF R C Z.top x v->∃v',aF R C Z.top (rF st x) v'/\∀n,v.mapM (bg (n+4) Z)=v'.mapM (bg (n+4) Z)
 | [],v,h=>by rw[h.iL];exact⟨[],rfl,fun _=>rfl⟩
 |x::xs,v,h=>by obtain⟨w,ws,rfl,h1,h2⟩:=h.fB;obtain⟨w',a1,a2⟩:=aro hR hi h1;obtain⟨ws',b1,b2⟩:=MB hi h2;exact⟨w'::ws',.cons' a1 b1,fun n=>by rw[iG,iG,a2,b2]⟩
mutual
theorem agQ:∀(k:bR)(x:sw R.T k)(tv:au R.T)(v:V),xI k=true->pk R k tv=some x->aA R C top tv v->∀n Z,dep k<=n->bg n Z v=some (encS R k x)
 |.d t,x,tv,v,_,h,hr,n,Z,hn=>by obtain⟨m,rfl⟩:∃m,n=m+3:=⟨n-3,P7⟩;exact(Xe hR (show uf R t tv=some x from h) hr).2.2.1 m Z
 |.l c t,x,tv,v,_,h,hr,n,Z,hn=>by obtain⟨m,rfl⟩:∃m,n=m+3:=⟨n-3,P7⟩;obtain⟨c',rfl,_⟩:=(af7 (show Rf R c t tv=some x from h) hr).mo;exact x9 _ _ (qN hR _)
 |.agg l,x,tv,v,hc,h,hr,n,Z,hn=>by
  cases tv<;>first| (exact absurd (show none=some x from h) aB)|skip
  rename_i cs;obtain⟨vs,rfl,hl⟩:=hr.mh;unfold dep at hn;obtain⟨m,rfl⟩:∃m,n=m+2:=⟨n-2,RS⟩;rw[afr,zB l x cs vs (by unfold xI at hc;exact hc) h hl (m+1) Z RS];rfl
 |.aX l off,x,tv,v,hc,h,hr,n,Z,hn=>by
  cases tv<;>first| (exact absurd (show none=some x from h) aB)|skip
  rename_i cs off';have h':(bif Nat.beq off' off then jl R l cs else none)=some x:=h;obtain⟨hb,h'⟩:=fI h';rw[fH hb] at hr;obtain⟨vs,rfl,hl⟩:=hr.uw;unfold dep at hn;obtain⟨m,rfl⟩:∃m,n=m+2:=⟨n-2,RS⟩;rw[agH,zB l x cs vs (by unfold xI at hc;exact hc) h' hl (m+1) Z RS];rfl
 |.eF k e,x,tv,v,_,h,hr,n,Z,hn=>by
  cases tv<;>first| (exact absurd (show none=some x from h) aB)|skip
  rename_i k' e' m;obtain⟨e1,e2,e3⟩:=Xj (show HV R m=some x from h);subst e1;subst e2;cases e3;obtain⟨m',rfl⟩:∃m,n=m+3:=⟨n-3,P7⟩;rw[hr.CB];exact ni (XG hR m)
 |.fn f a b,x,tv,v,hc,h,hr,n,Z,hn=>by
  cases tv<;>first| (exact absurd (show none=some x from h) aB)|skip
  rename_i f' a' b';have h':(bif Nat.beq f' f then (match jl R a a' with
   |some x=>match jl R b b' with
    |some y=>some (x,y)|none=>none
   |none=>none) else none)=some x:=h
  obtain⟨hb,h'⟩:=fI h';rw[fH hb] at hr;obtain⟨va,vb,rfl,ha,hbb⟩:=hr.oO;unfold xI at hc;rw[aZ] at hc;unfold dep at hn;obtain⟨m,rfl⟩:∃m,n=m+2:=⟨n-2,RS⟩;cases h1:jl R a a' with
  |none=>simp only[h1] at h';cases h'|some y=>
   cases h2:jl R b b' with
   |none=>simp only[h1,h2] at h';cases h'|some z=>simp only[h1,h2] at h';cases h';rw[XF,zB a y a' va hc.1 h1 ha (m+1) Z RS,zB b z b' vb hc.2 h2 hbb (m+1) Z RS];rfl
 |.ref _ _,_,_,_,h,_,_,_,_,_=>wu|.dQ _,_,_,_,h,_,_,_,_,_=>wu|.fE,_,_,_,h,_,_,_,_,_=>wu|.aU _ _,_,_,_,h,_,_,_,_,_=>wu|.sub _ _,_,_,_,h,_,_,_,_,_=>wu|.sg l,x,tv,v,_,h,hr,n,Z,hn=>by
  cases tv<;>first| (exact absurd (show none=some x from h) aB)|skip
  rename_i ss;obtain⟨m,rfl⟩:∃m,n=m+1:=⟨n-1,P7⟩;rw[hr.Iu];show _=some (V.agg (dN (yc l x)));rw[RP (show dx l ss=some x from h)];exact ni (XL ss)
 |.undef,_,_,_,h,_,_,_,_,_=>wu
theorem zB:∀(l:List bR)(x:bB R.T l)(cs:List (au R.T))(vs:List V),lK l=true->jl R l cs=some x->aF R C top cs vs->∀n Z,vF l<=n->vs.mapM (bg n Z)=some (dw R l x)
 | [],x,cs,vs,_,h,hr,n,Z,hn=>by
   cases cs with
   |nil=>rw[hr.iL];rfl|cons c cs=>exact absurd (show none=some x from h) aB
 | [k],x,cs,vs,hc,h,hr,n,Z,hn=>by
   unfold lK at hc;rw[aZ] at hc;unfold vF at hn;cases cs with
   |nil=>exact absurd (show none=some x from h) aB|cons c cs=>
    cases cs with
    |nil=>obtain⟨v,l,rfl,h1,h2⟩:=hr.fB;rw[h2.iL,iG,agQ k x c v hc.1 h h1 n Z RS];rfl
    |cons c' cs=>exact absurd (show none=some x from h) aB
 |k::k'::l,x,cs,vs,hc,h,hr,n,Z,hn=>by
  unfold lK at hc;rw[aZ] at hc;unfold vF at hn;cases cs with
  |nil=>exact absurd (show none=some x from h) aB|cons c cs=>
   have h':(match pk R k c with
    |some x=>match jl R (k'::l) cs with
     |some p=>some (x,p)|none=>none
    |none=>none)=some x:=h
   obtain⟨v,vs,rfl,h1,h2⟩:=hr.fB;cases hu:pk R k c with
   |none=>simp only[hu] at h';cases h'|some y=>
    cases hs:jl R (k'::l) cs with
    |none=>simp only[hu,hs] at h';cases h'|some q=>simp only[hu,hs] at h';obtain rfl:=jW h';rw[iG,agQ k y c v hc.1 hu h1 n Z RS,zB (k'::l) q cs vs hc.2 hs h2 n Z RS];rfl
end
mutual
theorem R7:∀(tv:au R.T)(v:V),pz tv=true->aA R C top tv v->aQ v=true
 |.int _ _,v,_,h=>by rw[h.iO];exact Wm _ _|.bool _,v,_,h=>by rw[h.rH];exact Wn _|.jy _,v,_,h=>by rw[h.vJ];exact Wn _|.str _,v,_,h=>by rw[h.oN];exact afo _|.gU,v,_,h=>PS|.gH,v,_,h=>PS|.gP,v,_,h=>PS|.iH,v,_,h=>PS|.ak c t l,v,hs,h=>by
  cases c<;>simp only[pz,bZ] at hs;obtain⟨c',rfl,hc⟩:=h.mo;obtain rfl:c'= .sh:=hc;exact LV (qN hR t) l
 |.agg cs,v,hs,h=>by obtain⟨l,rfl,hl⟩:=h.mh;unfold aQ;exact IK cs l (by unfold pz at hs;exact hs) hl
 |.bK cs,v,hs,h=>by obtain⟨l,rfl,hl⟩:=h.Ir;unfold aQ;exact IK cs l (by unfold pz at hs;exact hs) hl
 |.eF k e m,v,_,h=>by rw[h.CB];exact XG hR m|.fn f a b,v,hs,h=>by obtain⟨a',b',rfl,ha,hb⟩:=h.oO;unfold pz at hs;rw[aZ] at hs;unfold aQ;rw[IK a a' hs.1 ha,IK b b' hs.2 hb];rfl
 |.fE,_,hs,_=>wo|.ref _ _,_,hs,_=>wo|.aX cs off,v,hs,h=>by obtain⟨l,rfl,hl⟩:=h.uw;unfold aQ;exact IK cs l (by unfold pz at hs;exact hs) hl
 |.aU _ _,_,hs,_=>wo|.sub _ _ _ _,_,hs,_=>wo|.l8 _ _ _ _,_,hs,_=>wo|.sg ss,v,_,h=>by rw[h.Iu];exact XL ss|.sv _ _ _ _ _ _,_,hs,_=>wo|.sel _ _ _ _ _ _,_,hs,_=>wo|.vC _ _ _ _,_,hs,_=>wo|.dQ _,_,hs,_=>wo|.opt _ _ _,_,hs,_=>wo|.undef,_,hs,_=>wo|.gone,_,hs,_=>wo
theorem IK:∀(l:List (au R.T))(vs:List V),zl l=true->aF R C top l vs->bQ vs=true
 | [],vs,_,h=>KV|x::l,vs,hs,h=>by obtain⟨v,ws,rfl,h1,h2⟩:=h.fB;unfold zl at hs;rw[aZ] at hs;unfold bQ;rw[R7 x v hs.1 h1,IK l ws hs.2 h2];rfl
end
theorem agR {x:au R.T}{v:V}(hs:L6 x=true)(h:aA R C top x v):aQ (gu v)=true:=by
 have key:pz x=true->aQ (gu v)=true:=fun hs=>by
  have:=R7 hR x v hs h;cases v with
  |ak c l=>cases c<;>simp[aQ] at this<;>simpa [gu,aQ] using this|_=>exact this
 cases x<;>first|exact key hs|skip
 .rw[h.uq];simp[gu,aQ,bQ]
 .obtain⟨c',rfl,hc⟩:=h.mo;exact LV (qN hR _) _
theorem agS:∀{x:List (au R.T)}{v:List V},Rc x=true->aF R C top x v->bQ (v.map gu)=true
 | [],vs,_,h=>KV|x::l,vs,hs,h=>by obtain⟨v,ws,rfl,h1,h2⟩:=h.fB;unfold Rc at hs;rw[aZ] at hs;rw[iA];unfold bQ;rw[agR hR hs.1 h1,agS hs.2 h2];rfl
theorem arp {x:au R.T}{v:V}(hs:afv x=true)(h:aA R C top x v):aQ (er v)=true:=by
 by_cases hx:∃cs,x= .agg cs
 .obtain⟨cs,rfl⟩:=hx;obtain⟨l,rfl,hl⟩:=h.mh;show aQ (.agg (l.map gu))=true;unfold aQ;exact agS hR hs hl
 .by_cases hy:∃ss,x= .sg ss
  .obtain⟨ss,rfl⟩:=hy;rw[h.Iu,arl];exact XL ss
  have hs':L6 x=true:=by cases x<;>first|exact hs|exact absurd ⟨_,rfl⟩ hx
  have h1:=agR hR hs' h;have hne:∀cs,v≠ .agg cs:=by rintro cs rfl;cases x<;>first|exact hy ⟨_,rfl⟩| (unfold aA at h;simp at h;done)|exact hx ⟨_,rfl⟩| (simp[L6,pz] at hs';done)
  rw[aqi hne];exact h1
theorem MC:∀{x:List (au R.T)}{v:List V},Cq x=true->aF R C top x v->v.all (fun a=>aQ (er a))=true
 | [],vs,_,h=>KV|x::l,vs,hs,h=>by obtain⟨v,ws,rfl,h1,h2⟩:=h.fB;unfold Cq at hs;rw[aZ] at hs;rw[List.all_cons,arp hR hs.1 h1,MC hs.2 h2];rfl
theorem XO:∀(l:List bR)(x:bB R.T l),Hy l=true->kW (dw R l x)=true
 | [],x,_=>rfl| [k],x,h=>by
   cases k<;>simp only[Hy,Bool.and_true,bZ] at h
   .rename_i t;show (flat (aO R t x)&& kW [])=true;cases t<;>simp only[Wx,bZ] at h<;>rfl
   .rename_i ks;show (flat (.agg (dN (yc ks x)))&& kW [])=true;unfold flat;rw[R4];rfl
 |k::k'::l,x,h=>by
  cases k<;>simp only[Hy,bZ] at h
  .rename_i t;rw[aZ] at h;show (flat (aO R t x.1)&& kW (dw R (k'::l) x.2))=true;rw[XO (k'::l) x.2 h.2];have:=h.1;cases t<;>simp only[Wx,bZ] at this<;>rfl
  .rename_i ks;show (flat (.agg (dN (yc ks x.1)))&& kW (dw R (k'::l) x.2))=true;rw[XO (k'::l) x.2 h];unfold flat;rw[R4];rfl
omit hR in
theorem arq {vs:List V}(h:kW vs=true):flat (mJ vs)=true:=by
 match vs with
 | []=>simp[mJ,flat,kW]| [v]=>simp only[kW,Bool.and_true] at h;exact h|v::w::vs=>show flat (.bK _)=true;unfold flat;exact h
mutual
theorem agT:∀(k:bR)(x:sw R.T k),xI k=true->aA R C top (up R .sh k x) (encS R k x)
 |.d t,x,_=>afO hR t x|.l c t,x,h=>by refine⟨.sh,rfl,?_⟩;cases c<;>first|trivial|rfl| (simp[xI] at h;done)
 |.agg l,x,h=>⟨_,rfl,CU l x (by unfold xI at h;exact h)⟩|.aX l off,x,h=>⟨_,rfl,CU l x (by unfold xI at h;exact h)⟩|.eF k e,x,_=>rfl|.fn f a b,x,h=>by unfold xI at h;rw[aZ] at h;exact⟨_,_,rfl,CU a x.1 h.1,CU b x.2 h.2⟩|.ref _ _,_,h=>wu|.dQ _,_,h=>wu|.fE,_,h=>wu|.aU _ _,_,h=>wu|.sub _ _,_,h=>wu|.sg l,x,_=>rfl|.undef,_,h=>wu
theorem CU:∀(l:List bR)(x:bB R.T l),lK l=true->aF R C top (jB R .sh l x) (dw R l x)
 | [],_,_=>rfl| [k],x,h=>by unfold lK at h;rw[aZ] at h;exact .cons' (agT k x h.1) rfl|k::k'::l,x,h=>by unfold lK at h;rw[aZ] at h;exact .cons' (agT k x.1 h.1) (CU (k'::l) x.2 h.2)
end
omit hR in
theorem ars {x:List (au R.T)}{v:List V}(h:aF R C top x v):aA R C top (afB R x) (mJ v):=by
 match x,h with
 | [],h=>rw[h.iL];exact⟨[],rfl,rfl⟩| [a],h=>obtain⟨v,vs,rfl,h1,h2⟩:=h.fB;rw[h2.iL];exact h1
 |a::b::l,h=>obtain⟨v,vs,rfl,h1,h2⟩:=h.fB;obtain⟨w,ws,rfl,h3,h4⟩:=h2.fB;exact⟨_,rfl,.cons' h1 (.cons' h3 h4)⟩
def agU:List V->List V
 |_::l=>.ak .nil []::l| []=>[]
def bF (E:Env)(F:Nat->List (iF R)):Prop:=∀f,∀r∈F f,∀p x,r.F p=some x->(lK r.args=true->Pure E f (dw R r.args p) (mJ (dw R r.res x)))/\
 (r.own=true->∀(τ:Ty)(h:r.res=[.d (.slice τ)])(l:List (Den R.T τ)),(h▸x:bB R.T [.d (.slice τ)])=l->
   (lK r.args=true->E.y5 f=false/\oI E f (dw R r.args p) (dB R τ) (l.map (aO R τ)))/\
   (lK r.args=false->E.y5 f=true/\oI E f (agU (dw R r.args p)) (dB R τ) (l.map (aO R τ))))
theorem agV {F:Nat->List (iF R)}(hF:bF E F){f:Nat}{c:Call}{fo:Operand}{o:Oper}{aI:Nat}{a' b':List V}(ho:o.op= .call c)(fO:c.callee= .value fo)(hf:fr.ev E fo= .fn (.func f) a' b')(hi:E.imp f=false){args:List (au R.T)}(ha:aF R C Z.top args (a'++c.args.toList.map (fr.ev E)++b'))(hi':aT C b st fr Z):∀{l:List (iF R)}{r:eY R},(∀x∈l,x∈F f)->findF R args (rF st args) l=some r->sN E st C aI fr Z o r
 | [],r,_,h=>bU|q::l,r,hl,h=>by
  unfold findF at h;split at h
  .rename_i p hp;obtain⟨hc,h⟩:=fI h;cases h;simp only[aZ] at hc;obtain⟨⟨⟨c1,c2⟩,c3⟩,c4⟩:=hc;intro x hx;have hP:=(hF f q (hl q aB) p x hx).1 c1;obtain⟨vs',v1,v2⟩:=MB hR hi' ha;have ME:=zB hR q.args p (rF st args) _ c1 hp v1 20 Z (by have:=nY c2;omega);have has:=(v2 16).trans ME;have hcl:((a'++c.args.toList.map (fr.ev E)++b').all (fun x=>aQ (er x))||flat (mJ (dw R q.res x)))=true:=by
    rw[xJ] at c4⊢;rcases c4 with c4|c4
    .exact .inl (MC hR c4 ha)
    .exact .inr (arq (XO hR _ _ c4))
   exact⟨mJ (dw R q.res x),⟨fun eP _ _ _ hw h'=>av.call hw ho fO hf hi has hP hcl h' (agk ho fO hf eP),fun eP _ _ _ _ _ hw h'=>dn.call hw ho fO hf hi has hP hcl h' (agk ho fO hf eP)⟩,ars (CU hR _ _ c3)⟩
  .exact agV hF ho fO hf hi ha hi' (fun x hx=>hl x (by simp[hx])) h
theorem aru {t:TypeId}{x i:au R.T}{v w:V}{r:eY R}(h:WK E R t x i=some r)(hx:aA R C top x v)(hi:aA R C top i w):qo C top (p9 E.P t v w) r:=by
 unfold WK at h;split at h
 .rename_i e c u l k n hu;split at h
  .rename_i sz hs;obtain⟨hb,h⟩:=fI h;cases h;have:=fH hb;subst this;obtain⟨c',rfl,_⟩:=hx.mo;rw[hi.iO];intro a ha;refine⟨.aX (aO R u a).cells 0,?_,?_⟩
   .rw[Wo,if_pos (by unfold xY;rw[hu])];have:lG E.P t=some e:=(by unfold lG;rw[hu]);rw[this];simp only[Option.bind_some,hs,ha];rw[if_pos (IC hR u a).1]
   .unfold aA;refine⟨_,rfl,(yA ?_ (afO hR u a)).1⟩;cases u<;>rfl
  .cases h
 .rename_i n e o off k m hu;split at h
  .rename_i sz hs;cases h;obtain⟨s,h1,rfl⟩:=hx.rJ;rw[hi.iO];intro hc;have hc':0<=m/\m<n:=of_decide_eq_true hc;refine⟨.ref (C.aj.lc o) s (off+m.toNat*sz),?_,by unfold aA;exact⟨s,h1,rfl⟩⟩;unfold p9;rw[hu];dsimp only;rw[hs];simp[idx,pG,hc']
  .cases h
 .rename_i n e cs off k m hu;split at h
  .rename_i sz hs;cases h;obtain⟨l,rfl,h1⟩:=hx.uw;rw[hi.iO];intro hc;have hc':0<=m/\m<n:=of_decide_eq_true hc;refine⟨.aX l (off+m.toNat*sz),?_,by unfold aA;exact⟨l,rfl,h1⟩⟩;unfold p9;rw[hu];dsimp only;rw[hs];simp[idx,pG,hc']
  .cases h
 .cases h
omit hR in
theorem arv {t:TypeId}{x i:au R.T}{v w:V}{r:eY R}(h:WR E R t x i=some r)(hx:aA R C top x v)(hi:aA R C top i w):qo C top (Er E.P t v w) r:=by
 unfold WR at h;split at h
 .rename_i s k n hu;cases h;rw[hx.oN,hi.iO];intro a ha;refine⟨.int .u8 (a.toNat:Int),?_,fV⟩;rw[afu (by unfold Wd;rw[hu]),ha];rfl
 .cases h
end
end aR
end
section
namespace aR
open Go
section
variable {R:kE}{E:Env}
variable {C:bA}{top:Nat->Nat}{b aI:Nat}{st:aM R.T}{fr:Fr}{Z:ah}{o:Oper}
theorem MF {P:Program}{t e:TypeId}{n:Nat}(h:uW P t=some (n,e)):P.underlying t=some (.array n e):=by
 unfold uW at h;split at h
 .rename_i n' e' hu;cases h;exact hu
 .cases h
theorem CV {t:TypeId}(h:uj E t=true):dF E.P t=some 1/\j5 E.P t=some false:=by
 unfold uj at h;split at h
 .rename_i sz ag h1 h2;rw[aZ] at h;rw[fH h.1] at h1;cases ag
  .exact⟨h1,h2⟩
  .simp at h
 .cases h
theorem CW (a b:List bS):kR (a++b)=kR a+kR b:=by rw[<-jL,uz,iP,jL,jL]
theorem agW {pre rest:List bS}{n:Nat}(h:kR pre=n)(k:Nat):(dN (pre++rest)).drop (n+k)=(dN rest).drop k:=by rw[uz,<-h,<-jL,Ei,Gm RS,List.nil_append,Ag]
theorem R8 (s:bS)(l:List bS):dN (s::l)=s.vs++dN l:=rfl
theorem R9 (s:bS)(l:List bS):kR (s::l)=s.w+kR l:=rfl
theorem XP {C:bA}{top:Nat->Nat}(k:IntKind):∀l:List Int,aF R C top (l.map (au.int k)) (l.map (V.int k))
 | []=>rfl|x::l=>.cons' fV (XP k l)
theorem arw {n:Nat}(v:Vec n):(List.range n).map v.nth=v.l:=by
 apply List.ext_getElem
 .rw[eU,El,v.h]
 .intro i h1 h2;rw[BG,BH];unfold Vec.nth;rw[mH,gG h2];rfl
theorem XQ {C:bA}{top:Nat->Nat}:∀ss:List bS,aF R C top (Mg ss) (dN ss)
 | []=>rfl|.i k x::l=>.cons' fV (XQ l)|.a k n v::l=>by
  show aF R C top ((List.range n).map (fun j=>au.int k (v.nth j))++Mg l) (v.l.map (V.int k)++dN l);refine aF.append ?_ (XQ l);have:(List.range n).map (fun j=>au.int (T:=R.T) k (v.nth j))=v.l.map (au.int k):=by rw[<-arw v,yT];rfl
  rw[this];exact XP k v.l
theorem agX {t:TypeId}{ss:List bS}{off:Nat}{v:au R.T}(h:Rw E R t ss off=some v):∃y,gV E.P t (dN ss) off=some y/\aA R C top v y:=by
 unfold Rw at h;split at h
 .rename_i pre rest sz ag h1 h2 h3;obtain⟨e1,w1⟩:=yB h1;split at h
  .rename_i mid post h4;obtain⟨e2,w2⟩:=yB h4;have hd:(dN ss).drop off=dN mid++dN post:=by have:=agW (rest:=rest) w1 0;rw[<-e1,Nat.add_zero] at this;rw[this,e2,uz];rfl
   have hlen:(dN ss).length=off+(sz+kR post):=by rw[jL,e1,CW,w1,e2,CW,w2]
   unfold gV;rw[h3,h2];simp only[Option.bind_some];cases ag with
   |true=>
    rw[cond_true] at h;have hp:q8 true sz (dN ss) off=some (.agg (dN mid)):=(by unfold q8;rw[if_pos rfl,if_pos RS,hd,Ej (by rw[jL,w2];exact mF _),qZ (by rw[jL,w2];exact mF _)]);split at h
    .cases h;exact⟨_,hp,fV⟩
    .cases h;exact⟨_,hp,by unfold aA;exact⟨_,rfl,XQ mid⟩⟩
   |false=>
    rw[cond_false] at h;split at h
    .rename_i k x;cases h;refine⟨.int k x,?_,fV⟩;unfold q8;simp only[bZ,if_false];have:=congrArg (fun l=>l[0]?) hd;rw[List.getElem?_drop,Nat.add_zero] at this;rw[this];rfl
    .cases h
  .cases h
 .cases h
theorem agY {n:Nat}(v:Vec n){i:Int}(h:i.toNat<n):v.l[i.toNat]? =some (v.at' i):=by unfold Vec.at';rw[mH,gG (by rw[v.h];exact h)];rfl
theorem agZ {ss pre post:List bS}{off n:Nat}{k:IntKind}{v:Vec n}{i:Int}{t:TypeId}(h:sG ss off=some (pre,.a k n v::post))(hi:i.toNat<n)(ht:uj E t=true):gV E.P t (dN ss) (off+i.toNat)=some (.int k (v.at' i)):=by obtain⟨e1,w1⟩:=yB h;obtain⟨h1,h2⟩:=CV ht;unfold gV;rw[h1,h2];simp only[Option.bind_some];unfold q8;simp only[bZ,if_false];rw[e1,uz,List.getElem?_append_right (by rw[jL,w1];omega),jL,w1,Ag,R8,KW (by rw[bS.len];exact hi)];show (v.l.map (V.int k))[i.toNat]? =_;rw[List.getElem?_map,agY v hi];rfl
theorem MG {n:Nat}{l:List Int}(h:l.length=n):(Vec.lit n l).l=l:=by unfold Vec.lit;rw[dif_pos h]
theorem arx {l:List Int}{a m:Nat}(h:a+m<=l.length):(List.range m).map (fun j=>l.getD (a+j) 0)=(l.drop a).take m:=by
 apply List.ext_getElem
 .rw[eU,El,jV,nV];omega
 .intro i h1 h2;rw[eU,El] at h1;rw[BG,BH,List.getElem_take,List.getElem_drop,mH,gG RS];rfl
theorem arz {t:TypeId}{ss pre post:List bS}{off n m:Nat}{k:IntKind}{v:Vec n}{i:Int}{y:au R.T}(h:sG ss off=some (pre,.a k n v::post))(hi:i.toNat+m<=n)(hs:WS E R t k m n v i=some y):∃x,gV E.P t (dN ss) (off+i.toNat)=some x/\aA R C top y x:=by
 obtain⟨e1,w1⟩:=yB h;unfold WS at hs;split at hs
 .rename_i m' e sz h1 h2 h3;obtain⟨hc,hs⟩:=fI hs;rw[aZ] at hc;have e2:=fH hc.1;have e3:=fH hc.2;rw[e3] at h2;have hp:gV E.P t (dN ss) (off+i.toNat)=some (.agg (((v.l.drop i.toNat).take m).map (V.int k))):=by unfold gV;rw[h3,h2];simp only[Option.bind_some];unfold q8;rw[if_pos rfl,if_pos (by rw[jL,e1,CW,w1,R9];show off+i.toNat+m<=off+(n+_);omega)];rw[e1,agW w1,R8];show some (V.agg ((((v.l.map (V.int k))++dN post).drop i.toNat).take m))=_;rw[KX (by rw[eU,v.h];omega),Ej (by rw[nV,eU,v.h];omega),List.map_take,List.map_drop]
  refine⟨_,hp,?_⟩;have hl:((v.l.drop i.toNat).take m).length=m:=by rw[jV,nV,v.h];omega
  split at hs
  .cases hs;unfold aA;show V.agg _= .agg (((v.slc i m).l.map (V.int k))++[]);unfold Vec.slc;rw[MG hl,iV]
  .cases hs;unfold aA;refine⟨_,rfl,?_⟩;have:=arx (l:=v.l) (a:=i.toNat) (m:=m) (by rw[v.h];exact hi);have e:(List.range m).map (fun j=>au.int (T:=R.T) k (v.nth (i.toNat+j)))=((v.l.drop i.toNat).take m).map (au.int k):=by rw[<-this,yT];rfl
   rw[e];exact XP k _
 .cases hs
def AQ:List kY->Nat
 | []=>0|.i _::l=>1+AQ l|.a _ n::l=>n+AQ l
theorem Sb:∀ss:List bS,AQ (ss.map bS.sk)=kR ss
 | []=>rfl|.i k x::l=>by show 1+AQ (l.map bS.sk)=1+kR l;rw[Sb l]|.a k n v::l=>by show n+AQ (l.map bS.sk)=n+kR l;rw[Sb l]
theorem arA:∀{ks:List kY}{cs:List (au R.T)}{ss:List bS}{vs:List V},Cw ks cs=some ss->aF R C top cs vs->vs=dN ss/\kR ss=AQ ks:=by
 intro ks;induction ks with
 |nil=>
  intro cs ss vs h hr;cases cs with
  |nil=>cases h;exact⟨hr.iL,rfl⟩|cons c cs=>cases h
 |cons k ks ih=>
  intro cs ss vs h hr;cases k with
  |i k=>
   cases cs with
   |nil=>cases h|cons c cs=>
    obtain⟨v,ws,rfl,h1,h2⟩:=hr.fB;cases c<;>first| (exact absurd (show none=some ss from h) aB)|skip
    rename_i k' x;have h':(if k'=k then (match Cw ks cs with
     |some r=>some (bS.i k x::r)|none=>none) else none)=some ss:=h
    by_cases e:k'=k
    .subst e;rw[if_pos rfl] at h';cases hc:Cw ks cs with
     |none=>rw[hc] at h';cases h'|some r=>rw[hc] at h';cases h';obtain⟨g1,g2⟩:=ih hc h2;exact⟨by rw[h1.iO,g1];rfl,by show 1+kR r=1+AQ ks;rw[g2]⟩
    .rw[if_neg e] at h';cases h'
  |a k n=>
   have h':(match Cm k (cs.take n) with
    |some xs=>bif Nat.beq xs.length n then (match Cw ks (cs.drop n) with
     |some r=>some (bS.a k n (Vec.lit n xs)::r)|none=>none) else none
    |none=>none)=some ss:=by cases cs<;>exact h
   cases hx:Cm k (cs.take n) with
   |none=>rw[hx] at h';cases h'|some xs=>
    rw[hx] at h';dsimp only at h';obtain⟨hb,h'⟩:=fI h';have hb:=fH hb;cases hc:Cw ks (cs.drop n) with
    |none=>rw[hc] at h';cases h'|some r=>rw[hc] at h';cases h';obtain⟨g1,g2⟩:=ih hc (hr.drop n);have g3:=R5 hx (hr.take n);refine⟨?_,by show n+kR r=n+AQ ks;rw[g2]⟩;show vs=(Vec.lit n xs).l.map (V.int k)++dN r;rw[MG hb,<-g3,<-g1,qz]
theorem XR:∀{a b:List kY},Ij a b=true->a=b
 | [],[],_=>rfl|.i k::l,.i k'::l',h=>by
  have h':((if k=k' then true else false)&& Ij l l')=true:=h;rw[aZ] at h';have e:k=k':=by by_cases e:k=k';exact e;rw[if_neg e] at h';cases h'.1
  rw[e,XR h'.2]
 |.a k n::l,.a k' n'::l',h=>by
  have h':((if k=k' then true else false)&& Nat.beq n n'&& Ij l l')=true:=h;rw[aZ,aZ] at h';have e:k=k':=by by_cases e:k=k';exact e;rw[if_neg e] at h';cases h'.1.1
  rw[e,fH h'.1.2,XR h'.2]
 | [],.i _::_,h=>bU| [],.a _ _::_,h=>bU|.i _::_,[],h=>bU|.a _ _::_,[],h=>bU|.i _::_,.a _ _::_,h=>bU|.a _ _::_,.i _::_,h=>bU
theorem MH:∀ss:List bS,bY (dN ss)=true
 | []=>rfl|.i k x::l=>by show (oneCell (.int k x)&& bY (dN l))=true;rw[MH l];rfl|.a k n v::l=>by show bY (v.l.map (V.int k)++dN l)=true;have h1:=MH l;unfold bY at h1⊢;rw[List.all_append,h1,List.all_map];simp[oneCell]
theorem ag0 {ks:List kY}{tv:au R.T}{ss:List bS}{v:V}(h:Rv ks tv=some ss)(hr:aA R C top tv v):v.cells=dN ss/\kR ss=AQ ks/\fC v=true:=by
 unfold Rv at h;split at h
 .rename_i ss';obtain⟨h1,h⟩:=fI h;cases h;rw[hr.Iu,XR h1];exact⟨rfl,(Sb ss).symm,rfl⟩
 .obtain⟨l,rfl,hl⟩:=hr.mh;obtain⟨h1,h2⟩:=arA h hl;exact⟨h1,h2,rfl⟩
 .rename_i k x;split at h
  .split at h
   .rename_i e;subst e;cases h;rw[hr.iO];exact⟨rfl,rfl,rfl⟩
   .cases h
  .cases h
 .cases h
theorem XT {k:IntKind}:∀{cs:List (au R.T)}{vs:List V},ET k cs=true->aF R C top cs vs->vs=List.replicate cs.length (V.int k 0)
 | [],vs,_,hr=>hr.iL|c::cs,vs,h,hr=>by
  obtain⟨v,ws,rfl,h1,h2⟩:=hr.fB;cases c<;>first| (exact absurd (show false=true from h) aB)|skip
  rename_i k' x;have h':((if k'=k then (if x=0 then true else false) else false)&& ET k cs)=true:=h;rw[aZ] at h';have e1:k'=k:=by by_cases e:k'=k;exact e;rw[if_neg e] at h';cases h'.1
  have e2:x=0:=by by_cases e:x=0;exact e;rw[if_pos e1,if_neg e] at h';cases h'.1
  rw[h1.iO,e1,e2,XT h'.2 h2];rfl
theorem arB:∀{ks:List kY}{cs:List (au R.T)}{vs:List V},Ii ks cs=true->aF R C top cs vs->vs=dN (ks.map Ru):=by
 intro ks;induction ks with
 |nil=>
  intro cs vs h hr;cases cs with
  |nil=>exact hr.iL|cons c cs=>cases h
 |cons k ks ih=>
  intro cs vs h hr;cases k with
  |i k=>
   cases cs with
   |nil=>cases h|cons c cs=>obtain⟨v,ws,rfl,h1,h2⟩:=hr.fB;have h':(ET k [c]&& Ii ks cs)=true:=h;rw[aZ] at h';have:=XT h'.1 (aF.cons' h1 aF.nil');cases this;rw[ih h'.2 h2];rfl
  |a k n=>
   have h':(Nat.ble n cs.length&& ET k (cs.take n)&& Ii ks (cs.drop n))=true:=by cases cs<;>exact h
   rw[aZ,aZ] at h';have h1:=nY h'.1.1;have h2:=XT h'.1.2 (hr.take n);have h3:=ih h'.2 (hr.drop n);rw[<-qz n vs,h2,h3,jV,wC h1];show _=(List.replicate n (0:Int)).map (V.int k)++dN (ks.map Ru);rw[List.map_replicate]
theorem arC {pre mid post mid':List bS}{off sz:Nat}(h1:kR pre=off)(h2:kR mid=sz)(h3:kR mid'=sz):gI (dN (pre++(mid++post))) off (dN mid')=dN (pre++(mid'++post)):=by unfold gI;rw[uz,uz,uz,uz,jL,h3];rw[Ej (by rw[jL,h1];exact mF _),qZ (by rw[jL,h1];exact mF _)];rw[<-eZ (dN pre) (dN mid),KX (by rw[iP,jL,jL,h1,h2];exact mF _),Gm (by rw[iP,jL,jL,h1,h2];exact mF _)];rw[List.nil_append,eZ]
theorem ag1 {pre post:List bS}{off n a:Nat}{k:IntKind}{v w:Vec n}{l:List Int}(h1:kR pre=off)(h2:a+l.length<=n)(h3:w.l=v.l.take a++l++v.l.drop (a+l.length)):gI (dN (pre++(.a k n v::post))) (off+a) (l.map (V.int k))=dN (pre++(.a k n w::post)):=by
 unfold gI;rw[uz,uz,R8,R8];show ((dN pre++(v.l.map (V.int k)++dN post)).take (off+a)++l.map (V.int k)++(dN pre++(v.l.map (V.int k)++dN post)).drop (off+a+(l.map (V.int k)).length))=dN pre++(w.l.map (V.int k)++dN post);have hp:(dN pre).length=off:=by rw[jL,h1]
 have hv:(v.l.map (V.int k)).length=n:=by rw[eU,v.h]
 rw[eU];rw[List.take_append,qZ RS,hp,Ag,Ej RS];rw[Ei,Gm RS,hp,List.nil_append,show off+a+l.length-off=a+l.length by omega,KX RS];rw[h3,pF,pF,List.map_take,List.map_drop];simp only[eZ]
theorem arD {l:List Int}{a:Nat}{y:Int}(h:a<l.length):l.set a y=l.take a++[y]++l.drop (a+1):=by rw[List.set_eq_take_append_cons_drop,if_pos h];simp
theorem XU {g:Nat}{t:TypeId}{k:IntKind}{n:Nat}{v:Vec n}(h:Ry E R g t=some ⟨k,n,v⟩):∃cs e,E.glob g=some cs/\cs=v.l.map (V.int k)/\uW E.P t=some (n,e)/\dF E.P t=some n/\j5 E.P t=some true/\uj E e=true:=by
 unfold Ry at h;split at h
 .rename_i cs k' n' v' m e sz ag h1 h2 h3 h4 h5;obtain⟨hc,h⟩:=fI h;cases h;simp only[aZ] at hc;obtain⟨⟨⟨⟨c1,c2⟩,c3⟩,c4⟩,c5⟩:=hc;subst c1;rw[fH c2] at h3;rw[fH c3] at h4;refine⟨cs,e,h1,?_,h3,h4,h5,c4⟩;have key:∀(cs:List V)(l:List Int),Rx k cs l=true->cs=l.map (V.int k):=by
   intro cs;induction cs with
   |nil=>intro l h;cases l with
    |nil=>rfl|cons y l=>cases h
   |cons c cs ih=>
    intro l h;cases l with
    |nil=>cases c<;>cases h|cons y l=>
     cases c<;>first| (exact absurd (show false=true from h) aB)|skip
     rename_i k' x;have h':((if k'=k then (if x=y then true else false) else false)&& Rx k cs l)=true:=h;rw[aZ] at h';have e1:k'=k:=(by by_cases e:k'=k;exact e;rw[if_neg e] at h';cases h'.1);have e2:x=y:=(by by_cases e:x=y;exact e;rw[if_pos e1,if_neg e] at h';cases h'.1);rw[e1,e2,ih l h'.2];rfl
  exact key cs v.l c5
 .cases h
theorem Sc {i:Int}{n:Nat}(h:cO i n=true):0<=i/\i<n/\i.toNat<n:=by have:=of_decide_eq_true h;omega
theorem XV {k:IntKind}{i:Int}{n:Nat}(h:cO i n=true):idx (.int k i) n=some i.toNat:=by obtain⟨h1,h2,_⟩:=Sc h;simp[idx,pG,h1,h2]
theorem Sd {k:IntKind}{i:Int}{n:Nat}(h1:0<=i)(h2:i<=n):bnd (.int k i) n=some i.toNat:=by simp[bnd,pG,h1,h2]
theorem ag2 {n:Nat}{lo hi:Option Int}{vl vh:Option V}(hl:(lo=none/\vl=none)\/∃n k,lo=some n/\vl=some (.int k n))(hh:(hi=none/\vh=none)\/∃n k,hi=some n/\vh=some (.int k n))(hb:qK n lo hi=true):
 jq n n vl vh none=some ((fG lo).toNat,(iX n hi).toNat,n):=by
 rcases hl with ⟨rfl,rfl⟩| ⟨a,k,rfl,rfl⟩<;>rcases hh with ⟨rfl,rfl⟩| ⟨c,k',rfl,rfl⟩<;>simp only[qK,decide_eq_true_eq] at hb
 .simp[jq,fG,iX]
 .simp[jq,fG,iX,Sd hb.1 hb.2]
 .simp[jq,fG,iX,Sd (i:=a) (n:=n) hb.1 RS]
 .simp[jq,fG,iX,Sd (i:=c) (n:=n) RS hb.2.2.1,Sd (i:=a) (n:=c.toNat) hb.1 RS]
theorem arE {P:Program}{t e:TypeId}{y:V}{ys cs:List V}{loc:aR.Loc}{s off len cap:Nat}{ag:Bool}(he:lG P t=some e)(z1:dF P e=some 1)(z2:j5 P e=some false)(q2:yZ y=false)(q1:mU Z false 1 aJ y=some ys)(hone:ys.all (fun v=>bY v.cells)=true)(h4:Z.dK loc s=some cs)(hb:off+min ys.length len<=cs.length):copyV P Z t (.aU loc s off len cap 1 ag) y=some (.int .i64 (min ys.length len:Nat),Z.setObj loc s (.cells (gI cs off ((ys.take (min ys.length len)).flatMap V.cells)))):=by
 unfold copyV;rw[he];simp only[Option.bind_some,z1,z2];rw[if_pos ⟨q2,rfl⟩,q1];simp only[Option.bind_some];rw[if_pos hone,h4];simp only[Option.bind_some];rw[if_pos ⟨trivial,by rw[Nat.mul_one];exact hb⟩]
theorem Sg {t:TypeId}{x:au R.T}{lo hi:Option (au R.T)}{v:V}{vl vh:Option V}{r:eY R}(h:Cx E R t x lo hi st=some r)(hx:aA R C Z.top x v)(him:aT C b st fr Z)(hl:∀y,lo=some y->∃w,vl=some w/\aA R C Z.top y w)(hln:lo=none->vl=none)(hh:∀y,hi=some y->∃w,vh=some w/\aA R C Z.top y w)(hhn:hi=none->vh=none):qo C Z.top (kQ E.P Z t v vl vh none) r:=by
 unfold Cx at h;split at h
 .rename_i p off lo' hi' n e e1 e2 ha;have b1:=CS e1 hl hln;have b2:=CS e2 hh hhn;obtain⟨hel,h⟩:=fI h;obtain⟨z1,z2⟩:=CV hel;obtain⟨s,h1,rfl⟩:=hx.rJ;have fin:∀(k:IntKind)(cs:List V),Z.dK (C.aj.lc p) s=some cs->off+n<=cs.length->qK n lo' hi'=true->∃y,kQ E.P Z t (.ref (C.aj.lc p) s off) vl vh none=some y/\aA R C Z.top (.sv p off k n lo' hi') y:=by intro k cs hc hlen hB;obtain⟨p1,p2,p3,_,_⟩:=Fe hB;refine⟨_,?_,by unfold aA;exact⟨s,h1,hB,rfl⟩⟩;unfold kQ;rw[MF ha];dsimp only;rw[z1,z2,ag2 b1 b2 hB,hc];simp only[Option.bind_some,Nat.mul_one];rw[if_pos hlen,if_neg RS]
  split at h
  .rename_i ss hl';obtain⟨s',h3,h4⟩:=him.rd hl';rw[h1] at h3;cases h3;split at h
   .rename_i pre k n' v' post hsp;obtain⟨hb,h⟩:=fI h;have:=fH hb;subst this;cases h;obtain⟨e3,hw⟩:=yB hsp;intro hc;exact fin k _ h4 (by rw[jL,e3,CW,hw,R9];show off+n'<=off+(n'+_);omega) hc
   .cases h
  .rename_i cs hl';obtain⟨s',vs,h3,h4,h5⟩:=him.rd hl';rw[h1] at h3;cases h3;split at h
   .rename_i k _ _ _;obtain⟨hb,h⟩:=fI h;cases h;intro hc;exact fin k _ h4 (by rw[h5.length];exact nY hb) hc
   .cases h
  .cases h
 .rename_i cs off n e e1 e2 ha;have b1:=CS e1 hl hln;have b2:=CS e2 hh hhn;obtain⟨hb,h⟩:=fI h;rw[aZ] at hb;obtain⟨z1,z2⟩:=CV hb.1;have hle:=nY hb.2;split at h
  .rename_i k _ _ _;split at h
   .rename_i l hu;cases h;obtain⟨vs,rfl,hr⟩:=hx.uw;have hv:=R5 hu hr;have hlen:=hr.length;have hsb:qK n none none=true:=rfl;refine⟨.ak .sh (((l.drop off).take n).map (V.int k)),?_,by unfold aA;exact⟨.sh,rfl,trivial⟩⟩;unfold kQ;rw[MF ha];dsimp only;rw[z1,z2,ag2 b1 b2 hsb];simp only[Option.bind_some,Nat.mul_one];have hn:off+n<=vs.length:=(by rw[hlen];exact hle);have e0:(fG none).toNat=0:=rfl;have IL:(iX n none).toNat=n:=(by simp[iX]);rw[if_pos ⟨hn,fun _=>⟨trivial,by rw[hv];unfold bY;rw[List.all_map];exact kU.2 fun _ _=>rfl⟩⟩,e0,IL];have hl2:(List.take n (List.drop off l)).length=n:=(by rw[hv,eU] at hn;rw[jV,nV];omega);have:=XM k ((l.drop off).take n) ((l.drop off).drop n|>.map (V.int k));rw[<-pF,qz,hl2] at this;rw[hv,Nat.sub_zero,Nat.add_zero,<-List.map_drop,this]
   .cases h
  .cases h
 .cases h
end
end aR
end
