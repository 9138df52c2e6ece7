import Derived.Test.YtdcnajadcbedkaaGreatDoorF908
set_option linter.all false
section
namespace aR
open Go
section
variable {R:jY}{E:Env}
variable {Z:bC}{top:Nat->Nat}{b:Nat}{st:aO R.T}{fr:Fr}{Y:ah}
theorem YL {n:Nat}{f:Nat}(a b:List V):bA (n+2) Y (.fn (.func f) a b)=(a.mapM (bA (n+1) Y)).bind fun a=>(b.mapM (bA (n+1) Y)).map fun b=>.fn (.func f) a b:=by
 by_cases hp:aQ (.fn (.func f) a b)=true
 .rw[oh hp];have:∀cs:List V,cu cs=true->cs.mapM (bA (n+1) Y)=some cs:=by
   intro cs;induction cs with
   |nil=>intro _;rfl|cons a l ih=>intro h;simp only[cu,bf] at h;rw[iM,oh h.1,ih h.2];rfl
  simp only[aQ,bf] at hp;rw[this a hp.1,this b hp.2];rfl
 .conv=>lhs;unfold bA
  simp only[hp,if_false,dI]
theorem ajU {n:Nat}{off:Nat}(cs:List V):bA (n+2) Y (.aY cs off)=(cs.mapM (bA (n+1) Y)).map (.aY · off):=by
 by_cases hp:aQ (.aY cs off)=true
 .rw[oh hp];have:∀cs:List V,cu cs=true->cs.mapM (bA (n+1) Y)=some cs:=by
   intro cs;induction cs with
   |nil=>intro _;rfl|cons a l ih=>intro h;simp only[cu,bf] at h;rw[iM,oh h.1,ih h.2];rfl
  rw[this cs BZ];rfl
 .conv=>lhs;unfold bA
  simp only[hp,if_false,dI]
variable (hR:rQ R)
include hR
theorem YM {k e:Ty}(m:List (Den R.T k×Den R.T e)):aQ (.fH (m.map fun p=>aV R k p.1) (m.map fun p=>aV R e p.2))=true:=by
 simp only[aQ,bf];have h1:∀m:List (Den R.T k×Den R.T e),cu (m.map fun p=>aV R k p.1)=true/\cu (m.map fun p=>aV R e p.2)=true:=by
  intro m;induction m with
  |nil=>exact⟨rfl,rfl⟩|cons p m ih=>exact⟨by simp[cu,qW hR,ih.1],by simp[cu,qW hR,ih.2]⟩
 exact h1 m
theorem ajV:∀(t:Ty)(x:Den R.T t)(v:V),pV t=true->aC R Z top (AZ R .any t x) v->∀n Y,bA (n+2) Y v=some (aV R t x)
 |.int k,x,v,_,h,n,Y=>by rw[aC.jB (R:=R) h];exact XD (n+1) _ _|.bool,x,v,_,h,n,Y=>by rw[aC.rR (R:=R) h];exact XE (n+1) _|.str,x,v,_,h,n,Y=>by rw[aC.qV (R:=R) h];exact XF (n+1) _|.slice t,x,v,_,h,n,Y=>by obtain⟨c,rfl,_⟩:=aC.mY (R:=R) h;exact yD _ _ (qW hR _)
 |.st n,_,_,h,_,_,_=>by simp[pV] at h
theorem Jp:∀(l:List Ty)(p:qw R.T l)(vs:List V),l.all pV=true->aK R Z top (mV R .any l p) vs->∀n Y,vs.mapM (bA (n+2) Y)=some (encs R l p)
 | [],_,vs,_,h,n,Y=>by rw[aK.jw h];rfl| [t],x,vs,hl,h,n,Y=>by obtain⟨v,l,rfl,h1,h2⟩:=aK.fV h;rw[aK.jw h2,iM,ajV hR t x v Ca h1];rfl
 |t::u::l,p,vs,hl,h,n,Y=>by rw[List.all_cons,bf] at hl;obtain⟨v,ws,rfl,h1,h2⟩:=aK.fV h;rw[iM,ajV hR t p.1 v hl.1 h1,Jp (u::l) p.2 ws hl.2 h2];rfl
theorem avs (t:Ty)(x:Den R.T t)(vs:List V)(h:aK R Z top (jg R .any t x).cells vs)(n:Nat)(Y:ah):vs.mapM (bA (n+2) Y)=some (aV R t x).cells:=by
 cases t with
 |st k=>have he:aV R (.st k) x= .agg (encs R (R.lf k) (R.of k x)):=hR.enc k x;rw[he];exact Jp hR _ _ vs (hR.leaf k) h n Y|int k=>exact Jp hR [.int k] x vs rfl h n Y|bool=>exact Jp hR [.bool] x vs rfl h n Y|str=>exact Jp hR [.str] x vs rfl h n Y|slice t=>exact Jp hR [.slice t] x vs rfl h n Y
theorem YN {t:Ty}{Z:bC}{top:Nat->Nat}:∀(l:List (Den R.T t))(cs:List V),aK R Z top (l.flatMap fun x=>(jg R .any t x).cells) cs->∀(n:Nat)(Y:ah),cs.mapM (bA (n+2) Y)=some ((l.map (aV R t)).flatMap V.cells)
 | [],cs,h,n,Y=>by rw[aK.jw h];rfl|x::l,cs,h,n,Y=>by rw[lu] at h;obtain⟨a,b,rfl,h1,h2⟩:=h.split;rw[List.mapM_append,YN l b h2 n Y,iH,lu];have:a.mapM (bA (n+2) Y)=some (aV R t x).cells:=avs hR t x a h1 n Y;rw[this];rfl
omit hR in
theorem ajW:∀(t:Ty)(x:Den R.T t)(v:V),pV t=true->aC R Z top (AZ R .any t x) v->gH v=aV R t x
 |.int k,x,v,_,h=>by rw[aC.jB (R:=R) h];rfl|.bool,x,v,_,h=>by rw[aC.rR (R:=R) h];rfl|.str,x,v,_,h=>by rw[aC.qV (R:=R) h];rfl|.slice t,x,v,_,h=>by obtain⟨c,rfl,_⟩:=aC.mY (R:=R) h;rfl
 |.st n,_,_,h,_=>by simp[pV] at h
omit hR in
theorem Jq:∀(l:List Ty)(p:qw R.T l)(vs:List V),l.all pV=true->aK R Z top (mV R .any l p) vs->vs.map gH=encs R l p
 | [],_,vs,_,h=>by rw[aK.jw h];rfl| [t],x,vs,hl,h=>by obtain⟨v,l,rfl,h1,h2⟩:=aK.fV h;rw[aK.jw h2,iH,ajW t x v Ca h1];rfl
 |t::u::l,p,vs,hl,h=>by rw[List.all_cons,bf] at hl;obtain⟨v,ws,rfl,h1,h2⟩:=aK.fV h;rw[iH,ajW t p.1 v hl.1 h1,Jq (u::l) p.2 ws hl.2 h2];rfl
theorem avt (t:Ty)(x:Den R.T t)(vs:List V)(h:aK R Z top (jg R .any t x).cells vs):vs.map gH=(aV R t x).cells:=by
 cases t with
 |st k=>have he:aV R (.st k) x= .agg (encs R (R.lf k) (R.of k x)):=hR.enc k x;rw[he];exact Jq _ _ vs (hR.leaf k) h|int k=>exact Jq [.int k] x vs rfl h|bool=>exact Jq [.bool] x vs rfl h|str=>exact Jq [.str] x vs rfl h|slice t=>exact Jq [.slice t] x vs rfl h
theorem ajX {t:Ty}{Z:bC}{top:Nat->Nat}:∀(l:List (Den R.T t))(cs:List V),aK R Z top (l.flatMap fun x=>(jg R .any t x).cells) cs->cs.map gH=(l.map (aV R t)).flatMap V.cells
 | [],cs,h=>by rw[aK.jw h];rfl|x::l,cs,h=>by rw[lu] at h;obtain⟨a,b,rfl,h1,h2⟩:=h.split;rw[qH,ajX l b h2,iH,lu,avt hR t x a h1]
theorem YO {t:Ty}(l:List (Den R.T t)):chunks (jM t) (dN R t) l.length ((l.map (aV R t)).flatMap V.cells)=l.map (aV R t):=by
 have:=YF (jM t) (dN R t) (l.map (aV R t)) (fun v hv=>by obtain⟨x,_,rfl⟩:=EC.1 hv;exact(Jl hR t x).1);rw[fF] at this;rw[this,AA];refine EB fun x _=>?_;show (if jM t then V.agg (aV R t x).cells else (aV R t x).cells.headD aP)=aV R t x;cases hs:jM t
 .cases t<;>first|rfl| (simp[jM] at hs;done)
 .obtain⟨c,hc⟩:=(Jl hR t x).2.2.2.1 hs;rw[hc];rfl
theorem YP {t:Ty}(l:List (Den R.T t)):(jM t||dN R t==1&& dA ((l.map (aV R t)).flatMap V.cells))=true:=by
 cases hs:jM t
 .have h1:dN R t=1:=by cases t<;>first|rfl| (simp[jM] at hs;done)
  rw[h1];have:dA ((l.map (aV R t)).flatMap V.cells)=true:=by have:=YH hR l;unfold dA at this⊢;rw[List.all_flatMap];exact this
  rw[this];rfl
 .rfl
omit hR in
theorem ajY:∀(a b:List V),cu (a++b)=(cu a&& cu b)
 | [],b=>by simp[cu]|x::a,b=>by simp only[List.cons_append,cu];rw[ajY a b,Bool.and_assoc]
omit hR in
theorem Tf (k:IntKind):∀l:List Int,cu (l.map (V.int k))=true
 | []=>by simp[cu]|x::l=>by simp only[iH,cu,XG,Bool.true_and];exact Tf k l
omit hR in
theorem YQ:∀ss:List bX,cu (dW ss)=true
 | []=>by simp[dW,cu]|.i k x::ss=>by show cu (V.int k x::dW ss)=true;unfold cu;rw[YQ ss];simp[aQ]|.a k n v::ss=>by show cu (v.l.map (V.int k)++dW ss)=true;rw[ajY,Tf,YQ ss];rfl
omit hR in
theorem YR (ss:List bX):aQ (.agg (dW ss))=true:=by unfold aQ;exact YQ ss
omit hR in
theorem ajZ:∀(a b:List V),lQ (a++b)=(lQ a&& lQ b)
 | [],b=>by simp[lQ]|x::a,b=>by simp only[List.cons_append,lQ];rw[ajZ a b,Bool.and_assoc]
omit hR in
theorem aj0 (k:IntKind):∀l:List Int,lQ (l.map (V.int k))=true
 | []=>by simp[lQ]|x::l=>by simp only[iH,lQ,flat,Bool.true_and];exact aj0 k l
omit hR in
theorem Tg:∀ss:List bX,lQ (dW ss)=true
 | []=>by simp[dW,lQ]|.i k x::ss=>by show lQ (V.int k x::dW ss)=true;unfold lQ;rw[Tg ss];simp[flat]|.a k n v::ss=>by show lQ (v.l.map (V.int k)++dW ss)=true;rw[ajZ,aj0,Tg ss];rfl
omit hR in
theorem avu (ss:List bX):er (.agg (dW ss))= .agg (dW ss):=by
 have:∀ss:List bX,(dW ss).map gH=dW ss:=by
  intro ss;induction ss with
  |nil=>rfl|cons s ss ih=>
   cases s with
   |i k x=>show gH (.int k x)::(dW ss).map gH=_;rw[ih];rfl|a k n v=>show (v.l.map (V.int k)++dW ss).map gH=_;rw[qH,ih,AA];rfl
 show V.agg ((dW ss).map gH)=_;rw[this]
omit hR in
theorem uE:∀(a b:List bX),dW (a++b)=dW a++dW b
 | [],b=>rfl|s::a,b=>by show s.vs++dW (a++b)=s.vs++dW a++dW b;rw[uE a b,fP]
omit hR in
theorem bX.len:∀s:bX,s.vs.length=s.w
 |.i _ _=>rfl|.a _ n v=>by show (v.l.map _).length=n;rw[fF,v.h]
omit hR in
theorem jR:∀ss:List bX,(dW ss).length=lD ss
 | []=>rfl|s::ss=>by show (s.vs++dW ss).length=s.w+lD ss;rw[eU,s.len,jR ss]
omit hR in
theorem yL:∀{ss:List bX}{n:Nat}{a b:List bX},sP ss n=some (a,b)->ss=a++b/\lD a=n
 |ss,0,a,b,h=>by
  have h':some (([]:List bX),ss)=some (a,b):=by cases ss<;>exact h
  cases h';exact⟨rfl,rfl⟩
 | [],n+1,a,b,h=>dh|s::ss,n+1,a,b,h=>by
  unfold sP at h;obtain⟨h1,h⟩:=gG h;split at h
  .rename_i a' b' h2;cases h;obtain⟨e,hw⟩:=yL h2;have:=oD h1;refine⟨by rw[e];rfl,?_⟩;show s.w+lD a'=n+1;omega
  .cases h
omit hR in
theorem Ti {Z:bC}{top:Nat->Nat}{k:IntKind}:∀{cs:List (aA R.T)}{xs:List Int}{vs:List V},CO k cs=some xs->aK R Z top cs vs->vs=xs.map (V.int k)
 | [],xs,vs,h,hr=>by cases h;exact hr.jw|c::cs,xs,vs,h,hr=>by
  obtain⟨v,ws,rfl,h1,h2⟩:=hr.fV;cases c<;>first| (exact absurd (show none=some xs from h) aD)|skip
  rename_i k' x;have h':(if k'=k then (match CO k cs with
   |some xs=>some (x::xs)|none=>none) else none)=some xs:=h
  split at h'
  .rename_i e;subst e;split at h'
   .rename_i ys hy;cases h';rw[h1.jB,Ti hy h2];rfl
   .cases h'
  .cases h'
omit hR in
theorem YS (k:IntKind):∀(l:List Int)(rest:List V),chunks false 1 l.length (l.map (V.int k)++rest)=l.map (V.int k)
 | [],rest=>rfl|x::l,rest=>by show V.int k x::chunks false 1 l.length (l.map (V.int k)++rest)=_;rw[YS k l rest];rfl
omit hR in
theorem FT {n:Nat}{lo hi:Option Int}(h:qQ n lo hi=true):(fO lo).toNat<=(jh n hi).toNat/\(jh n hi).toNat<=n/\((fO lo).toNat< (jh n hi).toNat\/(fO lo).toNat=0)/\0<=fO lo/\fO lo<=jh n hi:=by
 cases lo<;>cases hi<;>simp only[qQ,fO,jh,decide_eq_true_eq] at h⊢ <;>omega
omit hR in
theorem avv {U:Type}{n:Nat}{lo hi:Option Int}(h:qQ n lo hi=true){l:List U}(hl:l.length=n):IE l lo hi=(l.drop (fO lo).toNat).take ((jh n hi).toNat-(fO lo).toNat):=by
 obtain⟨h1,h2,_⟩:=FT h;cases lo<;>cases hi<;>simp only[IE,fO,jh] at*
 .simp[hl];rw[rC RS]
 .simp
 .rw[rC];rw[qD];omega
 .rw[List.take_drop];congr 1;congr 1;omega
theorem aj1 (hi:aU Z b st fr Y){o off n:Nat}{k:IntKind}{lo hi':Option Int}{l:List Int}(h:Sg st o off k n lo hi'=some l){s:Nat}(hs:Z.ob o=some s)(hB:qQ n lo hi'=true):
 ∃cs,Y.dS (Z.aj.lc o) s=some cs/\off+n<=cs.length/\(cs.drop (off+(fO lo).toNat)).take ((jh n hi').toNat-(fO lo).toNat)=l.map (V.int k)/\l.length=(jh n hi').toNat-(fO lo).toNat:=by
 obtain⟨p1,p2,p3,_,_⟩:=FT hB;have fin:∀(cs:List V)(xs:List Int),xs.length=n->(cs.drop off).take n=xs.map (V.int k)->off+n<=cs.length->l=IE xs lo hi'->(cs.drop (off+(fO lo).toNat)).take ((jh n hi').toNat-(fO lo).toNat)=l.map (V.int k)/\l.length=(jh n hi').toNat-(fO lo).toNat:=by
  intro cs xs hx hc hle hl;rw[avv hB hx] at hl;subst hl;constructor
  .rw[List.map_take,List.map_drop,<-hc,List.drop_take,List.take_take,List.drop_drop];congr 1;omega
  .rw[nA,qD];omega
 unfold Sg at h;split at h
 .rename_i ss hl;obtain⟨s',h1,h2⟩:=hi.rd hl;rw[hs] at h1;cases h1;split at h
  .rename_i pre k' n' v post hsp;by_cases e:k'=k
   .subst e;rw[if_pos rfl] at h;cases e2:Nat.beq n' n
    .rw[e2] at h;cases h
    rw[e2] at h;have e2:=fQ e2;subst e2;obtain rfl:IE v.l lo hi'=l:=kP h;obtain⟨e3,hw⟩:=yL hsp;refine⟨_,h2,?_,?_⟩
    .rw[e3,jR];have:∀a b:List bX,lD (a++b)=lD a+lD b:=fun a b=>by rw[<-jR,uE,eU,jR,jR]
     rw[this,hw];show off+n'<=off+(n'+lD post);omega
    .refine fin _ v.l v.h ?_ ?_ rfl
     .rw[e3,uE,LX (by rw[jR,hw];exact iR _),Hf (by rw[jR,hw];exact iR _),List.nil_append];show ((v.l.map (V.int k'))++dW post).take n'=_;rw[EH (by rw[fF,v.h];exact iR _),rC (by rw[fF,v.h];exact iR _)]
     .rw[e3,uE,eU,jR,hw,jR];show off+n'<=off+(n'+lD post);omega
   .rw[if_neg e] at h;cases h
  .cases h
 .rename_i cs hl;obtain⟨s',vs,h1,h2,h3⟩:=hi.rd hl;rw[hs] at h1;cases h1;obtain⟨hb,h⟩:=gG h;have hb:=oD hb;split at h
  .rename_i xs hx;cases h;have hv:=Ti hx ((h3.drop off).take n);have hlen:off+n<=vs.length:=by rw[h3.length];exact hb
   refine⟨vs,h2,hlen,fin vs xs ?_ hv hlen rfl⟩;have:=congrArg List.length hv;rw[fF,nA,qD] at this;omega
  .cases h
 .cases h
theorem aj2 (hi:aU Z b st fr Y){x:aA R.T}{v:V}(h:aC R Z Y.top x v):∃v',aC R Z Y.top (yF st x) v'/\∀n,bA (n+3) Y v=bA (n+3) Y v':=by
 by_cases hx:∃o off,x= .ref o off
 .obtain⟨o,off,rfl⟩:=hx;unfold yF;dsimp only;split
  .rename_i cs hl;obtain⟨s,h1,rfl⟩:=h.rT;obtain⟨s',l,h2,h3,h4⟩:=hi.rd hl;rw[h1] at h2;cases h2;refine⟨.aY l off,by unfold aC;exact⟨l,rfl,h4⟩,fun n=>?_⟩;rw[ajU]
   conv=>lhs;unfold bA
   simp only[aQ,dI,if_false,h3,Option.bind_some]
  .exact⟨v,h,fun _=>rfl⟩
 .by_cases hy:∃o,x= .fu o
  .obtain⟨o,rfl⟩:=hy;unfold yF;dsimp only;split
   .rename_i k e m hl;obtain⟨s,h1,rfl⟩:=h.Ni;obtain⟨s',h2,h3⟩:=hi.rd hl;rw[h1] at h2;cases h2;refine⟨.fH (m.map fun p=>aV R k p.1) (m.map fun p=>aV R e p.2),gX,fun n=>?_⟩;have hp:=YM hR m;rw[oh hp];have hp':=hp;simp only[aQ,bf] at hp';have key:∀cs:List V,cu cs=true->cs.mapM (bA (n+2) Y)=some cs:=by
     intro cs;induction cs with
     |nil=>intro _;rfl|cons a l ih=>intro h;simp only[cu,bf] at h;rw[iM,oh h.1,ih h.2];rfl
    conv=>lhs;unfold bA
    simp only[aQ,dI,if_false,h3,Option.bind_some,key _ hp'.1,key _ hp'.2,Option.map_some]
   .exact⟨v,h,fun _=>rfl⟩
  .by_cases hz:∃o t,x= .aS o t
   .obtain⟨o,t,rfl⟩:=hz;unfold yF;dsimp only;split
    .rename_i t' l hl;split
     .rename_i e;subst e;have hO:=hi.rd hl;refine⟨.ak .sh (l.map (aV R t')),by unfold aC;exact⟨.sh,rfl,rfl⟩,fun n=>?_⟩;rw[yD _ _ (qW hR t')];rcases h.Bf with ⟨s,h1,rfl⟩| ⟨h1,h2⟩
      .rcases hO.2 with h2| ⟨s',cs,h2,h3,h4⟩
       .rw[h1] at h2;exact absurd h2.2 aD
       .rw[h1] at h2;cases h2;have hlc:cs.length=l.length*dN R t':=(by rw[h4.length,FP]);have hlen:l.length=Z.ln o:=hO.1
        conv=>lhs;unfold bA
        simp only[aQ,dI,if_false,h3,Option.bind_some,oW,qd];rw[if_pos GV,rC GV,YN hR l cs h4 n Y];simp only[Option.bind_some];rw[<-hlen,YO hR l,YP hR l,if_pos rfl];rfl
      .have hl0:l=[]:=qg (hO.1.trans h1);subst hl0;rcases h2 with rfl|rfl<;>exact yD _ ([]:List (Den R.T t')) (qW hR t')
     .exact⟨v,h,fun _=>rfl⟩
    .exact⟨v,h,fun _=>rfl⟩
   .by_cases hz2:∃o off k n lo hi,x= .sv o off k n lo hi
    .obtain⟨o,off,k,n,lo,hi',rfl⟩:=hz2;unfold yF;dsimp only;split
     .rename_i l hl;obtain⟨s,h1,hB,rfl⟩:=h.C9;obtain⟨cs,c1,c2,c3,c4⟩:=aj1 hR hi hl h1 hB;obtain⟨p1,p2,p3,_,_⟩:=FT hB;refine⟨.ak .sh (l.map (V.int k)),by unfold aC;exact⟨.sh,rfl,rfl⟩,fun m=>?_⟩;have hcl:bA (m+3) Y (.ak .sh (l.map (V.int k)))=some (.ak .sh (l.map (V.int k))):=oh (by unfold aQ;exact Tf k l);rw[hcl]
      conv=>lhs;unfold bA
      simp only[aQ,dI,if_false,c1,Option.bind_some,Nat.mul_one];rw[if_pos RS,c3];have key:∀cs:List V,cu cs=true->cs.mapM (bA (m+2) Y)=some cs:=by
       intro cs;induction cs with
       |nil=>intro _;rfl|cons a l ih=>intro h;simp only[cu,bf] at h;rw[iM,oh h.1,ih h.2];rfl
      rw[key _ (Tf k l)];simp only[Option.bind_some];have hone:dA (l.map (V.int k))=true:=(by unfold dA;rw[List.all_map];simp[oneCell]);rw[hone,<-c4];have:=YS k l [];rw[jG] at this;rw[this];rfl
     .exact⟨v,h,fun _=>rfl⟩
    .by_cases hz3:∃o t a b,x= .sub o t a b
     .obtain⟨o,t,a,b,rfl⟩:=hz3;unfold yF;dsimp only;split
      .rename_i t' l hl;split
       .rename_i e;subst e;have hO:=hi.rd hl;have hlen:l.length=Z.ln o:=hO.1;obtain⟨g0,g1,g2,h⟩:=h.FK;refine⟨.ak .sh ((Fw l a b).map (aV R t')),by unfold aC;exact⟨.sh,rfl,rfl⟩,fun n=>?_⟩;rw[yD _ _ (qW hR t')];have hsl:(Fw l a b).length=(b-a).toNat:=(by rw[ajP g0 g1,nA,qD];omega);rcases h with ⟨s,cp,h1,h2,rfl⟩| ⟨e,c,rfl⟩
        .rcases hO.2 with h2| ⟨s',cs,h2,h3,h4⟩
         .rw[h1] at h2;exact absurd h2.2 aD
         .rw[h1] at h2;cases h2;have hlc:cs.length=l.length*dN R t':=(by rw[h4.length,FP]);have hp:=ava g0 g1 h4;have hle:a.toNat*dN R t'+(b-a).toNat*dN R t'<=cs.length:=by rw[hlc,<-qE];exact oC _ RS
          conv=>lhs;unfold bA
          simp only[aQ,dI,if_false,h3,Option.bind_some];rw[if_pos hle,YN hR _ _ hp n Y];simp only[Option.bind_some];rw[<-hsl,YO hR,YP hR,if_pos rfl];rfl
        .have hl0:Fw l a b=[]:=qg (by rw[hsl,e];simp);rw[hl0];exact yD _ ([]:List (Den R.T t')) (qW hR t')
       .exact⟨v,h,fun _=>rfl⟩
      .exact⟨v,h,fun _=>rfl⟩
     .have:yF st x=x:=(by cases x<;>first|rfl|exact absurd ⟨_,_,rfl⟩ hx|exact absurd ⟨_,rfl⟩ hy|exact absurd ⟨_,_,rfl⟩ hz|exact absurd ⟨_,_,_,_,_,_,rfl⟩ hz2|exact absurd ⟨_,_,_,_,rfl⟩ hz3);rw[this];exact⟨v,h,fun _=>rfl⟩
theorem Tj (hi:aU Z b st fr Y):∀{x:List (aA R.T)}{v:List V},aK R Z Y.top x v->∃v',aK R Z Y.top (MX st x) v'/\∀n,v.mapM (bA (n+3) Y)=v'.mapM (bA (n+3) Y)
 | [],v,h=>by rw[h.jw];exact⟨[],rfl,fun _=>rfl⟩
 |x::xs,v,h=>by obtain⟨w,ws,rfl,h1,h2⟩:=h.fV;obtain⟨w',a1,a2⟩:=aj2 hR hi h1;obtain⟨ws',b1,b2⟩:=Tj hi h2;exact⟨w'::ws',.cons' a1 b1,fun n=>by rw[iM,iM,a2,b2]⟩
theorem avw (hi:aU Z b st fr Y){x:aA R.T}{v:V}(h:aC R Z Y.top x v):∃v',aC R Z Y.top (Fx st x) v'/\∀n,bA (n+4) Y v=bA (n+4) Y v':=by
 by_cases hx:∃f a b,x= .fn f a b
 .obtain⟨f,a,b,rfl⟩:=hx;obtain⟨a',b',rfl,ha,hb⟩:=h.pE;obtain⟨va,a1,a2⟩:=Tj hR hi ha;obtain⟨vb,b1,b2⟩:=Tj hR hi hb;refine⟨.fn (.func f) va vb,⟨va,vb,rfl,a1,b1⟩,fun n=>?_⟩;rw[YL,YL,a2,b2]
 .by_cases hy:∃cs,x= .agg cs
  .obtain⟨cs,rfl⟩:=hy;obtain⟨l,rfl,hl⟩:=h.mX;obtain⟨v',a1,a2⟩:=Tj hR hi hl;refine⟨.agg v',by unfold Fx;unfold aC;exact⟨v',rfl,a1⟩,fun n=>?_⟩;rw[Yl,Yl,a2]
  .have:Fx st x=yF st x:=by cases x<;>first|rfl|exact absurd ⟨_,_,_,rfl⟩ hx|exact absurd ⟨_,rfl⟩ hy
   rw[this];obtain⟨v',h1,h2⟩:=aj2 hR hi h;exact⟨v',h1,fun n=>h2 (n+1)⟩
theorem Nq (hi:aU Z b st fr Y):∀{x:List (aA R.T)}{v:List V},aK R Z Y.top x v->∃v',aK R Z Y.top (rP st x) v'/\∀n,v.mapM (bA (n+4) Y)=v'.mapM (bA (n+4) Y)
 | [],v,h=>by rw[h.jw];exact⟨[],rfl,fun _=>rfl⟩
 |x::xs,v,h=>by obtain⟨w,ws,rfl,h1,h2⟩:=h.fV;obtain⟨w',a1,a2⟩:=avw hR hi h1;obtain⟨ws',b1,b2⟩:=Nq hi h2;exact⟨w'::ws',.cons' a1 b1,fun n=>by rw[iM,iM,a2,b2]⟩
mutual
theorem aj3:∀(k:bQ)(x:sM R.T k)(tv:aA R.T)(v:V),xY k=true->pk R k tv=some x->aC R Z top tv v->∀n Y,dep k<=n->bA n Y v=some (encS R k x)
 |.d t,x,tv,v,_,h,hr,n,Y,hn=>by obtain⟨m,rfl⟩:∃m,n=m+3:=⟨n-3,QW⟩;exact(ajb hR (show A8 R t tv=some x from h) hr).2.2.1 m Y
 |.l c t,x,tv,v,_,h,hr,n,Y,hn=>by obtain⟨m,rfl⟩:∃m,n=m+3:=⟨n-3,QW⟩;obtain⟨c',rfl,_⟩:=(ajr (show Sj R c t tv=some x from h) hr).mY;exact yD _ _ (qW hR _)
 |.agg l,x,tv,v,hc,h,hr,n,Y,hn=>by
  cases tv<;>first| (exact absurd (show none=some x from h) aD)|skip
  rename_i cs;obtain⟨vs,rfl,hl⟩:=hr.mX;unfold dep at hn;obtain⟨m,rfl⟩:∃m,n=m+2:=⟨n-2,RS⟩;rw[aiH,zQ l x cs vs (by unfold xY at hc;exact hc) h hl (m+1) Y RS];rfl
 |.aY l off,x,tv,v,hc,h,hr,n,Y,hn=>by
  cases tv<;>first| (exact absurd (show none=some x from h) aD)|skip
  rename_i cs off';have h':(bif Nat.beq off' off then jA R l cs else none)=some x:=h;obtain⟨hb,h'⟩:=gG h';rw[fQ hb] at hr;obtain⟨vs,rfl,hl⟩:=hr.uz;unfold dep at hn;obtain⟨m,rfl⟩:∃m,n=m+2:=⟨n-2,RS⟩;rw[ajU,zQ l x cs vs (by unfold xY at hc;exact hc) h' hl (m+1) Y RS];rfl
 |.fH k e,x,tv,v,_,h,hr,n,Y,hn=>by
  cases tv<;>first| (exact absurd (show none=some x from h) aD)|skip
  rename_i k' e' m;obtain⟨e1,e2,e3⟩:=Yq (show IJ R m=some x from h);subst e1;subst e2;cases e3;obtain⟨m',rfl⟩:∃m,n=m+3:=⟨n-3,QW⟩;rw[hr.FJ];exact oh (YM hR m)
 |.fn f a b,x,tv,v,hc,h,hr,n,Y,hn=>by
  cases tv<;>first| (exact absurd (show none=some x from h) aD)|skip
  rename_i f' a' b';have h':(bif Nat.beq f' f then (match jA R a a' with
   |some x=>match jA R b b' with
    |some y=>some (x,y)|none=>none
   |none=>none) else none)=some x:=h
  obtain⟨hb,h'⟩:=gG h';rw[fQ hb] at hr;obtain⟨va,vb,rfl,ha,hbb⟩:=hr.pE;unfold xY at hc;rw[bf] at hc;unfold dep at hn;obtain⟨m,rfl⟩:∃m,n=m+2:=⟨n-2,RS⟩;cases h1:jA R a a' with
  |none=>simp only[h1] at h';cases h'|some y=>
   cases h2:jA R b b' with
   |none=>simp only[h1,h2] at h';cases h'|some z=>simp only[h1,h2] at h';cases h';rw[YL,zQ a y a' va hc.1 h1 ha (m+1) Y RS,zQ b z b' vb hc.2 h2 hbb (m+1) Y RS];rfl
 |.ref _ _,_,_,_,h,_,_,_,_,_=>wK|.fu _,_,_,_,h,_,_,_,_,_=>wK|.fU,_,_,_,h,_,_,_,_,_=>wK|.aS _ _,_,_,_,h,_,_,_,_,_=>wK|.sub _ _,_,_,_,h,_,_,_,_,_=>wK|.sg l,x,tv,v,_,h,hr,n,Y,hn=>by
  cases tv<;>first| (exact absurd (show none=some x from h) aD)|skip
  rename_i ss;obtain⟨m,rfl⟩:∃m,n=m+1:=⟨n-1,QW⟩;rw[hr.Jg];show _=some (V.agg (dW (yE l x)));rw[SX (show bO l ss=some x from h)];exact oh (YR ss)
 |.undef,_,_,_,h,_,_,_,_,_=>wK
theorem zQ:∀(l:List bQ)(x:aT R.T l)(cs:List (aA R.T))(vs:List V),mD l=true->jA R l cs=some x->aK R Z top cs vs->∀n Y,vH l<=n->vs.mapM (bA n Y)=some (bM R l x)
 | [],x,cs,vs,_,h,hr,n,Y,hn=>by
   cases cs with
   |nil=>rw[hr.jw];rfl|cons c cs=>exact absurd (show none=some x from h) aD
 | [k],x,cs,vs,hc,h,hr,n,Y,hn=>by
   unfold mD at hc;rw[bf] at hc;unfold vH at hn;cases cs with
   |nil=>exact absurd (show none=some x from h) aD|cons c cs=>
    cases cs with
    |nil=>obtain⟨v,l,rfl,h1,h2⟩:=hr.fV;rw[h2.jw,iM,aj3 k x c v hc.1 h h1 n Y RS];rfl
    |cons c' cs=>exact absurd (show none=some x from h) aD
 |k::k'::l,x,cs,vs,hc,h,hr,n,Y,hn=>by
  unfold mD at hc;rw[bf] at hc;unfold vH at hn;cases cs with
  |nil=>exact absurd (show none=some x from h) aD|cons c cs=>
   have h':(match pk R k c with
    |some x=>match jA R (k'::l) cs with
     |some p=>some (x,p)|none=>none
    |none=>none)=some x:=h
   obtain⟨v,vs,rfl,h1,h2⟩:=hr.fV;cases hu:pk R k c with
   |none=>simp only[hu] at h';cases h'|some y=>
    cases hs:jA R (k'::l) cs with
    |none=>simp only[hu,hs] at h';cases h'|some q=>simp only[hu,hs] at h';obtain rfl:=kP h';rw[iM,aj3 k y c v hc.1 hu h1 n Y RS,zQ (k'::l) q cs vs hc.2 hs h2 n Y RS];rfl
end
mutual
theorem YT:∀(tv:aA R.T)(v:V),qc tv=true->aC R Z top tv v->aQ v=true
 |.int _ _,v,_,h=>by rw[h.jB];exact XG _ _|.bool _,v,_,h=>by rw[h.rR];exact XH _|.jK _,v,_,h=>by rw[h.vL];exact XH _|.str _,v,_,h=>by rw[h.qV];exact aiE _|.gY,v,_,h=>QK|.gL,v,_,h=>QK|.iq,v,_,h=>QK|.iN,v,_,h=>QK|.ak c t l,v,hs,h=>by
  cases c<;>simp only[qc,dI] at hs;obtain⟨c',rfl,hc⟩:=h.mY;obtain rfl:c'= .sh:=hc;exact MU (qW hR t) l
 |.agg cs,v,hs,h=>by obtain⟨l,rfl,hl⟩:=h.mX;unfold aQ;exact Jr cs l (by unfold qc at hs;exact hs) hl
 |.bW cs,v,hs,h=>by obtain⟨l,rfl,hl⟩:=h.Jf;unfold aQ;exact Jr cs l (by unfold qc at hs;exact hs) hl
 |.fH k e m,v,_,h=>by rw[h.FJ];exact YM hR m|.fn f a b,v,hs,h=>by obtain⟨a',b',rfl,ha,hb⟩:=h.pE;unfold qc at hs;rw[bf] at hs;unfold aQ;rw[Jr a a' hs.1 ha,Jr b b' hs.2 hb];rfl
 |.fU,_,hs,_=>wI|.ref _ _,_,hs,_=>wI|.aY cs off,v,hs,h=>by obtain⟨l,rfl,hl⟩:=h.uz;unfold aQ;exact Jr cs l (by unfold qc at hs;exact hs) hl
 |.aS _ _,_,hs,_=>wI|.sub _ _ _ _,_,hs,_=>wI|.mU _ _ _ _,_,hs,_=>wI|.sg ss,v,_,h=>by rw[h.Jg];exact YR ss|.sv _ _ _ _ _ _,_,hs,_=>wI|.sel _ _ _ _ _ _,_,hs,_=>wI|.vE _ _ _ _,_,hs,_=>wI|.fu _,_,hs,_=>wI|.opt _ _ _,_,hs,_=>wI|.undef,_,hs,_=>wI|.gone,_,hs,_=>wI
theorem Jr:∀(l:List (aA R.T))(vs:List V),zI l=true->aK R Z top l vs->cu vs=true
 | [],vs,_,h=>LW|x::l,vs,hs,h=>by obtain⟨v,ws,rfl,h1,h2⟩:=h.fV;unfold zI at hs;rw[bf] at hs;unfold cu;rw[YT x v hs.1 h1,Jr l ws hs.2 h2];rfl
end
theorem aj4 {x:aA R.T}{v:V}(hs:M0 x=true)(h:aC R Z top x v):aQ (gH v)=true:=by
 have key:qc x=true->aQ (gH v)=true:=fun hs=>by
  have:=YT hR x v hs h;cases v with
  |ak c l=>cases c<;>simp[aQ] at this<;>simpa [gH,aQ] using this|_=>exact this
 cases x<;>first|exact key hs|skip
 .rw[h.uy];simp[gH,aQ,cu]
 .obtain⟨c',rfl,hc⟩:=h.mY;exact MU (qW hR _) _
theorem aj5:∀{x:List (aA R.T)}{v:List V},Si x=true->aK R Z top x v->cu (v.map gH)=true
 | [],vs,_,h=>LW|x::l,vs,hs,h=>by obtain⟨v,ws,rfl,h1,h2⟩:=h.fV;unfold Si at hs;rw[bf] at hs;rw[iH];unfold cu;rw[aj4 hR hs.1 h1,aj5 hs.2 h2];rfl
theorem avx {x:aA R.T}{v:V}(hs:aiL x=true)(h:aC R Z top x v):aQ (er v)=true:=by
 by_cases hx:∃cs,x= .agg cs
 .obtain⟨cs,rfl⟩:=hx;obtain⟨l,rfl,hl⟩:=h.mX;show aQ (.agg (l.map gH))=true;unfold aQ;exact aj5 hR hs hl
 .by_cases hy:∃ss,x= .sg ss
  .obtain⟨ss,rfl⟩:=hy;rw[h.Jg,avu];exact YR ss
  have hs':M0 x=true:=by cases x<;>first|exact hs|exact absurd ⟨_,rfl⟩ hx
  have h1:=aj4 hR hs' h;have hne:∀cs,v≠ .agg cs:=by rintro cs rfl;cases x<;>first|exact hy ⟨_,rfl⟩| (unfold aC at h;simp at h;done)|exact hx ⟨_,rfl⟩| (simp[M0,qc] at hs';done)
  rw[auv hne];exact h1
theorem Nr:∀{x:List (aA R.T)}{v:List V},CS x=true->aK R Z top x v->v.all (fun a=>aQ (er a))=true
 | [],vs,_,h=>LW|x::l,vs,hs,h=>by obtain⟨v,ws,rfl,h1,h2⟩:=h.fV;unfold CS at hs;rw[bf] at hs;rw[List.all_cons,avx hR hs.1 h1,Nr hs.2 h2];rfl
theorem YU:∀(l:List bQ)(x:aT R.T l),IG l=true->lQ (bM R l x)=true
 | [],x,_=>rfl| [k],x,h=>by
   cases k<;>simp only[IG,Bool.and_true,dI] at h
   .rename_i t;show (flat (aV R t x)&& lQ [])=true;cases t<;>simp only[XR,dI] at h<;>rfl
   .rename_i ks;show (flat (.agg (dW (yE ks x)))&& lQ [])=true;unfold flat;rw[Tg];rfl
 |k::k'::l,x,h=>by
  cases k<;>simp only[IG,dI] at h
  .rename_i t;rw[bf] at h;show (flat (aV R t x.1)&& lQ (bM R (k'::l) x.2))=true;rw[YU (k'::l) x.2 h.2];have:=h.1;cases t<;>simp only[XR,dI] at this<;>rfl
  .rename_i ks;show (flat (.agg (dW (yE ks x.1)))&& lQ (bM R (k'::l) x.2))=true;rw[YU (k'::l) x.2 h];unfold flat;rw[Tg];rfl
omit hR in
theorem avy {vs:List V}(h:lQ vs=true):flat (jy vs)=true:=by
 match vs with
 | []=>simp[jy,flat,lQ]| [v]=>simp only[lQ,Bool.and_true] at h;exact h|v::w::vs=>show flat (.bW _)=true;unfold flat;exact h
mutual
theorem aj6:∀(k:bQ)(x:sM R.T k),xY k=true->aC R Z top (up R .sh k x) (encS R k x)
 |.d t,x,_=>ai5 hR t x|.l c t,x,h=>by refine⟨.sh,rfl,?_⟩;cases c<;>first|trivial|rfl| (simp[xY] at h;done)
 |.agg l,x,h=>⟨_,rfl,Dk l x (by unfold xY at h;exact h)⟩|.aY l off,x,h=>⟨_,rfl,Dk l x (by unfold xY at h;exact h)⟩|.fH k e,x,_=>rfl|.fn f a b,x,h=>by unfold xY at h;rw[bf] at h;exact⟨_,_,rfl,Dk a x.1 h.1,Dk b x.2 h.2⟩|.ref _ _,_,h=>wK|.fu _,_,h=>wK|.fU,_,h=>wK|.aS _ _,_,h=>wK|.sub _ _,_,h=>wK|.sg l,x,_=>rfl|.undef,_,h=>wK
theorem Dk:∀(l:List bQ)(x:aT R.T l),mD l=true->aK R Z top (jL R .sh l x) (bM R l x)
 | [],_,_=>rfl| [k],x,h=>by unfold mD at h;rw[bf] at h;exact .cons' (aj6 k x h.1) rfl|k::k'::l,x,h=>by unfold mD at h;rw[bf] at h;exact .cons' (aj6 k x.1 h.1) (Dk (k'::l) x.2 h.2)
end
omit hR in
theorem avz {x:List (aA R.T)}{v:List V}(h:aK R Z top x v):aC R Z top (aiQ R x) (jy v):=by
 match x,h with
 | [],h=>rw[h.jw];exact⟨[],rfl,rfl⟩| [a],h=>obtain⟨v,vs,rfl,h1,h2⟩:=h.fV;rw[h2.jw];exact h1
 |a::b::l,h=>obtain⟨v,vs,rfl,h1,h2⟩:=h.fV;obtain⟨w,ws,rfl,h3,h4⟩:=h2.fV;exact⟨_,rfl,.cons' h1 (.cons' h3 h4)⟩
def aj7:List V->List V
 |_::l=>.ak .nil []::l| []=>[]
def bg (E:Env)(F:Nat->List (ig R)):Prop:=∀f,∀r∈F f,∀p x,r.F p=some x->(mD r.args=true->Pure E f (bM R r.args p) (jy (bM R r.res x)))/\
 (r.own=true->∀(τ:Ty)(h:r.res=[.d (.slice τ)])(l:List (Den R.T τ)),(h▸x:aT R.T [.d (.slice τ)])=l->
   (mD r.args=true->E.zw f=false/\oH E f (bM R r.args p) (dN R τ) (l.map (aV R τ)))/\
   (mD r.args=false->E.zw f=true/\oH E f (aj7 (bM R r.args p)) (dN R τ) (l.map (aV R τ))))
theorem aj8 {F:Nat->List (ig R)}(hF:bg E F){f:Nat}{c:Call}{fo:Operand}{o:Oper}{aN:Nat}{a' b':List V}(ho:o.op= .call c)(fT:c.callee= .value fo)(hf:fr.ev E fo= .fn (.func f) a' b')(hi:E.imp f=false){args:List (aA R.T)}(ha:aK R Z Y.top args (a'++c.args.toList.map (fr.ev E)++b'))(hi':aU Z b st fr Y):∀{l:List (ig R)}{r:fE R},(∀x∈l,x∈F f)->findF R args (rP st args) l=some r->sZ E st Z aN fr Y o r
 | [],r,_,h=>dh|q::l,r,hl,h=>by
  unfold findF at h;split at h
  .rename_i p hp;obtain⟨hc,h⟩:=gG h;cases h;simp only[bf] at hc;obtain⟨⟨⟨c1,c2⟩,c3⟩,c4⟩:=hc;intro x hx;have hP:=(hF f q (hl q aD) p x hx).1 c1;obtain⟨vs',v1,v2⟩:=Nq hR hi' ha;have Ns:=zQ hR q.args p (rP st args) _ c1 hp v1 20 Y (by have:=oD c2;omega);have has:=(v2 16).trans Ns;have hcl:((a'++c.args.toList.map (fr.ev E)++b').all (fun x=>aQ (er x))||flat (jy (bM R q.res x)))=true:=by
    rw[wM] at c4⊢;rcases c4 with c4|c4
    .exact .inl (Nr hR c4 ha)
    .exact .inr (avy (YU hR _ _ c4))
   exact⟨jy (bM R q.res x),⟨fun eZ _ _ _ hw h'=>ay.call hw ho fT hf hi has hP hcl h' (ajC ho fT hf eZ),fun eZ _ _ _ _ _ hw h'=>dL.call hw ho fT hf hi has hP hcl h' (ajC ho fT hf eZ)⟩,avz (Dk hR _ _ c3)⟩
  .exact aj8 hF ho fT hf hi ha hi' (fun x hx=>hl x (by simp[hx])) h
theorem avA {t:TypeId}{x i:aA R.T}{v w:V}{r:fE R}(h:X6 E R t x i=some r)(hx:aC R Z top x v)(hi:aC R Z top i w):qX Z top (qh E.P t v w) r:=by
 unfold X6 at h;split at h
 .rename_i e c u l k n hu;split at h
  .rename_i sz hs;obtain⟨hb,h⟩:=gG h;cases h;have:=fQ hb;subst this;obtain⟨c',rfl,_⟩:=hx.mY;rw[hi.jB];intro a ha;refine⟨.aY (aV R u a).cells 0,?_,?_⟩
   .rw[XI,if_pos (by unfold wV;rw[hu])];have:lS E.P t=some e:=(by unfold lS;rw[hu]);rw[this];simp only[Option.bind_some,hs,ha];rw[if_pos (Jl hR u a).1]
   .unfold aC;refine⟨_,rfl,(yK ?_ (ai5 hR u a)).1⟩;cases u<;>rfl
  .cases h
 .rename_i n e o off k m hu;split at h
  .rename_i sz hs;cases h;obtain⟨s,h1,rfl⟩:=hx.rT;rw[hi.jB];intro hc;have hc':0<=m/\m<n:=of_decide_eq_true hc;refine⟨.ref (Z.aj.lc o) s (off+m.toNat*sz),?_,by unfold aC;exact⟨s,h1,rfl⟩⟩;unfold qh;rw[hu];dsimp only;rw[hs];simp[idx,pQ,hc']
  .cases h
 .rename_i n e cs off k m hu;split at h
  .rename_i sz hs;cases h;obtain⟨l,rfl,h1⟩:=hx.uz;rw[hi.jB];intro hc;have hc':0<=m/\m<n:=of_decide_eq_true hc;refine⟨.aY l (off+m.toNat*sz),?_,by unfold aC;exact⟨l,rfl,h1⟩⟩;unfold qh;rw[hu];dsimp only;rw[hs];simp[idx,pQ,hc']
  .cases h
 .cases h
omit hR in
theorem avB {t:TypeId}{x i:aA R.T}{v w:V}{r:fE R}(h:Yb E R t x i=some r)(hx:aC R Z top x v)(hi:aC R Z top i w):qX Z top (EP E.P t v w) r:=by
 unfold Yb at h;split at h
 .rename_i s k n hu;cases h;rw[hx.qV,hi.jB];intro a ha;refine⟨.int .u8 (a.toNat:Int),?_,gX⟩;rw[aiK (by unfold XC;rw[hu]),ha];rfl
 .cases h
end
end aR
end
section
namespace aR
open Go
section
variable {R:jY}{E:Env}
variable {Z:bC}{top:Nat->Nat}{b aN:Nat}{st:aO R.T}{fr:Fr}{Y:ah}{o:Oper}
theorem Nt {P:Program}{t e:TypeId}{n:Nat}(h:uZ P t=some (n,e)):P.underlying t=some (.array n e):=by
 unfold uZ at h;split at h
 .rename_i n' e' hu;cases h;exact hu
 .cases h
theorem Dl {t:TypeId}(h:uo E t=true):dO E.P t=some 1/\jX E.P t=some false:=by
 unfold uo at h;split at h
 .rename_i sz ag h1 h2;rw[bf] at h;rw[fQ h.1] at h1;cases ag
  .exact⟨h1,h2⟩
  .simp at h
 .cases h
theorem Dm (a b:List bX):lD (a++b)=lD a+lD b:=by rw[<-jR,uE,eU,jR,jR]
theorem aj9 {pre rest:List bX}{n:Nat}(h:lD pre=n)(k:Nat):(dW (pre++rest)).drop (n+k)=(dW rest).drop k:=by rw[uE,<-h,<-jR,EG,Hf RS,List.nil_append,AB]
theorem Tk (s:bX)(l:List bX):dW (s::l)=s.vs++dW l:=rfl
theorem Tm (s:bX)(l:List bX):lD (s::l)=s.w+lD l:=rfl
theorem YV {Z:bC}{top:Nat->Nat}(k:IntKind):∀l:List Int,aK R Z top (l.map (aA.int k)) (l.map (V.int k))
 | []=>rfl|x::l=>.cons' gX (YV k l)
theorem avC {n:Nat}(v:Vec n):(List.range n).map v.nth=v.l:=by
 apply List.ext_getElem
 .rw[fF,EI,v.h]
 .intro i h1 h2;rw[Cg,Ch];unfold Vec.nth;rw[nD,fA h2];rfl
theorem YW {Z:bC}{top:Nat->Nat}:∀ss:List bX,aK R Z top (Na ss) (dW ss)
 | []=>rfl|.i k x::l=>.cons' gX (YW l)|.a k n v::l=>by
  show aK R Z top ((List.range n).map (fun j=>aA.int k (v.nth j))++Na l) (v.l.map (V.int k)++dW l);refine aK.append ?_ (YW l);have:(List.range n).map (fun j=>aA.int (T:=R.T) k (v.nth j))=v.l.map (aA.int k):=by rw[<-avC v,AA];rfl
  rw[this];exact YV k v.l
theorem akb {t:TypeId}{ss:List bX}{off:Nat}{v:aA R.T}(h:SB E R t ss off=some v):∃y,gT E.P t (dW ss) off=some y/\aC R Z top v y:=by
 unfold SB at h;split at h
 .rename_i pre rest sz ag h1 h2 h3;obtain⟨e1,w1⟩:=yL h1;split at h
  .rename_i mid post h4;obtain⟨e2,w2⟩:=yL h4;have hd:(dW ss).drop off=dW mid++dW post:=by have:=aj9 (rest:=rest) w1 0;rw[<-e1,Nat.add_zero] at this;rw[this,e2,uE];rfl
   have hlen:(dW ss).length=off+(sz+lD post):=by rw[jR,e1,Dm,w1,e2,Dm,w2]
   unfold gT;rw[h3,h2];simp only[Option.bind_some];cases ag with
   |true=>
    rw[cond_true] at h;have hp:rD true sz (dW ss) off=some (.agg (dW mid)):=(by unfold rD;rw[if_pos rfl,if_pos RS,hd,EH (by rw[jR,w2];exact iR _),rC (by rw[jR,w2];exact iR _)]);split at h
    .cases h;exact⟨_,hp,gX⟩
    .cases h;exact⟨_,hp,by unfold aC;exact⟨_,rfl,YW mid⟩⟩
   |false=>
    rw[cond_false] at h;split at h
    .rename_i k x;cases h;refine⟨.int k x,?_,gX⟩;unfold rD;simp only[dI,if_false];have:=congrArg (fun l=>l[0]?) hd;rw[List.getElem?_drop,Nat.add_zero] at this;rw[this];rfl
    .cases h
  .cases h
 .cases h
theorem akc {n:Nat}(v:Vec n){i:Int}(h:i.toNat<n):v.l[i.toNat]? =some (v.at' i):=by unfold Vec.at';rw[nD,fA (by rw[v.h];exact h)];rfl
theorem akd {ss pre post:List bX}{off n:Nat}{k:IntKind}{v:Vec n}{i:Int}{t:TypeId}(h:sP ss off=some (pre,.a k n v::post))(hi:i.toNat<n)(ht:uo E t=true):gT E.P t (dW ss) (off+i.toNat)=some (.int k (v.at' i)):=by obtain⟨e1,w1⟩:=yL h;obtain⟨h1,h2⟩:=Dl ht;unfold gT;rw[h1,h2];simp only[Option.bind_some];unfold rD;simp only[dI,if_false];rw[e1,uE,List.getElem?_append_right (by rw[jR,w1];omega),jR,w1,AB,Tk,Wd (by rw[bX.len];exact hi)];show (v.l.map (V.int k))[i.toNat]? =_;rw[List.getElem?_map,akc v hi];rfl
theorem Nu {n:Nat}{l:List Int}(h:l.length=n):(Vec.lit n l).l=l:=by unfold Vec.lit;rw[dif_pos h]
theorem avD {l:List Int}{a m:Nat}(h:a+m<=l.length):(List.range m).map (fun j=>l.getD (a+j) 0)=(l.drop a).take m:=by
 apply List.ext_getElem
 .rw[fF,EI,nA,qD];omega
 .intro i h1 h2;rw[fF,EI] at h1;rw[Cg,Ch,List.getElem_take,List.getElem_drop,nD,fA RS];rfl
theorem avE {t:TypeId}{ss pre post:List bX}{off n m:Nat}{k:IntKind}{v:Vec n}{i:Int}{y:aA R.T}(h:sP ss off=some (pre,.a k n v::post))(hi:i.toNat+m<=n)(hs:Yc E R t k m n v i=some y):∃x,gT E.P t (dW ss) (off+i.toNat)=some x/\aC R Z top y x:=by
 obtain⟨e1,w1⟩:=yL h;unfold Yc at hs;split at hs
 .rename_i m' e sz h1 h2 h3;obtain⟨hc,hs⟩:=gG hs;rw[bf] at hc;have e2:=fQ hc.1;have e3:=fQ hc.2;rw[e3] at h2;have hp:gT E.P t (dW ss) (off+i.toNat)=some (.agg (((v.l.drop i.toNat).take m).map (V.int k))):=by unfold gT;rw[h3,h2];simp only[Option.bind_some];unfold rD;rw[if_pos rfl,if_pos (by rw[jR,e1,Dm,w1,Tm];show off+i.toNat+m<=off+(n+_);omega)];rw[e1,aj9 w1,Tk];show some (V.agg ((((v.l.map (V.int k))++dW post).drop i.toNat).take m))=_;rw[LX (by rw[fF,v.h];omega),EH (by rw[qD,fF,v.h];omega),List.map_take,List.map_drop]
  refine⟨_,hp,?_⟩;have hl:((v.l.drop i.toNat).take m).length=m:=by rw[nA,qD,v.h];omega
  split at hs
  .cases hs;unfold aC;show V.agg _= .agg (((v.slc i m).l.map (V.int k))++[]);unfold Vec.slc;rw[Nu hl,jG]
  .cases hs;unfold aC;refine⟨_,rfl,?_⟩;have:=avD (l:=v.l) (a:=i.toNat) (m:=m) (by rw[v.h];exact hi);have e:(List.range m).map (fun j=>aA.int (T:=R.T) k (v.nth (i.toNat+j)))=((v.l.drop i.toNat).take m).map (aA.int k):=by rw[<-this,AA];rfl
   rw[e];exact YV k _
 .cases hs
def Bl:List lV->Nat
 | []=>0|.i _::l=>1+Bl l|.a _ n::l=>n+Bl l
theorem Tn:∀ss:List bX,Bl (ss.map bX.sk)=lD ss
 | []=>rfl|.i k x::l=>by show 1+Bl (l.map bX.sk)=1+lD l;rw[Tn l]|.a k n v::l=>by show n+Bl (l.map bX.sk)=n+lD l;rw[Tn l]
theorem avF:∀{ks:List lV}{cs:List (aA R.T)}{ss:List bX}{vs:List V},CX ks cs=some ss->aK R Z top cs vs->vs=dW ss/\lD ss=Bl ks:=by
 intro ks;induction ks with
 |nil=>
  intro cs ss vs h hr;cases cs with
  |nil=>cases h;exact⟨hr.jw,rfl⟩|cons c cs=>cases h
 |cons k ks ih=>
  intro cs ss vs h hr;cases k with
  |i k=>
   cases cs with
   |nil=>cases h|cons c cs=>
    obtain⟨v,ws,rfl,h1,h2⟩:=hr.fV;cases c<;>first| (exact absurd (show none=some ss from h) aD)|skip
    rename_i k' x;have h':(if k'=k then (match CX ks cs with
     |some r=>some (bX.i k x::r)|none=>none) else none)=some ss:=h
    by_cases e:k'=k
    .subst e;rw[if_pos rfl] at h';cases hc:CX ks cs with
     |none=>rw[hc] at h';cases h'|some r=>rw[hc] at h';cases h';obtain⟨g1,g2⟩:=ih hc h2;exact⟨by rw[h1.jB,g1];rfl,by show 1+lD r=1+Bl ks;rw[g2]⟩
    .rw[if_neg e] at h';cases h'
  |a k n=>
   have h':(match CO k (cs.take n) with
    |some xs=>bif Nat.beq xs.length n then (match CX ks (cs.drop n) with
     |some r=>some (bX.a k n (Vec.lit n xs)::r)|none=>none) else none
    |none=>none)=some ss:=by cases cs<;>exact h
   cases hx:CO k (cs.take n) with
   |none=>rw[hx] at h';cases h'|some xs=>
    rw[hx] at h';dsimp only at h';obtain⟨hb,h'⟩:=gG h';have hb:=fQ hb;cases hc:CX ks (cs.drop n) with
    |none=>rw[hc] at h';cases h'|some r=>rw[hc] at h';cases h';obtain⟨g1,g2⟩:=ih hc (hr.drop n);have g3:=Ti hx (hr.take n);refine⟨?_,by show n+lD r=n+Bl ks;rw[g2]⟩;show vs=(Vec.lit n xs).l.map (V.int k)++dW r;rw[Nu hb,<-g3,<-g1,EA]
theorem YX:∀{a b:List lV},I8 a b=true->a=b
 | [],[],_=>rfl|.i k::l,.i k'::l',h=>by
  have h':((if k=k' then true else false)&& I8 l l')=true:=h;rw[bf] at h';have e:k=k':=by by_cases e:k=k';exact e;rw[if_neg e] at h';cases h'.1
  rw[e,YX h'.2]
 |.a k n::l,.a k' n'::l',h=>by
  have h':((if k=k' then true else false)&& Nat.beq n n'&& I8 l l')=true:=h;rw[bf,bf] at h';have e:k=k':=by by_cases e:k=k';exact e;rw[if_neg e] at h';cases h'.1.1
  rw[e,fQ h'.1.2,YX h'.2]
 | [],.i _::_,h=>dh| [],.a _ _::_,h=>dh|.i _::_,[],h=>dh|.a _ _::_,[],h=>dh|.i _::_,.a _ _::_,h=>dh|.a _ _::_,.i _::_,h=>dh
theorem Nv:∀ss:List bX,dA (dW ss)=true
 | []=>rfl|.i k x::l=>by show (oneCell (.int k x)&& dA (dW l))=true;rw[Nv l];rfl|.a k n v::l=>by show dA (v.l.map (V.int k)++dW l)=true;have h1:=Nv l;unfold dA at h1⊢;rw[List.all_append,h1,List.all_map];simp[oneCell]
theorem ake {ks:List lV}{tv:aA R.T}{ss:List bX}{v:V}(h:SA ks tv=some ss)(hr:aC R Z top tv v):v.cells=dW ss/\lD ss=Bl ks/\fI v=true:=by
 unfold SA at h;split at h
 .rename_i ss';obtain⟨h1,h⟩:=gG h;cases h;rw[hr.Jg,YX h1];exact⟨rfl,(Tn ss).symm,rfl⟩
 .obtain⟨l,rfl,hl⟩:=hr.mX;obtain⟨h1,h2⟩:=avF h hl;exact⟨h1,h2,rfl⟩
 .rename_i k x;split at h
  .split at h
   .rename_i e;subst e;cases h;rw[hr.jB];exact⟨rfl,rfl,rfl⟩
   .cases h
  .cases h
 .cases h
theorem YZ {k:IntKind}:∀{cs:List (aA R.T)}{vs:List V},FC k cs=true->aK R Z top cs vs->vs=List.replicate cs.length (V.int k 0)
 | [],vs,_,hr=>hr.jw|c::cs,vs,h,hr=>by
  obtain⟨v,ws,rfl,h1,h2⟩:=hr.fV;cases c<;>first| (exact absurd (show false=true from h) aD)|skip
  rename_i k' x;have h':((if k'=k then (if x=0 then true else false) else false)&& FC k cs)=true:=h;rw[bf] at h';have e1:k'=k:=by by_cases e:k'=k;exact e;rw[if_neg e] at h';cases h'.1
  have e2:x=0:=by by_cases e:x=0;exact e;rw[if_pos e1,if_neg e] at h';cases h'.1
  rw[h1.jB,e1,e2,YZ h'.2 h2];rfl
theorem avG:∀{ks:List lV}{cs:List (aA R.T)}{vs:List V},I7 ks cs=true->aK R Z top cs vs->vs=dW (ks.map Sz):=by
 intro ks;induction ks with
 |nil=>
  intro cs vs h hr;cases cs with
  |nil=>exact hr.jw|cons c cs=>cases h
 |cons k ks ih=>
  intro cs vs h hr;cases k with
  |i k=>
   cases cs with
   |nil=>cases h|cons c cs=>obtain⟨v,ws,rfl,h1,h2⟩:=hr.fV;have h':(FC k [c]&& I7 ks cs)=true:=h;rw[bf] at h';have:=YZ h'.1 (aK.cons' h1 aK.nil');cases this;rw[ih h'.2 h2];rfl
  |a k n=>
   have h':(Nat.ble n cs.length&& FC k (cs.take n)&& I7 ks (cs.drop n))=true:=by cases cs<;>exact h
   rw[bf,bf] at h';have h1:=oD h'.1.1;have h2:=YZ h'.1.2 (hr.take n);have h3:=ih h'.2 (hr.drop n);rw[<-EA n vs,h2,h3,nA,Ci h1];show _=(List.replicate n (0:Int)).map (V.int k)++dW (ks.map Sz);rw[List.map_replicate]
theorem avH {pre mid post mid':List bX}{off sz:Nat}(h1:lD pre=off)(h2:lD mid=sz)(h3:lD mid'=sz):gM (dW (pre++(mid++post))) off (dW mid')=dW (pre++(mid'++post)):=by unfold gM;rw[uE,uE,uE,uE,jR,h3];rw[EH (by rw[jR,h1];exact iR _),rC (by rw[jR,h1];exact iR _)];rw[<-fP (dW pre) (dW mid),LX (by rw[eU,jR,jR,h1,h2];exact iR _),Hf (by rw[eU,jR,jR,h1,h2];exact iR _)];rw[List.nil_append,fP]
theorem akf {pre post:List bX}{off n a:Nat}{k:IntKind}{v w:Vec n}{l:List Int}(h1:lD pre=off)(h2:a+l.length<=n)(h3:w.l=v.l.take a++l++v.l.drop (a+l.length)):gM (dW (pre++(.a k n v::post))) (off+a) (l.map (V.int k))=dW (pre++(.a k n w::post)):=by
 unfold gM;rw[uE,uE,Tk,Tk];show ((dW pre++(v.l.map (V.int k)++dW post)).take (off+a)++l.map (V.int k)++(dW pre++(v.l.map (V.int k)++dW post)).drop (off+a+(l.map (V.int k)).length))=dW pre++(w.l.map (V.int k)++dW post);have hp:(dW pre).length=off:=by rw[jR,h1]
 have hv:(v.l.map (V.int k)).length=n:=by rw[fF,v.h]
 rw[fF];rw[List.take_append,rC RS,hp,AB,EH RS];rw[EG,Hf RS,hp,List.nil_append,show off+a+l.length-off=a+l.length by omega,LX RS];rw[h3,qH,qH,List.map_take,List.map_drop];simp only[fP]
theorem avI {l:List Int}{a:Nat}{y:Int}(h:a<l.length):l.set a y=l.take a++[y]++l.drop (a+1):=by rw[List.set_eq_take_append_cons_drop,if_pos h];simp
theorem Y0 {g:Nat}{t:TypeId}{k:IntKind}{n:Nat}{v:Vec n}(h:SE E R g t=some ⟨k,n,v⟩):∃cs e,E.glob g=some cs/\cs=v.l.map (V.int k)/\uZ E.P t=some (n,e)/\dO E.P t=some n/\jX E.P t=some true/\uo E e=true:=by
 unfold SE at h;split at h
 .rename_i cs k' n' v' m e sz ag h1 h2 h3 h4 h5;obtain⟨hc,h⟩:=gG h;cases h;simp only[bf] at hc;obtain⟨⟨⟨⟨c1,c2⟩,c3⟩,c4⟩,c5⟩:=hc;subst c1;rw[fQ c2] at h3;rw[fQ c3] at h4;refine⟨cs,e,h1,?_,h3,h4,h5,c4⟩;have key:∀(cs:List V)(l:List Int),SC k cs l=true->cs=l.map (V.int k):=by
   intro cs;induction cs with
   |nil=>intro l h;cases l with
    |nil=>rfl|cons y l=>cases h
   |cons c cs ih=>
    intro l h;cases l with
    |nil=>cases c<;>cases h|cons y l=>
     cases c<;>first| (exact absurd (show false=true from h) aD)|skip
     rename_i k' x;have h':((if k'=k then (if x=y then true else false) else false)&& SC k cs l)=true:=h;rw[bf] at h';have e1:k'=k:=(by by_cases e:k'=k;exact e;rw[if_neg e] at h';cases h'.1);have e2:x=y:=(by by_cases e:x=y;exact e;rw[if_pos e1,if_neg e] at h';cases h'.1);rw[e1,e2,ih l h'.2];rfl
  exact key cs v.l c5
 .cases h
theorem Tp {i:Int}{n:Nat}(h:dJ i n=true):0<=i/\i<n/\i.toNat<n:=by have:=of_decide_eq_true h;omega
theorem Y1 {k:IntKind}{i:Int}{n:Nat}(h:dJ i n=true):idx (.int k i) n=some i.toNat:=by obtain⟨h1,h2,_⟩:=Tp h;simp[idx,pQ,h1,h2]
theorem Tq {k:IntKind}{i:Int}{n:Nat}(h1:0<=i)(h2:i<=n):bnd (.int k i) n=some i.toNat:=by simp[bnd,pQ,h1,h2]
theorem akg {n:Nat}{lo hi:Option Int}{vl vh:Option V}(hl:(lo=none/\vl=none)\/∃n k,lo=some n/\vl=some (.int k n))(hh:(hi=none/\vh=none)\/∃n k,hi=some n/\vh=some (.int k n))(hb:qQ n lo hi=true):
 jH n n vl vh none=some ((fO lo).toNat,(jh n hi).toNat,n):=by
 rcases hl with ⟨rfl,rfl⟩| ⟨a,k,rfl,rfl⟩<;>rcases hh with ⟨rfl,rfl⟩| ⟨c,k',rfl,rfl⟩<;>simp only[qQ,decide_eq_true_eq] at hb
 .simp[jH,fO,jh]
 .simp[jH,fO,jh,Tq hb.1 hb.2]
 .simp[jH,fO,jh,Tq (i:=a) (n:=n) hb.1 RS]
 .simp[jH,fO,jh,Tq (i:=c) (n:=n) RS hb.2.2.1,Tq (i:=a) (n:=c.toNat) hb.1 RS]
theorem avJ {P:Program}{t e:TypeId}{y:V}{ys cs:List V}{loc:aR.Loc}{s off len cap:Nat}{ag:Bool}(he:lS P t=some e)(z1:dO P e=some 1)(z2:jX P e=some false)(q2:zu y=false)(q1:nN Y false 1 aP y=some ys)(hone:ys.all (fun v=>dA v.cells)=true)(h4:Y.dS loc s=some cs)(hb:off+min ys.length len<=cs.length):copyV P Y t (.aS loc s off len cap 1 ag) y=some (.int .i64 (min ys.length len:Nat),Y.setObj loc s (.cells (gM cs off ((ys.take (min ys.length len)).flatMap V.cells)))):=by
 unfold copyV;rw[he];simp only[Option.bind_some,z1,z2];rw[if_pos ⟨q2,rfl⟩,q1];simp only[Option.bind_some];rw[if_pos hone,h4];simp only[Option.bind_some];rw[if_pos ⟨trivial,by rw[Nat.mul_one];exact hb⟩]
theorem Tt {t:TypeId}{x:aA R.T}{lo hi:Option (aA R.T)}{v:V}{vl vh:Option V}{r:fE R}(h:CY E R t x lo hi st=some r)(hx:aC R Z Y.top x v)(him:aU Z b st fr Y)(hl:∀y,lo=some y->∃w,vl=some w/\aC R Z Y.top y w)(hln:lo=none->vl=none)(hh:∀y,hi=some y->∃w,vh=some w/\aC R Z Y.top y w)(hhn:hi=none->vh=none):qX Z Y.top (lC E.P Y t v vl vh none) r:=by
 unfold CY at h;split at h
 .rename_i p off lo' hi' n e e1 e2 ha;have b1:=Dj e1 hl hln;have b2:=Dj e2 hh hhn;obtain⟨hel,h⟩:=gG h;obtain⟨z1,z2⟩:=Dl hel;obtain⟨s,h1,rfl⟩:=hx.rT;have fin:∀(k:IntKind)(cs:List V),Y.dS (Z.aj.lc p) s=some cs->off+n<=cs.length->qQ n lo' hi'=true->∃y,lC E.P Y t (.ref (Z.aj.lc p) s off) vl vh none=some y/\aC R Z Y.top (.sv p off k n lo' hi') y:=by intro k cs hc hlen hB;obtain⟨p1,p2,p3,_,_⟩:=FT hB;refine⟨_,?_,by unfold aC;exact⟨s,h1,hB,rfl⟩⟩;unfold lC;rw[Nt ha];dsimp only;rw[z1,z2,akg b1 b2 hB,hc];simp only[Option.bind_some,Nat.mul_one];rw[if_pos hlen,if_neg RS]
  split at h
  .rename_i ss hl';obtain⟨s',h3,h4⟩:=him.rd hl';rw[h1] at h3;cases h3;split at h
   .rename_i pre k n' v' post hsp;obtain⟨hb,h⟩:=gG h;have:=fQ hb;subst this;cases h;obtain⟨e3,hw⟩:=yL hsp;intro hc;exact fin k _ h4 (by rw[jR,e3,Dm,hw,Tm];show off+n'<=off+(n'+_);omega) hc
   .cases h
  .rename_i cs hl';obtain⟨s',vs,h3,h4,h5⟩:=him.rd hl';rw[h1] at h3;cases h3;split at h
   .rename_i k _ _ _;obtain⟨hb,h⟩:=gG h;cases h;intro hc;exact fin k _ h4 (by rw[h5.length];exact oD hb) hc
   .cases h
  .cases h
 .rename_i cs off n e e1 e2 ha;have b1:=Dj e1 hl hln;have b2:=Dj e2 hh hhn;obtain⟨hb,h⟩:=gG h;rw[bf] at hb;obtain⟨z1,z2⟩:=Dl hb.1;have hle:=oD hb.2;split at h
  .rename_i k _ _ _;split at h
   .rename_i l hu;cases h;obtain⟨vs,rfl,hr⟩:=hx.uz;have hv:=Ti hu hr;have hlen:=hr.length;have hsb:qQ n none none=true:=rfl;refine⟨.ak .sh (((l.drop off).take n).map (V.int k)),?_,by unfold aC;exact⟨.sh,rfl,trivial⟩⟩;unfold lC;rw[Nt ha];dsimp only;rw[z1,z2,akg b1 b2 hsb];simp only[Option.bind_some,Nat.mul_one];have hn:off+n<=vs.length:=(by rw[hlen];exact hle);have e0:(fO none).toNat=0:=rfl;have Js:(jh n none).toNat=n:=(by simp[jh]);rw[if_pos ⟨hn,fun _=>⟨trivial,by rw[hv];unfold dA;rw[List.all_map];exact lK.2 fun _ _=>rfl⟩⟩,e0,Js];have hl2:(List.take n (List.drop off l)).length=n:=(by rw[hv,fF] at hn;rw[nA,qD];omega);have:=YS k ((l.drop off).take n) ((l.drop off).drop n|>.map (V.int k));rw[<-qH,EA,hl2] at this;rw[hv,Nat.sub_zero,Nat.add_zero,<-List.map_drop,this]
   .cases h
  .cases h
 .cases h
end
end aR
end
