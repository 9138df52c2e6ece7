import Derived.Test.YtdcnajadcbedkaaGreatDoorF1008
set_option linter.all false
section
namespace aQ
open Go
section
variable {R:jV}{E:Env}
variable {Z:bC}{top:Nat->Nat}{b:Nat}{st:aO R.T}{fr:Fr}{Y:ah}
theorem Yo {n:Nat}{f:Nat}(a b:List V):bq (n+2) Y (.fn (.func f) a b)=(a.mapM (bq (n+1) Y)).bind fun a=>(b.mapM (bq (n+1) Y)).map fun b=>.fn (.func f) a b:=by
 by_cases hp:aR (.fn (.func f) a b)=true
 .rw[ou hp];have:∀cs:List V,bY cs=true->cs.mapM (bq (n+1) Y)=some cs:=by
   intro cs;induction cs with
   |nil=>intro _;rfl|cons a l ih=>intro h;simp only[bY,aZ] at h;rw[iN,ou h.1,ih h.2];rfl
  simp only[aR,aZ] at hp;rw[this a hp.1,this b hp.2];rfl
 .conv=>lhs;unfold bq
  simp only[hp,if_false,dG]
theorem ai5 {n:Nat}{off:Nat}(cs:List V):bq (n+2) Y (.aW cs off)=(cs.mapM (bq (n+1) Y)).map (.aW · off):=by
 by_cases hp:aR (.aW cs off)=true
 .rw[ou hp];have:∀cs:List V,bY cs=true->cs.mapM (bq (n+1) Y)=some cs:=by
   intro cs;induction cs with
   |nil=>intro _;rfl|cons a l ih=>intro h;simp only[bY,aZ] at h;rw[iN,ou h.1,ih h.2];rfl
  rw[this cs BN];rfl
 .conv=>lhs;unfold bq
  simp only[hp,if_false,dG]
variable (hR:rX R)
include hR
theorem Yp {k e:Ty}(m:List (Den R.T k×Den R.T e)):aR (.fD (m.map fun p=>aU R k p.1) (m.map fun p=>aU R e p.2))=true:=by
 simp only[aR,aZ];have h1:∀m:List (Den R.T k×Den R.T e),bY (m.map fun p=>aU R k p.1)=true/\bY (m.map fun p=>aU R e p.2)=true:=by
  intro m;induction m with
  |nil=>exact⟨rfl,rfl⟩|cons p m ih=>exact⟨by simp[bY,q9 hR,ih.1],by simp[bY,q9 hR,ih.2]⟩
 exact h1 m
theorem ai6:∀(t:Ty)(x:Den R.T t)(v:V),pX t=true->aC R Z top (AL R .any t x) v->∀n Y,bq (n+2) Y v=some (aU R t x)
 |.int k,x,v,_,h,n,Y=>by rw[aC.jy (R:=R) h];exact Xg (n+1) _ _|.bool,x,v,_,h,n,Y=>by rw[aC.rY (R:=R) h];exact Xh (n+1) _|.str,x,v,_,h,n,Y=>by rw[aC.q8 (R:=R) h];exact Xi (n+1) _|.slice t,x,v,_,h,n,Y=>by obtain⟨c,rfl,_⟩:=aC.mZ (R:=R) h;exact yD _ _ (q9 hR _)
 |.st n,_,_,h,_,_,_=>by simp[pX] at h
theorem I7:∀(l:List Ty)(p:qB R.T l)(vs:List V),l.all pX=true->aJ R Z top (mW R .any l p) vs->∀n Y,vs.mapM (bq (n+2) Y)=some (encs R l p)
 | [],_,vs,_,h,n,Y=>by rw[aJ.jq h];rfl| [t],x,vs,hl,h,n,Y=>by obtain⟨v,l,rfl,h1,h2⟩:=aJ.fZ h;rw[aJ.jq h2,iN,ai6 hR t x v BO h1];rfl
 |t::u::l,p,vs,hl,h,n,Y=>by rw[List.all_cons,aZ] at hl;obtain⟨v,ws,rfl,h1,h2⟩:=aJ.fZ h;rw[iN,ai6 hR t p.1 v hl.1 h1,I7 (u::l) p.2 ws hl.2 h2];rfl
theorem auD (t:Ty)(x:Den R.T t)(vs:List V)(h:aJ R Z top (je R .any t x).cells vs)(n:Nat)(Y:ah):vs.mapM (bq (n+2) Y)=some (aU R t x).cells:=by
 cases t with
 |st k=>have he:aU R (.st k) x= .agg (encs R (R.lf k) (R.of k x)):=hR.enc k x;rw[he];exact I7 hR _ _ vs (hR.leaf k) h n Y|int k=>exact I7 hR [.int k] x vs rfl h n Y|bool=>exact I7 hR [.bool] x vs rfl h n Y|str=>exact I7 hR [.str] x vs rfl h n Y|slice t=>exact I7 hR [.slice t] x vs rfl h n Y
theorem Yq {t:Ty}{Z:bC}{top:Nat->Nat}:∀(l:List (Den R.T t))(cs:List V),aJ R Z top (l.flatMap fun x=>(je R .any t x).cells) cs->∀(n:Nat)(Y:ah),cs.mapM (bq (n+2) Y)=some ((l.map (aU R t)).flatMap V.cells)
 | [],cs,h,n,Y=>by rw[aJ.jq h];rfl|x::l,cs,h,n,Y=>by rw[kT] at h;obtain⟨a,b,rfl,h1,h2⟩:=h.split;rw[List.mapM_append,Yq l b h2 n Y,iH,kT];have:a.mapM (bq (n+2) Y)=some (aU R t x).cells:=auD hR t x a h1 n Y;rw[this];rfl
omit hR in
theorem ai7:∀(t:Ty)(x:Den R.T t)(v:V),pX t=true->aC R Z top (AL R .any t x) v->gH v=aU R t x
 |.int k,x,v,_,h=>by rw[aC.jy (R:=R) h];rfl|.bool,x,v,_,h=>by rw[aC.rY (R:=R) h];rfl|.str,x,v,_,h=>by rw[aC.q8 (R:=R) h];rfl|.slice t,x,v,_,h=>by obtain⟨c,rfl,_⟩:=aC.mZ (R:=R) h;rfl
 |.st n,_,_,h,_=>by simp[pX] at h
omit hR in
theorem I8:∀(l:List Ty)(p:qB R.T l)(vs:List V),l.all pX=true->aJ R Z top (mW R .any l p) vs->vs.map gH=encs R l p
 | [],_,vs,_,h=>by rw[aJ.jq h];rfl| [t],x,vs,hl,h=>by obtain⟨v,l,rfl,h1,h2⟩:=aJ.fZ h;rw[aJ.jq h2,iH,ai7 t x v BO h1];rfl
 |t::u::l,p,vs,hl,h=>by rw[List.all_cons,aZ] at hl;obtain⟨v,ws,rfl,h1,h2⟩:=aJ.fZ h;rw[iH,ai7 t p.1 v hl.1 h1,I8 (u::l) p.2 ws hl.2 h2];rfl
theorem auE (t:Ty)(x:Den R.T t)(vs:List V)(h:aJ R Z top (je R .any t x).cells vs):vs.map gH=(aU R t x).cells:=by
 cases t with
 |st k=>have he:aU R (.st k) x= .agg (encs R (R.lf k) (R.of k x)):=hR.enc k x;rw[he];exact I8 _ _ vs (hR.leaf k) h|int k=>exact I8 [.int k] x vs rfl h|bool=>exact I8 [.bool] x vs rfl h|str=>exact I8 [.str] x vs rfl h|slice t=>exact I8 [.slice t] x vs rfl h
theorem ai8 {t:Ty}{Z:bC}{top:Nat->Nat}:∀(l:List (Den R.T t))(cs:List V),aJ R Z top (l.flatMap fun x=>(je R .any t x).cells) cs->cs.map gH=(l.map (aU R t)).flatMap V.cells
 | [],cs,h=>by rw[aJ.jq h];rfl|x::l,cs,h=>by rw[kT] at h;obtain⟨a,b,rfl,h1,h2⟩:=h.split;rw[qM,ai8 l b h2,iH,kT,auE hR t x a h1]
theorem Yr {t:Ty}(l:List (Den R.T t)):chunks (jJ t) (dL R t) l.length ((l.map (aU R t)).flatMap V.cells)=l.map (aU R t):=by
 have:=Yi (jJ t) (dL R t) (l.map (aU R t)) (fun v hv=>by obtain⟨x,_,rfl⟩:=Eo.1 hv;exact(I4 hR t x).1);rw[fH] at this;rw[this,Ap];refine En fun x _=>?_;show (if jJ t then V.agg (aU R t x).cells else (aU R t x).cells.headD aP)=aU R t x;cases hs:jJ t
 .cases t<;>first|rfl| (simp[jJ] at hs;done)
 .obtain⟨c,hc⟩:=(I4 hR t x).2.2.2.1 hs;rw[hc];rfl
theorem Yt {t:Ty}(l:List (Den R.T t)):(jJ t||dL R t==1&& dx ((l.map (aU R t)).flatMap V.cells))=true:=by
 cases hs:jJ t
 .have h1:dL R t=1:=by cases t<;>first|rfl| (simp[jJ] at hs;done)
  rw[h1];have:dx ((l.map (aU R t)).flatMap V.cells)=true:=by have:=Yk hR l;unfold dx at this⊢;rw[List.all_flatMap];exact this
  rw[this];rfl
 .rfl
omit hR in
theorem ai9:∀(a b:List V),bY (a++b)=(bY a&& bY b)
 | [],b=>by simp[bY]|x::a,b=>by simp only[List.cons_append,bY];rw[ai9 a b,Bool.and_assoc]
omit hR in
theorem SH (k:IntKind):∀l:List Int,bY (l.map (V.int k))=true
 | []=>by simp[bY]|x::l=>by simp only[iH,bY,Xj,Bool.true_and];exact SH k l
omit hR in
theorem Yu:∀ss:List bW,bY (dU ss)=true
 | []=>by simp[dU,bY]|.i k x::ss=>by show bY (V.int k x::dU ss)=true;unfold bY;rw[Yu ss];simp[aR]|.a k n v::ss=>by show bY (v.l.map (V.int k)++dU ss)=true;rw[ai9,SH,Yu ss];rfl
omit hR in
theorem Yv (ss:List bW):aR (.agg (dU ss))=true:=by unfold aR;exact Yu ss
omit hR in
theorem aja:∀(a b:List V),lS (a++b)=(lS a&& lS b)
 | [],b=>by simp[lS]|x::a,b=>by simp only[List.cons_append,lS];rw[aja a b,Bool.and_assoc]
omit hR in
theorem ajb (k:IntKind):∀l:List Int,lS (l.map (V.int k))=true
 | []=>by simp[lS]|x::l=>by simp only[iH,lS,flat,Bool.true_and];exact ajb k l
omit hR in
theorem SI:∀ss:List bW,lS (dU ss)=true
 | []=>by simp[dU,lS]|.i k x::ss=>by show lS (V.int k x::dU ss)=true;unfold lS;rw[SI ss];simp[flat]|.a k n v::ss=>by show lS (v.l.map (V.int k)++dU ss)=true;rw[aja,ajb,SI ss];rfl
omit hR in
theorem auF (ss:List bW):er (.agg (dU ss))= .agg (dU ss):=by
 have:∀ss:List bW,(dU ss).map gH=dU ss:=by
  intro ss;induction ss with
  |nil=>rfl|cons s ss ih=>
   cases s with
   |i k x=>show gH (.int k x)::(dU ss).map gH=_;rw[ih];rfl|a k n v=>show (v.l.map (V.int k)++dU ss).map gH=_;rw[qM,ih,Ap];rfl
 show V.agg ((dU ss).map gH)=_;rw[this]
omit hR in
theorem uL:∀(a b:List bW),dU (a++b)=dU a++dU b
 | [],b=>rfl|s::a,b=>by show s.vs++dU (a++b)=s.vs++dU a++dU b;rw[uL a b,fP]
omit hR in
theorem bW.len:∀s:bW,s.vs.length=s.w
 |.i _ _=>rfl|.a _ n v=>by show (v.l.map _).length=n;rw[fH,v.h]
omit hR in
theorem jO:∀ss:List bW,(dU ss).length=lG ss
 | []=>rfl|s::ss=>by show (s.vs++dU ss).length=s.w+lG ss;rw[fG,s.len,jO ss]
omit hR in
theorem yL:∀{ss:List bW}{n:Nat}{a b:List bW},sV ss n=some (a,b)->ss=a++b/\lG a=n
 |ss,0,a,b,h=>by
  have h':some (([]:List bW),ss)=some (a,b):=by cases ss<;>exact h
  cases h';exact⟨rfl,rfl⟩
 | [],n+1,a,b,h=>cZ|s::ss,n+1,a,b,h=>by
  unfold sV at h;obtain⟨h1,h⟩:=gG h;split at h
  .rename_i a' b' h2;cases h;obtain⟨e,hw⟩:=yL h2;have:=oJ h1;refine⟨by rw[e];rfl,?_⟩;show s.w+lG a'=n+1;omega
  .cases h
omit hR in
theorem SK {Z:bC}{top:Nat->Nat}{k:IntKind}:∀{cs:List (aA R.T)}{xs:List Int}{vs:List V},Cw k cs=some xs->aJ R Z top cs vs->vs=xs.map (V.int k)
 | [],xs,vs,h,hr=>by cases h;exact hr.jq|c::cs,xs,vs,h,hr=>by
  obtain⟨v,ws,rfl,h1,h2⟩:=hr.fZ;cases c<;>first| (exact absurd (show none=some xs from h) aD)|skip
  rename_i k' x;have h':(if k'=k then (match Cw k cs with
   |some xs=>some (x::xs)|none=>none) else none)=some xs:=h
  split at h'
  .rename_i e;subst e;split at h'
   .rename_i ys hy;cases h';rw[h1.jy,SK hy h2];rfl
   .cases h'
  .cases h'
omit hR in
theorem Yw (k:IntKind):∀(l:List Int)(rest:List V),chunks false 1 l.length (l.map (V.int k)++rest)=l.map (V.int k)
 | [],rest=>rfl|x::l,rest=>by show V.int k x::chunks false 1 l.length (l.map (V.int k)++rest)=_;rw[Yw k l rest];rfl
omit hR in
theorem FD {n:Nat}{lo hi:Option Int}(h:qX n lo hi=true):(fK lo).toNat<=(jf n hi).toNat/\(jf n hi).toNat<=n/\((fK lo).toNat< (jf n hi).toNat\/(fK lo).toNat=0)/\0<=fK lo/\fK lo<=jf n hi:=by
 cases lo<;>cases hi<;>simp only[qX,fK,jf,decide_eq_true_eq] at h⊢ <;>omega
omit hR in
theorem auG {U:Type}{n:Nat}{lo hi:Option Int}(h:qX n lo hi=true){l:List U}(hl:l.length=n):Ig l lo hi=(l.drop (fK lo).toNat).take ((jf n hi).toNat-(fK lo).toNat):=by
 obtain⟨h1,h2,_⟩:=FD h;cases lo<;>cases hi<;>simp only[Ig,fK,jf] at*
 .simp[hl];rw[rJ RS]
 .simp
 .rw[rJ];rw[qj];omega
 .rw[List.take_drop];congr 1;congr 1;omega
theorem ajc (hi:aT Z b st fr Y){o off n:Nat}{k:IntKind}{lo hi':Option Int}{l:List Int}(h:RU st o off k n lo hi'=some l){s:Nat}(hs:Z.ob o=some s)(hB:qX n lo hi'=true):
 ∃cs,Y.dQ (Z.aj.lc o) s=some cs/\off+n<=cs.length/\(cs.drop (off+(fK lo).toNat)).take ((jf n hi').toNat-(fK lo).toNat)=l.map (V.int k)/\l.length=(jf n hi').toNat-(fK lo).toNat:=by
 obtain⟨p1,p2,p3,_,_⟩:=FD hB;have fin:∀(cs:List V)(xs:List Int),xs.length=n->(cs.drop off).take n=xs.map (V.int k)->off+n<=cs.length->l=Ig xs lo hi'->(cs.drop (off+(fK lo).toNat)).take ((jf n hi').toNat-(fK lo).toNat)=l.map (V.int k)/\l.length=(jf n hi').toNat-(fK lo).toNat:=by
  intro cs xs hx hc hle hl;rw[auG hB hx] at hl;subst hl;constructor
  .rw[List.map_take,List.map_drop,<-hc,List.drop_take,List.take_take,List.drop_drop];congr 1;omega
  .rw[mO,qj];omega
 unfold RU at h;split at h
 .rename_i ss hl;obtain⟨s',h1,h2⟩:=hi.rd hl;rw[hs] at h1;cases h1;split at h
  .rename_i pre k' n' v post hsp;by_cases e:k'=k
   .subst e;rw[if_pos rfl] at h;cases e2:Nat.beq n' n
    .rw[e2] at h;cases h
    rw[e2] at h;have e2:=fT e2;subst e2;obtain rfl:Ig v.l lo hi'=l:=kS h;obtain⟨e3,hw⟩:=yL hsp;refine⟨_,h2,?_,?_⟩
    .rw[e3,jO];have:∀a b:List bW,lG (a++b)=lG a+lG b:=fun a b=>by rw[<-jO,uL,fG,jO,jO]
     rw[this,hw];show off+n'<=off+(n'+lG post);omega
    .refine fin _ v.l v.h ?_ ?_ rfl
     .rw[e3,uL,Ls (by rw[jO,hw];exact iR _),GJ (by rw[jO,hw];exact iR _),List.nil_append];show ((v.l.map (V.int k'))++dU post).take n'=_;rw[Et (by rw[fH,v.h];exact iR _),rJ (by rw[fH,v.h];exact iR _)]
     .rw[e3,uL,fG,jO,hw,jO];show off+n'<=off+(n'+lG post);omega
   .rw[if_neg e] at h;cases h
  .cases h
 .rename_i cs hl;obtain⟨s',vs,h1,h2,h3⟩:=hi.rd hl;rw[hs] at h1;cases h1;obtain⟨hb,h⟩:=gG h;have hb:=oJ hb;split at h
  .rename_i xs hx;cases h;have hv:=SK hx ((h3.drop off).take n);have hlen:off+n<=vs.length:=by rw[h3.length];exact hb
   refine⟨vs,h2,hlen,fin vs xs ?_ hv hlen rfl⟩;have:=congrArg List.length hv;rw[fH,mO,qj] at this;omega
  .cases h
 .cases h
theorem ajd (hi:aT Z b st fr Y){x:aA R.T}{v:V}(h:aC R Z Y.top x v):∃v',aC R Z Y.top (yF st x) v'/\∀n,bq (n+3) Y v=bq (n+3) Y v':=by
 by_cases hx:∃o off,x= .ref o off
 .obtain⟨o,off,rfl⟩:=hx;unfold yF;dsimp only;split
  .rename_i cs hl;obtain⟨s,h1,rfl⟩:=h.rZ;obtain⟨s',l,h2,h3,h4⟩:=hi.rd hl;rw[h1] at h2;cases h2;refine⟨.aW l off,by unfold aC;exact⟨l,rfl,h4⟩,fun n=>?_⟩;rw[ai5]
   conv=>lhs;unfold bq
   simp only[aR,dG,if_false,h3,Option.bind_some]
  .exact⟨v,h,fun _=>rfl⟩
 .by_cases hy:∃o,x= .fq o
  .obtain⟨o,rfl⟩:=hy;unfold yF;dsimp only;split
   .rename_i k e m hl;obtain⟨s,h1,rfl⟩:=h.MU;obtain⟨s',h2,h3⟩:=hi.rd hl;rw[h1] at h2;cases h2;refine⟨.fD (m.map fun p=>aU R k p.1) (m.map fun p=>aU R e p.2),gY,fun n=>?_⟩;have hp:=Yp hR m;rw[ou hp];have hp':=hp;simp only[aR,aZ] at hp';have key:∀cs:List V,bY cs=true->cs.mapM (bq (n+2) Y)=some cs:=by
     intro cs;induction cs with
     |nil=>intro _;rfl|cons a l ih=>intro h;simp only[bY,aZ] at h;rw[iN,ou h.1,ih h.2];rfl
    conv=>lhs;unfold bq
    simp only[aR,dG,if_false,h3,Option.bind_some,key _ hp'.1,key _ hp'.2,Option.map_some]
   .exact⟨v,h,fun _=>rfl⟩
  .by_cases hz:∃o t,x= .aS o t
   .obtain⟨o,t,rfl⟩:=hz;unfold yF;dsimp only;split
    .rename_i t' l hl;split
     .rename_i e;subst e;have hO:=hi.rd hl;refine⟨.ak .sh (l.map (aU R t')),by unfold aC;exact⟨.sh,rfl,rfl⟩,fun n=>?_⟩;rw[yD _ _ (q9 hR t')];rcases h.AY with ⟨s,h1,rfl⟩| ⟨h1,h2⟩
      .rcases hO.2 with h2| ⟨s',cs,h2,h3,h4⟩
       .rw[h1] at h2;exact absurd h2.2 aD
       .rw[h1] at h2;cases h2;have hlc:cs.length=l.length*dL R t':=(by rw[h4.length,Fz]);have hlen:l.length=Z.ln o:=hO.1
        conv=>lhs;unfold bq
        simp only[aR,dG,if_false,h3,Option.bind_some,o7,qm];rw[if_pos Gv,rJ Gv,Yq hR l cs h4 n Y];simp only[Option.bind_some];rw[<-hlen,Yr hR l,Yt hR l,if_pos rfl];rfl
      .have hl0:l=[]:=qo (hO.1.trans h1);subst hl0;rcases h2 with rfl|rfl<;>exact yD _ ([]:List (Den R.T t')) (q9 hR t')
     .exact⟨v,h,fun _=>rfl⟩
    .exact⟨v,h,fun _=>rfl⟩
   .by_cases hz2:∃o off k n lo hi,x= .sv o off k n lo hi
    .obtain⟨o,off,k,n,lo,hi',rfl⟩:=hz2;unfold yF;dsimp only;split
     .rename_i l hl;obtain⟨s,h1,hB,rfl⟩:=h.CQ;obtain⟨cs,c1,c2,c3,c4⟩:=ajc hR hi hl h1 hB;obtain⟨p1,p2,p3,_,_⟩:=FD hB;refine⟨.ak .sh (l.map (V.int k)),by unfold aC;exact⟨.sh,rfl,rfl⟩,fun m=>?_⟩;have hcl:bq (m+3) Y (.ak .sh (l.map (V.int k)))=some (.ak .sh (l.map (V.int k))):=ou (by unfold aR;exact SH k l);rw[hcl]
      conv=>lhs;unfold bq
      simp only[aR,dG,if_false,c1,Option.bind_some,Nat.mul_one];rw[if_pos RS,c3];have key:∀cs:List V,bY cs=true->cs.mapM (bq (m+2) Y)=some cs:=by
       intro cs;induction cs with
       |nil=>intro _;rfl|cons a l ih=>intro h;simp only[bY,aZ] at h;rw[iN,ou h.1,ih h.2];rfl
      rw[key _ (SH k l)];simp only[Option.bind_some];have hone:dx (l.map (V.int k))=true:=(by unfold dx;rw[List.all_map];simp[oneCell]);rw[hone,<-c4];have:=Yw k l [];rw[jD] at this;rw[this];rfl
     .exact⟨v,h,fun _=>rfl⟩
    .by_cases hz3:∃o t a b,x= .sub o t a b
     .obtain⟨o,t,a,b,rfl⟩:=hz3;unfold yF;dsimp only;split
      .rename_i t' l hl;split
       .rename_i e;subst e;have hO:=hi.rd hl;have hlen:l.length=Z.ln o:=hO.1;obtain⟨g0,g1,g2,h⟩:=h.Fv;refine⟨.ak .sh ((E8 l a b).map (aU R t')),by unfold aC;exact⟨.sh,rfl,rfl⟩,fun n=>?_⟩;rw[yD _ _ (q9 hR t')];have hsl:(E8 l a b).length=(b-a).toNat:=(by rw[ai0 g0 g1,mO,qj];omega);rcases h with ⟨s,cp,h1,h2,rfl⟩| ⟨e,c,rfl⟩
        .rcases hO.2 with h2| ⟨s',cs,h2,h3,h4⟩
         .rw[h1] at h2;exact absurd h2.2 aD
         .rw[h1] at h2;cases h2;have hlc:cs.length=l.length*dL R t':=(by rw[h4.length,Fz]);have hp:=auk g0 g1 h4;have hle:a.toNat*dL R t'+(b-a).toNat*dL R t'<=cs.length:=by rw[hlc,<-qK];exact oI _ RS
          conv=>lhs;unfold bq
          simp only[aR,dG,if_false,h3,Option.bind_some];rw[if_pos hle,Yq hR _ _ hp n Y];simp only[Option.bind_some];rw[<-hsl,Yr hR,Yt hR,if_pos rfl];rfl
        .have hl0:E8 l a b=[]:=qo (by rw[hsl,e];simp);rw[hl0];exact yD _ ([]:List (Den R.T t')) (q9 hR t')
       .exact⟨v,h,fun _=>rfl⟩
      .exact⟨v,h,fun _=>rfl⟩
     .have:yF st x=x:=(by cases x<;>first|rfl|exact absurd ⟨_,_,rfl⟩ hx|exact absurd ⟨_,rfl⟩ hy|exact absurd ⟨_,_,rfl⟩ hz|exact absurd ⟨_,_,_,_,_,_,rfl⟩ hz2|exact absurd ⟨_,_,_,_,rfl⟩ hz3);rw[this];exact⟨v,h,fun _=>rfl⟩
theorem SL (hi:aT Z b st fr Y):∀{x:List (aA R.T)}{v:List V},aJ R Z Y.top x v->∃v',aJ R Z Y.top (MC st x) v'/\∀n,v.mapM (bq (n+3) Y)=v'.mapM (bq (n+3) Y)
 | [],v,h=>by rw[h.jq];exact⟨[],rfl,fun _=>rfl⟩
 |x::xs,v,h=>by obtain⟨w,ws,rfl,h1,h2⟩:=h.fZ;obtain⟨w',a1,a2⟩:=ajd hR hi h1;obtain⟨ws',b1,b2⟩:=SL hi h2;exact⟨w'::ws',.cons' a1 b1,fun n=>by rw[iN,iN,a2,b2]⟩
theorem auH (hi:aT Z b st fr Y){x:aA R.T}{v:V}(h:aC R Z Y.top x v):∃v',aC R Z Y.top (E9 st x) v'/\∀n,bq (n+4) Y v=bq (n+4) Y v':=by
 by_cases hx:∃f a b,x= .fn f a b
 .obtain⟨f,a,b,rfl⟩:=hx;obtain⟨a',b',rfl,ha,hb⟩:=h.pF;obtain⟨va,a1,a2⟩:=SL hR hi ha;obtain⟨vb,b1,b2⟩:=SL hR hi hb;refine⟨.fn (.func f) va vb,⟨va,vb,rfl,a1,b1⟩,fun n=>?_⟩;rw[Yo,Yo,a2,b2]
 .by_cases hy:∃cs,x= .agg cs
  .obtain⟨cs,rfl⟩:=hy;obtain⟨l,rfl,hl⟩:=h.mY;obtain⟨v',a1,a2⟩:=SL hR hi hl;refine⟨.agg v',by unfold E9;unfold aC;exact⟨v',rfl,a1⟩,fun n=>?_⟩;rw[XW,XW,a2]
  .have:E9 st x=yF st x:=by cases x<;>first|rfl|exact absurd ⟨_,_,_,rfl⟩ hx|exact absurd ⟨_,rfl⟩ hy
   rw[this];obtain⟨v',h1,h2⟩:=ajd hR hi h;exact⟨v',h1,fun n=>h2 (n+1)⟩
theorem M4 (hi:aT Z b st fr Y):∀{x:List (aA R.T)}{v:List V},aJ R Z Y.top x v->∃v',aJ R Z Y.top (rW st x) v'/\∀n,v.mapM (bq (n+4) Y)=v'.mapM (bq (n+4) Y)
 | [],v,h=>by rw[h.jq];exact⟨[],rfl,fun _=>rfl⟩
 |x::xs,v,h=>by obtain⟨w,ws,rfl,h1,h2⟩:=h.fZ;obtain⟨w',a1,a2⟩:=auH hR hi h1;obtain⟨ws',b1,b2⟩:=M4 hi h2;exact⟨w'::ws',.cons' a1 b1,fun n=>by rw[iN,iN,a2,b2]⟩
mutual
theorem aje:∀(k:bO)(x:sQ R.T k)(tv:aA R.T)(v:V),xW k=true->pk R k tv=some x->aC R Z top tv v->∀n Y,dep k<=n->bq n Y v=some (encS R k x)
 |.d t,x,tv,v,_,h,hr,n,Y,hn=>by obtain⟨m,rfl⟩:∃m,n=m+3:=⟨n-3,QE⟩;exact(ail hR (show AO R t tv=some x from h) hr).2.2.1 m Y
 |.l c t,x,tv,v,_,h,hr,n,Y,hn=>by obtain⟨m,rfl⟩:∃m,n=m+3:=⟨n-3,QE⟩;obtain⟨c',rfl,_⟩:=(aiC (show RX R c t tv=some x from h) hr).mZ;exact yD _ _ (q9 hR _)
 |.agg l,x,tv,v,hc,h,hr,n,Y,hn=>by
  cases tv<;>first| (exact absurd (show none=some x from h) aD)|skip
  rename_i cs;obtain⟨vs,rfl,hl⟩:=hr.mY;unfold dep at hn;obtain⟨m,rfl⟩:∃m,n=m+2:=⟨n-2,RS⟩;rw[ahO,zK l x cs vs (by unfold xW at hc;exact hc) h hl (m+1) Y RS];rfl
 |.aW l off,x,tv,v,hc,h,hr,n,Y,hn=>by
  cases tv<;>first| (exact absurd (show none=some x from h) aD)|skip
  rename_i cs off';have h':(bif Nat.beq off' off then jw R l cs else none)=some x:=h;obtain⟨hb,h'⟩:=gG h';rw[fT hb] at hr;obtain⟨vs,rfl,hl⟩:=hr.uJ;unfold dep at hn;obtain⟨m,rfl⟩:∃m,n=m+2:=⟨n-2,RS⟩;rw[ai5,zK l x cs vs (by unfold xW at hc;exact hc) h' hl (m+1) Y RS];rfl
 |.fD k e,x,tv,v,_,h,hr,n,Y,hn=>by
  cases tv<;>first| (exact absurd (show none=some x from h) aD)|skip
  rename_i k' e' m;obtain⟨e1,e2,e3⟩:=X4 (show Ij R m=some x from h);subst e1;subst e2;cases e3;obtain⟨m',rfl⟩:∃m,n=m+3:=⟨n-3,QE⟩;rw[hr.Fu];exact ou (Yp hR m)
 |.fn f a b,x,tv,v,hc,h,hr,n,Y,hn=>by
  cases tv<;>first| (exact absurd (show none=some x from h) aD)|skip
  rename_i f' a' b';have h':(bif Nat.beq f' f then (match jw R a a' with
   |some x=>match jw R b b' with
    |some y=>some (x,y)|none=>none
   |none=>none) else none)=some x:=h
  obtain⟨hb,h'⟩:=gG h';rw[fT hb] at hr;obtain⟨va,vb,rfl,ha,hbb⟩:=hr.pF;unfold xW at hc;rw[aZ] at hc;unfold dep at hn;obtain⟨m,rfl⟩:∃m,n=m+2:=⟨n-2,RS⟩;cases h1:jw R a a' with
  |none=>simp only[h1] at h';cases h'|some y=>
   cases h2:jw R b b' with
   |none=>simp only[h1,h2] at h';cases h'|some z=>simp only[h1,h2] at h';cases h';rw[Yo,zK a y a' va hc.1 h1 ha (m+1) Y RS,zK b z b' vb hc.2 h2 hbb (m+1) Y RS];rfl
 |.ref _ _,_,_,_,h,_,_,_,_,_=>wG|.fq _,_,_,_,h,_,_,_,_,_=>wG|.fQ,_,_,_,h,_,_,_,_,_=>wG|.aS _ _,_,_,_,h,_,_,_,_,_=>wG|.sub _ _,_,_,_,h,_,_,_,_,_=>wG|.sg l,x,tv,v,_,h,hr,n,Y,hn=>by
  cases tv<;>first| (exact absurd (show none=some x from h) aD)|skip
  rename_i ss;obtain⟨m,rfl⟩:∃m,n=m+1:=⟨n-1,QE⟩;rw[hr.IV];show _=some (V.agg (dU (yE l x)));rw[Sz (show bX l ss=some x from h)];exact ou (Yv ss)
 |.undef,_,_,_,h,_,_,_,_,_=>wG
theorem zK:∀(l:List bO)(x:aV R.T l)(cs:List (aA R.T))(vs:List V),mD l=true->jw R l cs=some x->aJ R Z top cs vs->∀n Y,vK l<=n->vs.mapM (bq n Y)=some (bR R l x)
 | [],x,cs,vs,_,h,hr,n,Y,hn=>by
   cases cs with
   |nil=>rw[hr.jq];rfl|cons c cs=>exact absurd (show none=some x from h) aD
 | [k],x,cs,vs,hc,h,hr,n,Y,hn=>by
   unfold mD at hc;rw[aZ] at hc;unfold vK at hn;cases cs with
   |nil=>exact absurd (show none=some x from h) aD|cons c cs=>
    cases cs with
    |nil=>obtain⟨v,l,rfl,h1,h2⟩:=hr.fZ;rw[h2.jq,iN,aje k x c v hc.1 h h1 n Y RS];rfl
    |cons c' cs=>exact absurd (show none=some x from h) aD
 |k::k'::l,x,cs,vs,hc,h,hr,n,Y,hn=>by
  unfold mD at hc;rw[aZ] at hc;unfold vK at hn;cases cs with
  |nil=>exact absurd (show none=some x from h) aD|cons c cs=>
   have h':(match pk R k c with
    |some x=>match jw R (k'::l) cs with
     |some p=>some (x,p)|none=>none
    |none=>none)=some x:=h
   obtain⟨v,vs,rfl,h1,h2⟩:=hr.fZ;cases hu:pk R k c with
   |none=>simp only[hu] at h';cases h'|some y=>
    cases hs:jw R (k'::l) cs with
    |none=>simp only[hu,hs] at h';cases h'|some q=>simp only[hu,hs] at h';obtain rfl:=kS h';rw[iN,aje k y c v hc.1 hu h1 n Y RS,zK (k'::l) q cs vs hc.2 hs h2 n Y RS];rfl
end
mutual
theorem Yx:∀(tv:aA R.T)(v:V),ql tv=true->aC R Z top tv v->aR v=true
 |.int _ _,v,_,h=>by rw[h.jy];exact Xj _ _|.bool _,v,_,h=>by rw[h.rY];exact Xk _|.jH _,v,_,h=>by rw[h.vO];exact Xk _|.str _,v,_,h=>by rw[h.q8];exact ahL _|.gZ,v,_,h=>Qv|.gL,v,_,h=>Qv|.iq,v,_,h=>Qv|.iO,v,_,h=>Qv|.ak c t l,v,hs,h=>by
  cases c<;>simp only[ql,dG] at hs;obtain⟨c',rfl,hc⟩:=h.mZ;obtain rfl:c'= .sh:=hc;exact Mw (q9 hR t) l
 |.agg cs,v,hs,h=>by obtain⟨l,rfl,hl⟩:=h.mY;unfold aR;exact I9 cs l (by unfold ql at hs;exact hs) hl
 |.bV cs,v,hs,h=>by obtain⟨l,rfl,hl⟩:=h.IU;unfold aR;exact I9 cs l (by unfold ql at hs;exact hs) hl
 |.fD k e m,v,_,h=>by rw[h.Fu];exact Yp hR m|.fn f a b,v,hs,h=>by obtain⟨a',b',rfl,ha,hb⟩:=h.pF;unfold ql at hs;rw[aZ] at hs;unfold aR;rw[I9 a a' hs.1 ha,I9 b b' hs.2 hb];rfl
 |.fQ,_,hs,_=>wF|.ref _ _,_,hs,_=>wF|.aW cs off,v,hs,h=>by obtain⟨l,rfl,hl⟩:=h.uJ;unfold aR;exact I9 cs l (by unfold ql at hs;exact hs) hl
 |.aS _ _,_,hs,_=>wF|.sub _ _ _ _,_,hs,_=>wF|.mV _ _ _ _,_,hs,_=>wF|.sg ss,v,_,h=>by rw[h.IV];exact Yv ss|.sv _ _ _ _ _ _,_,hs,_=>wF|.sel _ _ _ _ _ _,_,hs,_=>wF|.vH _ _ _ _,_,hs,_=>wF|.fq _,_,hs,_=>wF|.opt _ _ _,_,hs,_=>wF|.undef,_,hs,_=>wF|.gone,_,hs,_=>wF
theorem I9:∀(l:List (aA R.T))(vs:List V),zB l=true->aJ R Z top l vs->bY vs=true
 | [],vs,_,h=>Lp|x::l,vs,hs,h=>by obtain⟨v,ws,rfl,h1,h2⟩:=h.fZ;unfold zB at hs;rw[aZ] at hs;unfold bY;rw[Yx x v hs.1 h1,I9 l ws hs.2 h2];rfl
end
theorem ajf {x:aA R.T}{v:V}(hs:MF x=true)(h:aC R Z top x v):aR (gH v)=true:=by
 have key:ql x=true->aR (gH v)=true:=fun hs=>by
  have:=Yx hR x v hs h;cases v with
  |ak c l=>cases c<;>simp[aR] at this<;>simpa [gH,aR] using this|_=>exact this
 cases x<;>first|exact key hs|skip
 .rw[h.uI];simp[gH,aR,bY]
 .obtain⟨c',rfl,hc⟩:=h.mZ;exact Mw (q9 hR _) _
theorem ajg:∀{x:List (aA R.T)}{v:List V},RV x=true->aJ R Z top x v->bY (v.map gH)=true
 | [],vs,_,h=>Lp|x::l,vs,hs,h=>by obtain⟨v,ws,rfl,h1,h2⟩:=h.fZ;unfold RV at hs;rw[aZ] at hs;rw[iH];unfold bY;rw[ajf hR hs.1 h1,ajg hs.2 h2];rfl
theorem auI {x:aA R.T}{v:V}(hs:ahS x=true)(h:aC R Z top x v):aR (er v)=true:=by
 by_cases hx:∃cs,x= .agg cs
 .obtain⟨cs,rfl⟩:=hx;obtain⟨l,rfl,hl⟩:=h.mY;show aR (.agg (l.map gH))=true;unfold aR;exact ajg hR hs hl
 .by_cases hy:∃ss,x= .sg ss
  .obtain⟨ss,rfl⟩:=hy;rw[h.IV,auF];exact Yv ss
  have hs':MF x=true:=by cases x<;>first|exact hs|exact absurd ⟨_,rfl⟩ hx
  have h1:=ajf hR hs' h;have hne:∀cs,v≠ .agg cs:=by rintro cs rfl;cases x<;>first|exact hy ⟨_,rfl⟩| (unfold aC at h;simp at h;done)|exact hx ⟨_,rfl⟩| (simp[MF,ql] at hs';done)
  rw[atA hne];exact h1
theorem M5:∀{x:List (aA R.T)}{v:List V},Cz x=true->aJ R Z top x v->v.all (fun a=>aR (er a))=true
 | [],vs,_,h=>Lp|x::l,vs,hs,h=>by obtain⟨v,ws,rfl,h1,h2⟩:=h.fZ;unfold Cz at hs;rw[aZ] at hs;rw[List.all_cons,auI hR hs.1 h1,M5 hs.2 h2];rfl
theorem Yy:∀(l:List bO)(x:aV R.T l),Ih l=true->lS (bR R l x)=true
 | [],x,_=>rfl| [k],x,h=>by
   cases k<;>simp only[Ih,Bool.and_true,dG] at h
   .rename_i t;show (flat (aU R t x)&& lS [])=true;cases t<;>simp only[Xu,dG] at h<;>rfl
   .rename_i ks;show (flat (.agg (dU (yE ks x)))&& lS [])=true;unfold flat;rw[SI];rfl
 |k::k'::l,x,h=>by
  cases k<;>simp only[Ih,dG] at h
  .rename_i t;rw[aZ] at h;show (flat (aU R t x.1)&& lS (bR R (k'::l) x.2))=true;rw[Yy (k'::l) x.2 h.2];have:=h.1;cases t<;>simp only[Xu,dG] at this<;>rfl
  .rename_i ks;show (flat (.agg (dU (yE ks x.1)))&& lS (bR R (k'::l) x.2))=true;rw[Yy (k'::l) x.2 h];unfold flat;rw[SI];rfl
omit hR in
theorem auJ {vs:List V}(h:lS vs=true):flat (jW vs)=true:=by
 match vs with
 | []=>simp[jW,flat,lS]| [v]=>simp only[lS,Bool.and_true] at h;exact h|v::w::vs=>show flat (.bV _)=true;unfold flat;exact h
mutual
theorem ajh:∀(k:bO)(x:sQ R.T k),xW k=true->aC R Z top (up R .sh k x) (encS R k x)
 |.d t,x,_=>aic hR t x|.l c t,x,h=>by refine⟨.sh,rfl,?_⟩;cases c<;>first|trivial|rfl| (simp[xW] at h;done)
 |.agg l,x,h=>⟨_,rfl,C8 l x (by unfold xW at h;exact h)⟩|.aW l off,x,h=>⟨_,rfl,C8 l x (by unfold xW at h;exact h)⟩|.fD k e,x,_=>rfl|.fn f a b,x,h=>by unfold xW at h;rw[aZ] at h;exact⟨_,_,rfl,C8 a x.1 h.1,C8 b x.2 h.2⟩|.ref _ _,_,h=>wG|.fq _,_,h=>wG|.fQ,_,h=>wG|.aS _ _,_,h=>wG|.sub _ _,_,h=>wG|.sg l,x,_=>rfl|.undef,_,h=>wG
theorem C8:∀(l:List bO)(x:aV R.T l),mD l=true->aJ R Z top (jI R .sh l x) (bR R l x)
 | [],_,_=>rfl| [k],x,h=>by unfold mD at h;rw[aZ] at h;exact .cons' (ajh k x h.1) rfl|k::k'::l,x,h=>by unfold mD at h;rw[aZ] at h;exact .cons' (ajh k x.1 h.1) (C8 (k'::l) x.2 h.2)
end
omit hR in
theorem auK {x:List (aA R.T)}{v:List V}(h:aJ R Z top x v):aC R Z top (ahX R x) (jW v):=by
 match x,h with
 | [],h=>rw[h.jq];exact⟨[],rfl,rfl⟩| [a],h=>obtain⟨v,vs,rfl,h1,h2⟩:=h.fZ;rw[h2.jq];exact h1
 |a::b::l,h=>obtain⟨v,vs,rfl,h1,h2⟩:=h.fZ;obtain⟨w,ws,rfl,h3,h4⟩:=h2.fZ;exact⟨_,rfl,.cons' h1 (.cons' h3 h4)⟩
def aji:List V->List V
 |_::l=>.ak .nil []::l| []=>[]
def bg (E:Env)(F:Nat->List (iy R)):Prop:=∀f,∀r∈F f,∀p x,r.F p=some x->(mD r.args=true->Pure E f (bR R r.args p) (jW (bR R r.res x)))/\
 (r.own=true->∀(τ:Ty)(h:r.res=[.d (.slice τ)])(l:List (Den R.T τ)),(h▸x:aV R.T [.d (.slice τ)])=l->
   (mD r.args=true->E.zl f=false/\oM E f (bR R r.args p) (dL R τ) (l.map (aU R τ)))/\
   (mD r.args=false->E.zl f=true/\oM E f (aji (bR R r.args p)) (dL R τ) (l.map (aU R τ))))
theorem ajj {F:Nat->List (iy R)}(hF:bg E F){f:Nat}{c:Call}{fo:Operand}{o:Oper}{aN:Nat}{a' b':List V}(ho:o.op= .call c)(fV:c.callee= .value fo)(hf:fr.ev E fo= .fn (.func f) a' b')(hi:E.imp f=false){args:List (aA R.T)}(ha:aJ R Z Y.top args (a'++c.args.toList.map (fr.ev E)++b'))(hi':aT Z b st fr Y):∀{l:List (iy R)}{r:fC R},(∀x∈l,x∈F f)->findF R args (rW st args) l=some r->tF E st Z aN fr Y o r
 | [],r,_,h=>cZ|q::l,r,hl,h=>by
  unfold findF at h;split at h
  .rename_i p hp;obtain⟨hc,h⟩:=gG h;cases h;simp only[aZ] at hc;obtain⟨⟨⟨c1,c2⟩,c3⟩,c4⟩:=hc;intro x hx;have hP:=(hF f q (hl q aD) p x hx).1 c1;obtain⟨vs',v1,v2⟩:=M4 hR hi' ha;have M6:=zK hR q.args p (rW st args) _ c1 hp v1 20 Y (by have:=oJ c2;omega);have has:=(v2 16).trans M6;have hcl:((a'++c.args.toList.map (fr.ev E)++b').all (fun x=>aR (er x))||flat (jW (bR R q.res x)))=true:=by
    rw[wI] at c4⊢;rcases c4 with c4|c4
    .exact .inl (M5 hR c4 ha)
    .exact .inr (auJ (Yy hR _ _ c4))
   exact⟨jW (bR R q.res x),⟨fun eX _ _ _ hw h'=>ay.call hw ho fV hf hi has hP hcl h' (aiN ho fV hf eX),fun eX _ _ _ _ _ hw h'=>dJ.call hw ho fV hf hi has hP hcl h' (aiN ho fV hf eX)⟩,auK (C8 hR _ _ c3)⟩
  .exact ajj hF ho fV hf hi ha hi' (fun x hx=>hl x (by simp[hx])) h
theorem auL {t:TypeId}{x i:aA R.T}{v w:V}{r:fC R}(h:XF E R t x i=some r)(hx:aC R Z top x v)(hi:aC R Z top i w):ru Z top (qp E.P t v w) r:=by
 unfold XF at h;split at h
 .rename_i e c u l k n hu;split at h
  .rename_i sz hs;obtain⟨hb,h⟩:=gG h;cases h;have:=fT hb;subst this;obtain⟨c',rfl,_⟩:=hx.mZ;rw[hi.jy];intro a ha;refine⟨.aW (aU R u a).cells 0,?_,?_⟩
   .rw[Xl,if_pos (by unfold wR;rw[hu])];have:lT E.P t=some e:=(by unfold lT;rw[hu]);rw[this];simp only[Option.bind_some,hs,ha];rw[if_pos (I4 hR u a).1]
   .unfold aC;refine⟨_,rfl,(yK ?_ (aic hR u a)).1⟩;cases u<;>rfl
  .cases h
 .rename_i n e o off k m hu;split at h
  .rename_i sz hs;cases h;obtain⟨s,h1,rfl⟩:=hx.rZ;rw[hi.jy];intro hc;have hc':0<=m/\m<n:=of_decide_eq_true hc;refine⟨.ref (Z.aj.lc o) s (off+m.toNat*sz),?_,by unfold aC;exact⟨s,h1,rfl⟩⟩;unfold qp;rw[hu];dsimp only;rw[hs];simp[idx,pU,hc']
  .cases h
 .rename_i n e cs off k m hu;split at h
  .rename_i sz hs;cases h;obtain⟨l,rfl,h1⟩:=hx.uJ;rw[hi.jy];intro hc;have hc':0<=m/\m<n:=of_decide_eq_true hc;refine⟨.aW l (off+m.toNat*sz),?_,by unfold aC;exact⟨l,rfl,h1⟩⟩;unfold qp;rw[hu];dsimp only;rw[hs];simp[idx,pU,hc']
  .cases h
 .cases h
omit hR in
theorem auM {t:TypeId}{x i:aA R.T}{v w:V}{r:fC R}(h:XK E R t x i=some r)(hx:aC R Z top x v)(hi:aC R Z top i w):ru Z top (EC E.P t v w) r:=by
 unfold XK at h;split at h
 .rename_i s k n hu;cases h;rw[hx.q8,hi.jy];intro a ha;refine⟨.int .u8 (a.toNat:Int),?_,gY⟩;rw[ahR (by unfold Xf;rw[hu]),ha];rfl
 .cases h
end
end aQ
end
section
namespace aQ
open Go
section
variable {R:jV}{E:Env}
variable {Z:bC}{top:Nat->Nat}{b aN:Nat}{st:aO R.T}{fr:Fr}{Y:ah}{o:Oper}
theorem M7 {P:Program}{t e:TypeId}{n:Nat}(h:vg P t=some (n,e)):P.underlying t=some (.array n e):=by
 unfold vg at h;split at h
 .rename_i n' e' hu;cases h;exact hu
 .cases h
theorem C9 {t:TypeId}(h:uF E t=true):dM E.P t=some 1/\jU E.P t=some false:=by
 unfold uF at h;split at h
 .rename_i sz ag h1 h2;rw[aZ] at h;rw[fT h.1] at h1;cases ag
  .exact⟨h1,h2⟩
  .simp at h
 .cases h
theorem Da (a b:List bW):lG (a++b)=lG a+lG b:=by rw[<-jO,uL,fG,jO,jO]
theorem ajk {pre rest:List bW}{n:Nat}(h:lG pre=n)(k:Nat):(dU (pre++rest)).drop (n+k)=(dU rest).drop k:=by rw[uL,<-h,<-jO,Es,GJ RS,List.nil_append,Aq]
theorem SN (s:bW)(l:List bW):dU (s::l)=s.vs++dU l:=rfl
theorem SQ (s:bW)(l:List bW):lG (s::l)=s.w+lG l:=rfl
theorem Yz {Z:bC}{top:Nat->Nat}(k:IntKind):∀l:List Int,aJ R Z top (l.map (aA.int k)) (l.map (V.int k))
 | []=>rfl|x::l=>.cons' gY (Yz k l)
theorem auN {n:Nat}(v:Vec n):(List.range n).map v.nth=v.l:=by
 apply List.ext_getElem
 .rw[fH,Eu,v.h]
 .intro i h1 h2;rw[BS,BU];unfold Vec.nth;rw[nE,fI h2];rfl
theorem YA {Z:bC}{top:Nat->Nat}:∀ss:List bW,aJ R Z top (MN ss) (dU ss)
 | []=>rfl|.i k x::l=>.cons' gY (YA l)|.a k n v::l=>by
  show aJ R Z top ((List.range n).map (fun j=>aA.int k (v.nth j))++MN l) (v.l.map (V.int k)++dU l);refine aJ.append ?_ (YA l);have:(List.range n).map (fun j=>aA.int (T:=R.T) k (v.nth j))=v.l.map (aA.int k):=by rw[<-auN v,Ap];rfl
  rw[this];exact Yz k v.l
theorem ajl {t:TypeId}{ss:List bW}{off:Nat}{v:aA R.T}(h:Sd E R t ss off=some v):∃y,gT E.P t (dU ss) off=some y/\aC R Z top v y:=by
 unfold Sd at h;split at h
 .rename_i pre rest sz ag h1 h2 h3;obtain⟨e1,w1⟩:=yL h1;split at h
  .rename_i mid post h4;obtain⟨e2,w2⟩:=yL h4;have hd:(dU ss).drop off=dU mid++dU post:=by have:=ajk (rest:=rest) w1 0;rw[<-e1,Nat.add_zero] at this;rw[this,e2,uL];rfl
   have hlen:(dU ss).length=off+(sz+lG post):=by rw[jO,e1,Da,w1,e2,Da,w2]
   unfold gT;rw[h3,h2];simp only[Option.bind_some];cases ag with
   |true=>
    rw[cond_true] at h;have hp:rM true sz (dU ss) off=some (.agg (dU mid)):=(by unfold rM;rw[if_pos rfl,if_pos RS,hd,Et (by rw[jO,w2];exact iR _),rJ (by rw[jO,w2];exact iR _)]);split at h
    .cases h;exact⟨_,hp,gY⟩
    .cases h;exact⟨_,hp,by unfold aC;exact⟨_,rfl,YA mid⟩⟩
   |false=>
    rw[cond_false] at h;split at h
    .rename_i k x;cases h;refine⟨.int k x,?_,gY⟩;unfold rM;simp only[dG,if_false];have:=congrArg (fun l=>l[0]?) hd;rw[List.getElem?_drop,Nat.add_zero] at this;rw[this];rfl
    .cases h
  .cases h
 .cases h
theorem ajm {n:Nat}(v:Vec n){i:Int}(h:i.toNat<n):v.l[i.toNat]? =some (v.at' i):=by unfold Vec.at';rw[nE,fI (by rw[v.h];exact h)];rfl
theorem ajn {ss pre post:List bW}{off n:Nat}{k:IntKind}{v:Vec n}{i:Int}{t:TypeId}(h:sV ss off=some (pre,.a k n v::post))(hi:i.toNat<n)(ht:uF E t=true):gT E.P t (dU ss) (off+i.toNat)=some (.int k (v.at' i)):=by obtain⟨e1,w1⟩:=yL h;obtain⟨h1,h2⟩:=C9 ht;unfold gT;rw[h1,h2];simp only[Option.bind_some];unfold rM;simp only[dG,if_false];rw[e1,uL,List.getElem?_append_right (by rw[jO,w1];omega),jO,w1,Aq,SN,VI (by rw[bW.len];exact hi)];show (v.l.map (V.int k))[i.toNat]? =_;rw[List.getElem?_map,ajm v hi];rfl
theorem M8 {n:Nat}{l:List Int}(h:l.length=n):(Vec.lit n l).l=l:=by unfold Vec.lit;rw[dif_pos h]
theorem auO {l:List Int}{a m:Nat}(h:a+m<=l.length):(List.range m).map (fun j=>l.getD (a+j) 0)=(l.drop a).take m:=by
 apply List.ext_getElem
 .rw[fH,Eu,mO,qj];omega
 .intro i h1 h2;rw[fH,Eu] at h1;rw[BS,BU,List.getElem_take,List.getElem_drop,nE,fI RS];rfl
theorem auP {t:TypeId}{ss pre post:List bW}{off n m:Nat}{k:IntKind}{v:Vec n}{i:Int}{y:aA R.T}(h:sV ss off=some (pre,.a k n v::post))(hi:i.toNat+m<=n)(hs:XL E R t k m n v i=some y):∃x,gT E.P t (dU ss) (off+i.toNat)=some x/\aC R Z top y x:=by
 obtain⟨e1,w1⟩:=yL h;unfold XL at hs;split at hs
 .rename_i m' e sz h1 h2 h3;obtain⟨hc,hs⟩:=gG hs;rw[aZ] at hc;have e2:=fT hc.1;have e3:=fT hc.2;rw[e3] at h2;have hp:gT E.P t (dU ss) (off+i.toNat)=some (.agg (((v.l.drop i.toNat).take m).map (V.int k))):=by unfold gT;rw[h3,h2];simp only[Option.bind_some];unfold rM;rw[if_pos rfl,if_pos (by rw[jO,e1,Da,w1,SQ];show off+i.toNat+m<=off+(n+_);omega)];rw[e1,ajk w1,SN];show some (V.agg ((((v.l.map (V.int k))++dU post).drop i.toNat).take m))=_;rw[Ls (by rw[fH,v.h];omega),Et (by rw[qj,fH,v.h];omega),List.map_take,List.map_drop]
  refine⟨_,hp,?_⟩;have hl:((v.l.drop i.toNat).take m).length=m:=by rw[mO,qj,v.h];omega
  split at hs
  .cases hs;unfold aC;show V.agg _= .agg (((v.slc i m).l.map (V.int k))++[]);unfold Vec.slc;rw[M8 hl,jD]
  .cases hs;unfold aC;refine⟨_,rfl,?_⟩;have:=auO (l:=v.l) (a:=i.toNat) (m:=m) (by rw[v.h];exact hi);have e:(List.range m).map (fun j=>aA.int (T:=R.T) k (v.nth (i.toNat+j)))=((v.l.drop i.toNat).take m).map (aA.int k):=by rw[<-this,Ap];rfl
   rw[e];exact Yz k _
 .cases hs
def Ba:List lW->Nat
 | []=>0|.i _::l=>1+Ba l|.a _ n::l=>n+Ba l
theorem SS:∀ss:List bW,Ba (ss.map bW.sk)=lG ss
 | []=>rfl|.i k x::l=>by show 1+Ba (l.map bW.sk)=1+lG l;rw[SS l]|.a k n v::l=>by show n+Ba (l.map bW.sk)=n+lG l;rw[SS l]
theorem auQ:∀{ks:List lW}{cs:List (aA R.T)}{ss:List bW}{vs:List V},CJ ks cs=some ss->aJ R Z top cs vs->vs=dU ss/\lG ss=Ba ks:=by
 intro ks;induction ks with
 |nil=>
  intro cs ss vs h hr;cases cs with
  |nil=>cases h;exact⟨hr.jq,rfl⟩|cons c cs=>cases h
 |cons k ks ih=>
  intro cs ss vs h hr;cases k with
  |i k=>
   cases cs with
   |nil=>cases h|cons c cs=>
    obtain⟨v,ws,rfl,h1,h2⟩:=hr.fZ;cases c<;>first| (exact absurd (show none=some ss from h) aD)|skip
    rename_i k' x;have h':(if k'=k then (match CJ ks cs with
     |some r=>some (bW.i k x::r)|none=>none) else none)=some ss:=h
    by_cases e:k'=k
    .subst e;rw[if_pos rfl] at h';cases hc:CJ ks cs with
     |none=>rw[hc] at h';cases h'|some r=>rw[hc] at h';cases h';obtain⟨g1,g2⟩:=ih hc h2;exact⟨by rw[h1.jy,g1];rfl,by show 1+lG r=1+Ba ks;rw[g2]⟩
    .rw[if_neg e] at h';cases h'
  |a k n=>
   have h':(match Cw k (cs.take n) with
    |some xs=>bif Nat.beq xs.length n then (match CJ ks (cs.drop n) with
     |some r=>some (bW.a k n (Vec.lit n xs)::r)|none=>none) else none
    |none=>none)=some ss:=by cases cs<;>exact h
   cases hx:Cw k (cs.take n) with
   |none=>rw[hx] at h';cases h'|some xs=>
    rw[hx] at h';dsimp only at h';obtain⟨hb,h'⟩:=gG h';have hb:=fT hb;cases hc:CJ ks (cs.drop n) with
    |none=>rw[hc] at h';cases h'|some r=>rw[hc] at h';cases h';obtain⟨g1,g2⟩:=ih hc (hr.drop n);have g3:=SK hx (hr.take n);refine⟨?_,by show n+lG r=n+Ba ks;rw[g2]⟩;show vs=(Vec.lit n xs).l.map (V.int k)++dU r;rw[M8 hb,<-g3,<-g1,Em]
theorem YB:∀{a b:List lW},IE a b=true->a=b
 | [],[],_=>rfl|.i k::l,.i k'::l',h=>by
  have h':((if k=k' then true else false)&& IE l l')=true:=h;rw[aZ] at h';have e:k=k':=by by_cases e:k=k';exact e;rw[if_neg e] at h';cases h'.1
  rw[e,YB h'.2]
 |.a k n::l,.a k' n'::l',h=>by
  have h':((if k=k' then true else false)&& Nat.beq n n'&& IE l l')=true:=h;rw[aZ,aZ] at h';have e:k=k':=by by_cases e:k=k';exact e;rw[if_neg e] at h';cases h'.1.1
  rw[e,fT h'.1.2,YB h'.2]
 | [],.i _::_,h=>cZ| [],.a _ _::_,h=>cZ|.i _::_,[],h=>cZ|.a _ _::_,[],h=>cZ|.i _::_,.a _ _::_,h=>cZ|.a _ _::_,.i _::_,h=>cZ
theorem M9:∀ss:List bW,dx (dU ss)=true
 | []=>rfl|.i k x::l=>by show (oneCell (.int k x)&& dx (dU l))=true;rw[M9 l];rfl|.a k n v::l=>by show dx (v.l.map (V.int k)++dU l)=true;have h1:=M9 l;unfold dx at h1⊢;rw[List.all_append,h1,List.all_map];simp[oneCell]
theorem ajo {ks:List lW}{tv:aA R.T}{ss:List bW}{v:V}(h:Sc ks tv=some ss)(hr:aC R Z top tv v):v.cells=dU ss/\lG ss=Ba ks/\fE v=true:=by
 unfold Sc at h;split at h
 .rename_i ss';obtain⟨h1,h⟩:=gG h;cases h;rw[hr.IV,YB h1];exact⟨rfl,(SS ss).symm,rfl⟩
 .obtain⟨l,rfl,hl⟩:=hr.mY;obtain⟨h1,h2⟩:=auQ h hl;exact⟨h1,h2,rfl⟩
 .rename_i k x;split at h
  .split at h
   .rename_i e;subst e;cases h;rw[hr.jy];exact⟨rfl,rfl,rfl⟩
   .cases h
  .cases h
 .cases h
theorem YC {k:IntKind}:∀{cs:List (aA R.T)}{vs:List V},Fg k cs=true->aJ R Z top cs vs->vs=List.replicate cs.length (V.int k 0)
 | [],vs,_,hr=>hr.jq|c::cs,vs,h,hr=>by
  obtain⟨v,ws,rfl,h1,h2⟩:=hr.fZ;cases c<;>first| (exact absurd (show false=true from h) aD)|skip
  rename_i k' x;have h':((if k'=k then (if x=0 then true else false) else false)&& Fg k cs)=true:=h;rw[aZ] at h';have e1:k'=k:=by by_cases e:k'=k;exact e;rw[if_neg e] at h';cases h'.1
  have e2:x=0:=by by_cases e:x=0;exact e;rw[if_pos e1,if_neg e] at h';cases h'.1
  rw[h1.jy,e1,e2,YC h'.2 h2];rfl
theorem auR:∀{ks:List lW}{cs:List (aA R.T)}{vs:List V},IC ks cs=true->aJ R Z top cs vs->vs=dU (ks.map Sb):=by
 intro ks;induction ks with
 |nil=>
  intro cs vs h hr;cases cs with
  |nil=>exact hr.jq|cons c cs=>cases h
 |cons k ks ih=>
  intro cs vs h hr;cases k with
  |i k=>
   cases cs with
   |nil=>cases h|cons c cs=>obtain⟨v,ws,rfl,h1,h2⟩:=hr.fZ;have h':(Fg k [c]&& IC ks cs)=true:=h;rw[aZ] at h';have:=YC h'.1 (aJ.cons' h1 aJ.nil');cases this;rw[ih h'.2 h2];rfl
  |a k n=>
   have h':(Nat.ble n cs.length&& Fg k (cs.take n)&& IC ks (cs.drop n))=true:=by cases cs<;>exact h
   rw[aZ,aZ] at h';have h1:=oJ h'.1.1;have h2:=YC h'.1.2 (hr.take n);have h3:=ih h'.2 (hr.drop n);rw[<-Em n vs,h2,h3,mO,Am h1];show _=(List.replicate n (0:Int)).map (V.int k)++dU (ks.map Sb);rw[List.map_replicate]
theorem auS {pre mid post mid':List bW}{off sz:Nat}(h1:lG pre=off)(h2:lG mid=sz)(h3:lG mid'=sz):gM (dU (pre++(mid++post))) off (dU mid')=dU (pre++(mid'++post)):=by unfold gM;rw[uL,uL,uL,uL,jO,h3];rw[Et (by rw[jO,h1];exact iR _),rJ (by rw[jO,h1];exact iR _)];rw[<-fP (dU pre) (dU mid),Ls (by rw[fG,jO,jO,h1,h2];exact iR _),GJ (by rw[fG,jO,jO,h1,h2];exact iR _)];rw[List.nil_append,fP]
theorem ajp {pre post:List bW}{off n a:Nat}{k:IntKind}{v w:Vec n}{l:List Int}(h1:lG pre=off)(h2:a+l.length<=n)(h3:w.l=v.l.take a++l++v.l.drop (a+l.length)):gM (dU (pre++(.a k n v::post))) (off+a) (l.map (V.int k))=dU (pre++(.a k n w::post)):=by
 unfold gM;rw[uL,uL,SN,SN];show ((dU pre++(v.l.map (V.int k)++dU post)).take (off+a)++l.map (V.int k)++(dU pre++(v.l.map (V.int k)++dU post)).drop (off+a+(l.map (V.int k)).length))=dU pre++(w.l.map (V.int k)++dU post);have hp:(dU pre).length=off:=by rw[jO,h1]
 have hv:(v.l.map (V.int k)).length=n:=by rw[fH,v.h]
 rw[fH];rw[List.take_append,rJ RS,hp,Aq,Et RS];rw[Es,GJ RS,hp,List.nil_append,show off+a+l.length-off=a+l.length by omega,Ls RS];rw[h3,qM,qM,List.map_take,List.map_drop];simp only[fP]
theorem auT {l:List Int}{a:Nat}{y:Int}(h:a<l.length):l.set a y=l.take a++[y]++l.drop (a+1):=by rw[List.set_eq_take_append_cons_drop,if_pos h];simp
theorem YD {g:Nat}{t:TypeId}{k:IntKind}{n:Nat}{v:Vec n}(h:Si E R g t=some ⟨k,n,v⟩):∃cs e,E.glob g=some cs/\cs=v.l.map (V.int k)/\vg E.P t=some (n,e)/\dM E.P t=some n/\jU E.P t=some true/\uF E e=true:=by
 unfold Si at h;split at h
 .rename_i cs k' n' v' m e sz ag h1 h2 h3 h4 h5;obtain⟨hc,h⟩:=gG h;cases h;simp only[aZ] at hc;obtain⟨⟨⟨⟨c1,c2⟩,c3⟩,c4⟩,c5⟩:=hc;subst c1;rw[fT c2] at h3;rw[fT c3] at h4;refine⟨cs,e,h1,?_,h3,h4,h5,c4⟩;have key:∀(cs:List V)(l:List Int),Sg k cs l=true->cs=l.map (V.int k):=by
   intro cs;induction cs with
   |nil=>intro l h;cases l with
    |nil=>rfl|cons y l=>cases h
   |cons c cs ih=>
    intro l h;cases l with
    |nil=>cases c<;>cases h|cons y l=>
     cases c<;>first| (exact absurd (show false=true from h) aD)|skip
     rename_i k' x;have h':((if k'=k then (if x=y then true else false) else false)&& Sg k cs l)=true:=h;rw[aZ] at h';have e1:k'=k:=(by by_cases e:k'=k;exact e;rw[if_neg e] at h';cases h'.1);have e2:x=y:=(by by_cases e:x=y;exact e;rw[if_pos e1,if_neg e] at h';cases h'.1);rw[e1,e2,ih l h'.2];rfl
  exact key cs v.l c5
 .cases h
theorem SV {i:Int}{n:Nat}(h:dH i n=true):0<=i/\i<n/\i.toNat<n:=by have:=of_decide_eq_true h;omega
theorem YE {k:IntKind}{i:Int}{n:Nat}(h:dH i n=true):idx (.int k i) n=some i.toNat:=by obtain⟨h1,h2,_⟩:=SV h;simp[idx,pU,h1,h2]
theorem SX {k:IntKind}{i:Int}{n:Nat}(h1:0<=i)(h2:i<=n):bnd (.int k i) n=some i.toNat:=by simp[bnd,pU,h1,h2]
theorem ajq {n:Nat}{lo hi:Option Int}{vl vh:Option V}(hl:(lo=none/\vl=none)\/∃n k,lo=some n/\vl=some (.int k n))(hh:(hi=none/\vh=none)\/∃n k,hi=some n/\vh=some (.int k n))(hb:qX n lo hi=true):
 jE n n vl vh none=some ((fK lo).toNat,(jf n hi).toNat,n):=by
 rcases hl with ⟨rfl,rfl⟩| ⟨a,k,rfl,rfl⟩<;>rcases hh with ⟨rfl,rfl⟩| ⟨c,k',rfl,rfl⟩<;>simp only[qX,decide_eq_true_eq] at hb
 .simp[jE,fK,jf]
 .simp[jE,fK,jf,SX hb.1 hb.2]
 .simp[jE,fK,jf,SX (i:=a) (n:=n) hb.1 RS]
 .simp[jE,fK,jf,SX (i:=c) (n:=n) RS hb.2.2.1,SX (i:=a) (n:=c.toNat) hb.1 RS]
theorem auU {P:Program}{t e:TypeId}{y:V}{ys cs:List V}{loc:aQ.Loc}{s off len cap:Nat}{ag:Bool}(he:lT P t=some e)(z1:dM P e=some 1)(z2:jU P e=some false)(q2:zk y=false)(q1:nQ Y false 1 aP y=some ys)(hone:ys.all (fun v=>dx v.cells)=true)(h4:Y.dQ loc s=some cs)(hb:off+min ys.length len<=cs.length):copyV P Y t (.aS loc s off len cap 1 ag) y=some (.int .i64 (min ys.length len:Nat),Y.setObj loc s (.cells (gM cs off ((ys.take (min ys.length len)).flatMap V.cells)))):=by
 unfold copyV;rw[he];simp only[Option.bind_some,z1,z2];rw[if_pos ⟨q2,rfl⟩,q1];simp only[Option.bind_some];rw[if_pos hone,h4];simp only[Option.bind_some];rw[if_pos ⟨trivial,by rw[Nat.mul_one];exact hb⟩]
theorem SY {t:TypeId}{x:aA R.T}{lo hi:Option (aA R.T)}{v:V}{vl vh:Option V}{r:fC R}(h:CK E R t x lo hi st=some r)(hx:aC R Z Y.top x v)(him:aT Z b st fr Y)(hl:∀y,lo=some y->∃w,vl=some w/\aC R Z Y.top y w)(hln:lo=none->vl=none)(hh:∀y,hi=some y->∃w,vh=some w/\aC R Z Y.top y w)(hhn:hi=none->vh=none):ru Z Y.top (lF E.P Y t v vl vh none) r:=by
 unfold CK at h;split at h
 .rename_i p off lo' hi' n e e1 e2 ha;have b1:=CZ e1 hl hln;have b2:=CZ e2 hh hhn;obtain⟨hel,h⟩:=gG h;obtain⟨z1,z2⟩:=C9 hel;obtain⟨s,h1,rfl⟩:=hx.rZ;have fin:∀(k:IntKind)(cs:List V),Y.dQ (Z.aj.lc p) s=some cs->off+n<=cs.length->qX n lo' hi'=true->∃y,lF E.P Y t (.ref (Z.aj.lc p) s off) vl vh none=some y/\aC R Z Y.top (.sv p off k n lo' hi') y:=by intro k cs hc hlen hB;obtain⟨p1,p2,p3,_,_⟩:=FD hB;refine⟨_,?_,by unfold aC;exact⟨s,h1,hB,rfl⟩⟩;unfold lF;rw[M7 ha];dsimp only;rw[z1,z2,ajq b1 b2 hB,hc];simp only[Option.bind_some,Nat.mul_one];rw[if_pos hlen,if_neg RS]
  split at h
  .rename_i ss hl';obtain⟨s',h3,h4⟩:=him.rd hl';rw[h1] at h3;cases h3;split at h
   .rename_i pre k n' v' post hsp;obtain⟨hb,h⟩:=gG h;have:=fT hb;subst this;cases h;obtain⟨e3,hw⟩:=yL hsp;intro hc;exact fin k _ h4 (by rw[jO,e3,Da,hw,SQ];show off+n'<=off+(n'+_);omega) hc
   .cases h
  .rename_i cs hl';obtain⟨s',vs,h3,h4,h5⟩:=him.rd hl';rw[h1] at h3;cases h3;split at h
   .rename_i k _ _ _;obtain⟨hb,h⟩:=gG h;cases h;intro hc;exact fin k _ h4 (by rw[h5.length];exact oJ hb) hc
   .cases h
  .cases h
 .rename_i cs off n e e1 e2 ha;have b1:=CZ e1 hl hln;have b2:=CZ e2 hh hhn;obtain⟨hb,h⟩:=gG h;rw[aZ] at hb;obtain⟨z1,z2⟩:=C9 hb.1;have hle:=oJ hb.2;split at h
  .rename_i k _ _ _;split at h
   .rename_i l hu;cases h;obtain⟨vs,rfl,hr⟩:=hx.uJ;have hv:=SK hu hr;have hlen:=hr.length;have hsb:qX n none none=true:=rfl;refine⟨.ak .sh (((l.drop off).take n).map (V.int k)),?_,by unfold aC;exact⟨.sh,rfl,trivial⟩⟩;unfold lF;rw[M7 ha];dsimp only;rw[z1,z2,ajq b1 b2 hsb];simp only[Option.bind_some,Nat.mul_one];have hn:off+n<=vs.length:=(by rw[hlen];exact hle);have e0:(fK none).toNat=0:=rfl;have Ja:(jf n none).toNat=n:=(by simp[jf]);rw[if_pos ⟨hn,fun _=>⟨trivial,by rw[hv];unfold dx;rw[List.all_map];exact lK.2 fun _ _=>rfl⟩⟩,e0,Ja];have hl2:(List.take n (List.drop off l)).length=n:=(by rw[hv,fH] at hn;rw[mO,qj];omega);have:=Yw k ((l.drop off).take n) ((l.drop off).drop n|>.map (V.int k));rw[<-qM,Em,hl2] at this;rw[hv,Nat.sub_zero,Nat.add_zero,<-List.map_drop,this]
   .cases h
  .cases h
 .cases h
end
end aQ
end
