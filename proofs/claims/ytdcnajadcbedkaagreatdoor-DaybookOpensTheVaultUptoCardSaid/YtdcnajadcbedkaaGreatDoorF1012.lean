import Derived.ChangeSame
import Derived.ChangeShapes
import Derived.ChangeStays
import Derived.RowKit
import Derived.Test.YtdcnajadcbedkaaGreatDoorF1011
import Derived.WideShapes
set_option linter.all false
section
namespace aQ
open Go
section
variable {R:jV}{E:Env}(hR:rX R)
include hR
def YT (E:Env)(aj:Bool)(c:Code)(body:{β:Type}->aO R.T->(Ex->aO R.T->Option β)->Option β):Prop:=
 ∀(β:Type)(st:aO R.T)(k:Ex->aO R.T->Option β)(x:β)(fr:Fr)(Y:ah)(Z:bC),Z.aj.aj=aj->body st k=some x->aT Z Y.next st fr Y->aF E c fr Y fun e fr' Y'=>∃Z' st',aT Z' Y'.next st' fr' Y'/\Kp (mH E c) (dR E c) st fr Y Z st' fr' Y' Z'/\k e st'=some x
omit hR in
theorem ajU:∀(Z:bC)(Y:ah)(o:Nat)(x:bL R.T),gK (R:=R) Z Y o x->gK (R:=R) Z Y o (.ro x):=fun _ _ _ _ h=>h
theorem ajV {aj:Bool}{β:Type}{c:Code}{key:Nat}{sh:Shape}{outs:List (Ex×Shape)}{body:{β:Type}->aO R.T->(Ex->aO R.T->Option β)->Option β}(hb:YT E aj c body){H B:aO R.T}{YU:Fr}{r9:ah}{Tn:bC}(bQ:Tn.aj.aj=aj)(hB:∀(st' S':aO R.T) (fr':Fr) (Y':ah) (Z':bC) (b':Nat),aT Z' b' st' fr' Y'->Kp (mH E c) (dR E c) H YU r9 Tn S' fr' Y' Z'->aT Z' b' B fr' Y')(hro:∀o,mI B o):
 ∀(m:Nat)(p:wV R.T sh)(o:Out R.T outs)(fr:Fr)(Y:ah)(Z:bC),Fq key (dR E c) B sh outs body m p=some o->aT Z Y.next (unpack R sh p) fr Y->Kp (mH E c) (dR E c) H YU r9 Tn (B.over (unpack R sh p)) fr Y Z->
 aF E (.loop c) fr Y fun e fr' Y'=>∃Z' S' st',aT Z' Y'.next st' fr' Y'/\Kp (mH E c) (dR E c) H YU r9 Tn S' fr' Y' Z'/\(∀o,bM o (dR E c)=false->mI H o->look st'.ob o=none)/\∀(k:Ex->aO R.T->Option β)(bs:aO R.T),Fe R bs k outs o=k e (bs.over st')
 |0,p,o,fr,Y,Z,h,_,_=>cZ|m+1,p,o,fr,Y,Z,h,hi,hkp=>by
  unfold Fq at h;have hbase:aT Z Y.next B fr Y:=hB _ _ _ _ _ _ hi hkp;refine aF.loop ((hb _ _ _ _ fr Y Z ((congrArg eP.aj hkp.aj).trans bQ) h (hbase.over hi)).mono ?_);rintro e fr' Y' ⟨Z',st',hi',zM,hk⟩;have hall:=hkp.trans zM;cases e with
  |normal=>
   dsimp only at hk;split at hk
   .rename_i p' hp';obtain⟨Z2,S2,h1,h2,_,h3⟩:=hi'.sW hR hp';have Df:=hall.trans h2;refine ajV hb bQ hB hro m p' o fr' Y' Z2 hk h1 ⟨Df.fr,fun q hq=>⟨(Df.ob q hq).ob,(Df.ob q hq).ln,(Df.ob q hq).aj,(Df.ob q hq).nx,(Df.ob q hq).lp,(Df.ob q hq).dp,fun hr=>⟨?_,((Df.ob q hq).ro hr).2⟩⟩⟩;exact Yb (hro q) fun x hx=>(by rw[h3 q hq ((hall.ob q hq).ro hr).1] at hx;cases hx)
   .cases hk
  |exit i=>obtain⟨Z2,S2,jK,h1,h2,_,h3,h4⟩:=SC (β:=β) hR hi' hk;exact⟨Z2,S2,jK,h1,hall.trans h2,fun q hq hr=>h3 q hq ((hall.ob q hq).ro hr).1,h4⟩
  |ret=>obtain⟨Z2,S2,jK,h1,h2,_,h3,h4⟩:=SC (β:=β) hR hi' hk;exact⟨Z2,S2,jK,h1,hall.trans h2,fun q hq hr=>h3 q hq ((hall.ob q hq).ro hr).1,h4⟩
omit hR in
theorem ajW {aj:Bool}{c:Code}{body:{β:Type}->aO R.T->(Ex->aO R.T->Option β)->Option β}(hb:YT E aj c body){β:Type}:∀(m:Nat)(st:aO R.T)(k:Ex->aO R.T->Option β)(x:β)(fr:Fr)(Y:ah)(Z:bC),Z.aj.aj=aj->MR (R:=R) (fun st k=>body st k) m st k=some x->aT Z Y.next st fr Y->
 aF E (.loop c) fr Y fun e fr' Y'=>∃Z' st',aT Z' Y'.next st' fr' Y'/\Kp (mH E c) (dR E c) st fr Y Z st' fr' Y' Z'/\k e st'=some x
 |0,st,k,x,fr,Y,Z,_,h,_=>cZ|m+1,st,k,x,fr,Y,Z,bQ,h,hi=>by
  unfold MR at h;refine aF.loop ((hb _ _ _ _ fr Y Z bQ h hi).mono ?_);rintro e fr' Y' ⟨Z',st',hi',zM,hk⟩;cases e with
  |normal=>
   dsimp only at hk;by_cases hW:True
   .refine(ajW hb m st' k x fr' Y' Z' ?_ hk hi').mono ?_
    .exact(congrArg eP.aj zM.aj).trans bQ
    .rintro e CY pG ⟨tC,jK,h1,h2,h3⟩;exact⟨tC,jK,h1,zM.trans h2,h3⟩
   .exact absurd trivial hW
  |exit i=>exact⟨Z',st',hi',zM,hk⟩|ret=>exact⟨Z',st',hi',zM,hk⟩
omit hR in
theorem aT.obs {Z:bC}{b:Nat}{st:aO R.T}{fr:Fr}{Y:ah}(h:aT Z b st fr Y):aT Z b st.obs fr Y:={h with
 fr:=fun i v hv=>Ej
 ob:=h.ob}
omit hR in
theorem bT.shift {o:Nat}{st st':aO R.T}{Z Z':bC}{Y Y' pG:ah}(h:bT false o st Z Y st' Z' Y')(hp:∀L:Loc,L.1<=Z.aj.dp->pG.obj L=Y'.obj L)(hn:Y'.next<=pG.next)(hl:∀l,l<Y.next->pG.loops l=Y'.loops l)(ht:∀s,s<Z.aj.lo->pG.top s=Y'.top s):bT false o st Z Y st' Z' pG:=
 ⟨h.ob,h.ln,h.aj,eZ h.nx hn,⟨fun l hl'=>(hl l hl').trans (h.lp.1 l hl'),fun s hs=>(ht s hs).trans (h.lp.2 s hs)⟩,fun L hL ho=>(hp L (by rcases hL with e|e;cases e;exact e)).trans (h.dp L hL ho),fun hr=>⟨(h.ro hr).1,fun s=>by have:=(h.ro hr).2 s;unfold ah.dQ ah.lD at this⊢;rw[hp _ (Z.aj.Sv o)];exact this⟩⟩
def vT (E:Env)(c:Code):Bool:=(dR E c).all fun d=>Nat.blt d F0
omit hR in
theorem Tp {c:Code}(h:vT E c=true):∀d,bM d (dR E c)=true->d<F0:=fun d hd=>by
 unfold vT at h;rw[lK] at h;have:=h d (ajC hd);unfold Nat.blt at this;exact oJ this
def ng (E:Env)(I:IR R):Prop:=(∀g,∀i∈I.it g,E.imp g=true/\∀pa pb xs,i.F pa pb=some xs->avx E g (bR R i.a pa) (bR R i.b pb) (xs.map (bR R i.el)))/\Tc E I.im
theorem xq {n:Nat}{aj:Bool}{F:Nat->List (iy R)}{I:IR R}(hF:bg E F)(hI:ng E I){A:bB}:∀c:Code,vT E c=true->YT E aj c fun st k=>jX E R n aj F I A c st k
 |.skip=>fun hw _ st k x fr Y Z _ h hi=>aF.skip ⟨Z,st,hi,.refl,h⟩
 |.exit i=>fun hw _ st k x fr Y Z _ h hi=>aF.exit ⟨Z,st,hi,.refl,h⟩
 |.ret=>fun hw _ st k x fr Y Z _ h hi=>aF.ret ⟨Z,st,hi,.refl,h⟩
 |.region id ops dr=>fun hw β st k x fr Y Z bQ h hi=>by
  have h':(bif dr then (bif qx ops.toList then qZ E R aj F I.im (oo ops.toList) ops.toList ops.toList st [] (fun st=>k .normal st) else none) else yH E R aj F I.im ops.toList ops.toList st (fun st=>k .normal st))=some x:=h;have ajX:∀{nr:Bool}{W:List Nat}{st':aO R.T}{fr':Fr}{Y':ah}{Z':bC}{j:Nat},Kp nr W st fr (Y.bump j) Z st' fr' Y' Z'->Kp nr W st fr Y Z st' fr' Y' Z':=fun h=>⟨h.fr,fun o ho=>⟨(h.ob o ho).ob,(h.ob o ho).ln,(h.ob o ho).aj,eZ (mg _ _) (h.ob o ho).nx,⟨fun l hl=>(h.ob o ho).lp.1 l (nD hl (mg _ _)),(h.ob o ho).lp.2⟩,(h.ob o ho).dp,fun hr=>⟨((h.ob o ho).ro hr).1,((h.ob o ho).ro hr).2⟩⟩⟩;cases dr with
  |true=>rw[cond_true] at h';obtain⟨he,h'⟩:=gG h';refine aF.draw he (Jc hR hF hI.2 _ Y.next Z st fr _ [] (Tp hw) bQ (hi.next _) (iR _) h' ?_);intro Z' st' fr' Y' hi' hn hkp hk;exact⟨Z',st',hi'.le hn,ajX hkp,hk⟩
  |false=>rw[cond_false] at h';refine aF.region (Dc hR hF hI.2 _ Y.next Z st fr _ (Tp hw) bQ (hi.next _) (iR _) h' ?_);intro Z' st' fr' Y' hi' hn hkp hk;exact⟨Z',st',hi'.le hn,ajX hkp,hk⟩
 |.seq a b=>fun hw β st k x fr Y Z bQ h hi=>by
  have h':(match look A.joins (yI b) with
   |none=>jX E R n aj F I A a st fun e st=>match e with
    |.normal=>jX E R n aj F I A b st k|e=>k e st
   |some q=>(jX E R n aj F I A (β:=Out R.T q.outs) a ((base (dR E a) q.K q.O .ro st).over st) fun e st=>Fb R (dR E a) e st q.outs).bind (Fe R (base (dR E a) q.K q.O (fun b=>b) st) (fun e st=>match e with
    |.normal=>jX E R n aj F I A b st k|e=>k e st) q.outs))=some x:=h
  have hw2:vT E a=true/\vT E b=true:=by have hw':((dR E a++dR E b).all fun d=>Nat.blt d F0)=true:=hw;rw[List.all_append,aZ] at hw';exact hw'
  have hl:∀i,bM i (dR E (.seq a b))=false->bM i (dR E a)=false/\bM i (dR E b)=false:=fun i hi=>by have hi':bM i (dR E a++dR E b)=false:=hi;rw[X9,tY] at hi';exact hi'
  have fin:∀(e:Ex)(st':aO R.T)(fr':Fr)(Y':ah)(Z':bC),aT Z' Y'.next st' fr' Y'->Kp (mH E a) (dR E a) st fr Y Z st' fr' Y' Z'->(match e with
   |.normal=>jX E R n aj F I A b st' k|e=>k e st')=some x->dh E b (fun e fr' Y'=>∃Z' st',aT Z' Y'.next st' fr' Y'/\Kp (mH E (.seq a b)) (dR E (.seq a b)) st fr Y Z st' fr' Y' Z'/\k e st'=some x) e fr' Y':=by
   intro e st' fr' Y' Z' hi' hkp hk;have YV:=(hkp.mono (W':=dR E (.seq a b)) fun i hi=>(hl i hi).1).nr (Nh:=mH E (.seq a b)) (fun e=>by simp only[mH,aZ] at e;exact e.1);cases e with
   |normal=>refine(xq hF hI b hw2.2 _ st' k x fr' Y' Z' ((congrArg eP.aj hkp.aj).trans bQ) hk hi').mono ?_;rintro e CY pG ⟨tC,jK,h1,h2,h3⟩;exact⟨tC,jK,h1,YV.trans ((h2.mono fun i hi=>(hl i hi).2).nr (fun e=>by simp only[mH,aZ] at e;exact e.2)),h3⟩
   |exit i=>exact⟨Z',st',hi',YV,hk⟩|ret=>exact⟨Z',st',hi',YV,hk⟩
  split at h'
  .refine aF.seq ((xq hF hI a hw2.1 _ st _ x fr Y Z bQ h' hi).mono ?_);rintro e fr' Y' ⟨Z',st',hi',hkp,hk⟩;exact fin e st' fr' Y' Z' hi' hkp hk
  .rename_i q _;obtain⟨o,ho,h'⟩:=iP.1 h';have hro:∀o x,look st.ob o=some x->bM o (dR E a)=false->bM o q.O=true->sS (dR E a) x=true->mI ((base (dR E a) q.K q.O .ro st).over st) o:=fun o x h1 h2 h3 h4=>aiH h1 h2 h3 h4;have hH:∀o,bM o (dR E a)=false->mI st o->mI ((base (dR E a) q.K q.O .ro st).over st) o:=fun o _ h=>Yb (aiJ (fun _ _=>rfl) h) h;have hbase:aT Z Y.next (base (dR E a) q.K q.O .ro st) fr Y:=hi.base (st0:=(base (dR E a) q.K q.O .ro st).over st) ajU (Kp.refl (nr:=false)) hi hro;refine aF.seq ((xq hF hI a hw2.1 _ _ _ o fr Y Z bQ ho (hbase.over hi)).mono ?_);rintro e fr' Y' ⟨Z',st',hi',hkp,hk⟩;obtain⟨Z2,S2,jK,h1,g1,_,h3,h2⟩:=SC (β:=β) hR hi' hk;rw[h2] at h';obtain⟨f1,f2⟩:=finish (K:=q.K) hi hH hro (hkp.trans g1) h1 fun o ho hr=>h3 o ho ((hkp.ob o ho).ro hr).1;exact fin e _ fr' Y' Z2 f1 f2 h'
 |.cond c a b=>fun hw β st k x fr Y Z bQ h hi=>by
  have h':(match dF [] st c with
   |some (.jH t)=>bif t then jX E R n aj F I A a st k else jX E R n aj F I A b st k|some (.bool t)=>bif t then jX E R n aj F I A a (st.Ia c true) k else jX E R n aj F I A b (st.Ia c false) k|_=>none)=some x:=h
  have hw2:vT E a=true/\vT E b=true:=by have hw':((dR E a++dR E b).all fun d=>Nat.blt d F0)=true:=hw;rw[List.all_append,aZ] at hw';exact hw'
  have hl:∀i,bM i (dR E (.cond c a b))=false->bM i (dR E a)=false/\bM i (dR E b)=false:=fun i hi=>by have hi':bM i (dR E a++dR E b)=false:=hi;rw[X9,tY] at hi';exact hi'
  have ha:∀st':aO R.T,st'.ob=st.ob->aT Z Y.next st' fr Y->jX E R n aj F I A a st' k=some x->aF E a fr Y fun e fr' Y'=>∃Z' st',aT Z' Y'.next st' fr' Y'/\Kp (mH E (.cond c a b)) (dR E (.cond c a b)) st fr Y Z st' fr' Y' Z'/\k e st'=some x:=fun st' hs hi' hk=>by refine(xq hF hI a hw2.1 _ st' k x fr Y Z bQ hk hi').mono ?_;rintro e CY pG ⟨tC,jK,h1,h2,h3⟩;exact⟨tC,jK,h1,((⟨h2.fr,fun o ho=>(h2.ob o ho).from hs⟩:Kp (mH E a) (dR E a) st fr Y Z jK CY pG tC).mono fun i hi=>(hl i hi).1).nr (fun e=>by simp only[mH,aZ] at e;exact e.1),h3⟩
  have hb:∀st':aO R.T,st'.ob=st.ob->aT Z Y.next st' fr Y->jX E R n aj F I A b st' k=some x->aF E b fr Y fun e fr' Y'=>∃Z' st',aT Z' Y'.next st' fr' Y'/\Kp (mH E (.cond c a b)) (dR E (.cond c a b)) st fr Y Z st' fr' Y' Z'/\k e st'=some x:=fun st' hs hi' hk=>by refine(xq hF hI b hw2.2 _ st' k x fr Y Z bQ hk hi').mono ?_;rintro e CY pG ⟨tC,jK,h1,h2,h3⟩;exact⟨tC,jK,h1,((⟨h2.fr,fun o ho=>(h2.ob o ho).from hs⟩:Kp (mH E b) (dR E b) st fr Y Z jK CY pG tC).mono fun i hi=>(hl i hi).2).nr (fun e=>by simp only[mH,aZ] at e;exact e.2),h3⟩
  split at h'
  .rename_i t hc;refine aF.cond (bS (E:=E) hi .nil hc).vO (fun e=>?_) (fun e=>?_)
   .subst e;exact ha st rfl hi h'
   .subst e;exact hb st rfl hi h'
  .rename_i t hc;have hl:aT Z Y.next (st.Ia c t) fr Y/\(st.Ia c t).ob=st.ob:=by
    cases c with
    |tmp j=>exact⟨hi.learn (show aC R Z Y.top (.bool t) (fr.tm j) from hi.fr _ _ (avj hc)).rY,rfl⟩|_=>exact⟨hi,rfl⟩
   refine aF.cond (bS (E:=E) hi .nil hc).rY (fun e=>?_) (fun e=>?_)
   .subst e;exact ha _ hl.2 hl.1 h'
   .subst e;exact hb _ hl.2 hl.1 h'
  .cases h'
 |.block id c=>fun hw β st k x fr Y Z bQ h hi=>by
  have h':(jX E R n aj F I A c st fun e st=>match e with
   |.exit i=>bif Nat.beq i id then k .normal st else k (.exit i) st|e=>k e st)=some x:=h
  refine aF.block ((xq hF hI c hw _ st _ x fr Y Z bQ h' hi).mono ?_);rintro e fr' Y' ⟨Z',st',hi',hkp,hk⟩;cases e with
  |normal=>exact⟨Z',st',hi',hkp,hk⟩|ret=>exact⟨Z',st',hi',hkp,hk⟩|exit i=>
   dsimp only at hk;unfold Xd;dsimp only;cases hb:Nat.beq i id
   .rw[hb] at hk;rw[if_neg (XY hb)];exact⟨Z',st',hi',hkp,hk⟩
   .rw[hb] at hk;rw[if_pos (fT hb)];exact⟨Z',st',hi',hkp,hk⟩
 |.loop c=>fun hw β st k x fr Y Z bQ h hi=>by
  have h':(match look A.loops (yI c) with
   |some q=>match sW R (dR E c) st q.sh with
    |some p=>(Fq (yI c) (dR E c) (base (dR E c) q.K q.O .ro st) q.sh q.outs (fun st k=>jX E R n aj F I A c st k) n p).bind (Fe R (base (dR E c) q.K q.O (fun b=>b) st) k q.outs)
    |none=>none
   |none=>MR (R:=R) (fun st k=>jX E R n aj F I A c st k) 130 st k)=some x:=h
  split at h'
  .rename_i q _;split at h'
   .rename_i p hp;obtain⟨o,ho,h'⟩:=iP.1 h';obtain⟨Z1,S1,p1,p2,_,p3⟩:=hi.sW (nr:=mH E c) hR hp;have hro:∀o x,look st.ob o=some x->bM o (dR E c)=false->bM o q.O=true->sS (dR E c) x=true->mI ((base (dR E c) q.K q.O .ro st).over (unpack R q.sh p)) o:=fun o x h1 h2 h3 h4=>aiH h1 h2 h3 h4;have hH:∀o,bM o (dR E c)=false->mI st o->mI ((base (dR E c) q.K q.O .ro st).over (unpack R q.sh p)) o:=fun o ho h=>atT (p3 o ho h);have hB:∀(st' S':aO R.T)(fr':Fr)(Y':ah)(Z':bC)(b':Nat),aT Z' b' st' fr' Y'->Kp (mH E c) (dR E c) ((base (dR E c) q.K q.O .ro st).over (unpack R q.sh p)) fr Y Z S' fr' Y' Z'->aT Z' b' (base (dR E c) q.K q.O .ro st) fr' Y':=
     fun st' S' fr' Y' Z' b' h1 h2=>hi.base ajU h2 h1 hro
    have hk0:Kp (mH E c) (dR E c) ((base (dR E c) q.K q.O .ro st).over (unpack R q.sh p)) fr Y Z ((base (dR E c) q.K q.O .ro st).over (unpack R q.sh p)) fr Y Z1:=⟨fun _ _=>rfl,fun q hq=>⟨(p2.ob q hq).ob,(p2.ob q hq).ln,(p2.ob q hq).aj,iR _,⟨fun _ _=>rfl,fun _ _=>rfl⟩,fun _ _ _=>rfl,fun hr=>⟨hr,fun _=>⟨rfl,rfl⟩⟩⟩⟩;refine(ajV (β:=β) hR (xq hF hI c hw) bQ hB (fun o=>fun y hy=>by obtain⟨z,_,_,rfl⟩:=CX hy;rfl) n p o fr Y Z1 ho p1 hk0).mono ?_;rintro e fr' Y' ⟨Z',S',st',hi',hkp,hn,hk⟩;obtain⟨f1,f2⟩:=finish (K:=q.K) hi hH hro hkp hi' hn;exact⟨Z',_,f1,f2,by rw[<-hk k];exact h'⟩
   .cases h'
  .exact ajW (xq hF hI c hw) 130 st k x fr Y Z bQ h' hi
 |.rangeFunc f ps a c=>fun hw β st k x fr Y Z bQ h hi=>by have h':(none:Option β)=some x:=h;cases h'
 |.scope c=>fun hw β st k x fr Y Z bQ h hi=>aF.scope (xq hF hI c hw _ st k x fr Y Z bQ h hi)
 |.label _=>fun hw _ st k x fr Y Z _ h hi=>aF.label ⟨Z,st,hi,.refl,h⟩
 |.goto _=>fun hw _ st k x fr Y Z _ h hi=>cZ
 |.refuse _=>fun hw _ st k x fr Y Z _ h hi=>cZ
omit hR in
theorem Jd {Z:bC}{b:Nat}{st:aO R.T}{fr:Fr}{Y:ah}(hi:aT Z b st fr Y):∀{rs:List ResultVar}{mW:List (aA R.T)},xg E R st rs=some mW->∃vs,rs.mapM (jC E fr Y)=some vs/\aJ R Z Y.top mW vs
 | [],mW,h=>by cases h;exact⟨[],rfl,rfl⟩|.tmp t::l,mW,h=>by
  unfold xg at h;split at h
  .rename_i v hv;split at h
   .rename_i vs hvs;cases h;obtain⟨ws,h1,h2⟩:=Jd hi hvs;have:=bS (E:=E) hi .nil hv;exact⟨fr.tm t::ws,by rw[iN];simp[jC,h1],.cons' this h2⟩
   .cases h
  .cases h
 |.cell a t::l,mW,h=>by
  unfold xg at h;split at h
  .rename_i o off hv;split at h
   .rename_i cs hl;split at h
    .rename_i v hld;split at h
     .rename_i vs hvs;cases h;obtain⟨ws,h1,h2⟩:=Jd hi hvs;obtain⟨s,h3,h4⟩:=(bS (E:=E) hi .nil hv).rZ;rw[H6] at h4;obtain⟨s',l',h5,h6,h7⟩:=hi.rd hl;rw[h3] at h5;cases h5;obtain⟨y,hy,hr⟩:=A8 h7 hld;exact⟨y::ws,by rw[iN];simp[jC,h4,h6,hy,h1],.cons' hr h2⟩
     .cases h
    .cases h
   .rename_i ss hl;split at h
    .rename_i v hld;split at h
     .rename_i vs hvs;cases h;obtain⟨ws,h1,h2⟩:=Jd hi hvs;obtain⟨s,h3,h4⟩:=(bS (E:=E) hi .nil hv).rZ;rw[H6] at h4;obtain⟨s',h5,h6⟩:=hi.rd hl;rw[h3] at h5;cases h5;obtain⟨y,hy,hr⟩:=ajl (Z:=Z) (top:=Y.top) hld;exact⟨y::ws,by rw[iN];simp[jC,h4,h6,hy,h1],.cons' hr h2⟩
     .cases h
    .cases h
   .cases h
  .cases h
omit hR in
theorem Tq:∀(l:List (aA R.T))(vs:List V)(i:Nat)(P:aA R.T->V->Prop),(∀j v,l[j]? =some v->P v (vs.getD j aP))->∀j v,look (AX i l) j=some v->i<=j/\P v (vs.getD (j-i) aP)
 | [],vs,i,P,_,j,v,h=>cZ|x::l,vs,i,P,hp,j,v,h=>by
  have h':look ((i,x)::AX (i+1) l) j=some v:=h;by_cases e:j=i
  .subst e;rw[oh] at h';cases h';exact⟨iR _,by simpa using hp 0 x rfl⟩
  .rw[kR _ _ e] at h';obtain⟨h1,h2⟩:=Tq l vs.tail (i+1) P (fun j v hj=>by have:=hp (j+1) v Ed;cases vs<;>simpa using this) j v h';refine⟨RS,?_⟩;have e2:j-i=(j-(i+1))+1:=RS
   rw[e2];cases vs<;>simpa using h2
def eP.main (aj:Bool):eP:=⟨aj,1,0,fun _=>none,fun _ _ h=>cZ,fun _ _ _ h=>cZ⟩
theorem Bc {n:Nat}{aj:Bool}{F:Nat->List (iy R)}{I:IR R}(hF:bg E F)(hI:ng E I){A:bB}{f:Nat}{fn:Func}{args res:List bO}{p:aV R.T args}{x:aV R.T res}(h:bP E R n aj F I A fn args res p=some x)(hf:E.P.funcs[f]? =some fn)(ha:mD args=true)(hlen:(bR R args p).length=args.length)(bQ:E.aj f=aj)(hs:E.mP f=none)(hok:(match fn.body with|some c=>decide (args.length<=fn.ntmps)&& iI fn.ntmps c&& vT E c|none=>false)=true):Pure E f (bR R args p) (jW (bR R res x)):=by
 unfold bP at h;split at h
 .rename_i c hc;rw[hc] at hok;dsimp only at hok;rw[aZ] at hok;obtain⟨hok,hwk⟩:=hok;refine Pure.of' fn.results.toList hf hc (fun fr Y hd ho ht=>?_) rfl (by rw[hlen];exact hok) hs;have hi:aT ⟨fun _=>none,fun _=>none,fun _=>0,eP.main aj⟩ Y.next (⟨AX 0 (jI R .sh args p),[]⟩:aO R.T) fr Y:={
   d:=hd
   aj:=by rw[ho,bQ];rfl
   fr:=fun i v hv=>by obtain⟨_,h2⟩:=Tq _ (bR R args p) 0 (fun v w=>aC R ⟨fun _=>none,fun _=>none,fun _=>0,eP.main aj⟩ Y.top v w) (fun j v hj=>by obtain⟨w,h1,h2⟩:=(C8 hR args p ha).get hj;rw[nE,h1];exact h2) i v hv;rw[ht];exact .of uV
   ob:=fun o x hx=>BR
   inj:=fun t u s h=>cZ
   lt:=fun t s h=>cZ
   ge:=fun t s h=>cZ
   nx:=pR _}
  refine(xq hR hF hI c hwk _ _ _ x fr Y _ rfl h hi).mono ?_;rintro e fr' Y' ⟨Z',st',hi',_,hk⟩;have key:(match xg E R st' fn.results.toList with
   |some vs=>bif mD res&& Nat.ble (vK res) 16 then jw R res (rW st' vs) else none|none=>none)=some x->∃vs,fn.results.toList.mapM (jC E fr' Y')=some vs/\bq 20 Y' (match vs with| [v]=>v|vs=>.bV vs)=some (jW (bR R res x)):=by
   intro hk;split at hk
   .rename_i mW Ni;obtain⟨hb,hk⟩:=gG hk;rw[aZ] at hb;obtain⟨vs,h1,h2⟩:=Jd hi' Ni;refine⟨vs,h1,?_⟩;have aFE:=oJ hb.2;obtain⟨vs',v1,v2⟩:=M4 hR hi' h2;have c1:=(v2 15).trans (zK hR res x (rW st' mW) vs' hb.1 hk v1 19 Y' RS);have c2:=(v2 16).trans (zK hR res x (rW st' mW) vs' hb.1 hk v1 20 Y' RS);clear v1 v2
    match vs,c1,c2 with
    | [],c1,c2=>have:bR R res x=[]:=(by simpa using c1.symm);rw[this];show bq 20 Y' (.bV [])=some (.bV []);rw[RH];rfl| [v],c1,c2=>rw[iN] at c2;obtain⟨w,hw,c2⟩:=iP.1 c2;have:[w]=bR R res x:=(by simpa using c2);rw[<-this];exact hw
    |v::w::vs,c1,c2=>
     show bq 20 Y' (.bV (v::w::vs))=_;rw[RH,c1,Option.map_some];have hl:(bR R res x).length=(v::w::vs).length:=by
      have:∀(l:List V)(m:List V),l.mapM (bq 19 Y')=some m->m.length=l.length:=by
       intro l;induction l with
       |nil=>intro m h;cases h;rfl|cons a l ih=>intro m h;rw[iN] at h;obtain⟨b,hb,h⟩:=iP.1 h;obtain⟨c,hc,h⟩:=iP.1 h;cases h;simp[ih c hc]
      exact this _ _ c1
     match bR R res x,hl with
     |a::b::l,_=>rfl
   .cases hk
  cases e with
  |exit i=>cases hk|normal=>exact key hk|ret=>exact key hk
 .cases h
theorem Je {n:Nat}{aj:Bool}{F:Nat->List (iy R)}{I:IR R}(hF:bg E F)(hI:ng E I){A:bB}{f:Nat}{fn:Func}{args:List bO}{τ:Ty}{p:aV R.T args}{x:List (Den R.T τ)}(h:CP E R n aj F I A fn args τ p=some x)(hf:E.P.funcs[f]? =some fn)(ha:mD args=true)(hlen:(bR R args p).length=args.length)(bQ:E.aj f=aj)(hs:E.mP f=none)(hok:(match fn.body with|some c=>decide (args.length<=fn.ntmps)&& iI fn.ntmps c&& vT E c|none=>false)=true):
 Pure E f (bR R args p) (.ak .sh (x.map (aU R τ)))/\oM E f (bR R args p) (dL R τ) (x.map (aU R τ)):=by
 unfold CP at h;split at h
 .rename_i c hc;rw[hc] at hok;dsimp only at hok;rw[aZ] at hok;obtain⟨hok,hwk⟩:=hok;have hi:aT ⟨fun _=>none,fun _=>none,fun _=>0,eP.main aj⟩ ah.init.next (⟨AX 0 (jI R .sh args p),[]⟩:aO R.T) ({d:=1,aj:=E.aj f,tm:=fun i=>(bR R args p).getD i aP}:Fr) ah.init:={
   d:=rfl
   aj:=bQ
   fr:=fun i v hv=>by obtain⟨_,h2⟩:=Tq _ (bR R args p) 0 (fun v w=>aC R ⟨fun _=>none,fun _=>none,fun _=>0,eP.main aj⟩ ah.init.top v w) (fun j v hj=>by obtain⟨w,h1,h2⟩:=(C8 hR args p ha).get hj;rw[nE,h1];exact h2) i v hv;exact .of uV
   ob:=fun o x hx=>BR
   inj:=fun t u s h=>cZ
   lt:=fun t s h=>cZ
   ge:=fun t s h=>cZ
   nx:=pR _}
  have himp:iX E f (bR R args p) 1 ah.init (fun v aB=>∃c,v= .ak c (x.map (aU R τ))/\(c= .nil\/c= .full\/∃s,c= .own (dL R τ) s/\aB.top s=(x.map (aU R τ)).length)):=by
   refine iX.of hf hc (by rw[hlen];exact hok) ((xq hR hF hI c hwk _ _ _ x _ ah.init _ rfl h hi).mono ?_);rintro e fr' Y' ⟨Z',st',hi',_,hk⟩;have key:(match xg E R st' fn.results.toList with
    |some [v]=>bif XR v then EW R τ v else none|_=>none)=some x->∃vs,fn.results.toList.mapM (jC E fr' Y')=some vs/\∃c:Cap,(match vs with| [v]=>v|vs=>V.bV vs)=V.ak c (x.map (aU R τ))/\(c= .nil\/c= .full\/∃s,c= .own (dL R τ) s/\Y'.top s=(x.map (aU R τ)).length):=by
    intro hk;split at hk
    .rename_i tv Ni;obtain⟨hb,hk⟩:=gG hk;obtain⟨vs,h1,h2⟩:=Jd hi' Ni;obtain⟨v,l,rfl,h3,h4⟩:=h2.fZ;rw[h4.jq] at h1;refine⟨[v],h1,?_⟩;unfold EW at hk;split at hk
     .rename_i cp gW l0 _;obtain⟨e,e2⟩:=vP hk;subst e;cases e2;obtain⟨c',rfl,hc'⟩:=h3.mZ;refine⟨c',rfl,?_⟩;cases cp<;>simp only[XR,dG] at hb
      .exact .inr (.inl hc')
      .rcases hc' with rfl|rfl| ⟨s,rfl,_,ht⟩
       .exact .inl rfl
       .exact .inr (.inl rfl)
       .exact .inr (.inr ⟨s,rfl,by rw[fH];exact ht⟩)
     .cases hk;exact⟨.nil,h3.uI,.inl rfl⟩
     .cases hk
    .cases hk
   cases e with
   |exit i=>cases hk|normal=>exact key hk|ret=>exact key hk
  obtain⟨m,v,aB,hm,cp,rfl,hcp⟩:=himp;have hpc:bY (x.map (aU R τ))=true:=by have:=Mw (q9 hR τ) x;simpa [aR] using this
  refine⟨⟨m,?_⟩,.of hm hpc hcp⟩;simp only[mQ,hs,hm,Option.bind_some];exact yD _ _ (q9 hR τ)
 .cases h
omit hR in
theorem ajY {c:Cp}:∀{l:List bO}{p:aV R.T l},(jI R c l p).length=l.length
 | [],_=>rfl| [_],_=>rfl|_::k::l,p=>by show (jI R c (k::l) p.2).length+1=_;rw[ajY];rfl
omit hR in
theorem avy {Z Z':bC}{top top':Nat->Nat}(hk:∀p,F0<=p->Z'.ob p=Z.ob p/\Z'.ln p=Z.ln p)(hx:Z'.aj=Z.aj):∀{l:List bO}{y:aV R.T l}{vs:List V},uH l=true->aJ R Z' top (jI R .any l y) vs->aJ R Z top' (jI R .any l y) vs:=by
 have one:∀(k:bO)(l:List bO)(y:sQ R.T k)(v:V),uH (k::l)=true->aC R Z' top (up R .any k y) v->aC R Z top' (up R .any k y) v:=fun k l y v hs h=>by
  cases k<;>first| (cases hs;done)|skip
  .rename_i t;cases t<;>first| (cases hs;done)|exact h
  .rename_i p t;have hs':(Nat.ble F0 p&& uH l)=true:=hs;rw[aZ] at hs';obtain⟨k1,k2⟩:=hk p (oJ hs'.1);obtain⟨g0,g1,g2,h⟩:=aC.Fv (R:=R) h;show aC R Z top' (.sub p t y.1 y.2) v;unfold aC;refine⟨g0,g1,by rw[<-k2];exact g2,?_⟩;rcases h with ⟨s,cp,h1,h2,h3⟩|h
   .exact .inl ⟨s,cp,by rw[<-k1];exact h1,h2,by rw[<-hx];exact h3⟩
   .exact .inr h
 have tl:∀(k:bO)(l:List bO),uH (k::l)=true->uH l=true:=fun k l hs=>by
  cases k<;>first| (cases hs;done)|skip
  .rename_i t;cases t<;>first| (cases hs;done)|exact hs
  .have hs':(_&& uH l)=true:=hs;rw[aZ] at hs';exact hs'.2
 intro l;induction l with
 |nil=>intro y vs _ h;exact h|cons k l ih=>
  intro y vs hs h;cases l with
  |nil=>obtain⟨v,ws,rfl,h1,h2⟩:=aJ.fZ (ts:=[]) h;rw[h2.jq];exact .cons' (one k [] y v hs h1) rfl
  |cons q l=>obtain⟨v,ws,rfl,h1,h2⟩:=aJ.fZ (ts:=jI R .any (q::l) y.2) h;exact .cons' (one k _ y.1 v hs h1) (ih (tl _ _ hs) h2)
theorem ajZ {Z:bC}{b:Nat}{st:aO R.T}{fr:Fr}{Y:ah}(hi:aT Z b st fr Y):∀{ks:List bO}{mW:List (aA R.T)}{vs:List V},aJ R Z Y.top mW vs->aJ R Z Y.top (Sr st ks mW) vs
 | [],_,_,h=>by cases ‹List (aA R.T)› <;>exact h|_::_,[],_,h=>h|k::ks,x::xs,_,h=>by
  obtain⟨v,ws,rfl,h1,h2⟩:=h.fZ;refine .cons' ?_ (ajZ hi h2);unfold wv1;split
  .split
   .rename_i o t a c hw;exact ai3 hR hw h1 hi
   .exact h1
  .exact h1
def Jf:List (Nat×iC)->Bool
 | []=>true| (i,_)::l=>Nat.ble F0 i&& Jf l
omit hR in
theorem aj0:∀{l:List (Nat×iC)}{x:lX R.T l},Jf l=true->∀{i:Nat}{v:bL R.T},look (mE R l x) i=some v->F0<=i
 | [],x,_,i,v,hv=>Ej| [(j,k)],x,h,i,v,hv=>by
   unfold Jf at h;rw[aZ] at h;have hv':look [(j,pz R k x)] i=some v:=hv;by_cases e:i=j
   .rw[e];exact oJ h.1
   .rw[kR _ _ e] at hv';cases hv'
 | (j,k)::q::l,x,h,i,v,hv=>by
   unfold Jf at h;rw[aZ] at h;have hv':look ((j,pz R k x.1)::mE R (q::l) x.2) i=some v:=hv;by_cases e:i=j
   .rw[e];exact oJ h.1
   .rw[kR _ _ e] at hv';exact aj0 h.2 hv'
theorem YW {n:Nat}{aj:Bool}{F:Nat->List (iy R)}{I:IR R}(hF:bg E F)(hI:ng E I){A:bB}{f:Nat}{fn:Func}{args res:List bO}{obs:List (Nat×iC)}{p:aV R.T args}{q:lX R.T obs}{y:aV R.T res}{q':lX R.T obs}(h:qE E R n aj F I A fn args obs res p q=some (y,q'))(hf:E.P.funcs[f]? =some fn)(bQ:E.aj f=aj)(hok:(match fn.body with|some c=>decide (args.length<=fn.ntmps)&& iI fn.ntmps c&& vT E c&& (uH res&& wZ obs&& Jf obs)|none=>false)=true):
 ∀(Z:bC)(vs:List V)(Y:ah),Z.aj.aj=E.aj f->(∀t,Z.tk t=none)->Z.aj.lo<=Y.next->
  aJ R Z Y.top (jI R .any args p) vs->(∀o x,look (mE R obs q) o=some x->gK Z Y o x)->
  iX E f vs Z.aj.dp Y fun v Y'=>(∃ws,v=jW ws/\aJ R Z Y'.top (jI R .any res y) ws)/\(∀o x,look (mE R obs q') o=some x->gK Z Y' o x)/\Y.next<=Y'.next/\(∀l,l<Y.next->Y'.loops l=Y.loops l)/\(∀s,s<Z.aj.lo->Y'.top s=Y.top s)/\
   ∀L:Loc,L.1<=Z.aj.dp->Z.aj.out L->Y'.obj L=Y.obj L:=by
 intro Z vs Y aj1 htk hlo hargs avz;unfold qE at h;split at h
 .rename_i c hc;rw[hc] at hok;dsimp only at hok;simp only[aZ] at hok;obtain⟨⟨hok,hwk⟩,⟨hsc,avA⟩,hbig⟩:=hok;have hlen:vs.length=args.length:=by rw[hargs.length];exact ajY
  have hi:aT Z Y.next (⟨AX 0 (jI R .any args p),mE R obs q⟩:aO R.T) ({d:=Z.aj.dp,aj:=E.aj f,tm:=fun i=>vs.getD i aP}:Fr) Y:={
   d:=rfl
   aj:=aj1.symm
   fr:=fun i v hv=>by obtain⟨_,h2⟩:=Tq _ vs 0 (fun v w=>aC R Z Y.top v w) (fun j v hj=>by obtain⟨w,h1,h2⟩:=hargs.get hj;rw[nE,h1];exact h2) i v hv;exact .of uV
   ob:=avz
   inj:=fun t u s h=>by rw[htk t] at h;cases h
   lt:=fun t s h=>by rw[htk t] at h;cases h
   ge:=fun t s h=>by rw[htk t] at h;cases h
   nx:=hlo}
  refine iX.of hf hc (by rw[hlen];simpa using hok) ((xq hR hF hI c hwk _ _ _ (y,q') _ Y Z (aj1.trans bQ) h hi).mono ?_);rintro e fr' Y' ⟨Z',st',hi',hkp,hk⟩;have key:(match xg E R st' fn.results.toList with
   |some vs=>match jw R res (Sr st' res vs) with
    |some y=>match pE R st'.ob obs with
     |some q'=>some (y,q')|none=>none
    |none=>none
   |none=>none)=some (y,q')->∃ws,fn.results.toList.mapM (jC E fr' Y')=some ws/\(fun v Y'=>(∃ws,v=jW ws/\aJ R Z Y'.top (jI R .any res y) ws)/\(∀o x,look (mE R obs q') o=some x->gK Z Y' o x)/\Y.next<=Y'.next/\(∀l,l<Y.next->Y'.loops l=Y.loops l)/\(∀s,s<Z.aj.lo->Y'.top s=Y.top s)/\
    ∀L:Loc,L.1<=Z.aj.dp->Z.aj.out L->Y'.obj L=Y.obj L) (match ws with| [v]=>v|vs=>V.bV vs) Y':=by
   intro hk;split at hk
   .rename_i mW Ni;split at hk
    .rename_i y' hy';split at hk
     .rename_i q1 hq1;cases hk;obtain⟨ws,h1,h2⟩:=Jd hi' Ni;have hws:=CV hR res y _ ws hy' (ajZ hR hi' h2);obtain⟨nb,hnb⟩:=Ya (dR E c);have hk0:=hkp.ob nb (hnb nb (iR _));refine⟨ws,h1,?_,fun o x hx=>?_,hk0.nx,hk0.lp.1,hk0.lp.2,fun L hL ho=>hk0.dp L (.inr hL) ho⟩
      .refine⟨ws,?_,avy (Z':=Z') (fun p hp=>?_) hk0.aj hsc hws⟩
       .rcases ws with _| ⟨a,_| ⟨b,l⟩⟩<;>rfl
       .have hm:bM p (dR E c)=false:=by
         cases hm:bM p (dR E c)
         .rfl
         .have:=Tp hwk p hm;omega
        have hk1:=hkp.ob p hm;exact⟨hk1.ob,hk1.ln⟩
      .obtain⟨kk,yy,z,e1,e2,rfl,e4⟩:=Te obs q' hq1 o x hx;have aFF:=aj0 hbig hx;have hm:bM o (dR E c)=false:=by
        cases hm:bM o (dR E c)
        .rfl
        .have:=Tp hwk o hm;omega
       have hk1:=hkp.ob o hm;exact YJ (e4 avA) hk1.ob.symm hk1.ln.symm (by rw[hk1.aj]) (SB hR e2 (hi'.ob _ _ e1))
     .cases hk
    .cases hk
   .cases hk
  cases e with
  |exit i=>cases hk|normal=>exact key hk|ret=>exact key hk
 .cases h
end
def iJ (k:IntKind)(x y:Int):Int:=k.wrap (BitVec.ofInt k.bits x&&& BitVec.ofInt k.bits y).toNat
def mJ (k:IntKind)(x y:Int):Int:=k.wrap (BitVec.ofInt k.bits x|||BitVec.ofInt k.bits y).toNat
def dS (k:IntKind)(x y:Int):Int:=k.wrap (BitVec.ofInt k.bits x^^^BitVec.ofInt k.bits y).toNat
def jg (k:IntKind)(x y:Int):Int:=k.wrap (x*2^min y.toNat k.bits)
def gu (k:IntKind)(x y:Int):Int:=x.fdiv (2^min y.toNat k.bits)
section
variable {R:jV}{E:Env}
def kM (f:Nat)(r:iy R)(F:Nat->List (iy R)):Nat->List (iy R):=fun g=>bif Nat.beq g f then r::F g else F g
theorem qG {f:Nat}{r:iy R}{F:Nat->List (iy R)}(hF:bg E F)(h:∀p x,r.F p=some x->Pure E f (bR R r.args p) (jW (bR R r.res x)))(ho:r.own=false:=by rfl):bg E (kM f r F):=by
 intro g q hq p x hx;unfold kM at hq;cases hb:Nat.beq g f
 .rw[hb] at hq;exact hF g q hq p x hx
 .rw[hb,cond_true] at hq;rcases jr.1 hq with rfl|hq
  .rw[fT hb];exact⟨fun _=>h p x hx,fun e=>by rw[ho] at e;cases e⟩
  .exact hF g q hq p x hx
def aj2:Nat->List (iy R):=fun _=>[]
def aj3:IR R:=⟨fun _=>[],fun _=>[]⟩
theorem avB:ng E (aj3 (R:=R)):=⟨fun _ _ h=>cZ,fun _ _ h=>cZ⟩
def FI (g:Nat)(m:qV R)(I:IR R):IR R:=⟨I.it,fun f=>bif Nat.beq f g then m::I.im f else I.im f⟩
theorem Tt {g:Nat}{m:qV R}{I:IR R}(hI:ng E I)(h:Nb E g m)(hg:E.imp g=true:=by rfl):ng E (FI g m I):=by
 refine⟨hI.1,fun f r hr=>?_⟩;have hr':r∈(bif Nat.beq f g then m::I.im f else I.im f):=hr;cases hb:Nat.beq f g
 .rw[hb] at hr';exact hI.2 f r hr'
 .rw[hb,cond_true] at hr';rcases jr.1 hr' with rfl|hr'
  .rw[fT hb];exact⟨hg,h⟩
  .exact hI.2 f r hr'
theorem avC:bg E (aj2 (R:=R)):=fun _ _ h=>cZ
theorem YX {f:Nat}{k:bO}{args:List bO}{τ:Ty}{G:aV R.T (.fQ::k::args)->Option (List (Den R.T τ))}{d:List (Den R.T τ)}{F:Nat->List (iy R)}(hF:bg E F)(h:∀u p x,G (u,p)=some x->oM E f (.ak .nil []::bR R (k::args) p) (dL R τ) (x.map (aU R τ)))(hn:E.zl f=true:=by rfl):bg E (kM f ⟨.fQ::k::args,[.d (.slice τ)],G,d,true⟩ F):=by
 intro g q hq p x hx;unfold kM at hq;cases hb:Nat.beq g f
 .rw[hb] at hq;exact hF g q hq p x hx
 .rw[hb,cond_true] at hq;rcases jr.1 hq with rfl|hq
  .rw[fT hb];refine⟨fun hc=>(by cases hc),fun _ gW e l hl=>?_⟩;cases e;have hl':x=l:=hl;subst hl';exact⟨fun hc=>(by cases hc),fun _=>⟨hn,h p.1 p.2 x hx⟩⟩
  .exact hF g q hq p x hx
theorem Jg {f:Nat}{args:List bO}{τ:Ty}{G:aV R.T args->Option (List (Den R.T τ))}{d:List (Den R.T τ)}{F:Nat->List (iy R)}(hF:bg E F)(h:∀p x,G p=some x->Pure E f (bR R args p) (.ak .sh (x.map (aU R τ)))/\oM E f (bR R args p) (dL R τ) (x.map (aU R τ)))(hc:mD args=true:=by rfl)(hn:E.zl f=false:=by rfl):bg E (kM f ⟨args,[.d (.slice τ)],G,d,true⟩ F):=by
 intro g q hq p x hx;unfold kM at hq;cases hb:Nat.beq g f
 .rw[hb] at hq;exact hF g q hq p x hx
 .rw[hb,cond_true] at hq;rcases jr.1 hq with rfl|hq
  .rw[fT hb];obtain⟨h1,h2⟩:=h p x hx;refine⟨fun _=>h1,fun _ gW e l hl=>?_⟩;cases e;have hl':x=l:=hl;subst hl';exact⟨fun _=>⟨hn,h2⟩,fun e=>(by rw[hc] at e;cases e)⟩
  .exact hF g q hq p x hx
end
def aj4:(k:lW)->H7 k
 |.i _=>(0:Int)|.a _ n=>Vec.rep n 0
def aj5:(l:List lW)->ES l
 | []=>()| [k]=>aj4 k|k::h::l=>(aj4 k,aj5 (h::l))
section
variable (R:jV)
mutual
def aj6:(k:bO)->sQ R.T k
 |.d t=>H9 R t|.l _ t=>([]:List (Den R.T t))|.agg l=>jY l|.ref _ _=>()|.aW l _=>jY l|.fq _=>()|.fD k e=>([]:List (Den R.T k×Den R.T e))|.fn _ a b=>(jY a,jY b)|.fQ=>()|.aS _ _=>()|.sub _ _=>((0:Int),(0:Int))|.sg l=>aj5 l|.undef=>()
def jY:(l:List bO)->aV R.T l
 | []=>()| [k]=>aj6 k|k::h::l=>(aj6 k,jY (h::l))
end
end
end aQ
end
section
namespace aQ
open Go Go.RowKit
mutual
def nM:V->Nat
 |.str s=>s.length+1|.agg cs=>tH cs|.ak _ l=>tH l+1|_=>1
def tH:List V->Nat
 | []=>0|v::l=>nM v+tH l
end
def Jh (k:IntKind)(n:Int):Nat:=if (Lit.int k n).wf=true then 0 else 2^64
theorem avD {k:IntKind}{n:Int}(h:(Lit.int k n).wf=true):Jh k n=0:=if_pos h
theorem avE {k:IntKind}{n:Int}(h:Jh k n<2^64):k.min<=n/\n<=k.max:=by
 unfold Jh at h;split at h
 .rename_i hw;simp only[Lit.wf,aZ,decide_eq_true_eq] at hw;exact hw
 .exact absurd h (Nat.lt_irrefl _)
mutual
def jm:V->Nat
 |.str s=>s.length+1|.agg cs=>ni cs|.ak _ l=>ni l+1|.int k n=>1+Jh k n|_=>1
def ni:List V->Nat
 | []=>0|v::l=>jm v+ni l
end
mutual
theorem aj7:∀v:V,nM v<=jm v
 |.str s=>by simp[nM,jm]|.agg cs=>by simp only[nM,jm];exact Tv cs|.ak _ l=>by simp only[nM,jm];exact Nat.add_le_add_right (Tv l) 1|.int k n=>by simp[nM,jm]|.bool _|.gZ|.gL|.iq|.iO|.bV _|.aS .. |.ref .. |.fq .. |.aW .. |.fn .. |.fD .. |.iface .. |.raw _=>by simp[nM,jm]
theorem Tv:∀l:List V,tH l<=ni l
 | []=>iR _|v::l=>by simp only[tH,ni];exact Nat.add_le_add (aj7 v) (Tv l)
end
structure Bulk (H:Type)(bk:DataW H->Nat)(bs:List (DataW H)->Nat):Prop where
 one:∀d,1<=bk d
 str:∀s,s.length+1<=bk (.lit (.string s))
 agg:∀l,bs l<=bk (.agg l)
 sl:∀l r,bs l+1<=bk (.slice l r)
 nil:bs []=0
 cons:∀d l,bs (d::l)=bk d+bs l
section
variable {H:Type}{bk:DataW H->Nat}{bs:List (DataW H)->Nat}(hb:Bulk H bk bs)
include hb
theorem Bulk.append (a b:List (DataW H)):bs (a++b)=bs a+bs b:=by
 induction a with
 |nil=>simp[hb.nil]|cons v a ih=>simp only[List.cons_append,hb.cons,ih];omega
end
def uM {U β γ:Type}(Q:U->β->γ->Prop):List U->List β->List γ->Prop
 | [],[],[]=>True|t::ts,c::cs,d::ds=>Q t c d/\uM Q ts cs ds|_,_,_=>False
theorem uM.append {U β γ:Type}{Q:U->β->γ->Prop}:∀{a a':List U}{b b':List β}{c c':List γ},uM Q a b c->uM Q a' b' c'->uM Q (a++a') (b++b') (c++c')
 | [],_,[],_,[],_,_,h=>h|_::_,_,_::_,_,_::_,_,h,h'=>⟨h.1,h.2.append h'⟩| [],_,_::_,_,_,_,h,_=>h.elim| [],_,[],_,_::_,_,h,_=>h.elim|_::_,_,[],_,_,_,h,_=>h.elim|_::_,_,_::_,_,[],_,h,_=>h.elim
theorem uM.mono {U β γ:Type}{Q Q':U->β->γ->Prop}(hq:∀a b c,Q a b c->Q' a b c):∀{a:List U}{b:List β}{c:List γ},uM Q a b c->uM Q' a b c
 | [],[],[],_=>trivial|_::_,_::_,_::_,h=>⟨hq _ _ _ h.1,h.2.mono hq⟩| [],_::_,_,h=>h.elim| [],[],_::_,h=>h.elim|_::_,[],_,h=>h.elim|_::_,_::_,[],h=>h.elim
theorem uM.len {U β γ:Type}{Q:U->β->γ->Prop}:∀{a:List U}{b:List β}{c:List γ},uM Q a b c->a.length=b.length
 | [],[],[],_=>rfl|_::_,_::_,_::_,h=>by simp[h.2.len]| [],_::_,_,h=>h.elim| [],[],_::_,h=>h.elim|_::_,[],_,h=>h.elim|_::_,_::_,[],h=>h.elim
section
variable (P:Program)
def Nj (t:TypeId):Option (List (Nat×TypeId)):=match P.underlying t with
 |some (.struct fs)=>some (fs.toList.map fun f=>(f.offset,f.type))
 |some (.array n e)=>some ((List.range n).map fun i=>(i*P.cellsOf e,e))
 |_=>none
def Ji (t:TypeId):Bool:=match P.underlying t with
 |some .bool=>true|some (.int _)=>true|some .string=>true|some (.slice _)=>true|_=>false
def Nk:List (Nat×TypeId)->Nat->Nat->Bool
 | [],off,tot=>off==tot| (o,u)::l,off,tot=>o==off&& Nk l (off+P.cellsOf u) tot
def Jj:Nat->TypeId->Option (List TypeId)
 |0,_=>none|k+1,t=>match Nj P t with
  |some ps=>if Nk P ps 0 (P.cellsOf t)=true then (ps.mapM fun (p:Nat×TypeId)=>match Jj k p.2 with
    |some l=>if l.length=P.cellsOf p.2 then some l else none|none=>none).map List.flatten else none
  |none=>if Ji P t=true/\P.cellsOf t=1 then some [t] else none
end
section
variable {P:Program}{w:World}{H:Type}{enc:TypeId×Value->H}{bk:DataW H->Nat}{bs:List (DataW H)->Nat}
abbrev nN (enc:TypeId×Value->H)(P:Program)(w:World)(f:Nat)(t:TypeId)(cs:List Value):Option (DataW H×List MemPlace):=DataW.trod enc P w 0 (fun _=>true) true f t cs
theorem avF {fuel:Nat}{t:TypeId}{cs:List Value}{d:DataW H}{ps:List MemPlace}{pl:List (Nat×TypeId)}(hp:Nj P t=some pl)(h:nN enc P w (fuel+1) t cs=some (d,ps)):
 cs.length=P.cellsOf t/\∃xs,pl.mapM (fun p=>nN enc P w fuel p.2 ((cs.drop p.1).take (P.cellsOf p.2)))=some xs/\d= .agg (xs.map (·.1)):=by
 unfold Nj at hp;split at hp
 .rename_i fs hu;simp only[iE] at hp;subst hp;simp only[nN,DataW.trod,hu] at h;split at h
  .rename_i hl;simp only[aY,mF] at h;obtain⟨xs,h1,rfl,rfl⟩:=h;refine⟨hl,xs,?_,rfl⟩;rw[List.mapM_map];exact h1
  .cases h
 .rename_i n e hu;simp only[iE] at hp;subst hp;simp only[nN,DataW.trod,hu] at h;split at h
  .rename_i hl;simp only[aY,mF] at h;obtain⟨xs,h1,rfl,rfl⟩:=h;refine⟨hl,xs,?_,rfl⟩;rw[List.mapM_map];exact h1
  .cases h
 .cases hp
def YZ (enc:TypeId×Value->H)(P:Program)(w:World)(fuel:Nat)(u:TypeId)(c:Value)(d:DataW H):Prop:=∃f p,f<=fuel/\nN enc P w f u [c]=some (d,p)/\Ji P u=true
theorem aj8 {fuel:Nat}{t:TypeId}{cs:List Value}{x:DataW H×List MemPlace}(hl:Ji P t=true)(h:nN enc P w fuel t cs=some x):∃c,cs=[c]:=by
 cases fuel with
 |zero=>simp[nN,DataW.trod] at h|succ f=>unfold Ji at hl;split at hl;all_goals (rename_i hu;simp only[nN,DataW.trod,hu] at h;split at h<;>first|exact⟨_,rfl⟩|simp_all)
theorem avG (hb:Bulk H bk bs):∀(k fuel:Nat)(t:TypeId)(cs:List Value)(d:DataW H)(ps:List MemPlace)(ts:List TypeId),Jj P k t=some ts->nN enc P w fuel t cs=some (d,ps)->
 ∃ds,uM (YZ enc P w fuel) ts cs ds/\bs ds<=bk d:=by
 intro k;induction k with
 |zero=>intro fuel t cs d ps ts h;simp[Jj] at h|succ k ih=>
  intro fuel t cs d ps ts h ht;simp only[Jj] at h;split at h
  .rename_i pl hp;split at h
   .rename_i hcon;cases fuel with
    |zero=>simp[nN,DataW.trod] at ht|succ fuel=>
     obtain⟨hl,xs,hx,rfl⟩:=avF hp ht;simp only[aY] at h;obtain⟨Jk,avH,rfl⟩:=h;have key:∀(pl:List (Nat×TypeId))(off:Nat)(xs:List (DataW H×List MemPlace))(Jk:List (List TypeId)),Nk P pl off cs.length=true->
      pl.mapM (fun p=>nN enc P w fuel p.2 ((cs.drop p.1).take (P.cellsOf p.2)))=some xs->
      (pl.mapM fun p=>match Jj P k p.2 with
        |some l=>if l.length=P.cellsOf p.2 then some l else none|none=>none)=some Jk->∃ds,uM (YZ enc P w (fuel+1)) Jk.flatten (cs.drop off) ds/\bs ds<=bs (xs.map (·.1)):=by
      intro pl;induction pl with
      |nil=>intro off xs Jk hc h1 h2;simp only[List.mapM_nil,Option.pure_def,iE] at h1 h2;subst h1;subst h2;simp only[Nk,beq_iff_eq] at hc;rw[hc,List.drop_length];exact⟨[],trivial,iR _⟩|cons p pl avI=>
       intro off xs Jk hc h1 h2;obtain⟨o,u⟩:=p;simp only[Nk,aZ,beq_iff_eq] at hc;obtain⟨rfl,hc⟩:=hc;simp only[iN,Option.bind_eq_bind,iP,Option.pure_def,iE] at h1 h2;obtain⟨⟨d1,p1⟩,g1,xs',g2,rfl⟩:=h1;obtain⟨l1,g3,aFG,g4,rfl⟩:=h2;split at g3
       .rename_i l0 hl0;split at g3
        .cases g3;obtain⟨ds1,a1,a2⟩:=ih _ _ _ _ _ _ hl0 g1;obtain⟨avJ,a3,a4⟩:=avI _ _ _ hc g2 g4;refine⟨ds1++avJ,?_,?_⟩
         .rw[List.flatten_cons];have e:cs.drop o=(cs.drop o).take (P.cellsOf u)++cs.drop (o+P.cellsOf u):=(by rw[<-List.drop_drop,Em]);rw[e];exact uM.append (a1.mono fun _ _ _ ⟨f,q,h1,h2⟩=>⟨f,q,Nat.le_succ_of_le h1,h2⟩) a3
         .rw[hb.append,iH,hb.cons];show _<=bk d1+_;omega
        .cases g3
       .cases g3
     have:=key pl 0 xs Jk (by rw[hl];exact hcon) hx avH;obtain⟨ds,h1,h2⟩:=this;exact⟨ds,Gy,eZ h2 (hb.agg _)⟩
   .cases h
  .split at h
   .rename_i hlf;simp only[iE] at h;subst h;obtain⟨c,rfl⟩:=aj8 hlf.1 ht;refine⟨[d],⟨⟨fuel,ps,iR _,ht,hlf.1⟩,trivial⟩,?_⟩;rw[hb.cons,hb.nil];omega
   .cases h
def tJ (K:bA)(T:Nat->Nat)(w:World)(vs:List V)(cs:List Value):Prop:=vs.length=cs.length/\∀j,j<vs.length->Rel K T w (vs.getD j aP) (cs.getD j undef)
theorem tJ.cons {K:bA}{T:Nat->Nat}{v:V}{c:Value}{vs:List V}{cs:List Value}(h:Rel K T w v c)(hs:tJ K T w vs cs):tJ K T w (v::vs) (c::cs):=by
 refine⟨by simp[hs.1],fun j hj=>?_⟩;cases j with
 |zero=>exact h|succ j=>simpa using hs.2 j Ed
variable (R:jV)
def rz (P:Program)(t:TypeId):Ty->Bool
 |.int k=>match P.underlying t with
  |some (.int k')=>decide (k'=k)|_=>false
 |.bool=>match P.underlying t with
  |some .bool=>true|_=>false
 |.str=>match P.underlying t with
  |some .string=>true|_=>false
 |.slice τ=>match P.underlying t with
  |some (.slice e)=>decide (R.ty e=some τ)&& decide (0<P.cellsOf e)|_=>false
 |.st n=>match Jj P 10 t with
  |some ts=>decide (ts.map R.ty=(R.lf n).map some)&& (Nj P t).isSome|none=>false
def allI (w:World)(b o:Nat):Prop:=∃v,w.cell? (at_ b o)=some v
abbrev uN (w:World):bA:=bA.lend (allI w) (fun b=>∃es fu,w.heap[b]? =some (.map es fu))
theorem Y0 {U β:Type}{f:U->Option β}:∀{l:List U}{r:List β},l.mapM f=some r->r.length=l.length/\∀(i:Nat)(hi:i<l.length)(hr:i<r.length),f l[i]=some r[i]:=by
 intro l;induction l with
 |nil=>intro r h;simp at h;subst h;exact⟨rfl,fun i hi=>absurd hi (gQ i)⟩
 |cons a l ih=>
  intro r h;simp only[iN,Option.bind_eq_bind,iP,Option.pure_def,iE] at h;obtain⟨y,h1,ys,h2,rfl⟩:=h;obtain⟨h3,h4⟩:=ih h2;refine⟨by simp[h3],fun i hi hr=>?_⟩;cases i with
  |zero=>exact h1|succ i=>exact h4 i kg (by simpa using hr)
theorem aj9 {base:Nat}{a:Addr}{n:Nat}{cs:List Value}(h:w.cells? base a n=some cs):cs.length=n/\∀j,j<n->w.cell? (a.add j)=some (cs.getD j undef):=by
 unfold World.cells? at h;split at h
 .obtain⟨h1,h2⟩:=Y0 h;rw[Eu] at h1;refine⟨h1,fun j hj=>?_⟩;have:=h2 j Ed RS;simp only[BU] at this;rw[this,nE,fI RS];rfl
 .cases h
theorem plain_of_cell {a:Addr}{v:Value}(h:w.cell? a=some v):a=at_ a.block a.off:=by
 unfold World.cell? at h;obtain⟨b,o,s⟩:=a;cases s with
 |none=>rfl|some s=>dsimp only at h;split at h<;>simp at h
theorem akb (hb:Bulk H bk bs)(hR:rX R){T:Nat->Nat}{Q:TypeId->Value->DataW H->Prop}(hq:∀u c d τ,Q u c d->R.ty u=some τ->pX τ=true->∃x:Den R.T τ,Rel (uN w) T w (aU R τ x) c/\jm (aU R τ x)<=bk d):
 ∀(l:List Ty)(ts:List TypeId)(cs:List Value)(ds:List (DataW H)),l.all pX=true->ts.map R.ty=l.map some->uM Q ts cs ds->∃p:qB R.T l,tJ (uN w) T w (encs R l p) cs/\ni (encs R l p)<=bs ds
 | [],ts,cs,ds,_,hm,h=>by
   have:ts=[]:=by simpa using hm
   subst this;cases cs with
   |nil=>cases ds with
    |nil=>exact⟨(),⟨rfl,fun j hj=>absurd hj (gQ j)⟩,by rw[hb.nil];exact iR _⟩
    |cons=>exact h.elim
   |cons=>exact h.elim
 | [τ],ts,cs,ds,hl,hm,h=>by
   cases ts with
   |nil=>simp at hm|cons u ts=>
    simp only[iH,List.map_nil,sJ,List.map_eq_nil_iff] at hm;obtain⟨hu,rfl⟩:=hm;cases cs with
    |nil=>exact h.elim|cons c cs=>cases ds with
     |nil=>exact h.elim|cons d ds=>
      obtain⟨h1,h2⟩:=h;cases cs with
      |cons=>exact h2.elim|nil=>cases ds with
       |cons=>exact h2.elim|nil=>obtain⟨x,h3,h4⟩:=hq u c d τ h1 hu BO;refine⟨x,tJ.cons h3 ⟨rfl,fun j hj=>absurd hj (gQ j)⟩,?_⟩;rw[hb.cons,hb.nil];show jm _+0<=_;omega
 |τ::gW::l,ts,cs,ds,hl,hm,h=>by
  cases ts with
  |nil=>simp at hm|cons u ts=>
   rw[iH,iH] at hm;injection hm with hu hm
   cases cs with
   |nil=>exact h.elim|cons c cs=>cases ds with
    |nil=>exact h.elim|cons d ds=>obtain⟨h1,h2⟩:=h;rw[List.all_cons,aZ] at hl;obtain⟨x,h3,h4⟩:=hq u c d τ h1 hu hl.1;obtain⟨p,h5,h6⟩:=akb hb hR hq (gW::l) ts cs ds hl.2 hm h2;refine⟨(x,p),tJ.cons h3 h5,?_⟩;rw[hb.cons];show jm (aU R τ x)+ni (encs R (gW::l) p)<=_;omega
theorem avK (τ:Ty)(hl:pX τ=true)(x:Den R.T τ):(aU R τ x).cells=[aU R τ x]:=by
 cases τ with
 |st n=>simp[pX] at hl|_=>rfl
theorem avL (hb:Bulk H bk bs)(hR:rX R){T:Nat->Nat}(hty:∀t τ,R.ty t=some τ->rz R P t τ=true):∀(fuel:Nat)(t:TypeId)(cs:List Value)(d:DataW H)(ps:List MemPlace)(τ:Ty),R.ty t=some τ->nN enc P w fuel t cs=some (d,ps)->
 ∃x:Den R.T τ,tJ (uN w) T w (aU R τ x).cells cs/\jm (aU R τ x)<=bk d:=by
 intro fuel;induction fuel using Nat.strongRecOn with
 |_ fuel ih=>
  have leaf:∀f,f<=fuel->∀u c d p τ,pX τ=true->R.ty u=some τ->nN enc P w f u [c]=some (d,p)->∃x:Den R.T τ,Rel (uN w) T w (aU R τ x) c/\jm (aU R τ x)<=bk d:=by
   intro f hf u c d p τ hl hu h;cases f with
   |zero=>simp[nN,DataW.trod] at h|succ f=>
    have ho:=hty u τ hu;cases τ with
    |st n=>simp[pX] at hl|int k=>
     simp only[rz] at ho;split at ho
     .rename_i k' hk;have:=of_decide_eq_true ho;subst this;cases c with
      |int k2 n=>
       simp only[nN,DataW.trod,hk] at h;split at h
       .rename_i hkk;obtain⟨rfl,hwf⟩:=hkk;simp only[iE,mF] at h;obtain⟨rfl,rfl⟩:=h;exact⟨(n:Int),.int _ _,by show 1+Jh _ _<=_;rw[avD hwf];exact hb.one _⟩
       .cases h
      |_=>simp only[nN,DataW.trod,hk] at h;cases h
     .cases ho
    |bool=>
     simp only[rz] at ho;split at ho
     .rename_i hk;cases c with
      |bool b=>exact⟨(b:Bool),.bool _,hb.one _⟩|_=>simp only[nN,DataW.trod,hk] at h;cases h
     .cases ho
    |str=>
     simp only[rz] at ho;split at ho
     .rename_i hk;cases c with
      |string b=>
       simp only[nN,DataW.trod,hk] at h;split at h
       .simp only[iE,mF] at h;obtain⟨rfl,rfl⟩:=h;exact⟨b.data.toList,.str _ _ rfl,hb.str _⟩
       .cases h
      |_=>simp only[nN,DataW.trod,hk] at h;cases h
     .cases ho
    |slice τ=>
     simp only[rz] at ho;split at ho
     .rename_i e hk;rw[aZ] at ho;have he:=of_decide_eq_true ho.1;have hpos:=of_decide_eq_true ho.2;cases c with
      |slice a len cap=>
       cases a with
       |none=>
        cases len with
        |succ n=>simp only[nN,DataW.trod,hk] at h;cases h|zero=>cases cap with
         |succ n=>simp only[nN,DataW.trod,hk] at h;cases h|zero=>exact⟨([]:List (Den R.T τ)),.gq .sh none (fun _=>rfl) trivial,hb.one _⟩
       |some a=>
        simp only[nN,DataW.trod,hk] at h;split at h
        .rename_i hc;obtain⟨_,hlc,_⟩:=hc;simp only[iP,if_true,aY,mF] at h;obtain⟨elems,h1,rest,h2,rfl,rfl⟩:=h;obtain⟨e1,e2⟩:=Y0 h1;obtain⟨r1,r2⟩:=Y0 h2;rw[Eu] at e1 r1;have hplain:0<cap->a=at_ a.block a.off:=fun hcap=>by
          have hread:∃i cs x,w.cells? 0 (a.add (i*P.cellsOf e)) (P.cellsOf e)=some cs/\nN enc P w f e cs=some x/\i=0:=by
           by_cases hl0:0<len
           .have:=e2 0 (by simpa using hl0) RS;simp only[BU,iP] at this;obtain⟨cs,g1,g2⟩:=this;exact⟨0,cs,_,g1,g2,rfl⟩
           .have:=r2 0 dw RS;simp only[BU,iP] at this;obtain⟨cs,g1,g2⟩:=this;exact⟨len+0,cs,_,g1,g2,RS⟩
          obtain⟨i,cs,_,g1,_,rfl⟩:=hread;have:=(aj9 g1).2 0 hpos;have ha:(a.add (0*P.cellsOf e)).add 0=a:=(by simp[Addr.add]);rw[ha] at this;exact plain_of_cell this
         have hel:∀i,∃x:Den R.T τ,∃Jl:List Value,∀hi:i<elems.length,(∀j,j<P.cellsOf e->w.cell? ((a.add (i*P.cellsOf e)).add j)=some (Jl.getD j undef))/\Jl.length=P.cellsOf e/\
          tJ (uN w) T w (aU R τ x).cells Jl/\jm (aU R τ x)<=bk elems[i].1:=fun i=>by
          by_cases hi:i<elems.length
          .have:=e2 i (by simpa using (by omega:i<len)) hi;simp only[BU,iP] at this;obtain⟨Jl,g1,g2⟩:=this;obtain⟨c1,c2⟩:=aj9 g1;obtain⟨x,x1,x2⟩:=ih f RS e Jl elems[i].1 elems[i].2 τ he g2;exact⟨x,Jl,fun _=>⟨c2,c1,x1,x2⟩⟩
          .exact⟨H9 R τ,[],fun h=>absurd h hi⟩
         let xs:List (Den R.T τ):=(List.range elems.length).map fun i=>(hel i).choose
         have hxs:∀i (hi:i<xs.length) (hi':i<elems.length),(∀j,j<P.cellsOf e->w.cell? ((a.add (i*P.cellsOf e)).add j)=some ((hel i).choose_spec.choose.getD j undef))/\(hel i).choose_spec.choose.length=P.cellsOf e/\
          tJ (uN w) T w (aU R τ xs[i]).cells (hel i).choose_spec.choose/\jm (aU R τ xs[i])<=bk elems[i].1:=fun i hi hi'=>by
          have:=(hel i).choose_spec.choose_spec hi';have e:xs[i]=(hel i).choose:=(by simp[xs]);rw[e];exact this
         have hxl:xs.length=len:=(by simp[xs,e1]);refine⟨(xs:List (Den R.T τ)),?_,?_⟩
         .show Rel _ _ _ (.ak .sh (xs.map (aU R τ))) (.slice (some a) len cap);by_cases hcap:0<cap
          .obtain⟨b,o,s⟩:=a;have hs:s=none:=(by have:=hplain hcap;simp only[at_,Addr.mk.injEq] at this;exact this.2.2);subst hs;have key:Rel (uN w) T w (.ak .sh (xs.map (aU R τ))) (.slice (some (at_ b o)) (xs.map (aU R τ)).length cap):=by
            refine .ak .sh _ b o (P.cellsOf e) cap (fun i j=>if hi:i<elems.length then (hel i).choose_spec.choose.getD j undef else undef) (by rw[fH,hxl];exact hlc) (fun i hi=>?_) (fun i j hi hj=>?_) (fun i j hi hj=>?_) trivial;all_goals
             rw[fH] at hi;have hi':i<elems.length:=RS;obtain⟨y1,y2,y3,y4⟩:=hxs i hi hi';have hg:(xs.map (aU R τ)).getD i aP=aU R τ xs[i]:=by simp[List.getD,hi]
            .rw[hg];exact y3.1.trans y2
            .rw[dif_pos hi'];have hadd:at_ b (o+i*P.cellsOf e+j)=((⟨b,o,none⟩:Addr).add (i*P.cellsOf e)).add j:=(by rw[show (⟨b,o,none⟩:Addr)=at_ b o from rfl,addr_add,addr_add]);have this:=(congrArg w.cell? hadd).trans (y1 j hj);exact⟨this,_,this⟩
            .rw[hg,dif_pos hi'];exact y3.2 j (by rw[y3.1,y2];exact hj)
           rw[fH,hxl] at key;exact key
          .have h0:len=0:=RS;have h0':cap=0:=RS;subst h0;subst h0';have:xs=[]:=qo hxl;rw[this];exact .gq .sh (some a) (fun h=>cZ) trivial
         .show ni (xs.map (aU R τ))+1<=_;refine eZ (Nat.succ_le_succ ?_) (hb.sl _ _);have avM:∀(l:List (Den R.T τ))(m:List (DataW H×List MemPlace)),l.length=m.length->(∀i (hi:i<l.length) (hi':i<m.length),jm (aU R τ l[i])<=bk m[i].1)->ni (l.map (aU R τ))<=bs (m.map (·.1)):=by
           intro l;induction l with
           |nil=>intro m _ _;exact pR _|cons x l ihl=>
            intro m hm hle;cases m with
            |nil=>simp at hm|cons y m=>rw[iH,iH,hb.cons];have h0:=hle 0 aD aD;have h1:=ihl m (by simpa using hm) (fun i hi hi'=>hle (i+1) kg (by simpa using hi'));simp only[List.getElem_cons_zero] at h0;show jm _+ni _<=_;omega
          exact avM xs elems (by rw[hxl,e1]) fun i hi hi'=>(hxs i hi hi').2.2.2
        .cases h
      |_=>simp only[nN,DataW.trod,hk] at h;cases h
     .cases ho
  have ho:=hty;intro t cs d ps τ ht h;cases τ with
  |st n=>
   have ho:=hty t _ ht;simp only[rz] at ho;split at ho
   .rename_i ts hts;rw[aZ] at ho;have hm:=of_decide_eq_true ho.1;obtain⟨ds,h1,h2⟩:=avG hb _ _ _ _ _ _ _ hts h;obtain⟨p,h3,h4⟩:=akb R hb hR (Q:=YZ enc P w fuel) (T:=T) (fun u c d τ hq hu hl=>by obtain⟨f,q,hf,hq,_⟩:=hq;exact leaf f hf u c d q τ hl hu hq) (R.lf n) ts cs ds (hR.leaf n) hm h1;refine⟨R.to n p,?_,?_⟩
    .show tJ _ _ _ (R.enc n (R.to n p)).cells cs;rw[hR.enc,hR.MS];exact h3
    .show jm (R.enc n (R.to n p))<=_;rw[hR.enc,hR.MS];exact eZ h4 h2
   .cases ho
  |_=>
   have hl:Ji P t=true:=by
    have ho:=hty t _ ht;simp only[rz] at ho;split at ho
    .rename_i hu;simp[Ji,hu]
    .cases ho
   obtain⟨c,rfl⟩:=aj8 hl h;obtain⟨x,h1,h2⟩:=leaf fuel (iR _) t c d ps _ rfl ht h;refine⟨x,?_,h2⟩;rw[avK R _ rfl];exact tJ.cons h1 ⟨rfl,fun j hj=>absurd hj (gQ j)⟩
end
end aQ
end
section
namespace aQ
open Go Go.RowKit Go.ChangeShapes Go.WideShapes
section
variable {P:Program}{w:World}{H:Type}{enc:TypeId×Value->H}{bk:DataW H->Nat}{bs:List (DataW H)->Nat}(R:jV)
theorem akc (hb:Bulk H bk bs)(hR:rX R){T:Nat->Nat}(hty:∀t τ,R.ty t=some τ->rz R P t τ=true){t:TypeId}{v:Value}{d:DataW H}{ps:List MemPlace}{τ:Ty}(ht:R.ty t=some τ){r:Reach}{base:Nat}(hok:Value.okWide P w r base t v)(h:DataW.Trod enc P w 0 (fun _=>true) true t v d ps):∃x:Den R.T τ,Rel (uN w) T w (aU R τ x) v/\jm (aU R τ x)<=bk d:=by
 obtain⟨fuel,h⟩:=h;obtain⟨x,h1,h2⟩:=avL R hb hR (T:=T) hty fuel t _ d ps τ ht h;refine⟨x,?_,h2⟩;have ho:=hty t τ ht;have one:∀c,v=c->c.cells= #[c]->(aU R τ x).cells=[aU R τ x]->Rel (uN w) T w (aU R τ x) v:=by intro c hv hc he;subst hv;rw[hc,he] at h1;exact h1.2 0 aD
 cases τ with
 |int k=>
  simp only[rz] at ho;split at ho
  .rename_i k' hu;obtain⟨n,rfl⟩:=okWide_int hu hok;exact one _ rfl rfl rfl
  .cases ho
 |bool=>
  simp only[rz] at ho;split at ho
  .rename_i hu;obtain⟨n,rfl⟩:=okWide_bool hu hok;exact one _ rfl rfl rfl
  .cases ho
 |str=>
  simp only[rz] at ho;split at ho
  .rename_i hu;obtain⟨n,rfl⟩:=okWide_string hu hok;exact one _ rfl rfl rfl
  .cases ho
 |slice τ=>
  simp only[rz] at ho;split at ho
  .rename_i e hu;obtain⟨a,l,c,rfl⟩:=okWide_slice hu hok;exact one _ rfl rfl rfl
  .cases ho
 |st n=>
  simp only[rz] at ho;split at ho
  .rename_i ts hts;rw[aZ] at ho;have hagg:∃cs,v= .agg cs:=by
    have hs:=ho.2;unfold Nj at hs;unfold Value.okWide at hok;split at hs
    .rename_i fs hu;rw[hu] at hok;exact⟨_,hok.choose_spec.1⟩
    .rename_i m e hu;rw[hu] at hok;exact⟨_,hok.choose_spec.1⟩
    .cases hs
   obtain⟨cs,rfl⟩:=hagg;have he:aU R (.st n) x= .agg (encs R (R.lf n) (R.of n x)):=hR.enc n x;rw[he] at h1⊢;obtain⟨h3,h4⟩:=h1;have h3':(encs R (R.lf n) (R.of n x)).length=cs.toList.length:=h3;refine .agg _ cs (by simpa using h3') (fun i hi=>?_);have h5:Rel (uN w) T w ((encs R (R.lf n) (R.of n x)).getD i aP) (cs.toList.getD i undef):=h4 i hi;simpa [nE,zh] using h5
  .cases ho
theorem akd (hb:Bulk H bk bs)(hR:rX R){T:Nat->Nat}(hty:∀t τ,R.ty t=some τ->rz R P t τ=true){r:Reach}{base:Nat}:∀(l:List Ty)(ts:List TypeId)(vs:List Value)(ds:List (DataW H))(ps:List MemPlace),ts.map R.ty=l.map some->(∀(j:Nat) t v,ts[j]? =some t->vs[j]? =some v->Value.okWide P w r base t v)->DataW.TrodAll enc P w 0 (fun _=>true) true ts vs ds ps->
 ∃p:aV R.T (l.map bO.d),tJ (uN w) T w (bR R (l.map bO.d) p) vs/\ni (bR R (l.map bO.d) p)<=bs ds
 | [],ts,vs,ds,ps,hm,hok,h=>by
   have:ts=[]:=by simpa using hm
   subst this;obtain⟨rfl,rfl,rfl⟩:=trodAll_nil h;exact⟨(),⟨rfl,fun j hj=>absurd hj (gQ j)⟩,by rw[hb.nil];exact iR _⟩
 | [τ],ts,vs,ds,ps,hm,hok,h=>by
   cases ts with
   |nil=>simp at hm|cons u ts=>simp only[iH,List.map_nil,sJ,List.map_eq_nil_iff] at hm;obtain⟨hu,rfl⟩:=hm;obtain⟨v0,vs0,d0,ds0,p0,q0,rfl,rfl,rfl,h0,r0⟩:=trodAll_cons h;obtain⟨rfl,rfl,rfl⟩:=trodAll_nil r0;obtain⟨x,h3,h4⟩:=akc R hb hR (T:=T) hty hu (hok 0 u v0 rfl rfl) h0;refine⟨x,tJ.cons h3 ⟨rfl,fun j hj=>absurd hj (gQ j)⟩,?_⟩;rw[hb.cons,hb.nil];show jm (aU R τ x)+0<=_;omega
 |τ::gW::l,ts,vs,ds,ps,hm,hok,h=>by
  cases ts with
  |nil=>simp at hm|cons u ts=>
   rw[iH,iH] at hm;injection hm with hu hm
   obtain⟨v0,vs0,d0,ds0,p0,q0,rfl,rfl,rfl,h0,r0⟩:=trodAll_cons h;obtain⟨x,h3,h4⟩:=akc R hb hR (T:=T) hty hu (hok 0 u v0 rfl rfl) h0;obtain⟨p,h5,h6⟩:=akd hb hR hty (gW::l) ts vs0 ds0 q0 hm (fun j t v h1 h2=>hok (j+1) t v h1 h2) r0;refine⟨(x,p),tJ.cons h3 h5,?_⟩;rw[hb.cons];show jm (aU R τ x)+ni (bR R ((gW::l).map bO.d) p)<=_;omega
theorem avN {K:bA}{T:Nat->Nat}{vs:List V}{args:Array Value}(h:tJ K T w vs args.toList):RelA K T w vs args:=by refine⟨by simpa using h.1,fun i hi=>?_⟩;have:=h.2 i hi;simpa [nE,zh] using this
end
section
variable {P:Program}{H:Type}{enc:TypeId×Value->H}
theorem ake {FJ:TypeId->Prop}(K:Kids P FJ)(hsz:∀{t e:TypeId},FJ t->P.underlying t=some (.slice e)->0<P.cellsOf e){W W':World}(hbel:Below W.heap.size W W'){sp:Nat->Bool}:
 ∀{ts:List TypeId}{vs:List Value}{ds:List (DataW H)}{ps:List MemPlace},(∀t∈ts,FJ t)->DataW.TrodAll enc P W 0 (fun _=>true) true ts vs ds ps->(∀p∈ps,p.block<W.heap.size)->(∀p∈ps,sp p.block=true)->DataW.TrodAll enc P W' 0 sp true ts vs ds ps
 | [],[],[],_,_,h,_,_=>h|_::_,_::_,_::_,_,hT,⟨p,q,⟨n,h1⟩,h2,e⟩,hlt,hs=>by subst e;refine⟨p,q,⟨n,?_⟩,ake K hsz hbel (fun t ht=>hT t (jT _ ht)) h2 (fun x hx=>hlt x (BX _ hx)) (fun x hx=>hs x (BX _ hx)),rfl⟩;exact DataW.trod_stays K hsz (fun h=>cZ) (hT _ aD) h1 (fun x hx=>hbel.same (hlt x (Ep _ hx))) (fun x hx=>hs x (Ep _ hx))
 | [],_::_,_,_,_,h,_,_=>h.elim| [],[],_::_,_,_,h,_,_=>h.elim|_::_,[],_,_,_,h,_,_=>h.elim|_::_,_::_,[],_,_,h,_,_=>h.elim
theorem avO {f:Func}{s:ChangeSpec}{apart fresh handsOn again:Bool}{W W':World}{args:Array Value}{v:Value}{ds gs:List (DataW H)}{before pa pv:List MemPlace}(hW:DataW.Whole enc P f.params.toList s.vars apart W args.toList ds gs before)(hres:∀(b:Nat) (sp:Nat->Bool) (hd:Bool),DataW.TrodAll enc P W' b sp hd f.resultTypes.toList (v.resultList f.resultTypes.size) (s.fn H (ds++gs)).results [])(hargs:∀sp:Nat->Bool,(∀p∈before,sp p.block=true)->DataW.TrodAll enc P W' 0 sp true f.params.toList args.toList (s.fn H (ds++gs)).args pa)(hvars:∀sp:Nat->Bool,(∀p∈before,sp p.block=true)->DataW.TrodVars enc P W' sp s.vars (s.fn H (ds++gs)).vars pv)(hps:before=pa++pv)(hbel:Below W.heap.size W W')(hok:∀(j:Nat) (t:TypeId) (r:Value),f.resultTypes[j]? =some t->(v.resultList f.resultTypes.size)[j]? =some r->Value.okWide P W' .any 0 t r):
 s.post enc P f apart fresh handsOn again W args v W':=by
 have hlt:∀p∈before,p.block<W.heap.size:=hW.lt;have hold:∀p∈before,(fun b=>decide (b<W.heap.size)) p.block=true:=fun p hp=>by simpa using hlt p hp
 refine⟨ds,gs,before,[],pa,pv,hW,hres _ _ _,hargs _ hold,hvars _ hold,World.keptBut_mono (fun p hp=>⟨hp,?_⟩) (hbel.frame (· ∈before)),fun _=>?_⟩
 .rw[hps,rH] at hp;exact Or.inr hp
 .obtain⟨_,_,_,_,_,hz,hn⟩:=hW;refine⟨hok,_,_,([]++pa)++pv,⟨[]++pa,pv,trodAll_append (hargs _ (fun _ _=>rfl)) (hres _ _ _),hvars _ (fun _ _=>rfl),rfl,?_,?_⟩,?_⟩
  .intro b off hp;have hp':MemPlace.cell b off∈before:=by rw[hps];simpa using hp
   rw[hbel.frozen (p:=⟨b,off,none⟩) (hlt _ hp')];exact hz b off hp'
  .intro ha;have:=hn ha;rw[hps] at this;simpa using this
  .intro p hp _;rw[hps];simpa using hp
end
theorem avP {E:Env}{R:jV}{H:Type}{enc:TypeId×Value->H}{bk:DataW H->Nat}{bs:List (DataW H)->Nat}(hb:Bulk H bk bs)(hR:rX R)(hty:∀t τ,R.ty t=some τ->rz R E.P t τ=true){FJ:TypeId->Prop}(K:Kids E.P FJ)(hsz:∀{t e:TypeId},FJ t->E.P.underlying t=some (.slice e)->0<E.P.cellsOf e){f:FuncId}{fn:Func}{s:ChangeSpec}{apart fresh handsOn again:Bool}{W:World}{base:Nat}{args:Array Value}{ds gs:List (DataW H)}{before:List MemPlace}{l:List Ty}(hl:fn.params.toList.map R.ty=l.map some)(hT:∀t∈fn.params.toList,FJ t)(hvars:s.vars=[])(hspec:s.fn H ds={results:=[.lit (.bool true)],args:=ds}){tb:TypeId}(hres:fn.resultTypes= #[tb])(Y1:E.P.underlying tb=some .bool)(hval:∀(j:Nat) t v,fn.params[j]? =some t->args[j]? =some v->Value.okWide E.P W .any base t v)(hW:DataW.Whole enc E.P fn.params.toList s.vars apart W args.toList ds gs before)(avQ:∀g cs,E.glob g=some cs->Rel (uN W) (fun _=>0) W (.aW cs 0) (.pointer (some (at_ g 0))))(avR:∀p:aV R.T (l.map bO.d),ni (bR R (l.map bO.d) p)<=bs ds->rT E f (bR R (l.map bO.d) p) (.bool true)):
 Calls E.P f args W fun e W'=>∃v,e= .returned v/\s.post enc E.P fn apart fresh handsOn again W args v W':=by
 have hW':=hW;obtain⟨p,q,hA,hV,hpq,_,_⟩:=hW;rw[hvars] at hV;obtain⟨rfl,rfl⟩:=trodVars_none hV;rw[jD] at hpq;subst hpq;obtain⟨x,h1,h2⟩:=akd R hb hR (T:=fun _=>0) hty (r:=.any) (base:=base) l fn.params.toList args.toList ds _ hl (fun j t v h1 h2=>hval j t v Gy uV) hA;obtain⟨_,hcall⟩:=avR x h2;have hc:=callsIn_wide.1 (hcall (allI W) _ W args ⟨fun b o h=>h,fun b h=>h,avQ⟩ (avN h1));refine hc.mono fun e W' he=>?_;cases e with
 |returned c=>
  obtain⟨hbel,hrel⟩:=he;cases hrel;have hlt:∀p∈before,p.block<W.heap.size:=hW'.lt;refine⟨_,rfl,avO (pa:=before) (pv:=[]) hW' (fun b sp hd=>?_) (fun sp hs=>?_) (fun sp hs=>?_) aD hbel ?_⟩
  .rw[jD,hspec,hres];exact trodAll_mk1 ⟨1,by simp[DataW.trod,Y1,Value.cells]⟩
  .rw[jD,hspec];exact ake K hsz hbel hT hA hlt hs
  .rw[jD,hspec,hvars];exact rfl
  .exact ok_one hres rfl (by unfold Value.okWide;rw[Y1];simp[Cell.okWide,Cell.ok,Y1])
 |panicked ch=>exact he.elim|outgrown=>exact he.elim
end aQ
end
