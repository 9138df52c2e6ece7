import Derived.ChangeSame
import Derived.ChangeShapes
import Derived.ChangeStays
import Derived.RowKit
import Derived.Test.YteniejlbjfigdaaGreatDoorF512
import Derived.WideShapes
set_option linter.all false
section
namespace aR
open Go
section
variable {R:kE}{E:Env}(hR:rG R)
include hR
def Ye (E:Env)(aj:Bool)(c:Code)(body:{β:Type}->aM R.T->(Ex->aM R.T->Option β)->Option β):Prop:=
 ∀(β:Type)(st:aM R.T)(k:Ex->aM R.T->Option β)(x:β)(fr:Fr)(Z:ah)(C:bA),C.aj.aj=aj->body st k=some x->aT C Z.next st fr Z->aD E c fr Z fun e fr' Z'=>∃C' st',aT C' Z'.next st' fr' Z'/\Kp (lQ E c) (dD E c) st fr Z C st' fr' Z' C'/\k e st'=some x
omit hR in
theorem ahA:∀(C:bA)(Z:ah)(o:Nat)(x:bI R.T),gF (R:=R) C Z o x->gF (R:=R) C Z o (.ro x):=fun _ _ _ _ h=>h
theorem ahB {aj:Bool}{β:Type}{c:Code}{key:Nat}{sh:Shape}{outs:List (Ex×Shape)}{body:{β:Type}->aM R.T->(Ex->aM R.T->Option β)->Option β}(hb:Ye E aj c body){H B:aM R.T}{Yf:Fr}{rM:ah}{C0:bA}(bO:C0.aj.aj=aj)(hB:∀(st' S':aM R.T) (fr':Fr) (Z':ah) (C':bA) (b':Nat),aT C' b' st' fr' Z'->Kp (lQ E c) (dD E c) H Yf rM C0 S' fr' Z' C'->aT C' b' B fr' Z')(hro:∀o,lS B o):
 ∀(m:Nat)(p:wQ R.T sh)(o:Out R.T outs)(fr:Fr)(Z:ah)(C:bA),yu key (dD E c) B sh outs body m p=some o->aT C Z.next (unpack R sh p) fr Z->Kp (lQ E c) (dD E c) H Yf rM C0 (B.over (unpack R sh p)) fr Z C->
 aD E (.loop c) fr Z fun e fr' Z'=>∃C' S' st',aT C' Z'.next st' fr' Z'/\Kp (lQ E c) (dD E c) H Yf rM C0 S' fr' Z' C'/\(∀o,bL o (dD E c)=false->lS H o->look st'.ob o=none)/\∀(k:Ex->aM R.T->Option β)(bs:aM R.T),ES R bs k outs o=k e (bs.over st')
 |0,p,o,fr,Z,C,h,_,_=>bU|m+1,p,o,fr,Z,C,h,hi,hkp=>by
  unfold yu at h;have hbase:aT C Z.next B fr Z:=hB _ _ _ _ _ _ hi hkp;refine aD.loop ((hb _ _ _ _ fr Z C ((congrArg eG.aj hkp.aj).trans bO) h (hbase.over hi)).mono ?_);rintro e fr' Z' ⟨C',st',hi',zD,hk⟩;have hall:=hkp.trans zD;cases e with
  |normal=>
   dsimp only at hk;split at hk
   .rename_i p' hp';obtain⟨C2,S2,h1,h2,_,h3⟩:=hi'.sH hR hp';have CZ:=hall.trans h2;refine ahB hb bO hB hro m p' o fr' Z' C2 hk h1 ⟨CZ.fr,fun q hq=>⟨(CZ.ob q hq).ob,(CZ.ob q hq).ln,(CZ.ob q hq).aj,(CZ.ob q hq).nx,(CZ.ob q hq).lp,(CZ.ob q hq).dp,fun hr=>⟨?_,((CZ.ob q hq).ro hr).2⟩⟩⟩;exact Xq (hro q) fun x hx=>(by rw[h3 q hq ((hall.ob q hq).ro hr).1] at hx;cases hx)
   .cases hk
  |exit i=>obtain⟨C2,S2,jD,h1,h2,_,h3,h4⟩:=RU (β:=β) hR hi' hk;exact⟨C2,S2,jD,h1,hall.trans h2,fun q hq hr=>h3 q hq ((hall.ob q hq).ro hr).1,h4⟩
  |ret=>obtain⟨C2,S2,jD,h1,h2,_,h3,h4⟩:=RU (β:=β) hR hi' hk;exact⟨C2,S2,jD,h1,hall.trans h2,fun q hq hr=>h3 q hq ((hall.ob q hq).ro hr).1,h4⟩
omit hR in
theorem ahC {aj:Bool}{c:Code}{body:{β:Type}->aM R.T->(Ex->aM R.T->Option β)->Option β}(hb:Ye E aj c body){β:Type}:∀(m:Nat)(st:aM R.T)(k:Ex->aM R.T->Option β)(x:β)(fr:Fr)(Z:ah)(C:bA),C.aj.aj=aj->Mk (R:=R) (fun st k=>body st k) m st k=some x->aT C Z.next st fr Z->
 aD E (.loop c) fr Z fun e fr' Z'=>∃C' st',aT C' Z'.next st' fr' Z'/\Kp (lQ E c) (dD E c) st fr Z C st' fr' Z' C'/\k e st'=some x
 |0,st,k,x,fr,Z,C,_,h,_=>bU|m+1,st,k,x,fr,Z,C,bO,h,hi=>by
  unfold Mk at h;refine aD.loop ((hb _ _ _ _ fr Z C bO h hi).mono ?_);rintro e fr' Z' ⟨C',st',hi',zD,hk⟩;cases e with
  |normal=>
   dsimp only at hk;by_cases hW:True
   .refine(ahC hb m st' k x fr' Z' C' ?_ hk hi').mono ?_
    .exact(congrArg eG.aj zD.aj).trans bO
    .rintro e CQ oP ⟨sM,jD,h1,h2,h3⟩;exact⟨sM,jD,h1,zD.trans h2,h3⟩
   .exact absurd trivial hW
  |exit i=>exact⟨C',st',hi',zD,hk⟩|ret=>exact⟨C',st',hi',zD,hk⟩
omit hR in
theorem aT.obs {C:bA}{b:Nat}{st:aM R.T}{fr:Fr}{Z:ah}(h:aT C b st fr Z):aT C b st.obs fr Z:={h with
 fr:=fun i v hv=>Ec
 ob:=h.ob}
omit hR in
theorem bN.shift {o:Nat}{st st':aM R.T}{C C':bA}{Z Z' oP:ah}(h:bN false o st C Z st' C' Z')(hp:∀L:Loc,L.1<=C.aj.dp->oP.obj L=Z'.obj L)(hn:Z'.next<=oP.next)(hl:∀l,l<Z.next->oP.loops l=Z'.loops l)(ht:∀s,s<C.aj.lo->oP.top s=Z'.top s):bN false o st C Z st' C' oP:=
 ⟨h.ob,h.ln,h.aj,eO h.nx hn,⟨fun l hl'=>(hl l hl').trans (h.lp.1 l hl'),fun s hs=>(ht s hs).trans (h.lp.2 s hs)⟩,fun L hL ho=>(hp L (by rcases hL with e|e;cases e;exact e)).trans (h.dp L hL ho),fun hr=>⟨(h.ro hr).1,fun s=>by have:=(h.ro hr).2 s;unfold ah.dK ah.jh at this⊢;rw[hp _ (C.aj.RJ o)];exact this⟩⟩
def vN (E:Env)(c:Code):Bool:=(dD E c).all fun d=>Nat.blt d F0
omit hR in
theorem Sy {c:Code}(h:vN E c=true):∀d,bL d (dD E c)=true->d<F0:=fun d hd=>by
 unfold vN at h;rw[kU] at h;have:=h d (ahh hd);unfold Nat.blt at this;exact nY this
def qO (E:Env)(I:IR R):Prop:=(∀g,∀i∈I.it g,E.imp g=true/\∀pa pb xs,i.F pa pb=some xs->ash E g (dw R i.a pa) (dw R i.b pb) (xs.map (dw R i.el)))/\Sj E I.im
theorem wY {n:Nat}{aj:Bool}{F:Nat->List (iF R)}{I:IR R}(hF:bF E F)(hI:qO E I){A:bP}:∀c:Code,vN E c=true->Ye E aj c fun st k=>je E R n aj F I A c st k
 |.skip=>fun hw _ st k x fr Z C _ h hi=>aD.skip ⟨C,st,hi,.refl,h⟩
 |.exit i=>fun hw _ st k x fr Z C _ h hi=>aD.exit ⟨C,st,hi,.refl,h⟩
 |.ret=>fun hw _ st k x fr Z C _ h hi=>aD.ret ⟨C,st,hi,.refl,h⟩
 |.region id ops dr=>fun hw β st k x fr Z C bO h hi=>by
  have h':(bif dr then (bif qc ops.toList then qM E R aj F I.im (nK ops.toList) ops.toList ops.toList st [] (fun st=>k .normal st) else none) else yt E R aj F I.im ops.toList ops.toList st (fun st=>k .normal st))=some x:=h;have ahD:∀{nr:Bool}{W:List Nat}{st':aM R.T}{fr':Fr}{Z':ah}{C':bA}{j:Nat},Kp nr W st fr (Z.bump j) C st' fr' Z' C'->Kp nr W st fr Z C st' fr' Z' C':=fun h=>⟨h.fr,fun o ho=>⟨(h.ob o ho).ob,(h.ob o ho).ln,(h.ob o ho).aj,eO (lD _ _) (h.ob o ho).nx,⟨fun l hl=>(h.ob o ho).lp.1 l (lW hl (lD _ _)),(h.ob o ho).lp.2⟩,(h.ob o ho).dp,fun hr=>⟨((h.ob o ho).ro hr).1,((h.ob o ho).ro hr).2⟩⟩⟩;cases dr with
  |true=>rw[cond_true] at h';obtain⟨he,h'⟩:=fI h';refine aD.draw he (IU hR hF hI.2 _ Z.next C st fr _ [] (Sy hw) bO (hi.next _) (mF _) h' ?_);intro C' st' fr' Z' hi' hn hkp hk;exact⟨C',st',hi'.le hn,ahD hkp,hk⟩
  |false=>rw[cond_false] at h';refine aD.region (CY hR hF hI.2 _ Z.next C st fr _ (Sy hw) bO (hi.next _) (mF _) h' ?_);intro C' st' fr' Z' hi' hn hkp hk;exact⟨C',st',hi'.le hn,ahD hkp,hk⟩
 |.seq a b=>fun hw β st k x fr Z C bO h hi=>by
  have h':(match look A.joins (yw b) with
   |none=>je E R n aj F I A a st fun e st=>match e with
    |.normal=>je E R n aj F I A b st k|e=>k e st
   |some q=>(je E R n aj F I A (β:=Out R.T q.outs) a ((base (dD E a) q.K q.O .ro st).over st) fun e st=>ER R (dD E a) e st q.outs).bind (ES R (base (dD E a) q.K q.O (fun b=>b) st) (fun e st=>match e with
    |.normal=>je E R n aj F I A b st k|e=>k e st) q.outs))=some x:=h
  have hw2:vN E a=true/\vN E b=true:=by have hw':((dD E a++dD E b).all fun d=>Nat.blt d F0)=true:=hw;rw[List.all_append,aZ] at hw';exact hw'
  have hl:∀i,bL i (dD E (.seq a b))=false->bL i (dD E a)=false/\bL i (dD E b)=false:=fun i hi=>by have hi':bL i (dD E a++dD E b)=false:=hi;rw[Xo,tJ] at hi';exact hi'
  have fin:∀(e:Ex)(st':aM R.T)(fr':Fr)(Z':ah)(C':bA),aT C' Z'.next st' fr' Z'->Kp (lQ E a) (dD E a) st fr Z C st' fr' Z' C'->(match e with
   |.normal=>je E R n aj F I A b st' k|e=>k e st')=some x->dG E b (fun e fr' Z'=>∃C' st',aT C' Z'.next st' fr' Z'/\Kp (lQ E (.seq a b)) (dD E (.seq a b)) st fr Z C st' fr' Z' C'/\k e st'=some x) e fr' Z':=by
   intro e st' fr' Z' C' hi' hkp hk;have Yg:=(hkp.mono (W':=dD E (.seq a b)) fun i hi=>(hl i hi).1).nr (MO:=lQ E (.seq a b)) (fun e=>by simp only[lQ,aZ] at e;exact e.1);cases e with
   |normal=>refine(wY hF hI b hw2.2 _ st' k x fr' Z' C' ((congrArg eG.aj hkp.aj).trans bO) hk hi').mono ?_;rintro e CQ oP ⟨sM,jD,h1,h2,h3⟩;exact⟨sM,jD,h1,Yg.trans ((h2.mono fun i hi=>(hl i hi).2).nr (fun e=>by simp only[lQ,aZ] at e;exact e.2)),h3⟩
   |exit i=>exact⟨C',st',hi',Yg,hk⟩|ret=>exact⟨C',st',hi',Yg,hk⟩
  split at h'
  .refine aD.seq ((wY hF hI a hw2.1 _ st _ x fr Z C bO h' hi).mono ?_);rintro e fr' Z' ⟨C',st',hi',hkp,hk⟩;exact fin e st' fr' Z' C' hi' hkp hk
  .rename_i q _;obtain⟨o,ho,h'⟩:=iR.1 h';have hro:∀o x,look st.ob o=some x->bL o (dD E a)=false->bL o q.O=true->sD (dD E a) x=true->lS ((base (dD E a) q.K q.O .ro st).over st) o:=fun o x h1 h2 h3 h4=>agc h1 h2 h3 h4;have hH:∀o,bL o (dD E a)=false->lS st o->lS ((base (dD E a) q.K q.O .ro st).over st) o:=fun o _ h=>Xq (agf (fun _ _=>rfl) h) h;have hbase:aT C Z.next (base (dD E a) q.K q.O .ro st) fr Z:=hi.base (st0:=(base (dD E a) q.K q.O .ro st).over st) ahA (Kp.refl (nr:=false)) hi hro;refine aD.seq ((wY hF hI a hw2.1 _ _ _ o fr Z C bO ho (hbase.over hi)).mono ?_);rintro e fr' Z' ⟨C',st',hi',hkp,hk⟩;obtain⟨C2,S2,jD,h1,g1,_,h3,h2⟩:=RU (β:=β) hR hi' hk;rw[h2] at h';obtain⟨f1,f2⟩:=finish (K:=q.K) hi hH hro (hkp.trans g1) h1 fun o ho hr=>h3 o ho ((hkp.ob o ho).ro hr).1;exact fin e _ fr' Z' C2 f1 f2 h'
 |.cond c a b=>fun hw β st k x fr Z C bO h hi=>by
  have h':(match cu [] st c with
   |some (.jy t)=>bif t then je E R n aj F I A a st k else je E R n aj F I A b st k|some (.bool t)=>bif t then je E R n aj F I A a (st.Hq c true) k else je E R n aj F I A b (st.Hq c false) k|_=>none)=some x:=h
  have hw2:vN E a=true/\vN E b=true:=by have hw':((dD E a++dD E b).all fun d=>Nat.blt d F0)=true:=hw;rw[List.all_append,aZ] at hw';exact hw'
  have hl:∀i,bL i (dD E (.cond c a b))=false->bL i (dD E a)=false/\bL i (dD E b)=false:=fun i hi=>by have hi':bL i (dD E a++dD E b)=false:=hi;rw[Xo,tJ] at hi';exact hi'
  have ha:∀st':aM R.T,st'.ob=st.ob->aT C Z.next st' fr Z->je E R n aj F I A a st' k=some x->aD E a fr Z fun e fr' Z'=>∃C' st',aT C' Z'.next st' fr' Z'/\Kp (lQ E (.cond c a b)) (dD E (.cond c a b)) st fr Z C st' fr' Z' C'/\k e st'=some x:=fun st' hs hi' hk=>by refine(wY hF hI a hw2.1 _ st' k x fr Z C bO hk hi').mono ?_;rintro e CQ oP ⟨sM,jD,h1,h2,h3⟩;exact⟨sM,jD,h1,((⟨h2.fr,fun o ho=>(h2.ob o ho).from hs⟩:Kp (lQ E a) (dD E a) st fr Z C jD CQ oP sM).mono fun i hi=>(hl i hi).1).nr (fun e=>by simp only[lQ,aZ] at e;exact e.1),h3⟩
  have hb:∀st':aM R.T,st'.ob=st.ob->aT C Z.next st' fr Z->je E R n aj F I A b st' k=some x->aD E b fr Z fun e fr' Z'=>∃C' st',aT C' Z'.next st' fr' Z'/\Kp (lQ E (.cond c a b)) (dD E (.cond c a b)) st fr Z C st' fr' Z' C'/\k e st'=some x:=fun st' hs hi' hk=>by refine(wY hF hI b hw2.2 _ st' k x fr Z C bO hk hi').mono ?_;rintro e CQ oP ⟨sM,jD,h1,h2,h3⟩;exact⟨sM,jD,h1,((⟨h2.fr,fun o ho=>(h2.ob o ho).from hs⟩:Kp (lQ E b) (dD E b) st fr Z C jD CQ oP sM).mono fun i hi=>(hl i hi).2).nr (fun e=>by simp only[lQ,aZ] at e;exact e.2),h3⟩
  split at h'
  .rename_i t hc;refine aD.cond (bM (E:=E) hi .nil hc).vJ (fun e=>?_) (fun e=>?_)
   .subst e;exact ha st rfl hi h'
   .subst e;exact hb st rfl hi h'
  .rename_i t hc;have hl:aT C Z.next (st.Hq c t) fr Z/\(st.Hq c t).ob=st.ob:=by
    cases c with
    |tmp j=>exact⟨hi.learn (show aA R C Z.top (.bool t) (fr.tm j) from hi.fr _ _ (ar2 hc)).rH,rfl⟩|_=>exact⟨hi,rfl⟩
   refine aD.cond (bM (E:=E) hi .nil hc).rH (fun e=>?_) (fun e=>?_)
   .subst e;exact ha _ hl.2 hl.1 h'
   .subst e;exact hb _ hl.2 hl.1 h'
  .cases h'
 |.block id c=>fun hw β st k x fr Z C bO h hi=>by
  have h':(je E R n aj F I A c st fun e st=>match e with
   |.exit i=>bif Nat.beq i id then k .normal st else k (.exit i) st|e=>k e st)=some x:=h
  refine aD.block ((wY hF hI c hw _ st _ x fr Z C bO h' hi).mono ?_);rintro e fr' Z' ⟨C',st',hi',hkp,hk⟩;cases e with
  |normal=>exact⟨C',st',hi',hkp,hk⟩|ret=>exact⟨C',st',hi',hkp,hk⟩|exit i=>
   dsimp only at hk;unfold V8;dsimp only;cases hb:Nat.beq i id
   .rw[hb] at hk;rw[if_neg (Xf hb)];exact⟨C',st',hi',hkp,hk⟩
   .rw[hb] at hk;rw[if_pos (fH hb)];exact⟨C',st',hi',hkp,hk⟩
 |.loop c=>fun hw β st k x fr Z C bO h hi=>by
  have h':(match look A.loops (yw c) with
   |some q=>match sH R (dD E c) st q.sh with
    |some p=>(yu (yw c) (dD E c) (base (dD E c) q.K q.O .ro st) q.sh q.outs (fun st k=>je E R n aj F I A c st k) n p).bind (ES R (base (dD E c) q.K q.O (fun b=>b) st) k q.outs)
    |none=>none
   |none=>Mk (R:=R) (fun st k=>je E R n aj F I A c st k) 130 st k)=some x:=h
  split at h'
  .rename_i q _;split at h'
   .rename_i p hp;obtain⟨o,ho,h'⟩:=iR.1 h';obtain⟨C1,S1,p1,p2,_,p3⟩:=hi.sH (nr:=lQ E c) hR hp;have hro:∀o x,look st.ob o=some x->bL o (dD E c)=false->bL o q.O=true->sD (dD E c) x=true->lS ((base (dD E c) q.K q.O .ro st).over (unpack R q.sh p)) o:=fun o x h1 h2 h3 h4=>agc h1 h2 h3 h4;have hH:∀o,bL o (dD E c)=false->lS st o->lS ((base (dD E c) q.K q.O .ro st).over (unpack R q.sh p)) o:=fun o ho h=>aqB (p3 o ho h);have hB:∀(st' S':aM R.T)(fr':Fr)(Z':ah)(C':bA)(b':Nat),aT C' b' st' fr' Z'->Kp (lQ E c) (dD E c) ((base (dD E c) q.K q.O .ro st).over (unpack R q.sh p)) fr Z C S' fr' Z' C'->aT C' b' (base (dD E c) q.K q.O .ro st) fr' Z':=
     fun st' S' fr' Z' C' b' h1 h2=>hi.base ahA h2 h1 hro
    have hk0:Kp (lQ E c) (dD E c) ((base (dD E c) q.K q.O .ro st).over (unpack R q.sh p)) fr Z C ((base (dD E c) q.K q.O .ro st).over (unpack R q.sh p)) fr Z C1:=⟨fun _ _=>rfl,fun q hq=>⟨(p2.ob q hq).ob,(p2.ob q hq).ln,(p2.ob q hq).aj,mF _,⟨fun _ _=>rfl,fun _ _=>rfl⟩,fun _ _ _=>rfl,fun hr=>⟨hr,fun _=>⟨rfl,rfl⟩⟩⟩⟩;refine(ahB (β:=β) hR (wY hF hI c hw) bO hB (fun o=>fun y hy=>by obtain⟨z,_,_,rfl⟩:=CP hy;rfl) n p o fr Z C1 ho p1 hk0).mono ?_;rintro e fr' Z' ⟨C',S',st',hi',hkp,hn,hk⟩;obtain⟨f1,f2⟩:=finish (K:=q.K) hi hH hro hkp hi' hn;exact⟨C',_,f1,f2,by rw[<-hk k];exact h'⟩
   .cases h'
  .exact ahC (wY hF hI c hw) 130 st k x fr Z C bO h' hi
 |.rangeFunc f ps a c=>fun hw β st k x fr Z C bO h hi=>by have h':(none:Option β)=some x:=h;cases h'
 |.scope c=>fun hw β st k x fr Z C bO h hi=>aD.scope (wY hF hI c hw _ st k x fr Z C bO h hi)
 |.label _=>fun hw _ st k x fr Z C _ h hi=>aD.label ⟨C,st,hi,.refl,h⟩
 |.goto _=>fun hw _ st k x fr Z C _ h hi=>bU
 |.refuse _=>fun hw _ st k x fr Z C _ h hi=>bU
omit hR in
theorem IW {C:bA}{b:Nat}{st:aM R.T}{fr:Fr}{Z:ah}(hi:aT C b st fr Z):∀{rs:List ResultVar}{l9:List (au R.T)},wW E R st rs=some l9->∃vs,rs.mapM (jo E fr Z)=some vs/\aF R C Z.top l9 vs
 | [],l9,h=>by cases h;exact⟨[],rfl,rfl⟩|.tmp t::l,l9,h=>by
  unfold wW at h;split at h
  .rename_i v hv;split at h
   .rename_i vs hvs;cases h;obtain⟨ws,h1,h2⟩:=IW hi hvs;have:=bM (E:=E) hi .nil hv;exact⟨fr.tm t::ws,by rw[iG];simp[jo,h1],.cons' this h2⟩
   .cases h
  .cases h
 |.cell a t::l,l9,h=>by
  unfold wW at h;split at h
  .rename_i o off hv;split at h
   .rename_i cs hl;split at h
    .rename_i v hld;split at h
     .rename_i vs hvs;cases h;obtain⟨ws,h1,h2⟩:=IW hi hvs;obtain⟨s,h3,h4⟩:=(bM (E:=E) hi .nil hv).rJ;rw[Hf] at h4;obtain⟨s',l',h5,h6,h7⟩:=hi.rd hl;rw[h3] at h5;cases h5;obtain⟨y,hy,hr⟩:=AO h7 hld;exact⟨y::ws,by rw[iG];simp[jo,h4,h6,hy,h1],.cons' hr h2⟩
     .cases h
    .cases h
   .rename_i ss hl;split at h
    .rename_i v hld;split at h
     .rename_i vs hvs;cases h;obtain⟨ws,h1,h2⟩:=IW hi hvs;obtain⟨s,h3,h4⟩:=(bM (E:=E) hi .nil hv).rJ;rw[Hf] at h4;obtain⟨s',h5,h6⟩:=hi.rd hl;rw[h3] at h5;cases h5;obtain⟨y,hy,hr⟩:=agX (C:=C) (top:=Z.top) hld;exact⟨y::ws,by rw[iG];simp[jo,h4,h6,hy,h1],.cons' hr h2⟩
     .cases h
    .cases h
   .cases h
  .cases h
omit hR in
theorem Sz:∀(l:List (au R.T))(vs:List V)(i:Nat)(P:au R.T->V->Prop),(∀j v,l[j]? =some v->P v (vs.getD j aJ))->∀j v,look (AA i l) j=some v->i<=j/\P v (vs.getD (j-i) aJ)
 | [],vs,i,P,_,j,v,h=>bU|x::l,vs,i,P,hp,j,v,h=>by
  have h':look ((i,x)::AA (i+1) l) j=some v:=h;by_cases e:j=i
  .subst e;rw[nI] at h';cases h';exact⟨mF _,by simpa using hp 0 x rfl⟩
  .rw[kH _ _ e] at h';obtain⟨h1,h2⟩:=Sz l vs.tail (i+1) P (fun j v hj=>by have:=hp (j+1) v tC;cases vs<;>simpa using this) j v h';refine⟨RS,?_⟩;have e2:j-i=(j-(i+1))+1:=RS
   rw[e2];cases vs<;>simpa using h2
def eG.main (aj:Bool):eG:=⟨aj,1,0,fun _=>none,fun _ _ h=>bU,fun _ _ _ h=>bU⟩
theorem MP {n:Nat}{aj:Bool}{F:Nat->List (iF R)}{I:IR R}(hF:bF E F)(hI:qO E I){A:bP}{f:Nat}{fn:Func}{args res:List bR}{p:bB R.T args}{x:bB R.T res}(h:dz E R n aj F I A fn args res p=some x)(hf:E.P.funcs[f]? =some fn)(ha:lK args=true)(hlen:(dw R args p).length=args.length)(bO:E.aj f=aj)(hs:E.mV f=none)(hok:(match fn.body with|some c=>decide (args.length<=fn.ntmps)&& iD fn.ntmps c&& vN E c|none=>false)=true):Pure E f (dw R args p) (mJ (dw R res x)):=by
 unfold dz at h;split at h
 .rename_i c hc;rw[hc] at hok;dsimp only at hok;rw[aZ] at hok;obtain⟨hok,hwk⟩:=hok;refine Pure.of' fn.results.toList hf hc (fun fr Z hd ho ht=>?_) rfl (by rw[hlen];exact hok) hs;have hi:aT ⟨fun _=>none,fun _=>none,fun _=>0,eG.main aj⟩ Z.next (⟨AA 0 (jB R .sh args p),[]⟩:aM R.T) fr Z:={
   d:=hd
   aj:=by rw[ho,bO];rfl
   fr:=fun i v hv=>by obtain⟨_,h2⟩:=Sz _ (dw R args p) 0 (fun v w=>aA R ⟨fun _=>none,fun _=>none,fun _=>0,eG.main aj⟩ Z.top v w) (fun j v hj=>by obtain⟨w,h1,h2⟩:=(CU hR args p ha).get hj;rw[mH,h1];exact h2) i v hv;rw[ht];exact .of rV
   ob:=fun o x hx=>Ed
   inj:=fun t u s h=>bU
   lt:=fun t s h=>bU
   ge:=fun t s h=>bU
   nx:=qA _}
  refine(wY hR hF hI c hwk _ _ _ x fr Z _ rfl h hi).mono ?_;rintro e fr' Z' ⟨C',st',hi',_,hk⟩;have key:(match wW E R st' fn.results.toList with
   |some vs=>bif lK res&& Nat.ble (vF res) 16 then jl R res (rF st' vs) else none|none=>none)=some x->∃vs,fn.results.toList.mapM (jo E fr' Z')=some vs/\bg 20 Z' (match vs with| [v]=>v|vs=>.bK vs)=some (mJ (dw R res x)):=by
   intro hk;split at hk
   .rename_i l9 MQ;obtain⟨hb,hk⟩:=fI hk;rw[aZ] at hb;obtain⟨vs,h1,h2⟩:=IW hi' MQ;refine⟨vs,h1,?_⟩;have aA0:=nY hb.2;obtain⟨vs',v1,v2⟩:=MB hR hi' h2;have c1:=(v2 15).trans (zB hR res x (rF st' l9) vs' hb.1 hk v1 19 Z' RS);have c2:=(v2 16).trans (zB hR res x (rF st' l9) vs' hb.1 hk v1 20 Z' RS);clear v1 v2
    match vs,c1,c2 with
    | [],c1,c2=>have:dw R res x=[]:=(by simpa using c1.symm);rw[this];show bg 20 Z' (.bK [])=some (.bK []);rw[QZ];rfl| [v],c1,c2=>rw[iG] at c2;obtain⟨w,hw,c2⟩:=iR.1 c2;have:[w]=dw R res x:=(by simpa using c2);rw[<-this];exact hw
    |v::w::vs,c1,c2=>
     show bg 20 Z' (.bK (v::w::vs))=_;rw[QZ,c1,Option.map_some];have hl:(dw R res x).length=(v::w::vs).length:=by
      have:∀(l:List V)(m:List V),l.mapM (bg 19 Z')=some m->m.length=l.length:=by
       intro l;induction l with
       |nil=>intro m h;cases h;rfl|cons a l ih=>intro m h;rw[iG] at h;obtain⟨b,hb,h⟩:=iR.1 h;obtain⟨c,hc,h⟩:=iR.1 h;cases h;simp[ih c hc]
      exact this _ _ c1
     match dw R res x,hl with
     |a::b::l,_=>rfl
   .cases hk
  cases e with
  |exit i=>cases hk|normal=>exact key hk|ret=>exact key hk
 .cases h
theorem IX {n:Nat}{aj:Bool}{F:Nat->List (iF R)}{I:IR R}(hF:bF E F)(hI:qO E I){A:bP}{f:Nat}{fn:Func}{args:List bR}{τ:Ty}{p:bB R.T args}{x:List (Den R.T τ)}(h:Cz E R n aj F I A fn args τ p=some x)(hf:E.P.funcs[f]? =some fn)(ha:lK args=true)(hlen:(dw R args p).length=args.length)(bO:E.aj f=aj)(hs:E.mV f=none)(hok:(match fn.body with|some c=>decide (args.length<=fn.ntmps)&& iD fn.ntmps c&& vN E c|none=>false)=true):
 Pure E f (dw R args p) (.ak .sh (x.map (aO R τ)))/\oI E f (dw R args p) (dB R τ) (x.map (aO R τ)):=by
 unfold Cz at h;split at h
 .rename_i c hc;rw[hc] at hok;dsimp only at hok;rw[aZ] at hok;obtain⟨hok,hwk⟩:=hok;have hi:aT ⟨fun _=>none,fun _=>none,fun _=>0,eG.main aj⟩ ah.init.next (⟨AA 0 (jB R .sh args p),[]⟩:aM R.T) ({d:=1,aj:=E.aj f,tm:=fun i=>(dw R args p).getD i aJ}:Fr) ah.init:={
   d:=rfl
   aj:=bO
   fr:=fun i v hv=>by obtain⟨_,h2⟩:=Sz _ (dw R args p) 0 (fun v w=>aA R ⟨fun _=>none,fun _=>none,fun _=>0,eG.main aj⟩ ah.init.top v w) (fun j v hj=>by obtain⟨w,h1,h2⟩:=(CU hR args p ha).get hj;rw[mH,h1];exact h2) i v hv;exact .of rV
   ob:=fun o x hx=>Ed
   inj:=fun t u s h=>bU
   lt:=fun t s h=>bU
   ge:=fun t s h=>bU
   nx:=qA _}
  have himp:jd E f (dw R args p) 1 ah.init (fun v Z1=>∃c,v= .ak c (x.map (aO R τ))/\(c= .nil\/c= .full\/∃s,c= .own (dB R τ) s/\Z1.top s=(x.map (aO R τ)).length)):=by
   refine jd.of hf hc (by rw[hlen];exact hok) ((wY hR hF hI c hwk _ _ _ x _ ah.init _ rfl h hi).mono ?_);rintro e fr' Z' ⟨C',st',hi',_,hk⟩;have key:(match wW E R st' fn.results.toList with
    |some [v]=>bif WX v then EI R τ v else none|_=>none)=some x->∃vs,fn.results.toList.mapM (jo E fr' Z')=some vs/\∃c:Cap,(match vs with| [v]=>v|vs=>V.bK vs)=V.ak c (x.map (aO R τ))/\(c= .nil\/c= .full\/∃s,c= .own (dB R τ) s/\Z'.top s=(x.map (aO R τ)).length):=by
    intro hk;split at hk
    .rename_i tv MQ;obtain⟨hb,hk⟩:=fI hk;obtain⟨vs,h1,h2⟩:=IW hi' MQ;obtain⟨v,l,rfl,h3,h4⟩:=h2.fB;rw[h4.iL] at h1;refine⟨[v],h1,?_⟩;unfold EI at hk;split at hk
     .rename_i cp gT l0 _;obtain⟨e,e2⟩:=vK hk;subst e;cases e2;obtain⟨c',rfl,hc'⟩:=h3.mo;refine⟨c',rfl,?_⟩;cases cp<;>simp only[WX,bZ] at hb
      .exact .inr (.inl hc')
      .rcases hc' with rfl|rfl| ⟨s,rfl,_,ht⟩
       .exact .inl rfl
       .exact .inr (.inl rfl)
       .exact .inr (.inr ⟨s,rfl,by rw[eU];exact ht⟩)
     .cases hk;exact⟨.nil,h3.uq,.inl rfl⟩
     .cases hk
    .cases hk
   cases e with
   |exit i=>cases hk|normal=>exact key hk|ret=>exact key hk
  obtain⟨m,v,Z1,hm,cp,rfl,hcp⟩:=himp;have hpc:bQ (x.map (aO R τ))=true:=by have:=LV (qN hR τ) x;simpa [aQ] using this
  refine⟨⟨m,?_⟩,.of hm hpc hcp⟩;simp only[lZ,hs,hm,Option.bind_some];exact x9 _ _ (qN hR τ)
 .cases h
omit hR in
theorem ahE {c:Cp}:∀{l:List bR}{p:bB R.T l},(jB R c l p).length=l.length
 | [],_=>rfl| [_],_=>rfl|_::k::l,p=>by show (jB R c (k::l) p.2).length+1=_;rw[ahE];rfl
omit hR in
theorem asi {C C':bA}{top top':Nat->Nat}(hk:∀p,F0<=p->C'.ob p=C.ob p/\C'.ln p=C.ln p)(hx:C'.aj=C.aj):∀{l:List bR}{y:bB R.T l}{vs:List V},uo l=true->aF R C' top (jB R .any l y) vs->aF R C top' (jB R .any l y) vs:=by
 have one:∀(k:bR)(l:List bR)(y:sw R.T k)(v:V),uo (k::l)=true->aA R C' top (up R .any k y) v->aA R C top' (up R .any k y) v:=fun k l y v hs h=>by
  cases k<;>first| (cases hs;done)|skip
  .rename_i t;cases t<;>first| (cases hs;done)|exact h
  .rename_i p t;have hs':(Nat.ble F0 p&& uo l)=true:=hs;rw[aZ] at hs';obtain⟨k1,k2⟩:=hk p (nY hs'.1);obtain⟨g0,g1,g2,h⟩:=aA.EY (R:=R) h;show aA R C top' (.sub p t y.1 y.2) v;unfold aA;refine⟨g0,g1,by rw[<-k2];exact g2,?_⟩;rcases h with ⟨s,cp,h1,h2,h3⟩|h
   .exact .inl ⟨s,cp,by rw[<-k1];exact h1,h2,by rw[<-hx];exact h3⟩
   .exact .inr h
 have tl:∀(k:bR)(l:List bR),uo (k::l)=true->uo l=true:=fun k l hs=>by
  cases k<;>first| (cases hs;done)|skip
  .rename_i t;cases t<;>first| (cases hs;done)|exact hs
  .have hs':(_&& uo l)=true:=hs;rw[aZ] at hs';exact hs'.2
 intro l;induction l with
 |nil=>intro y vs _ h;exact h|cons k l ih=>
  intro y vs hs h;cases l with
  |nil=>obtain⟨v,ws,rfl,h1,h2⟩:=aF.fB (ts:=[]) h;rw[h2.iL];exact .cons' (one k [] y v hs h1) rfl
  |cons q l=>obtain⟨v,ws,rfl,h1,h2⟩:=aF.fB (ts:=jB R .any (q::l) y.2) h;exact .cons' (one k _ y.1 v hs h1) (ih (tl _ _ hs) h2)
theorem ahF {C:bA}{b:Nat}{st:aM R.T}{fr:Fr}{Z:ah}(hi:aT C b st fr Z):∀{ks:List bR}{l9:List (au R.T)}{vs:List V},aF R C Z.top l9 vs->aF R C Z.top (RI st ks l9) vs
 | [],_,_,h=>by cases ‹List (au R.T)› <;>exact h|_::_,[],_,h=>h|k::ks,x::xs,_,h=>by
  obtain⟨v,ws,rfl,h1,h2⟩:=h.fB;refine .cons' ?_ (ahF hi h2);unfold wv1;split
  .split
   .rename_i o t a c hw;exact agF hR hw h1 hi
   .exact h1
  .exact h1
def IY:List (Nat×jA)->Bool
 | []=>true| (i,_)::l=>Nat.ble F0 i&& IY l
omit hR in
theorem ahG:∀{l:List (Nat×jA)}{x:kZ R.T l},IY l=true->∀{i:Nat}{v:bI R.T},look (lM R l x) i=some v->F0<=i
 | [],x,_,i,v,hv=>Ec| [(j,k)],x,h,i,v,hv=>by
   unfold IY at h;rw[aZ] at h;have hv':look [(j,oL R k x)] i=some v:=hv;by_cases e:i=j
   .rw[e];exact nY h.1
   .rw[kH _ _ e] at hv';cases hv'
 | (j,k)::q::l,x,h,i,v,hv=>by
   unfold IY at h;rw[aZ] at h;have hv':look ((j,oL R k x.1)::lM R (q::l) x.2) i=some v:=hv;by_cases e:i=j
   .rw[e];exact nY h.1
   .rw[kH _ _ e] at hv';exact ahG h.2 hv'
theorem Yh {n:Nat}{aj:Bool}{F:Nat->List (iF R)}{I:IR R}(hF:bF E F)(hI:qO E I){A:bP}{f:Nat}{fn:Func}{args res:List bR}{obs:List (Nat×jA)}{p:bB R.T args}{q:kZ R.T obs}{y:bB R.T res}{q':kZ R.T obs}(h:zw E R n aj F I A fn args obs res p q=some (y,q'))(hf:E.P.funcs[f]? =some fn)(bO:E.aj f=aj)(hok:(match fn.body with|some c=>decide (args.length<=fn.ntmps)&& iD fn.ntmps c&& vN E c&& (uo res&& wU obs&& IY obs)|none=>false)=true):
 ∀(C:bA)(vs:List V)(Z:ah),C.aj.aj=E.aj f->(∀t,C.tk t=none)->C.aj.lo<=Z.next->
  aF R C Z.top (jB R .any args p) vs->(∀o x,look (lM R obs q) o=some x->gF C Z o x)->
  jd E f vs C.aj.dp Z fun v Z'=>(∃ws,v=mJ ws/\aF R C Z'.top (jB R .any res y) ws)/\(∀o x,look (lM R obs q') o=some x->gF C Z' o x)/\Z.next<=Z'.next/\(∀l,l<Z.next->Z'.loops l=Z.loops l)/\(∀s,s<C.aj.lo->Z'.top s=Z.top s)/\
   ∀L:Loc,L.1<=C.aj.dp->C.aj.out L->Z'.obj L=Z.obj L:=by
 intro C vs Z ahH htk hlo hargs asj;unfold zw at h;split at h
 .rename_i c hc;rw[hc] at hok;dsimp only at hok;simp only[aZ] at hok;obtain⟨⟨hok,hwk⟩,⟨hsc,asl⟩,hbig⟩:=hok;have hlen:vs.length=args.length:=by rw[hargs.length];exact ahE
  have hi:aT C Z.next (⟨AA 0 (jB R .any args p),lM R obs q⟩:aM R.T) ({d:=C.aj.dp,aj:=E.aj f,tm:=fun i=>vs.getD i aJ}:Fr) Z:={
   d:=rfl
   aj:=ahH.symm
   fr:=fun i v hv=>by obtain⟨_,h2⟩:=Sz _ vs 0 (fun v w=>aA R C Z.top v w) (fun j v hj=>by obtain⟨w,h1,h2⟩:=hargs.get hj;rw[mH,h1];exact h2) i v hv;exact .of rV
   ob:=asj
   inj:=fun t u s h=>by rw[htk t] at h;cases h
   lt:=fun t s h=>by rw[htk t] at h;cases h
   ge:=fun t s h=>by rw[htk t] at h;cases h
   nx:=hlo}
  refine jd.of hf hc (by rw[hlen];simpa using hok) ((wY hR hF hI c hwk _ _ _ (y,q') _ Z C (ahH.trans bO) h hi).mono ?_);rintro e fr' Z' ⟨C',st',hi',hkp,hk⟩;have key:(match wW E R st' fn.results.toList with
   |some vs=>match jl R res (RI st' res vs) with
    |some y=>match oM R st'.ob obs with
     |some q'=>some (y,q')|none=>none
    |none=>none
   |none=>none)=some (y,q')->∃ws,fn.results.toList.mapM (jo E fr' Z')=some ws/\(fun v Z'=>(∃ws,v=mJ ws/\aF R C Z'.top (jB R .any res y) ws)/\(∀o x,look (lM R obs q') o=some x->gF C Z' o x)/\Z.next<=Z'.next/\(∀l,l<Z.next->Z'.loops l=Z.loops l)/\(∀s,s<C.aj.lo->Z'.top s=Z.top s)/\
    ∀L:Loc,L.1<=C.aj.dp->C.aj.out L->Z'.obj L=Z.obj L) (match ws with| [v]=>v|vs=>V.bK vs) Z':=by
   intro hk;split at hk
   .rename_i l9 MQ;split at hk
    .rename_i y' hy';split at hk
     .rename_i q1 hq1;cases hk;obtain⟨ws,h1,h2⟩:=IW hi' MQ;have hws:=CK hR res y _ ws hy' (ahF hR hi' h2);obtain⟨nb,hnb⟩:=Xp (dD E c);have hk0:=hkp.ob nb (hnb nb (mF _));refine⟨ws,h1,?_,fun o x hx=>?_,hk0.nx,hk0.lp.1,hk0.lp.2,fun L hL ho=>hk0.dp L (.inr hL) ho⟩
      .refine⟨ws,?_,asi (C':=C') (fun p hp=>?_) hk0.aj hsc hws⟩
       .rcases ws with _| ⟨a,_| ⟨b,l⟩⟩<;>rfl
       .have hm:bL p (dD E c)=false:=by
         cases hm:bL p (dD E c)
         .rfl
         .have:=Sy hwk p hm;omega
        have hk1:=hkp.ob p hm;exact⟨hk1.ob,hk1.ln⟩
      .obtain⟨kk,yy,z,e1,e2,rfl,e4⟩:=Sl obs q' hq1 o x hx;have aA1:=ahG hbig hx;have hm:bL o (dD E c)=false:=by
        cases hm:bL o (dD E c)
        .rfl
        .have:=Sy hwk o hm;omega
       have hk1:=hkp.ob o hm;exact X4 (e4 asl) hk1.ob.symm hk1.ln.symm (by rw[hk1.aj]) (RQ hR e2 (hi'.ob _ _ e1))
     .cases hk
    .cases hk
   .cases hk
  cases e with
  |exit i=>cases hk|normal=>exact key hk|ret=>exact key hk
 .cases h
end
def jE (k:IntKind)(x y:Int):Int:=k.wrap (BitVec.ofInt k.bits x&&& BitVec.ofInt k.bits y).toNat
def lT (k:IntKind)(x y:Int):Int:=k.wrap (BitVec.ofInt k.bits x|||BitVec.ofInt k.bits y).toNat
def eT (k:IntKind)(x y:Int):Int:=k.wrap (BitVec.ofInt k.bits x^^^BitVec.ofInt k.bits y).toNat
def nu (k:IntKind)(x y:Int):Int:=k.wrap (x*2^min y.toNat k.bits)
def aH (k:IntKind)(x y:Int):Int:=x.fdiv (2^min y.toNat k.bits)
section
variable {R:kE}{E:Env}
def ny (f:Nat)(r:iF R)(F:Nat->List (iF R)):Nat->List (iF R):=fun g=>bif Nat.beq g f then r::F g else F g
theorem zG {f:Nat}{r:iF R}{F:Nat->List (iF R)}(hF:bF E F)(h:∀p x,r.F p=some x->Pure E f (dw R r.args p) (mJ (dw R r.res x)))(ho:r.own=false:=by rfl):bF E (ny f r F):=by
 intro g q hq p x hx;unfold ny at hq;cases hb:Nat.beq g f
 .rw[hb] at hq;exact hF g q hq p x hx
 .rw[hb,cond_true] at hq;rcases iC.1 hq with rfl|hq
  .rw[fH hb];exact⟨fun _=>h p x hx,fun e=>by rw[ho] at e;cases e⟩
  .exact hF g q hq p x hx
def ahI:Nat->List (iF R):=fun _=>[]
def ahJ:IR R:=⟨fun _=>[],fun _=>[]⟩
theorem asn:qO E (ahJ (R:=R)):=⟨fun _ _ h=>bU,fun _ _ h=>bU⟩
def yC (g:Nat)(m:qI R)(I:IR R):IR R:=⟨I.it,fun f=>bif Nat.beq f g then m::I.im f else I.im f⟩
theorem SA {g:Nat}{m:qI R}{I:IR R}(hI:qO E I)(h:MJ E g m)(hg:E.imp g=true:=by rfl):qO E (yC g m I):=by
 refine⟨hI.1,fun f r hr=>?_⟩;have hr':r∈(bif Nat.beq f g then m::I.im f else I.im f):=hr;cases hb:Nat.beq f g
 .rw[hb] at hr';exact hI.2 f r hr'
 .rw[hb,cond_true] at hr';rcases iC.1 hr' with rfl|hr'
  .rw[fH hb];exact⟨hg,h⟩
  .exact hI.2 f r hr'
theorem aso:bF E (ahI (R:=R)):=fun _ _ h=>bU
theorem ahK {f:Nat}{k:bR}{args:List bR}{τ:Ty}{G:bB R.T (.fE::k::args)->Option (List (Den R.T τ))}{d:List (Den R.T τ)}{F:Nat->List (iF R)}(hF:bF E F)(h:∀u p x,G (u,p)=some x->oI E f (.ak .nil []::dw R (k::args) p) (dB R τ) (x.map (aO R τ)))(hn:E.y5 f=true:=by rfl):bF E (ny f ⟨.fE::k::args,[.d (.slice τ)],G,d,true⟩ F):=by
 intro g q hq p x hx;unfold ny at hq;cases hb:Nat.beq g f
 .rw[hb] at hq;exact hF g q hq p x hx
 .rw[hb,cond_true] at hq;rcases iC.1 hq with rfl|hq
  .rw[fH hb];refine⟨fun hc=>(by cases hc),fun _ gT e l hl=>?_⟩;cases e;have hl':x=l:=hl;subst hl';exact⟨fun hc=>(by cases hc),fun _=>⟨hn,h p.1 p.2 x hx⟩⟩
  .exact hF g q hq p x hx
theorem IZ {f:Nat}{args:List bR}{τ:Ty}{G:bB R.T args->Option (List (Den R.T τ))}{d:List (Den R.T τ)}{F:Nat->List (iF R)}(hF:bF E F)(h:∀p x,G p=some x->Pure E f (dw R args p) (.ak .sh (x.map (aO R τ)))/\oI E f (dw R args p) (dB R τ) (x.map (aO R τ)))(hc:lK args=true:=by rfl)(hn:E.y5 f=false:=by rfl):bF E (ny f ⟨args,[.d (.slice τ)],G,d,true⟩ F):=by
 intro g q hq p x hx;unfold ny at hq;cases hb:Nat.beq g f
 .rw[hb] at hq;exact hF g q hq p x hx
 .rw[hb,cond_true] at hq;rcases iC.1 hq with rfl|hq
  .rw[fH hb];obtain⟨h1,h2⟩:=h p x hx;refine⟨fun _=>h1,fun _ gT e l hl=>?_⟩;cases e;have hl':x=l:=hl;subst hl';exact⟨fun _=>⟨hn,h2⟩,fun e=>(by rw[hc] at e;cases e)⟩
  .exact hF g q hq p x hx
end
def ahL:(k:kY)->Hg k
 |.i _=>(0:Int)|.a _ n=>Vec.rep n 0
def ahM:(l:List kY)->EF l
 | []=>()| [k]=>ahL k|k::h::l=>(ahL k,ahM (h::l))
section
variable (R:kE)
mutual
def ahN:(k:bR)->sw R.T k
 |.d t=>Ho R t|.l _ t=>([]:List (Den R.T t))|.agg l=>nR l|.ref _ _=>()|.aX l _=>nR l|.dQ _=>()|.eF k e=>([]:List (Den R.T k×Den R.T e))|.fn _ a b=>(nR a,nR b)|.fE=>()|.aU _ _=>()|.sub _ _=>((0:Int),(0:Int))|.sg l=>ahM l|.undef=>()
def nR:(l:List bR)->bB R.T l
 | []=>()| [k]=>ahN k|k::h::l=>(ahN k,nR (h::l))
end
end
end aR
end
section
namespace aR
open Go Go.RowKit
mutual
def mM:V->Nat
 |.str s=>s.length+1|.agg cs=>sO cs|.ak _ l=>sO l+1|_=>1
def sO:List V->Nat
 | []=>0|v::l=>mM v+sO l
end
def Fj (k:IntKind)(n:Int):Nat:=if (Lit.int k n).wf=true then 0 else 2^64
theorem asq {k:IntKind}{n:Int}(h:(Lit.int k n).wf=true):Fj k n=0:=if_pos h
theorem ahO {k:IntKind}{n:Int}(h:Fj k n<2^64):k.min<=n/\n<=k.max:=by
 unfold Fj at h;split at h
 .rename_i hw;simp only[Lit.wf,aZ,decide_eq_true_eq] at hw;exact hw
 .exact absurd h (Nat.lt_irrefl _)
mutual
def iQ:V->Nat
 |.str s=>s.length+1|.agg cs=>mq cs|.ak _ l=>mq l+1|.int k n=>1+Fj k n|_=>1
def mq:List V->Nat
 | []=>0|v::l=>iQ v+mq l
end
mutual
theorem ahP:∀v:V,mM v<=iQ v
 |.str s=>by simp[mM,iQ]|.agg cs=>by simp only[mM,iQ];exact SB cs|.ak _ l=>by simp only[mM,iQ];exact Nat.add_le_add_right (SB l) 1|.int k n=>by simp[mM,iQ]|.bool _|.gU|.gH|.gP|.iH|.bK _|.aU .. |.ref .. |.dQ .. |.aX .. |.fn .. |.eF .. |.iface .. |.raw _=>by simp[mM,iQ]
theorem SB:∀l:List V,sO l<=mq l
 | []=>mF _|v::l=>by simp only[sO,mq];exact Nat.add_le_add (ahP v) (SB l)
end
structure Bulk (H:Type)(bk:DataW H->Nat)(bs:List (DataW H)->Nat):Prop where
 one:∀d,1<=bk d
 str:∀s,s.length+1<=bk (.lit (.string s))
 agg:∀l,bs l<=bk (.agg l)
 sl:∀l r,bs l+1<=bk (.slice l r)
 nil:bs []=0
 cons:∀d l,bs (d::l)=bk d+bs l
section
variable {H:Type}{bk:DataW H->Nat}{bs:List (DataW H)->Nat}(hb:Bulk H bk bs)
include hb
theorem Bulk.append (a b:List (DataW H)):bs (a++b)=bs a+bs b:=by
 induction a with
 |nil=>simp[hb.nil]|cons v a ih=>simp only[List.cons_append,hb.cons,ih];omega
end
def uE {J β γ:Type}(Q:J->β->γ->Prop):List J->List β->List γ->Prop
 | [],[],[]=>True|t::ts,c::cs,d::ds=>Q t c d/\uE Q ts cs ds|_,_,_=>False
theorem uE.append {J β γ:Type}{Q:J->β->γ->Prop}:∀{a a':List J}{b b':List β}{c c':List γ},uE Q a b c->uE Q a' b' c'->uE Q (a++a') (b++b') (c++c')
 | [],_,[],_,[],_,_,h=>h|_::_,_,_::_,_,_::_,_,h,h'=>⟨h.1,h.2.append h'⟩| [],_,_::_,_,_,_,h,_=>h.elim| [],_,[],_,_::_,_,h,_=>h.elim|_::_,_,[],_,_,_,h,_=>h.elim|_::_,_,_::_,_,[],_,h,_=>h.elim
theorem uE.mono {J β γ:Type}{Q Q':J->β->γ->Prop}(hq:∀a b c,Q a b c->Q' a b c):∀{a:List J}{b:List β}{c:List γ},uE Q a b c->uE Q' a b c
 | [],[],[],_=>trivial|_::_,_::_,_::_,h=>⟨hq _ _ _ h.1,h.2.mono hq⟩| [],_::_,_,h=>h.elim| [],[],_::_,h=>h.elim|_::_,[],_,h=>h.elim|_::_,_::_,[],h=>h.elim
theorem uE.len {J β γ:Type}{Q:J->β->γ->Prop}:∀{a:List J}{b:List β}{c:List γ},uE Q a b c->a.length=b.length
 | [],[],[],_=>rfl|_::_,_::_,_::_,h=>by simp[h.2.len]| [],_::_,_,h=>h.elim| [],[],_::_,h=>h.elim|_::_,[],_,h=>h.elim|_::_,_::_,[],h=>h.elim
section
variable (P:Program)
def MR (t:TypeId):Option (List (Nat×TypeId)):=match P.underlying t with
 |some (.struct fs)=>some (fs.toList.map fun f=>(f.offset,f.type))
 |some (.array n e)=>some ((List.range n).map fun i=>(i*P.cellsOf e,e))
 |_=>none
def I4 (t:TypeId):Bool:=match P.underlying t with
 |some .bool=>true|some (.int _)=>true|some .string=>true|some (.slice _)=>true|_=>false
def MS:List (Nat×TypeId)->Nat->Nat->Bool
 | [],off,tot=>off==tot| (o,u)::l,off,tot=>o==off&& MS l (off+P.cellsOf u) tot
def I5:Nat->TypeId->Option (List TypeId)
 |0,_=>none|k+1,t=>match MR P t with
  |some ps=>if MS P ps 0 (P.cellsOf t)=true then (ps.mapM fun (p:Nat×TypeId)=>match I5 k p.2 with
    |some l=>if l.length=P.cellsOf p.2 then some l else none|none=>none).map List.flatten else none
  |none=>if I4 P t=true/\P.cellsOf t=1 then some [t] else none
end
section
variable {P:Program}{w:World}{H:Type}{enc:TypeId×Value->H}{bk:DataW H->Nat}{bs:List (DataW H)->Nat}
abbrev mO (enc:TypeId×Value->H)(P:Program)(w:World)(f:Nat)(t:TypeId)(cs:List Value):Option (DataW H×List MemPlace):=DataW.trod enc P w 0 (fun _=>true) true f t cs
theorem asr {fuel:Nat}{t:TypeId}{cs:List Value}{d:DataW H}{ps:List MemPlace}{pl:List (Nat×TypeId)}(hp:MR P t=some pl)(h:mO enc P w (fuel+1) t cs=some (d,ps)):
 cs.length=P.cellsOf t/\∃xs,pl.mapM (fun p=>mO enc P w fuel p.2 ((cs.drop p.1).take (P.cellsOf p.2)))=some xs/\d= .agg (xs.map (·.1)):=by
 unfold MR at hp;split at hp
 .rename_i fs hu;simp only[iE] at hp;subst hp;simp only[mO,DataW.trod,hu] at h;split at h
  .rename_i hl;simp only[aW,aS] at h;obtain⟨xs,h1,rfl,rfl⟩:=h;refine⟨hl,xs,?_,rfl⟩;rw[List.mapM_map];exact h1
  .cases h
 .rename_i n e hu;simp only[iE] at hp;subst hp;simp only[mO,DataW.trod,hu] at h;split at h
  .rename_i hl;simp only[aW,aS] at h;obtain⟨xs,h1,rfl,rfl⟩:=h;refine⟨hl,xs,?_,rfl⟩;rw[List.mapM_map];exact h1
  .cases h
 .cases hp
def Yi (enc:TypeId×Value->H)(P:Program)(w:World)(fuel:Nat)(u:TypeId)(c:Value)(d:DataW H):Prop:=∃f p,f<=fuel/\mO enc P w f u [c]=some (d,p)/\I4 P u=true
theorem ahQ {fuel:Nat}{t:TypeId}{cs:List Value}{x:DataW H×List MemPlace}(hl:I4 P t=true)(h:mO enc P w fuel t cs=some x):∃c,cs=[c]:=by
 cases fuel with
 |zero=>simp[mO,DataW.trod] at h|succ f=>unfold I4 at hl;split at hl;all_goals (rename_i hu;simp only[mO,DataW.trod,hu] at h;split at h<;>first|exact⟨_,rfl⟩|simp_all)
theorem asu (hb:Bulk H bk bs):∀(k fuel:Nat)(t:TypeId)(cs:List Value)(d:DataW H)(ps:List MemPlace)(ts:List TypeId),I5 P k t=some ts->mO enc P w fuel t cs=some (d,ps)->
 ∃ds,uE (Yi enc P w fuel) ts cs ds/\bs ds<=bk d:=by
 intro k;induction k with
 |zero=>intro fuel t cs d ps ts h;simp[I5] at h|succ k ih=>
  intro fuel t cs d ps ts h ht;simp only[I5] at h;split at h
  .rename_i pl hp;split at h
   .rename_i hcon;cases fuel with
    |zero=>simp[mO,DataW.trod] at ht|succ fuel=>
     obtain⟨hl,xs,hx,rfl⟩:=asr hp ht;simp only[aW] at h;obtain⟨I6,asv,rfl⟩:=h;have key:∀(pl:List (Nat×TypeId))(off:Nat)(xs:List (DataW H×List MemPlace))(I6:List (List TypeId)),MS P pl off cs.length=true->
      pl.mapM (fun p=>mO enc P w fuel p.2 ((cs.drop p.1).take (P.cellsOf p.2)))=some xs->
      (pl.mapM fun p=>match I5 P k p.2 with
        |some l=>if l.length=P.cellsOf p.2 then some l else none|none=>none)=some I6->∃ds,uE (Yi enc P w (fuel+1)) I6.flatten (cs.drop off) ds/\bs ds<=bs (xs.map (·.1)):=by
      intro pl;induction pl with
      |nil=>intro off xs I6 hc h1 h2;simp only[List.mapM_nil,Option.pure_def,iE] at h1 h2;subst h1;subst h2;simp only[MS,beq_iff_eq] at hc;rw[hc,List.drop_length];exact⟨[],trivial,mF _⟩|cons p pl asw=>
       intro off xs I6 hc h1 h2;obtain⟨o,u⟩:=p;simp only[MS,aZ,beq_iff_eq] at hc;obtain⟨rfl,hc⟩:=hc;simp only[iG,Option.bind_eq_bind,iR,Option.pure_def,iE] at h1 h2;obtain⟨⟨d1,p1⟩,g1,xs',g2,rfl⟩:=h1;obtain⟨l1,g3,aA2,g4,rfl⟩:=h2;split at g3
       .rename_i l0 hl0;split at g3
        .cases g3;obtain⟨ds1,a1,a2⟩:=ih _ _ _ _ _ _ hl0 g1;obtain⟨asx,a3,a4⟩:=asw _ _ _ hc g2 g4;refine⟨ds1++asx,?_,?_⟩
         .rw[List.flatten_cons];have e:cs.drop o=(cs.drop o).take (P.cellsOf u)++cs.drop (o+P.cellsOf u):=(by rw[<-List.drop_drop,qz]);rw[e];exact uE.append (a1.mono fun _ _ _ ⟨f,q,h1,h2⟩=>⟨f,q,Nat.le_succ_of_le h1,h2⟩) a3
         .rw[hb.append,iA,hb.cons];show _<=bk d1+_;omega
        .cases g3
       .cases g3
     have:=key pl 0 xs I6 (by rw[hl];exact hcon) hx asv;obtain⟨ds,h1,h2⟩:=this;exact⟨ds,Bz,eO h2 (hb.agg _)⟩
   .cases h
  .split at h
   .rename_i hlf;simp only[iE] at h;subst h;obtain⟨c,rfl⟩:=ahQ hlf.1 ht;refine⟨[d],⟨⟨fuel,ps,mF _,ht,hlf.1⟩,trivial⟩,?_⟩;rw[hb.cons,hb.nil];omega
   .cases h
def sP (K:bq)(T:Nat->Nat)(w:World)(vs:List V)(cs:List Value):Prop:=vs.length=cs.length/\∀j,j<vs.length->Rel K T w (vs.getD j aJ) (cs.getD j undef)
theorem sP.cons {K:bq}{T:Nat->Nat}{v:V}{c:Value}{vs:List V}{cs:List Value}(h:Rel K T w v c)(hs:sP K T w vs cs):sP K T w (v::vs) (c::cs):=by
 refine⟨by simp[hs.1],fun j hj=>?_⟩;cases j with
 |zero=>exact h|succ j=>simpa using hs.2 j tC
variable (R:kE)
def qP (P:Program)(t:TypeId):Ty->Bool
 |.int k=>match P.underlying t with
  |some (.int k')=>decide (k'=k)|_=>false
 |.bool=>match P.underlying t with
  |some .bool=>true|_=>false
 |.str=>match P.underlying t with
  |some .string=>true|_=>false
 |.slice τ=>match P.underlying t with
  |some (.slice e)=>decide (R.ty e=some τ)&& decide (0<P.cellsOf e)|_=>false
 |.st n=>match I5 P 10 t with
  |some ts=>decide (ts.map R.ty=(R.lf n).map some)&& (MR P t).isSome|none=>false
def allI (w:World)(b o:Nat):Prop:=∃v,w.cell? (at_ b o)=some v
abbrev uF (w:World):bq:=bq.lend (allI w) (fun b=>∃es dL,w.heap[b]? =some (.map es dL))
theorem Yj {J β:Type}{f:J->Option β}:∀{l:List J}{r:List β},l.mapM f=some r->r.length=l.length/\∀(i:Nat)(hi:i<l.length)(hr:i<r.length),f l[i]=some r[i]:=by
 intro l;induction l with
 |nil=>intro r h;simp at h;subst h;exact⟨rfl,fun i hi=>absurd hi (fZ i)⟩
 |cons a l ih=>
  intro r h;simp only[iG,Option.bind_eq_bind,iR,Option.pure_def,iE] at h;obtain⟨y,h1,ys,h2,rfl⟩:=h;obtain⟨h3,h4⟩:=ih h2;refine⟨by simp[h3],fun i hi hr=>?_⟩;cases i with
  |zero=>exact h1|succ i=>exact h4 i jH (by simpa using hr)
theorem ahR {base:Nat}{a:Addr}{n:Nat}{cs:List Value}(h:w.cells? base a n=some cs):cs.length=n/\∀j,j<n->w.cell? (a.add j)=some (cs.getD j undef):=by
 unfold World.cells? at h;split at h
 .obtain⟨h1,h2⟩:=Yj h;rw[El] at h1;refine⟨h1,fun j hj=>?_⟩;have:=h2 j tC RS;simp only[BH] at this;rw[this,mH,gG RS];rfl
 .cases h
theorem plain_of_cell {a:Addr}{v:Value}(h:w.cell? a=some v):a=at_ a.block a.off:=by
 unfold World.cell? at h;obtain⟨b,o,s⟩:=a;cases s with
 |none=>rfl|some s=>dsimp only at h;split at h<;>simp at h
theorem ahS (hb:Bulk H bk bs)(hR:rG R){T:Nat->Nat}{Q:TypeId->Value->DataW H->Prop}(hq:∀u c d τ,Q u c d->R.ty u=some τ->pQ τ=true->∃x:Den R.T τ,Rel (uF w) T w (aO R τ x) c/\iQ (aO R τ x)<=bk d):
 ∀(l:List Ty)(ts:List TypeId)(cs:List Value)(ds:List (DataW H)),l.all pQ=true->ts.map R.ty=l.map some->uE Q ts cs ds->∃p:qj R.T l,sP (uF w) T w (encs R l p) cs/\mq (encs R l p)<=bs ds
 | [],ts,cs,ds,_,hm,h=>by
   have:ts=[]:=by simpa using hm
   subst this;cases cs with
   |nil=>cases ds with
    |nil=>exact⟨(),⟨rfl,fun j hj=>absurd hj (fZ j)⟩,by rw[hb.nil];exact mF _⟩
    |cons=>exact h.elim
   |cons=>exact h.elim
 | [τ],ts,cs,ds,hl,hm,h=>by
   cases ts with
   |nil=>simp at hm|cons u ts=>
    simp only[iA,List.map_nil,rX,List.map_eq_nil_iff] at hm;obtain⟨hu,rfl⟩:=hm;cases cs with
    |nil=>exact h.elim|cons c cs=>cases ds with
     |nil=>exact h.elim|cons d ds=>
      obtain⟨h1,h2⟩:=h;cases cs with
      |cons=>exact h2.elim|nil=>cases ds with
       |cons=>exact h2.elim|nil=>obtain⟨x,h3,h4⟩:=hq u c d τ h1 hu xH;refine⟨x,sP.cons h3 ⟨rfl,fun j hj=>absurd hj (fZ j)⟩,?_⟩;rw[hb.cons,hb.nil];show iQ _+0<=_;omega
 |τ::gT::l,ts,cs,ds,hl,hm,h=>by
  cases ts with
  |nil=>simp at hm|cons u ts=>
   rw[iA,iA] at hm;injection hm with hu hm
   cases cs with
   |nil=>exact h.elim|cons c cs=>cases ds with
    |nil=>exact h.elim|cons d ds=>obtain⟨h1,h2⟩:=h;rw[List.all_cons,aZ] at hl;obtain⟨x,h3,h4⟩:=hq u c d τ h1 hu hl.1;obtain⟨p,h5,h6⟩:=ahS hb hR hq (gT::l) ts cs ds hl.2 hm h2;refine⟨(x,p),sP.cons h3 h5,?_⟩;rw[hb.cons];show iQ (aO R τ x)+mq (encs R (gT::l) p)<=_;omega
theorem asy (τ:Ty)(hl:pQ τ=true)(x:Den R.T τ):(aO R τ x).cells=[aO R τ x]:=by
 cases τ with
 |st n=>simp[pQ] at hl|_=>rfl
theorem asz (hb:Bulk H bk bs)(hR:rG R){T:Nat->Nat}(hty:∀t τ,R.ty t=some τ->qP R P t τ=true):∀(fuel:Nat)(t:TypeId)(cs:List Value)(d:DataW H)(ps:List MemPlace)(τ:Ty),R.ty t=some τ->mO enc P w fuel t cs=some (d,ps)->
 ∃x:Den R.T τ,sP (uF w) T w (aO R τ x).cells cs/\iQ (aO R τ x)<=bk d:=by
 intro fuel;induction fuel using Nat.strongRecOn with
 |_ fuel ih=>
  have leaf:∀f,f<=fuel->∀u c d p τ,pQ τ=true->R.ty u=some τ->mO enc P w f u [c]=some (d,p)->∃x:Den R.T τ,Rel (uF w) T w (aO R τ x) c/\iQ (aO R τ x)<=bk d:=by
   intro f hf u c d p τ hl hu h;cases f with
   |zero=>simp[mO,DataW.trod] at h|succ f=>
    have ho:=hty u τ hu;cases τ with
    |st n=>simp[pQ] at hl|int k=>
     simp only[qP] at ho;split at ho
     .rename_i k' hk;have:=of_decide_eq_true ho;subst this;cases c with
      |int k2 n=>
       simp only[mO,DataW.trod,hk] at h;split at h
       .rename_i hkk;obtain⟨rfl,hwf⟩:=hkk;simp only[iE,aS] at h;obtain⟨rfl,rfl⟩:=h;exact⟨(n:Int),.int _ _,by show 1+Fj _ _<=_;rw[asq hwf];exact hb.one _⟩
       .cases h
      |_=>simp only[mO,DataW.trod,hk] at h;cases h
     .cases ho
    |bool=>
     simp only[qP] at ho;split at ho
     .rename_i hk;cases c with
      |bool b=>exact⟨(b:Bool),.bool _,hb.one _⟩|_=>simp only[mO,DataW.trod,hk] at h;cases h
     .cases ho
    |str=>
     simp only[qP] at ho;split at ho
     .rename_i hk;cases c with
      |string b=>
       simp only[mO,DataW.trod,hk] at h;split at h
       .simp only[iE,aS] at h;obtain⟨rfl,rfl⟩:=h;exact⟨b.data.toList,.str _ _ rfl,hb.str _⟩
       .cases h
      |_=>simp only[mO,DataW.trod,hk] at h;cases h
     .cases ho
    |slice τ=>
     simp only[qP] at ho;split at ho
     .rename_i e hk;rw[aZ] at ho;have he:=of_decide_eq_true ho.1;have hpos:=of_decide_eq_true ho.2;cases c with
      |slice a len cap=>
       cases a with
       |none=>
        cases len with
        |succ n=>simp only[mO,DataW.trod,hk] at h;cases h|zero=>cases cap with
         |succ n=>simp only[mO,DataW.trod,hk] at h;cases h|zero=>exact⟨([]:List (Den R.T τ)),.gD .sh none (fun _=>rfl) trivial,hb.one _⟩
       |some a=>
        simp only[mO,DataW.trod,hk] at h;split at h
        .rename_i hc;obtain⟨_,hlc,_⟩:=hc;simp only[iR,if_true,aW,aS] at h;obtain⟨elems,h1,rest,h2,rfl,rfl⟩:=h;obtain⟨e1,e2⟩:=Yj h1;obtain⟨r1,r2⟩:=Yj h2;rw[El] at e1 r1;have hplain:0<cap->a=at_ a.block a.off:=fun hcap=>by
          have hread:∃i cs x,w.cells? 0 (a.add (i*P.cellsOf e)) (P.cellsOf e)=some cs/\mO enc P w f e cs=some x/\i=0:=by
           by_cases hl0:0<len
           .have:=e2 0 (by simpa using hl0) RS;simp only[BH,iR] at this;obtain⟨cs,g1,g2⟩:=this;exact⟨0,cs,_,g1,g2,rfl⟩
           .have:=r2 0 dP RS;simp only[BH,iR] at this;obtain⟨cs,g1,g2⟩:=this;exact⟨len+0,cs,_,g1,g2,RS⟩
          obtain⟨i,cs,_,g1,_,rfl⟩:=hread;have:=(ahR g1).2 0 hpos;have ha:(a.add (0*P.cellsOf e)).add 0=a:=(by simp[Addr.add]);rw[ha] at this;exact plain_of_cell this
         have hel:∀i,∃x:Den R.T τ,∃I7:List Value,∀hi:i<elems.length,(∀j,j<P.cellsOf e->w.cell? ((a.add (i*P.cellsOf e)).add j)=some (I7.getD j undef))/\I7.length=P.cellsOf e/\
          sP (uF w) T w (aO R τ x).cells I7/\iQ (aO R τ x)<=bk elems[i].1:=fun i=>by
          by_cases hi:i<elems.length
          .have:=e2 i (by simpa using (by omega:i<len)) hi;simp only[BH,iR] at this;obtain⟨I7,g1,g2⟩:=this;obtain⟨c1,c2⟩:=ahR g1;obtain⟨x,x1,x2⟩:=ih f RS e I7 elems[i].1 elems[i].2 τ he g2;exact⟨x,I7,fun _=>⟨c2,c1,x1,x2⟩⟩
          .exact⟨Ho R τ,[],fun h=>absurd h hi⟩
         let xs:List (Den R.T τ):=(List.range elems.length).map fun i=>(hel i).choose
         have hxs:∀i (hi:i<xs.length) (hi':i<elems.length),(∀j,j<P.cellsOf e->w.cell? ((a.add (i*P.cellsOf e)).add j)=some ((hel i).choose_spec.choose.getD j undef))/\(hel i).choose_spec.choose.length=P.cellsOf e/\
          sP (uF w) T w (aO R τ xs[i]).cells (hel i).choose_spec.choose/\iQ (aO R τ xs[i])<=bk elems[i].1:=fun i hi hi'=>by
          have:=(hel i).choose_spec.choose_spec hi';have e:xs[i]=(hel i).choose:=(by simp[xs]);rw[e];exact this
         have hxl:xs.length=len:=(by simp[xs,e1]);refine⟨(xs:List (Den R.T τ)),?_,?_⟩
         .show Rel _ _ _ (.ak .sh (xs.map (aO R τ))) (.slice (some a) len cap);by_cases hcap:0<cap
          .obtain⟨b,o,s⟩:=a;have hs:s=none:=(by have:=hplain hcap;simp only[at_,Addr.mk.injEq] at this;exact this.2.2);subst hs;have key:Rel (uF w) T w (.ak .sh (xs.map (aO R τ))) (.slice (some (at_ b o)) (xs.map (aO R τ)).length cap):=by
            refine .ak .sh _ b o (P.cellsOf e) cap (fun i j=>if hi:i<elems.length then (hel i).choose_spec.choose.getD j undef else undef) (by rw[eU,hxl];exact hlc) (fun i hi=>?_) (fun i j hi hj=>?_) (fun i j hi hj=>?_) trivial;all_goals
             rw[eU] at hi;have hi':i<elems.length:=RS;obtain⟨y1,y2,y3,y4⟩:=hxs i hi hi';have hg:(xs.map (aO R τ)).getD i aJ=aO R τ xs[i]:=by simp[List.getD,hi]
            .rw[hg];exact y3.1.trans y2
            .rw[dif_pos hi'];have hadd:at_ b (o+i*P.cellsOf e+j)=((⟨b,o,none⟩:Addr).add (i*P.cellsOf e)).add j:=(by rw[show (⟨b,o,none⟩:Addr)=at_ b o from rfl,addr_add,addr_add]);have this:=(congrArg w.cell? hadd).trans (y1 j hj);exact⟨this,_,this⟩
            .rw[hg,dif_pos hi'];exact y3.2 j (by rw[y3.1,y2];exact hj)
           rw[eU,hxl] at key;exact key
          .have h0:len=0:=RS;have h0':cap=0:=RS;subst h0;subst h0';have:xs=[]:=lF hxl;rw[this];exact .gD .sh (some a) (fun h=>bU) trivial
         .show mq (xs.map (aO R τ))+1<=_;refine eO (Nat.succ_le_succ ?_) (hb.sl _ _);have asA:∀(l:List (Den R.T τ))(m:List (DataW H×List MemPlace)),l.length=m.length->(∀i (hi:i<l.length) (hi':i<m.length),iQ (aO R τ l[i])<=bk m[i].1)->mq (l.map (aO R τ))<=bs (m.map (·.1)):=by
           intro l;induction l with
           |nil=>intro m _ _;exact qA _|cons x l ihl=>
            intro m hm hle;cases m with
            |nil=>simp at hm|cons y m=>rw[iA,iA,hb.cons];have h0:=hle 0 aB aB;have h1:=ihl m (by simpa using hm) (fun i hi hi'=>hle (i+1) jH (by simpa using hi'));simp only[List.getElem_cons_zero] at h0;show iQ _+mq _<=_;omega
          exact asA xs elems (by rw[hxl,e1]) fun i hi hi'=>(hxs i hi hi').2.2.2
        .cases h
      |_=>simp only[mO,DataW.trod,hk] at h;cases h
     .cases ho
  have ho:=hty;intro t cs d ps τ ht h;cases τ with
  |st n=>
   have ho:=hty t _ ht;simp only[qP] at ho;split at ho
   .rename_i ts hts;rw[aZ] at ho;have hm:=of_decide_eq_true ho.1;obtain⟨ds,h1,h2⟩:=asu hb _ _ _ _ _ _ _ hts h;obtain⟨p,h3,h4⟩:=ahS R hb hR (Q:=Yi enc P w fuel) (T:=T) (fun u c d τ hq hu hl=>by obtain⟨f,q,hf,hq,_⟩:=hq;exact leaf f hf u c d q τ hl hu hq) (R.lf n) ts cs ds (hR.leaf n) hm h1;refine⟨R.to n p,?_,?_⟩
    .show sP _ _ _ (R.enc n (R.to n p)).cells cs;rw[hR.enc,hR.Ml];exact h3
    .show iQ (R.enc n (R.to n p))<=_;rw[hR.enc,hR.Ml];exact eO h4 h2
   .cases ho
  |_=>
   have hl:I4 P t=true:=by
    have ho:=hty t _ ht;simp only[qP] at ho;split at ho
    .rename_i hu;simp[I4,hu]
    .cases ho
   obtain⟨c,rfl⟩:=ahQ hl h;obtain⟨x,h1,h2⟩:=leaf fuel (mF _) t c d ps _ rfl ht h;refine⟨x,?_,h2⟩;rw[asy R _ rfl];exact sP.cons h1 ⟨rfl,fun j hj=>absurd hj (fZ j)⟩
end
end aR
end
section
namespace aR
open Go Go.RowKit Go.ChangeShapes Go.WideShapes
section
variable {P:Program}{w:World}{H:Type}{enc:TypeId×Value->H}{bk:DataW H->Nat}{bs:List (DataW H)->Nat}(R:kE)
theorem ahT (hb:Bulk H bk bs)(hR:rG R){T:Nat->Nat}(hty:∀t τ,R.ty t=some τ->qP R P t τ=true){t:TypeId}{v:Value}{d:DataW H}{ps:List MemPlace}{τ:Ty}(ht:R.ty t=some τ){r:Reach}{base:Nat}(hok:Value.okWide P w r base t v)(h:DataW.Trod enc P w 0 (fun _=>true) true t v d ps):∃x:Den R.T τ,Rel (uF w) T w (aO R τ x) v/\iQ (aO R τ x)<=bk d:=by
 obtain⟨fuel,h⟩:=h;obtain⟨x,h1,h2⟩:=asz R hb hR (T:=T) hty fuel t _ d ps τ ht h;refine⟨x,?_,h2⟩;have ho:=hty t τ ht;have one:∀c,v=c->c.cells= #[c]->(aO R τ x).cells=[aO R τ x]->Rel (uF w) T w (aO R τ x) v:=by intro c hv hc he;subst hv;rw[hc,he] at h1;exact h1.2 0 aB
 cases τ with
 |int k=>
  simp only[qP] at ho;split at ho
  .rename_i k' hu;obtain⟨n,rfl⟩:=okWide_int hu hok;exact one _ rfl rfl rfl
  .cases ho
 |bool=>
  simp only[qP] at ho;split at ho
  .rename_i hu;obtain⟨n,rfl⟩:=okWide_bool hu hok;exact one _ rfl rfl rfl
  .cases ho
 |str=>
  simp only[qP] at ho;split at ho
  .rename_i hu;obtain⟨n,rfl⟩:=okWide_string hu hok;exact one _ rfl rfl rfl
  .cases ho
 |slice τ=>
  simp only[qP] at ho;split at ho
  .rename_i e hu;obtain⟨a,l,c,rfl⟩:=okWide_slice hu hok;exact one _ rfl rfl rfl
  .cases ho
 |st n=>
  simp only[qP] at ho;split at ho
  .rename_i ts hts;rw[aZ] at ho;have hagg:∃cs,v= .agg cs:=by
    have hs:=ho.2;unfold MR at hs;unfold Value.okWide at hok;split at hs
    .rename_i fs hu;rw[hu] at hok;exact⟨_,hok.choose_spec.1⟩
    .rename_i m e hu;rw[hu] at hok;exact⟨_,hok.choose_spec.1⟩
    .cases hs
   obtain⟨cs,rfl⟩:=hagg;have he:aO R (.st n) x= .agg (encs R (R.lf n) (R.of n x)):=hR.enc n x;rw[he] at h1⊢;obtain⟨h3,h4⟩:=h1;have h3':(encs R (R.lf n) (R.of n x)).length=cs.toList.length:=h3;refine .agg _ cs (by simpa using h3') (fun i hi=>?_);have h5:Rel (uF w) T w ((encs R (R.lf n) (R.of n x)).getD i aJ) (cs.toList.getD i undef):=h4 i hi;simpa [mH,yR] using h5
  .cases ho
theorem ahU (hb:Bulk H bk bs)(hR:rG R){T:Nat->Nat}(hty:∀t τ,R.ty t=some τ->qP R P t τ=true){r:Reach}{base:Nat}:∀(l:List Ty)(ts:List TypeId)(vs:List Value)(ds:List (DataW H))(ps:List MemPlace),ts.map R.ty=l.map some->(∀(j:Nat) t v,ts[j]? =some t->vs[j]? =some v->Value.okWide P w r base t v)->DataW.TrodAll enc P w 0 (fun _=>true) true ts vs ds ps->
 ∃p:bB R.T (l.map bR.d),sP (uF w) T w (dw R (l.map bR.d) p) vs/\mq (dw R (l.map bR.d) p)<=bs ds
 | [],ts,vs,ds,ps,hm,hok,h=>by
   have:ts=[]:=by simpa using hm
   subst this;obtain⟨rfl,rfl,rfl⟩:=trodAll_nil h;exact⟨(),⟨rfl,fun j hj=>absurd hj (fZ j)⟩,by rw[hb.nil];exact mF _⟩
 | [τ],ts,vs,ds,ps,hm,hok,h=>by
   cases ts with
   |nil=>simp at hm|cons u ts=>simp only[iA,List.map_nil,rX,List.map_eq_nil_iff] at hm;obtain⟨hu,rfl⟩:=hm;obtain⟨v0,vs0,d0,ds0,p0,q0,rfl,rfl,rfl,h0,r0⟩:=trodAll_cons h;obtain⟨rfl,rfl,rfl⟩:=trodAll_nil r0;obtain⟨x,h3,h4⟩:=ahT R hb hR (T:=T) hty hu (hok 0 u v0 rfl rfl) h0;refine⟨x,sP.cons h3 ⟨rfl,fun j hj=>absurd hj (fZ j)⟩,?_⟩;rw[hb.cons,hb.nil];show iQ (aO R τ x)+0<=_;omega
 |τ::gT::l,ts,vs,ds,ps,hm,hok,h=>by
  cases ts with
  |nil=>simp at hm|cons u ts=>
   rw[iA,iA] at hm;injection hm with hu hm
   obtain⟨v0,vs0,d0,ds0,p0,q0,rfl,rfl,rfl,h0,r0⟩:=trodAll_cons h;obtain⟨x,h3,h4⟩:=ahT R hb hR (T:=T) hty hu (hok 0 u v0 rfl rfl) h0;obtain⟨p,h5,h6⟩:=ahU hb hR hty (gT::l) ts vs0 ds0 q0 hm (fun j t v h1 h2=>hok (j+1) t v h1 h2) r0;refine⟨(x,p),sP.cons h3 h5,?_⟩;rw[hb.cons];show iQ (aO R τ x)+mq (dw R ((gT::l).map bR.d) p)<=_;omega
theorem asB {K:bq}{T:Nat->Nat}{vs:List V}{args:Array Value}(h:sP K T w vs args.toList):RelA K T w vs args:=by refine⟨by simpa using h.1,fun i hi=>?_⟩;have:=h.2 i hi;simpa [mH,yR] using this
end
section
variable {P:Program}{H:Type}{enc:TypeId×Value->H}
theorem ahV {Fp:TypeId->Prop}(K:Kids P Fp)(hsz:∀{t e:TypeId},Fp t->P.underlying t=some (.slice e)->0<P.cellsOf e){W W':World}(hbel:Below W.heap.size W W'){sp:Nat->Bool}:
 ∀{ts:List TypeId}{vs:List Value}{ds:List (DataW H)}{ps:List MemPlace},(∀t∈ts,Fp t)->DataW.TrodAll enc P W 0 (fun _=>true) true ts vs ds ps->(∀p∈ps,p.block<W.heap.size)->(∀p∈ps,sp p.block=true)->DataW.TrodAll enc P W' 0 sp true ts vs ds ps
 | [],[],[],_,_,h,_,_=>h|_::_,_::_,_::_,_,hT,⟨p,q,⟨n,h1⟩,h2,e⟩,hlt,hs=>by subst e;refine⟨p,q,⟨n,?_⟩,ahV K hsz hbel (fun t ht=>hT t (jX _ ht)) h2 (fun x hx=>hlt x (BJ _ hx)) (fun x hx=>hs x (BJ _ hx)),rfl⟩;exact DataW.trod_stays K hsz (fun h=>bU) (hT _ aB) h1 (fun x hx=>hbel.same (hlt x (Ef _ hx))) (fun x hx=>hs x (Ef _ hx))
 | [],_::_,_,_,_,h,_,_=>h.elim| [],[],_::_,_,_,h,_,_=>h.elim|_::_,[],_,_,_,h,_,_=>h.elim|_::_,_::_,[],_,_,h,_,_=>h.elim
theorem asC {f:Func}{s:ChangeSpec}{apart fresh handsOn again:Bool}{W W':World}{args:Array Value}{v:Value}{ds gs:List (DataW H)}{before pa pv:List MemPlace}(hW:DataW.Whole enc P f.params.toList s.vars apart W args.toList ds gs before)(hres:∀(b:Nat) (sp:Nat->Bool) (hd:Bool),DataW.TrodAll enc P W' b sp hd f.resultTypes.toList (v.resultList f.resultTypes.size) (s.fn H (ds++gs)).results [])(hargs:∀sp:Nat->Bool,(∀p∈before,sp p.block=true)->DataW.TrodAll enc P W' 0 sp true f.params.toList args.toList (s.fn H (ds++gs)).args pa)(hvars:∀sp:Nat->Bool,(∀p∈before,sp p.block=true)->DataW.TrodVars enc P W' sp s.vars (s.fn H (ds++gs)).vars pv)(hps:before=pa++pv)(hbel:Below W.heap.size W W')(hok:∀(j:Nat) (t:TypeId) (r:Value),f.resultTypes[j]? =some t->(v.resultList f.resultTypes.size)[j]? =some r->Value.okWide P W' .any 0 t r):
 s.post enc P f apart fresh handsOn again W args v W':=by
 have hlt:∀p∈before,p.block<W.heap.size:=hW.lt;have hold:∀p∈before,(fun b=>decide (b<W.heap.size)) p.block=true:=fun p hp=>by simpa using hlt p hp
 refine⟨ds,gs,before,[],pa,pv,hW,hres _ _ _,hargs _ hold,hvars _ hold,World.keptBut_mono (fun p hp=>⟨hp,?_⟩) (hbel.frame (· ∈before)),fun _=>?_⟩
 .rw[hps,qB] at hp;exact Or.inr hp
 .obtain⟨_,_,_,_,_,hz,hn⟩:=hW;refine⟨hok,_,_,([]++pa)++pv,⟨[]++pa,pv,trodAll_append (hargs _ (fun _ _=>rfl)) (hres _ _ _),hvars _ (fun _ _=>rfl),rfl,?_,?_⟩,?_⟩
  .intro b off hp;have hp':MemPlace.cell b off∈before:=by rw[hps];simpa using hp
   rw[hbel.frozen (p:=⟨b,off,none⟩) (hlt _ hp')];exact hz b off hp'
  .intro ha;have:=hn ha;rw[hps] at this;simpa using this
  .intro p hp _;rw[hps];simpa using hp
end
theorem asD {E:Env}{R:kE}{H:Type}{enc:TypeId×Value->H}{bk:DataW H->Nat}{bs:List (DataW H)->Nat}(hb:Bulk H bk bs)(hR:rG R)(hty:∀t τ,R.ty t=some τ->qP R E.P t τ=true){Fp:TypeId->Prop}(K:Kids E.P Fp)(hsz:∀{t e:TypeId},Fp t->E.P.underlying t=some (.slice e)->0<E.P.cellsOf e){f:FuncId}{fn:Func}{s:ChangeSpec}{apart fresh handsOn again:Bool}{W:World}{base:Nat}{args:Array Value}{ds gs:List (DataW H)}{before:List MemPlace}{l:List Ty}(hl:fn.params.toList.map R.ty=l.map some)(hT:∀t∈fn.params.toList,Fp t)(hvars:s.vars=[])(hspec:s.fn H ds={results:=[.lit (.bool true)],args:=ds}){tb:TypeId}(hres:fn.resultTypes= #[tb])(Yk:E.P.underlying tb=some .bool)(hval:∀(j:Nat) t v,fn.params[j]? =some t->args[j]? =some v->Value.okWide E.P W .any base t v)(hW:DataW.Whole enc E.P fn.params.toList s.vars apart W args.toList ds gs before)(asE:∀g cs,E.glob g=some cs->Rel (uF W) (fun _=>0) W (.aX cs 0) (.pointer (some (at_ g 0))))(asF:∀p:bB R.T (l.map bR.d),mq (dw R (l.map bR.d) p)<=bs ds->tX E f (dw R (l.map bR.d) p) (.bool true)):
 Calls E.P f args W fun e W'=>∃v,e= .returned v/\s.post enc E.P fn apart fresh handsOn again W args v W':=by
 have hW':=hW;obtain⟨p,q,hA,hV,hpq,_,_⟩:=hW;rw[hvars] at hV;obtain⟨rfl,rfl⟩:=trodVars_none hV;rw[iV] at hpq;subst hpq;obtain⟨x,h1,h2⟩:=ahU R hb hR (T:=fun _=>0) hty (r:=.any) (base:=base) l fn.params.toList args.toList ds _ hl (fun j t v h1 h2=>hval j t v Bz rV) hA;obtain⟨_,hcall⟩:=asF x h2;have hc:=callsIn_wide.1 (hcall (allI W) _ W args ⟨fun b o h=>h,fun b h=>h,asE⟩ (asB h1));refine hc.mono fun e W' he=>?_;cases e with
 |returned c=>
  obtain⟨hbel,hrel⟩:=he;cases hrel;have hlt:∀p∈before,p.block<W.heap.size:=hW'.lt;refine⟨_,rfl,asC (pa:=before) (pv:=[]) hW' (fun b sp hd=>?_) (fun sp hs=>?_) (fun sp hs=>?_) aB hbel ?_⟩
  .rw[iV,hspec,hres];exact trodAll_mk1 ⟨1,by simp[DataW.trod,Yk,Value.cells]⟩
  .rw[iV,hspec];exact ahV K hsz hbel hT hA hlt hs
  .rw[iV,hspec,hvars];exact rfl
  .exact ok_one hres rfl (by unfold Value.okWide;rw[Yk];simp[Cell.okWide,Cell.ok,Yk])
 |panicked ch=>exact he.elim|outgrown=>exact he.elim
end aR
end
