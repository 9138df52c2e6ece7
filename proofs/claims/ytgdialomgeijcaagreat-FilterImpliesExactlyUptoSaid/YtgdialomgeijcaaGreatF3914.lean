import Derived.RecoverIn
import Derived.Test.YtgdialomgeijcaaGreatF3913
set_option linter.all false
section
namespace Aq
open Go Go.RowKit
section
variable (E:Env)
def VL (S:R7)(Q:Vg)(ops:List Oper)(base:Nat):List Nat->Fr->qd->Option (V×Fr×qd)
 | [],_,_=>none|i::l,fr,Y=>
  match (ops[i]?).bind fun o=>(Sn ops fr o).bind fun t=>if t=true then VK E S Q fr Y o else none with
  |some (v,Y)=>some (v,fr,Y)|none=>(Tf E S ops base i fr Y).bind fun (fr,Y)=>VL S Q ops base l fr Y
def XQ (S0:R7)(co:Code->Fr->qd->Option (Ex×Fr×qd)):Code->Fr->qd->Option (Code×Fr×qd×Nat×List V)
 |.seq a b,fr,Y=>match a with
  |.region _ ops false=>match nT ops.toList with
   |some (k,o,c)=>if o.dst=none/\o.guard=none then (opsL E S0 ops.toList Y.next (List.range k) fr {Y with next:=Y.next+ops.size}).bind fun (fr,Y)=>(sS E fr c).map fun q=>(b,fr,Y,q)else none
   |none=>(co a fr Y).bind fun (e,fr,Y)=>match e with
    |.normal=>XQ S0 co b fr Y|_=>none
  |a=>(co a fr Y).bind fun (e,fr,Y)=>match e with
   |.normal=>XQ S0 co b fr Y|_=>none
 |_,_,_=>none
def aaW (S:R7)(b:Code)(fr:Fr)(Y:qd):Option (Option V×Fr×qd):=
 (S.code b fr Y).bind fun (e,fr,Y)=>match e with
 |.exit _=>none|_=>some (none,fr,Y)
def acy (S0 S:R7)(Q:Vg)(b:Code)(fr:Fr)(Y:qd):Option (Option V×Fr×qd):=
 match b with
 |.seq (.region _ ops false) _=>match VL E S0 Q ops.toList Y.next (List.range ops.size) fr {Y with next:=Y.next+ops.toList.length} with
  |some (v,fr,Y)=>some (some v,fr,Y)|none=>aaW S b fr Y
 |_=>aaW S b fr Y
def isRec (o:Oper):Bool:=match o.op,o.guard with
 |.call c,none=>match c.callee with
  |.builtin .recover=>true|_=>false
 |_,_=>false
def acz (S:R7)(g:FuncId)(U7:List V)(d:Nat)(pv:Option V)(Y:qd):Option qd:=
 (E.P.funcs[g]?).bind fun fn=>fn.body.bind fun c=>match c with
 |.seq (.region id ops false) rest=>match ops.toList with
  | [o]=>if isRec o=true/\U7.length<=fn.ntmps/\aK fn.ntmps (.seq (.region id ops false) rest)/\bq (.seq (.region id ops false) rest)=true then (S.code rest (({d:=d,om:=E.om g,tm:=fun i=>U7.getD i FN}:Fr).put o.dst (pv.getD .Sy)) Y).bind fun (e,fr,Y)=>match e with
      |.exit _=>none|_=>(fn.results.toList.mapM (TJ E fr Y)).map fun _=>Y else none
  |_=>none
 |_=>none
def aaX (S0 S:R7)(Q:Vg)(f:FuncId)(args:List V)(d:Nat)(Y:qd):Option (V×qd):=
 (E.P.funcs[f]?).bind fun fn=>fn.body.bind fun c=>
 if args.length<=fn.ntmps/\aK fn.ntmps c/\bq c=true then (XQ E S0 S.code c {d:=d,om:=E.om f,tm:=fun i=>args.getD i FN} Y).bind fun (b,fr,Y,g,U7)=>(acy E S0 S Q b fr Y).bind fun (pv,fr,Y)=>(acz E S g U7 (d+1) pv Y).bind fun Y=>(fn.results.toList.mapM (TJ E fr Y)).map fun vs=>(rv1 vs,Y)else none
end
section
variable {E:Env}{S:R7}{Q:Vg}{K K':Ra}{w w':World}{Y Y' Y1:qd}{B0:Nat}{fr fr':Fr}{a:Act}{n:Nat}{ds:iF}{v:V}
theorem EK (hS:Sound E S)(hQ:fq E Q)(ops:List Oper)(base:Nat):∀(l:List Nat)(fr:Fr)(Y:qd),VL E S Q ops base l fr Y=some (v,fr',Y')->Y.next<=Y'.next:=by
 intro l;induction l with
 |nil=>intro fr Y h;cases h|cons i l ih=>
  intro fr Y h;unfold VL at h;split at h
  .rename_i r hr;cases h;simp only[iP] at hr;obtain⟨o,_,t,_,hr⟩:=hr;split at hr
   .exact EH hS.code hQ hr
   .cases hr
  .simp only[iP] at h;obtain⟨⟨Rb,Y1⟩,hst,h⟩:=h;have h1:opsL E S ops base [i] fr Y=some (Rb,Y1):=by simp[opsL,hst]
   exact PD (j6 hS _ _ _ _ _ h1) (ih _ _ h)
theorem Oz (hE:TR E)(hS:Sound E S)(hQ:fq E Q)(ops:Array Oper)(base:Nat)(hops:gN n ops.toList=true)(ro:Option Nat):
 ∀(l:List Nat)(fr:Fr)(Y:qd)(K:Ra)(w:World)(a:Act),VL E S Q ops.toList base l fr Y=some (v,fr',Y')->l.Nodup->(∀i∈l,i<ops.size)->St E B0 Y K w fr a n ds->base+ops.size<=Y.next->(∀i∈l,¬K.A (base+i))->
  dY (FW ro) E.P ops l (fun ch a' w'=>∃K':Ra,(∃c,ch=[{v:=c,recovered:=false}]/\Rel K' Y'.top w' v c)/\(∀s,K'.A s->s<Y'.next)/\Step E B0 (fun s=>(base<=s/\s<base+ops.size)\/newer Y Y' s) Y K w Y' K' w'/\(bH K' Y'.top w' fr' a'.tmps/\a'.tmps.size=n)/\
   ∃bs:List Nat,a'.defers=bs.map mark++ds.l/\bs.Nodup/\(∀b∈bs,K'.D b/\ds.B<=b)/\(ds.nm=true->bs=[])) a w:=by
 intro l;induction l with
 |nil=>intro fr Y K w a hl;cases hl|cons i l ih=>
  intro fr Y K w a hl hnd hlt hs hbase iH;have hil:i∉l:=(Qf.1 hnd).1;have hi:i<ops.size:=hlt i (by simp);have hoi:ops[i]? =some ops[i]:=by simp[hi]
  have lG:ops.toList[i]? =some ops[i]:=by simpa using hoi
  have hdst:∀t,ops[i].dst=some t->t<n:=by intro t ht;simp only[gN,P7] at hops;have:=hops ops[i] (by simp);rw[ht] at this;simpa using this
  unfold VL at hl;split at hl
  .rename_i r hr;cases hl;simp only[iP] at hr;obtain⟨o,ho,t,hwv,hr⟩:=hr;rw[lG] at ho;cases ho;split at hr
   .rename_i ht;have hw:=mU hs.fr ops ops[i] (by rw[hs.sz];exact hops) hwv;rw[ht] at hw;refine dY.panic hoi hw (EI hE hS hQ hs hr ro) ?_;rintro x a' w' ⟨ch,K',rfl,rfl,c,g1,g2,g3,g4⟩;obtain⟨bs,d1,d2,d3,d4⟩:=hs.df;exact⟨ch,rfl,K',⟨c,g1,g2⟩,g3,g4.mono (fun _ h=>.inr h),⟨hs.fr.ext g4.ext,hs.sz⟩,bs,d1,d2,fun b hb=>⟨g4.D b (d3 b hb).1,(d3 b hb).2⟩,d4⟩
   .cases hr
  .simp only[iP] at hl;obtain⟨⟨Rb,Y1⟩,hstep,hl⟩:=hl;simp only[Tf,lG,iP] at hstep;obtain⟨t,hwv,hstep⟩:=hstep;have hw:=mU hs.fr ops ops[i] (by rw[hs.sz];exact hops) hwv;split at hstep
   .rename_i hwt;simp only[Py,iR] at hstep;obtain⟨⟨v1,RX,Y2⟩,hop,rfl,rfl⟩:=hstep;obtain⟨rfl,hnx,hwp⟩:=vk hE hS hs (iH i (by simp)) hop;dsimp only at hl;rw[hwt] at hw;have hA1:∀{K1:Ra}{w1:World},Step E B0 (fun s=>s=base+i\/newer Y Y2 s) Y K w Y2 K1 w1->(∀s,K1.A s->s<Y2.next)/\∀j∈l,¬K1.A (base+j):=by
     intro K1 w1 st;refine⟨fun s hsA=>?_,fun j hj oQ=>?_⟩
     .rcases st.A s hsA with h1|h1|h1
      .have:=hs.st s h1;omega
      .omega
      .exact h1.2
     .have hji:j≠i:=fun e=>hil (e▸hj);rcases st.A _ oQ with h1|h1|h1
      .exact iH j (by simp[hj]) h1
      .omega
      .have:=hlt j (by simp[hj]);have:=h1.1;omega
    refine dY.op hoi hw (hwp _ _ ro (fun c w1 K1 hr st=>?_));obtain⟨hA2,hA3⟩:=hA1 st;have hs1:St E B0 Y2 K1 w1 (RX.put ops[i].dst v1) (a.put ops[i].dst c) n ds:=hs.put st hr hdst hA2;intro b k cs h1 h2 h3;obtain⟨ch,a',w',td,⟨K',q1,q2,q3,q4⟩,nc,L6⟩:=ih _ _ K1 w1 _ hl (Qf.1 hnd).2 (fun j hj=>hlt j (by simp[hj])) hs1 (by omega) hA3 b k cs h1 h2 h3;refine⟨ch,a',w',td,⟨K',q1,q2,?_,q4⟩,nc,L6⟩;refine(st.mono ?_).trans (q3.mono ?_)
    .intro s h1;rcases h1 with h1|h1
     .exact .inl ⟨by omega,by omega⟩
     .exact .inr ⟨h1.1,PV h1.2 (EK hS hQ _ _ _ _ _ hl)⟩
    .intro s h1;rcases h1 with h1|h1
     .exact .inl h1
     .exact .inr ⟨PD hnx h1.1,h1.2⟩
   .rename_i hwt;simp only[iE,iR] at hstep;obtain⟨rfl,rfl⟩:=hstep;have hs1:St E B0 Y K w (fr.put ops[i].dst FN) (a.put ops[i].dst undef) n ds:=hs.put (new:=fun _=>False) (.refl hs.ok) (.undef _ _ _) hdst hs.st;have hwf:t=false:=(by simpa using hwt);rw[hwf] at hw;exact dY.skip hoi hw (fun _ _=>trivial) (ih _ _ K w _ hl (Qf.1 hnd).2 (fun j hj=>hlt j (by simp[hj])) hs1 hbase (fun j hj=>iH j (by simp[hj])))
theorem EL (hE:TR E)(hS:Sound E S)(hQ:fq E Q){id:Nat}{ops:Array Oper}(h:VL E S Q ops.toList Y.next (List.range ops.size) fr {Y with next:=Y.next+ops.toList.length}=some (v,fr',Y')):
 Y.next<=Y'.next/\∀B0 K w a n ds,St E B0 Y K w fr a n ds->aK n (.region id ops false)=true->bS (FW none) E.P (.region id ops false) (fun ch a' w'=>∃K',l7 E B0 Y K w v Y' K' ch w'/\(bH K' Y'.top w' fr' a'.tmps/\a'.tmps.size=n)/\
   ∃bs:List Nat,a'.defers=bs.map mark++ds.l/\bs.Nodup/\(∀b∈bs,K'.D b/\ds.B<=b)/\(ds.nm=true->bs=[])) a w:=by
 have hnx:=EK hS hQ _ _ _ _ _ h;simp only at hnx;refine⟨PD (PN _ _) hnx,fun B0 K w a n ds hs hok=>bS.region ?_⟩;have hs1:St E B0 {Y with next:=Y.next+ops.toList.length} K w fr a n ds:=⟨lF hs.ok _,hs.hB,hs.fr,hs.sz,hs.df,fun s hsA=>PV (hs.st s hsA) (PN _ _),hs.hD⟩;intro b k cs h1 h2 h3;obtain⟨ch,a',w',td,⟨K',⟨c,q1,q2⟩,q3,q4,q5⟩,nc,L6⟩:=Oz (n:=n) hE hS hQ ops Y.next hok none (List.range ops.size) fr _ K w a h List.nodup_range (fun i hi=>by simpa using hi) hs1 (by simp) (fun i _ hA=>by have:=hs.st _ hA;omega) b k cs h1 h2 h3;refine⟨ch,a',w',td,⟨K',⟨c,q1,q2,q3,?_⟩,q5⟩,nc,L6⟩;have g0:Step E B0 (newer Y Y') Y K w {Y with next:=Y.next+ops.toList.length} K w:=⟨lF hs.ok _,.refl _ _ _,.refl _ _,fun _ h=>h,fun _ h=>.inl h,fun _ _ h=>.inl h,fun _ h=>.inl h⟩;refine g0.trans (q4.mono (fun s hs'=>?_));rcases hs' with hs'|hs'
 .exact⟨hs'.1,by simp only[Array.length_toList] at hnx;omega⟩
 .have h4:Y.next+ops.toList.length<=s:=hs'.1;exact⟨by omega,hs'.2⟩
theorem OA {m:Nat}(hE:TR E)(hS:Sound E (Rh E m))(hS1:iY E (Rh E (m+1)).code){n B:Nat}:∀(c:Code)(fr:Fr)(Y:qd)(b:Code)(Rb:Fr)(Y1:qd)(g:Nat)(U7:List V),XQ E (Rh E m) (Rh E (m+1)).code c fr Y=some (b,Rb,Y1,g,U7)->bq c=true->aK n c=true->
 Y.next<=Y1.next/\bq b=true/\aK n b=true/\∀(X:Code->Act->World->Prop),(∀x y a w,x.wpIn (FW none) 0 E.P (fun e a' w'=>e= .normal/\X y a' w') a w->X (.seq x y) a w)->
   ∀B0 K w a,St E B0 Y K w fr a n ⟨[],B,true⟩->(∀K1 w1 a1 (dd:Deferred) (cap:Array Value),dd.target= .fn (.func g) cap->RelA K1 Y1.top w1 U7 (dd.args++cap)->St E B0 Y1 K1 w1 Rb a1 n ⟨[dd],B,true⟩->Step E B0 (newer Y Y1) Y K w Y1 K1 w1->X b a1 w1)->X c a w:=by
 intro c;induction c with
 |seq x y iK ihy=>
  clear iK;intro fr Y b Rb Y1 g U7 h hnr hok;have qm:bq x=true/\bq y=true:=by simpa [bq] using hnr
  have hok':aK n x=true/\aK n y=true:=by simpa [aK] using hok
  have go:((Rh E (m+1)).code x fr Y).bind (fun (e,fr,Y)=>match e with
   |.normal=>XQ E (Rh E m) (Rh E (m+1)).code y fr Y|_=>none)=some (b,Rb,Y1,g,U7)->Y.next<=Y1.next/\bq b=true/\aK n b=true/\∀(X:Code->Act->World->Prop),(∀x y a w,x.wpIn (FW none) 0 E.P (fun e a' w'=>e= .normal/\X y a' w') a w->X (.seq x y) a w)->
   ∀B0 K w a,St E B0 Y K w fr a n ⟨[],B,true⟩->(∀K1 w1 a1 (dd:Deferred) (cap:Array Value),dd.target= .fn (.func g) cap->RelA K1 Y1.top w1 U7 (dd.args++cap)->St E B0 Y1 K1 w1 Rb a1 n ⟨[dd],B,true⟩->Step E B0 (newer Y Y1) Y K w Y1 K1 w1->X b a1 w1)->X (.seq x y) a w:=by
   intro h;obtain⟨⟨e1,RX,Y2⟩,h1,h2⟩:=iP.1 h;obtain⟨hle,hwp⟩:=hS1 _ _ _ _ _ _ h1;cases e1 with
   |normal=>obtain⟨hle2,g1,g2,g3⟩:=ihy RX Y2 b Rb Y1 g U7 h2 qm.2 hok'.2;refine⟨PD hle hle2,g1,g2,fun X hX B0 K w a' hs hend=>hX _ _ _ _ (wpIn_mono (hwp none B0 K w a' n _ hs hok'.1 (.inr qm.1)) ?_)⟩;rintro ex a1 w1 ⟨hx,K1,hs1,st1⟩;cases ex<;>simp only[bX] at hx;exact⟨rfl,g3 X hX B0 K1 w1 a1 hs1 (fun K2 w2 a2 dd cap q1 q2 q3 q4=>hend K2 w2 a2 dd cap q1 q2 q3 (st1.widen q4 hle hle2))⟩
   |exit i=>cases h2|ret=>cases h2
  unfold XQ at h;split at h
  .rename_i ops;split at h
   .rename_i k o c hld;obtain⟨hk,hko,hoc⟩:=NY hld;split at h
    .rename_i hdg;obtain⟨hdst,hgd⟩:=hdg;obtain⟨⟨RX,Y2⟩,h1,h⟩:=iP.1 h;simp only[Py,iR] at h;obtain⟨q1,hq1,rfl,rfl,rfl,hq⟩:=h;have hle1:=j6 hS _ _ _ _ _ h1;have hsz:ops.size=k+1:=(by rw[<-Array.length_toList];exact hk);refine⟨PD (PN _ _) hle1,qm.2,hok'.2,fun X hX B0 K w a' hs hend=>hX _ _ _ _ (wpIn_region ?_)⟩;rw[hsz,List.range_succ];refine nU _ _ _ ?_;have hs':St E B0 {Y with next:=Y.next+ops.size} K w fr a' n ⟨[],B,true⟩:=⟨lF hs.ok _,hs.hB,hs.fr,hs.sz,hs.df,fun s h=>PV (hs.st s h) (PN _ _),hs.hD⟩;have qo:gN n ops.toList=true:=hok'.1;refine vv hE hS ops Y.next qo none _ (List.range k) fr _ K w a' h1 List.nodup_range (fun i hi=>by have:=List.mem_range.1 hi;omega) hs' (mF _) (fun i hi hA=>by have:=hs.st _ hA;omega) ?_;intro a1 K1 w1 hs1 st1;show wpOpsIn (FW none) 0 E.P ops _ [k] a1 w1;have OB:ops[k]? =some o:=(by simpa using hko);unfold wpOpsIn;simp only[OB];have hw:Region.wanted o (yielded ops a1.tmps)=true:=mU hs1.fr ops o (by rw[hs1.sz];exact qo) (by unfold Sn;rw[hgd]);rw[if_pos hw];refine⟨fun _ _=>trivial,?_⟩;unfold sS at hq1;split at hq1
     .rename_i f bD;split at hq1
      .rename_i g0 xs ys jc;simp only[iE] at hq1;subst hq1;simp only[iR] at hq;obtain⟨rfl,rfl⟩:=hq;have hrel:=fV hs1.ok hs1.fr f;rw[jc] at hrel;generalize hcf:a1.eval f=cf at hrel;cases hrel with
       |fn _ _ _ av bv ha hb lu lC=>
       have hargs:=jY hs1.ok hs1.fr c.args;have hex:((o.semAt (FW none).round a1.eval).run E.P w1)= .ok (.defer ⟨.fn (.func g0) bv,av++c.args.map a1.eval⟩) w1:=(by show (execOp a1.eval o).run E.P w1=_;unfold execOp;simp only[hoc];unfold resolve;simp only[bD,hcf,Deferred.ofValue,Sem.run_bind,Sem.run_pure,Result.andThen_ok]);rw[hex,Oper.uponIn_defer,hdst];show wpOpsIn (FW none) 0 E.P ops _ [] _ w1;unfold wpOpsIn;obtain⟨bs,d1,_,_,d4⟩:=hs1.df;have hd0:a1.defers=[]:=(by rw[d1,d4 rfl];rfl);have hst:St E B0 Y2 K1 w1 RX {a1 with defers:=⟨.fn (.func g0) bv,av++c.args.map a1.eval⟩::a1.defers} n ⟨[⟨.fn (.func g0) bv,av++c.args.map a1.eval⟩],B,true⟩:=
        ⟨hs1.ok,hs1.hB,hs1.fr,hs1.sz,⟨[],by rw[hd0];rfl,List.nodup_nil,(fun b hb=>by cases hb),fun _=>rfl⟩,hs1.st,hs1.hD⟩
       refine⟨rfl,hend K1 w1 _ _ bv rfl (j4 (j4 ⟨ha,lu⟩ hargs) ⟨hb,lC⟩) hst ?_⟩;have sa':Step E B0 (newer Y Y2) {Y with next:=Y.next+ops.size} K w Y2 K1 w1:=st1.mono (fun s h=>by
        have h0:Y.next+ops.size<=Y2.next:=hle1;rcases h with h|h
        .exact⟨h.1,by omega⟩
        .exact⟨PD (PN _ _) h.1,h.2⟩)
       exact⟨sa'.ok,sa'.ext,sa'.below,sa'.D,sa'.A,sa'.nI,sa'.fU⟩
      .cases hq1
     .cases hq1
    .cases h
   .exact go h
  .exact go h
 |_=>intro fr Y b Rb Y1 g U7 h hnr hok;simp[XQ] at h
def EN (K:Ra)(T:Nat->Nat)(w:World)(pv:Option V)(u:FrameMode):Prop:=match pv with
 |none=>u= .returning|some v=>∃c,u= .panicking [{v:=c,recovered:=false}]/\Rel K T w v c
theorem OC {Y2:qd}(hS1:iY E S.code){g:FuncId}{U7:List V}{d:Nat}{pv:Option V}(h:acz E S g U7 d pv Y=some Y2):Z9 E g/\Y.next<=Y2.next/\∀B0 K w args u,au E B0 Y K w->B0<=w.heap.size->(∀s,K.A s->s<Y.next)->RelA K Y.top w U7 args->
 EN K Y.top w pv u->
 CallsDIn Fence.wide 0 E.P g args u w (fun e u' w'=>(∃cv,e= .returned cv)/\settle u'= .returning/\∃K2,au E B0 Y2 K2 w'/\(∀s,K2.A s->s<Y2.next)/\Step E B0 (newer Y Y2) Y K w Y2 K2 w'):=by
 simp only[acz,iP] at h;obtain⟨fn,hfn,c,hc,h⟩:=h;split at h
 .rename_i id ops rest;split at h
  .rename_i o hops;split at h
   .rename_i hok;obtain⟨hrec,hlen,ql,hnr⟩:=hok;obtain⟨⟨e,Rb,Y3⟩,hcode,h⟩:=iP.1 h;have hne:e= .normal\/e= .ret:=by
     cases e with
     |normal=>exact .inl rfl|ret=>exact .inr rfl|exit i=>cases h
    have h':(fn.results.toList.mapM (TJ E Rb Y3)).map (fun _=>Y3)=some Y2:=(by rcases hne with rfl|rfl<;>exact h);simp only[Py] at h';obtain⟨vs,hvs,rfl⟩:=h';obtain⟨hle,hwp⟩:=hS1 _ _ _ _ _ _ hcode;have qm:bq rest=true:=(by simpa [bq] using hnr);have hok':aK fn.ntmps (.region id ops false)=true/\aK fn.ntmps rest=true:=(by simpa [aK] using ql);refine⟨⟨fn,_,hfn,hc⟩,hle,fun B0 K w args u hs hB hA hr hu=>callsDIn_of_wpSIn hfn hc trivial (fun c₀ cs hm=>wpSIn_seq (wpSIn_region ?_))⟩;have hst:=yI (E:=E) (f:=g) (d:=d) (fn:=fn) hs hB hA hr hlen;have OD:ops= #[o]:=(by rw[<-Array.toArray_toList (xs:=ops),hops]);have qo:gN fn.ntmps ops.toList=true:=hok'.1;have hdst:∀t,o.dst=some t->t<fn.ntmps:=(by intro t ht;simp only[gN,hops,List.all_cons,ht] at qo;simpa using qo);have hgd:o.guard=none:=by
     unfold isRec at hrec;split at hrec
     .assumption
     .cases hrec
    have hex:∀a:Act,(execOp a.eval o).run E.P w= .ok .recover w:=by
     intro a;unfold isRec at hrec;split at hrec
     .rename_i c0 hop _;split at hrec
      .rename_i bD;unfold execOp;simp only[hop];unfold resolve;simp only[bD];rfl
      .cases hrec
     .cases hrec
    have fin:∀(cv:Value)(u':FrameMode),Rel K Y.top w (pv.getD .Sy) cv->settle u'= .returning->rest.wpSIn Fence.wide 0 E.P (bodyPostS E.P fn c₀ cs (fun e u' w'=>(∃cv,e= .returned cv)/\settle u'= .returning/\∃K2,au E B0 Y3 K2 w'/\(∀s,K2.A s->s<Y3.next)/\Step E B0 (newer Y Y3) Y K w Y3 K2 w'))
     (({tmps:=args++Array.replicate (fn.ntmps-args.size) undef,defers:=[]}:Act).put o.dst cv) ({c₀ with mode:=u'}::cs) w:=by
     intro cv u' hcv hset;have hs1:=hst.put (new:=fun _=>False) (.refl hs) hcv hdst hA;refine wpSIn_of_wpIn rfl (wpIn_mono (hwp none B0 K w _ fn.ntmps ⟨[],w.heap.size,true⟩ hs1 hok'.2 (.inr qm)) ?_);rintro x a' w' ⟨hx,K2,hs2,st2⟩;obtain⟨bs,d1,_,_,d4⟩:=hs2.df;have hd:a'.defers=[]:=(by rw[d1,d4 rfl];rfl);obtain⟨sU,r1,r2⟩:=yH hs2.ok hs2.fr hvs;have good:a'.defers=[]/\∃u'',({c₀ with mode:=u'}::cs:List Frame)={c₀ with mode:=u''}::cs/\∃v,(results fn a'.tmps).run E.P w'= .ok v w'/\((∃cv,Ending.returned v= .returned cv)/\settle u''= .returning/\∃K2,au E B0 Y3 K2 w'/\(∀s,K2.A s->s<Y3.next)/\Step E B0 (newer Y Y3) Y K w Y3 K2 w'):=
      ⟨hd,u',rfl,sU,r1,⟨sU,rfl⟩,hset,K2,hs2.ok,hs2.st,st2⟩
     rcases hne with rfl|rfl<;>cases x<;>simp only[bX] at hx<;>exact good
    subst OD;show wpOpsSIn Fence.wide 0 E.P #[o] _ [0] _ (c₀::cs) w;have ho0:(#[o]:Array Oper)[0]? =some o:=rfl;have hw:∀f,Region.wanted o f=true:=fun f=>by unfold Region.wanted;rw[hgd]
    unfold wpOpsSIn;simp only[ho0,hw,if_true,hex];refine⟨fun _ _=>trivial,?_⟩;cases pv with
    |none=>have hu':u= .returning:=hu;have hmode:c₀.mode= .returning:=hm.trans hu';have hrd:recoverD (c₀::cs)=none:=(by simp only[recoverD,hmode]);rw[hrd];unfold wpOpsSIn;have hc0:({c₀ with mode:=.returning}:Frame)=c₀:=(by cases c₀;simp_all);have:=fin .nilIface .returning .Sy rfl;rw[hc0] at this;exact this
    |some v0=>obtain⟨cv,hu',hcv⟩:=hu;have hmode:c₀.mode= .panicking [{v:=cv,recovered:=false}]:=hm.trans hu';have hrd:recoverD (c₀::cs)=some (cv,{c₀ with mode:=.panicking [{v:=cv,recovered:=true}]}::cs):=(by simp only[recoverD,hmode]);rw[hrd];unfold wpOpsSIn;exact fin cv _ hcv rfl
   .cases h
  .cases h
 .cases h
end
section
variable {E:Env}{S:R7}{Q:Vg}{K K':Ra}{w w':World}{Y Y' Y1:qd}{B0:Nat}{fr fr':Fr}{a:Act}{n:Nat}{ds:iF}{v:V}
theorem EO {b:Code}{pv:Option V}(h:aaW S b fr Y=some (pv,fr',Y')):pv=none/\∃e,(e= .normal\/e= .ret)/\S.code b fr Y=some (e,fr',Y'):=by
 obtain⟨⟨e,Rb,Y1⟩,h1,h2⟩:=iP.1 h;cases e with
 |exit i=>cases h2|normal=>cases h2;exact⟨rfl,_,.inl rfl,h1⟩|ret=>cases h2;exact⟨rfl,_,.inr rfl,h1⟩
theorem EP {S0:R7}{b:Code}{pv:Option V}(h:acy E S0 S Q b fr Y=some (pv,fr',Y')):
 aaW S b fr Y=some (pv,fr',Y')\/∃id ops y v,b= .seq (.region id ops false) y/\pv=some v/\VL E S0 Q ops.toList Y.next (List.range ops.size) fr {Y with next:=Y.next+ops.toList.length}=some (v,fr',Y'):=by
 unfold acy at h;split at h
 .rename_i id ops y;split at h
  .rename_i v Rb Y1 h1;cases h;exact .inr ⟨id,ops,y,v,rfl,rfl,h1⟩
  .exact .inl h
 .exact .inl h
theorem ado {m:Nat}(hE:TR E):kY E (aaX E (Rh E m) (Rh E (m+1)) (TB E m)):=by
 intro f args d Y v Y' h;have hS:=Yt hE m;have hS1:=(Yt hE (m+1)).code;have hQ:=Oy hE m;simp only[aaX,iP] at h;obtain⟨fn,hfn,c,hc,h⟩:=h;split at h
 .rename_i hok;obtain⟨hlen,ql,hnr⟩:=hok;obtain⟨⟨b,Rb,Y1,g,U7⟩,h1,h⟩:=iP.1 h;obtain⟨⟨pv,RX,Y2⟩,h2,h⟩:=iP.1 h;obtain⟨Y3,h3,h⟩:=iP.1 h;simp only[Py,iR] at h;obtain⟨vs,hvs,hv,rfl⟩:=h;obtain⟨hle1,OE,ER,hX⟩:=OA (n:=fn.ntmps) (B:=0) hE hS hS1 c _ _ _ _ _ _ _ h1 hnr ql;obtain⟨OG,hle3,hrec⟩:=OC hS1 h3;have hle2:Y1.next<=Y2.next:=by
   rcases EP h2 with h2| ⟨id,ops,y,v0,rfl,rfl,h4⟩
   .obtain⟨_,e,_,hb⟩:=EO h2;exact(hS1 _ _ _ _ _ _ hb).1
   .exact(EL (id:=id) hE hS hQ h4).1
  refine⟨PD hle1 (PD hle2 hle3),⟨fn,c,hfn,hc⟩,fun ro B0 K w Ru hs hB hA hr=>?_⟩;have gZ:=yI (E:=E) (f:=f) (d:=d) (fn:=fn) hs hB hA hr hlen;have hst:St E B0 Y K w {d:=d,om:=E.om f,tm:=fun i=>args.getD i FN} {tmps:=Ru++Array.replicate (fn.ntmps-Ru.size) undef,defers:=[]} fn.ntmps ⟨[],0,true⟩:=
   ⟨gZ.ok,gZ.hB,gZ.fr,gZ.sz,⟨[],rfl,List.nodup_nil,(fun b hb=>by cases hb),fun _=>rfl⟩,gZ.st,Qk _⟩
  have leave:∀(K1 K2:Ra)(w1 w2:World)(dd:Deferred)(cap:Array Value)(tmps:Array Value)(u:FrameMode),dd.target= .fn (.func g) cap->RelA K1 Y1.top w1 U7 (dd.args++cap)->Step E B0 (newer Y Y1) Y K w Y1 K1 w1->Step E B0 (newer Y1 Y2) Y1 K1 w1 Y2 K2 w2->B0<=w2.heap.size->(∀s,K2.A s->s<Y2.next)->bH K2 Y2.top w2 RX tmps->
   EN K2 Y2.top w2 pv u->LeavesInM Fence.wide 0 E.P fn tmps (gq E B0 Y K w v Y3) [dd] u w2:=by
   intro K1 K2 w1 w2 dd cap tmps u htar hra st1 st2 hB2 hA2 hf2 hu;have OH:RelA K2 Y2.top w2 U7 (dd.args++cap):=RelA.ext st2.ext hra;have hinv:(invoke dd.target dd.args).run E.P w2= .ok (.enter g (dd.args++cap)) w2:=by rw[htar];exact mR hE OG _ _
   have hne:u≠ .run:=by
    cases pv with
    |none=>rw[show u= .returning from hu];simp|some v0=>obtain⟨c,rfl,_⟩:=hu;simp
   refine⟨hne,.inr ⟨(fun h=>by simp[Fence.wide] at h),.func g,cap,g,dd.args++cap,htar,hinv,(fun _ _=>trivial),?_⟩⟩;refine(hrec B0 K2 w2 _ u st2.ok hB2 hA2 OH hu).mono ?_;rintro e u' w3 ⟨⟨cv,rfl⟩,hset,K3,lM,hA3,dW⟩;show LeavesIn Fence.wide 0 E.P fn tmps (gq E B0 Y K w v Y3) [] (settle u') w3;rw[hset];have hf3:bH K3 Y3.top w3 RX tmps:=hf2.ext dW.ext;obtain⟨sU,r3,r4⟩:=yH lM hf3 hvs;rw[hv] at r4;exact⟨sU,r3,K3,r4,lM,hA3,(st1.widen st2 hle1 hle2).widen dW (PD hle1 hle2) hle3⟩
  have pG:CallsIn Fence.wide 0 E.P f Ru w (gq E B0 Y K w v Y3):=by
   rcases EP h2 with h4| ⟨id,ops,y,v0,rfl,rfl,h4⟩
   .obtain⟨rfl,e,hne,hb⟩:=EO h4;refine callsIn_of_wp_marks hfn hc trivial ?_;refine hX (fun c a wx=>c.wpIn (FW none) 0 E.P (bodyPostM Fence.wide 0 E.P fn (gq E B0 Y K w v Y3)) a wx) (fun x y a wx hx=>wpIn_seq (wpIn_mono hx ?_)) B0 K w _ hst ?_
    .rintro ex a' w' ⟨rfl,hy⟩;exact hy
    .intro K1 w1 a1 dd cap htar hra hs1 st1;refine wpIn_mono ((hS1 _ _ _ _ _ _ hb).2 none B0 K1 w1 a1 _ _ hs1 ER (.inr OE)) ?_;rintro x a2 w2 ⟨hx,K2,hs2,st2⟩;obtain⟨bs,d1,_,_,d4⟩:=hs2.df;have hd:a2.defers=[dd]:=(by rw[d1,d4 rfl];rfl);have:=leave K1 K2 w1 w2 dd cap a2.tmps .returning htar hra st1 st2 hs2.hB hs2.st hs2.fr rfl;rw[<-hd] at this;rcases hne with rfl|rfl<;>cases x<;>simp only[bX] at hx<;>exact this
   .refine EF hfn hc trivial ?_;refine hX (fun c a wx=>bS Fence.wide E.P c (fun ch a w'=>LeavesInM Fence.wide 0 E.P fn a.tmps (gq E B0 Y K w v Y3) a.defers (.panicking ch) w') a wx) (fun x y a wx hx=>EC hx) B0 K w _ hst ?_;intro K1 w1 a1 dd cap htar hra hs1 st1;have OI:aK fn.ntmps (.region id ops false)=true:=(by have:aK fn.ntmps (.region id ops false)=true/\aK fn.ntmps y=true:=(by simpa [aK] using ER);exact this.1);refine EB (bS.mono ((EL (id:=id) hE hS hQ h4).2 B0 K1 w1 a1 _ _ hs1 OI) ?_);rintro ch a2 w2 ⟨K2,⟨cv,rfl,g2,g3,g4⟩,⟨g5,g6⟩,bs,d1,_,_,d4⟩;have hd:a2.defers=[dd]:=(by rw[d1,d4 rfl];rfl);rw[hd];exact leave K1 K2 w1 w2 dd cap a2.tmps _ htar hra st1 g4 (PD hs1.hB g4.below.size) g3 g5 ⟨cv,rfl,g2⟩
  exact pG
 .cases h
end
end Aq
end
