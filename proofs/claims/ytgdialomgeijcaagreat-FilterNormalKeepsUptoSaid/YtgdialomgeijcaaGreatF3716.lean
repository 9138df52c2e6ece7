import Derived.RecoverIn
import Derived.Test.YtgdialomgeijcaaGreatF3715
set_option linter.all false
section
namespace Aq
open Go Go.RowKit
section
variable (E:Env)
def lY (S:bG) (Q:jQ) (ops:List Oper) (base:Nat):List Nat->Fr->Sig->Option (V×Fr×Sig)
 | [],_,_=>none
 |i::l,fr,σ=>
  match (ops[i]?).bind fun o=>(aT ops fr o).bind fun t=>if t=true then nu E S Q fr σ o else none with
  |some (v,σ)=>some (v,fr,σ)
  |none=>(dn E S ops base i fr σ).bind fun (fr,σ)=>lY S Q ops base l fr σ
def nD (S0:bG) (co:Code->Fr->Sig->Option (Ex×Fr×Sig)):Code->Fr->Sig->Option (Code×Fr×Sig×Nat×List V)
 |.seq a b,fr,σ=>match a with
  |.region _ ops false=>match zZ ops.toList with
   |some (k,o,c)=>if o.dst=none/\o.guard=none then
     (opsL E S0 ops.toList σ.next (List.range k) fr {σ with next:=σ.next+ops.size}).bind fun (fr,σ)=>(GA E fr c).map fun q=>(b,fr,σ,q)
    else none
   |none=>(co a fr σ).bind fun (e,fr,σ)=>match e with
    |.normal=>nD S0 co b fr σ
    |_=>none
  |a=>(co a fr σ).bind fun (e,fr,σ)=>match e with
   |.normal=>nD S0 co b fr σ
   |_=>none
 |_,_,_=>none
def vk (S:bG) (b:Code) (fr:Fr) (σ:Sig):Option (Option V×Fr×Sig):=
 (S.code b fr σ).bind fun (e,fr,σ)=>match e with
 |.exit _=>none
 |_=>some (none,fr,σ)
def Ac (S0 S:bG) (Q:jQ) (b:Code) (fr:Fr) (σ:Sig):Option (Option V×Fr×Sig):=
 match b with
 |.seq (.region _ ops false) _=>match lY E S0 Q ops.toList σ.next (List.range ops.size) fr {σ with next:=σ.next+ops.toList.length} with
  |some (v,fr,σ)=>some (some v,fr,σ)
  |none=>vk S b fr σ
 |_=>vk S b fr σ
def isRec (o:Oper):Bool:=match o.op,o.guard with
 |.call c,none=>match c.callee with
  |.builtin .recover=>true
  |_=>false
 |_,_=>false
def Ad (S:bG) (g:FuncId) (fu:List V) (d:Nat) (pv:Option V) (σ:Sig):Option Sig:=
 (E.P.funcs[g]?).bind fun fn=>fn.body.bind fun c=>match c with
 |.seq (.region id ops false) rest=>match ops.toList with
  | [o]=>if isRec o=true/\fu.length<=fn.ntmps/\aP fn.ntmps (.seq (.region id ops false) rest)/\bH (.seq (.region id ops false) rest)=true then
      (S.code rest (({d:=d,om:=E.om g,tm:=fun i=>fu.getD i undefV}:Fr).put o.dst (pv.getD .nili)) σ).bind fun (e,fr,σ)=>match e with
      |.exit _=>none
      |_=>(fn.results.toList.mapM (resV E fr σ)).map fun _=>σ
    else none
  |_=>none
 |_=>none
def callR (S0 S:bG) (Q:jQ) (f:FuncId) (args:List V) (d:Nat) (σ:Sig):Option (V×Sig):=
 (E.P.funcs[f]?).bind fun fn=>fn.body.bind fun c=>
 if args.length<=fn.ntmps/\aP fn.ntmps c/\bH c=true then
 (nD E S0 S.code c {d:=d,om:=E.om f,tm:=fun i=>args.getD i undefV} σ).bind fun (b,fr,σ,g,fu)=>
 (Ac E S0 S Q b fr σ).bind fun (pv,fr,σ)=>(Ad E S g fu (d+1) pv σ).bind fun σ=>
   (fn.results.toList.mapM (resV E fr σ)).map fun vs=>(u7 vs,σ)
 else none
end
section
variable {E:Env} {S:bG} {Q:jQ} {K K':Con} {w w':World} {σ σ' σ1:Sig} {B0:Nat} {fr fr':Fr} {a:Act} {n:Nat} {ds:jl} {v:V}
theorem GX (hS:Sound E S) (hQ:gG E Q) (ops:List Oper) (base:Nat):∀(l:List Nat) (fr:Fr) (σ:Sig),lY E S Q ops base l fr σ=some (v,fr',σ')->σ.next<=σ'.next:=by
 intro l
 induction l with
 |nil=>intro fr σ h;cases h
 |cons i l ih=>
  intro fr σ h
  unfold lY at h
  split at h
  ·rename_i r hr
   cases h
   simp only[iP] at hr
   obtain⟨o,_,t,_,hr⟩:=hr
   split at hr
   ·exact GR hS.code hQ hr
   ·cases hr
  ·simp only[iP] at h
   obtain⟨⟨aB,σ1⟩,hst,h⟩:=h
   have h1:opsL E S ops base [i] fr σ=some (aB,σ1):=by simp[opsL,hst]
   exact RG (lg hS _ _ _ _ _ h1) (ih _ _ h)
theorem QL (hE:EnvOK E) (hS:Sound E S) (hQ:gG E Q) (ops:Array Oper) (base:Nat) (hops:iO n ops.toList=true) (ro:Option Nat):
 ∀(l:List Nat) (fr:Fr) (σ:Sig) (K:Con) (w:World) (a:Act),lY E S Q ops.toList base l fr σ=some (v,fr',σ')->l.Nodup->(∀i∈l,i<ops.size)->St E B0 σ K w fr a n ds->base+ops.size<=σ.next->(∀i∈l,¬K.A (base+i))->
  fG (FW ro) E.P ops l (fun ch a' w'=>∃K':Con,(∃c,ch=[{v:=c,recovered:=false}]/\Rel K' σ'.top w' v c)/\(∀s,K'.A s->s<σ'.next)/\Step E B0 (fun s=>(base<=s/\s<base+ops.size)\/newer σ σ' s) σ K w σ' K' w'/\(bT K' σ'.top w' fr' a'.tmps/\a'.tmps.size=n)/\
   ∃bs:List Nat,a'.defers=bs.map mark++ds.l/\bs.Nodup/\(∀b∈bs,K'.D b/\ds.B<=b)/\(ds.nm=true->bs=[])) a w:=by
 intro l
 induction l with
 |nil=>intro fr σ K w a hl;cases hl
 |cons i l ih=>
  intro fr σ K w a hl hnd hlt hs hbase jo
  have hil:i∉l:=(Sl.1 hnd).1
  have hi:i<ops.size:=hlt i (by simp)
  have hoi:ops[i]? =some ops[i]:=by simp[hi]
  have mE:ops.toList[i]? =some ops[i]:=by simpa using hoi
  have hdst:∀t,ops[i].dst=some t->t<n:=by
   intro t ht
   simp only[iO,RZ] at hops
   have:=hops ops[i] (by simp)
   rw[ht] at this
   simpa using this
  unfold lY at hl
  split at hl
  ·rename_i r hr
   cases hl
   simp only[iP] at hr
   obtain⟨o,ho,t,hwv,hr⟩:=hr
   rw[mE] at ho
   cases ho
   split at hr
   ·rename_i ht
    have hw:=oh hs.fr ops ops[i] (by rw[hs.sz];exact hops) hwv
    rw[ht] at hw
    refine fG.panic hoi hw (GU hE hS hQ hs hr ro) ?_
    rintro x a' w' ⟨ch,K',rfl,rfl,c,g1,g2,g3,g4⟩
    obtain⟨bs,d1,d2,d3,d4⟩:=hs.df
    exact⟨ch,rfl,K',⟨c,g1,g2⟩,g3,g4.mono (fun _ h=>.inr h),⟨hs.fr.ext g4.ext,hs.sz⟩,bs,d1,d2,fun b hb=>⟨g4.D b (d3 b hb).1,(d3 b hb).2⟩,d4⟩
   ·cases hr
  ·simp only[iP] at hl
   obtain⟨⟨aB,σ1⟩,hstep,hl⟩:=hl
   simp only[dn,mE,iP] at hstep
   obtain⟨t,hwv,hstep⟩:=hstep
   have hw:=oh hs.fr ops ops[i] (by rw[hs.sz];exact hops) hwv
   split at hstep
   ·rename_i hwt
    simp only[RF,iR] at hstep
    obtain⟨⟨v1,aW,σ2⟩,hop,rfl,rfl⟩:=hstep
    obtain⟨rfl,hnx,hwp⟩:=wX hE hS hs (jo i (by simp)) hop
    dsimp only at hl
    rw[hwt] at hw
    have hA1:∀{K1:Con} {w1:World},Step E B0 (fun s=>s=base+i\/newer σ σ2 s) σ K w σ2 K1 w1->(∀s,K1.A s->s<σ2.next)/\∀j∈l,¬K1.A (base+j):=by
     intro K1 w1 st
     refine⟨fun s hsA=>?_,fun j hj qw=>?_⟩
     ·rcases st.A s hsA with h1|h1|h1
      ·have:=hs.st s h1;omega
      ·omega
      ·exact h1.2
     ·have hji:j≠i:=fun e=>hil (e▸hj)
      rcases st.A _ qw with h1|h1|h1
      ·exact jo j (by simp[hj]) h1
      ·omega
      ·have:=hlt j (by simp[hj])
       have:=h1.1
       omega
    refine fG.op hoi hw (hwp _ _ ro (fun c w1 K1 hr st=>?_))
    obtain⟨hA2,hA3⟩:=hA1 st
    have hs1:St E B0 σ2 K1 w1 (aW.put ops[i].dst v1) (a.put ops[i].dst c) n ds:=hs.put st hr hdst hA2
    intro b k cs h1 h2 h3
    obtain⟨ch,a',w',td,⟨K',q1,q2,q3,q4⟩,nc,stp⟩:=ih _ _ K1 w1 _ hl (Sl.1 hnd).2 (fun j hj=>hlt j (by simp[hj])) hs1 (by omega) hA3 b k cs h1 h2 h3
    refine⟨ch,a',w',td,⟨K',q1,q2,?_,q4⟩,nc,stp⟩
    refine(st.mono ?_).trans (q3.mono ?_)
    ·intro s h1
     rcases h1 with h1|h1
     ·exact .inl ⟨by omega,by omega⟩
     ·exact .inr ⟨h1.1,RS h1.2 (GX hS hQ _ _ _ _ _ hl)⟩
    ·intro s h1
     rcases h1 with h1|h1
     ·exact .inl h1
     ·exact .inr ⟨RG hnx h1.1,h1.2⟩
   ·rename_i hwt
    simp only[iE,iR] at hstep
    obtain⟨rfl,rfl⟩:=hstep
    have hs1:St E B0 σ K w (fr.put ops[i].dst undefV) (a.put ops[i].dst undef) n ds:=hs.put (new:=fun _=>False) (.refl hs.ok) (.undef _ _ _) hdst hs.st
    have hwf:t=false:=by simpa using hwt
    rw[hwf] at hw
    exact fG.skip hoi hw (fun _ _=>trivial) (ih _ _ K w _ hl (Sl.1 hnd).2 (fun j hj=>hlt j (by simp[hj])) hs1 hbase (fun j hj=>jo j (by simp[hj])))
theorem GY (hE:EnvOK E) (hS:Sound E S) (hQ:gG E Q) {id:Nat} {ops:Array Oper} (h:lY E S Q ops.toList σ.next (List.range ops.size) fr {σ with next:=σ.next+ops.toList.length}=some (v,fr',σ')):
 σ.next<=σ'.next/\∀B0 K w a n ds,St E B0 σ K w fr a n ds->aP n (.region id ops false)=true->cZ (FW none) E.P (.region id ops false) (fun ch a' w'=>∃K',nA E B0 σ K w v σ' K' ch w'/\(bT K' σ'.top w' fr' a'.tmps/\a'.tmps.size=n)/\
   ∃bs:List Nat,a'.defers=bs.map mark++ds.l/\bs.Nodup/\(∀b∈bs,K'.D b/\ds.B<=b)/\(ds.nm=true->bs=[])) a w:=by
 have hnx:=GX hS hQ _ _ _ _ _ h
 simp only at hnx
 refine⟨RG (RP _ _) hnx,fun B0 K w a n ds hs hok=>cZ.region ?_⟩
 have hs1:St E B0 {σ with next:=σ.next+ops.toList.length} K w fr a n ds:=⟨mD hs.ok _,hs.hB,hs.fr,hs.sz,hs.df,fun s hsA=>RS (hs.st s hsA) (RP _ _),hs.hD⟩
 intro b k cs h1 h2 h3
 obtain⟨ch,a',w',td,⟨K',⟨c,q1,q2⟩,q3,q4,q5⟩,nc,stp⟩:=QL (n:=n) hE hS hQ ops σ.next hok none (List.range ops.size) fr _ K w a h List.nodup_range (fun i hi=>by simpa using hi) hs1 (by simp) (fun i _ hA=>by have:=hs.st _ hA;omega) b k cs h1 h2 h3
 refine⟨ch,a',w',td,⟨K',⟨c,q1,q2,q3,?_⟩,q5⟩,nc,stp⟩
 have g0:Step E B0 (newer σ σ') σ K w {σ with next:=σ.next+ops.toList.length} K w:=⟨mD hs.ok _,.refl _ _ _,.refl _ _,fun _ h=>h,fun _ h=>.inl h,fun _ _ h=>.inl h,fun _ h=>.inl h⟩
 refine g0.trans (q4.mono (fun s hs'=>?_))
 rcases hs' with hs'|hs'
 ·exact⟨hs'.1,by simp only[Array.length_toList] at hnx;omega⟩
 ·have h4:σ.next+ops.toList.length<=s:=hs'.1
  exact⟨by omega,hs'.2⟩
theorem QM {m:Nat} (hE:EnvOK E) (hS:Sound E (evl E m)) (hS1:jG E (evl E (m+1)).code) {n B:Nat}:∀(c:Code) (fr:Fr) (σ:Sig) (b:Code) (aB:Fr) (σ1:Sig) (g:Nat) (fu:List V),nD E (evl E m) (evl E (m+1)).code c fr σ=some (b,aB,σ1,g,fu)->bH c=true->aP n c=true->
 σ.next<=σ1.next/\bH b=true/\aP n b=true/\∀(X:Code->Act->World->Prop),(∀x y a w,x.wpIn (FW none) 0 E.P (fun e a' w'=>e= .normal/\X y a' w') a w->X (.seq x y) a w)->
   ∀B0 K w a,St E B0 σ K w fr a n ⟨[],B,true⟩->(∀K1 w1 a1 (dd:Deferred) (cap:Array Value),dd.target= .fn (.func g) cap->RelA K1 σ1.top w1 fu (dd.args++cap)->St E B0 σ1 K1 w1 aB a1 n ⟨[dd],B,true⟩->Step E B0 (newer σ σ1) σ K w σ1 K1 w1->X b a1 w1)->X c a w:=by
 intro c
 induction c with
 |seq x y jv ihy=>
  clear jv
  intro fr σ b aB σ1 g fu h hnr hok
  have rQ:bH x=true/\bH y=true:=by simpa [bH] using hnr
  have hok':aP n x=true/\aP n y=true:=by simpa [aP] using hok
  have go:((evl E (m+1)).code x fr σ).bind (fun (e,fr,σ)=>match e with
   |.normal=>nD E (evl E m) (evl E (m+1)).code y fr σ
   |_=>none)=some (b,aB,σ1,g,fu)->σ.next<=σ1.next/\bH b=true/\aP n b=true/\∀(X:Code->Act->World->Prop),(∀x y a w,x.wpIn (FW none) 0 E.P (fun e a' w'=>e= .normal/\X y a' w') a w->X (.seq x y) a w)->
   ∀B0 K w a,St E B0 σ K w fr a n ⟨[],B,true⟩->(∀K1 w1 a1 (dd:Deferred) (cap:Array Value),dd.target= .fn (.func g) cap->RelA K1 σ1.top w1 fu (dd.args++cap)->St E B0 σ1 K1 w1 aB a1 n ⟨[dd],B,true⟩->Step E B0 (newer σ σ1) σ K w σ1 K1 w1->X b a1 w1)->X (.seq x y) a w:=by
   intro h
   obtain⟨⟨e1,aW,σ2⟩,h1,h2⟩:=iP.1 h
   obtain⟨hle,hwp⟩:=hS1 _ _ _ _ _ _ h1
   cases e1 with
   |normal=>
    obtain⟨hle2,g1,g2,g3⟩:=ihy aW σ2 b aB σ1 g fu h2 rQ.2 hok'.2
    refine⟨RG hle hle2,g1,g2,fun X hX B0 K w a' hs hend=>hX _ _ _ _ (wpIn_mono (hwp none B0 K w a' n _ hs hok'.1 (.inr rQ.1)) ?_)⟩
    rintro ex a1 w1 ⟨hx,K1,hs1,st1⟩
    cases ex<;>simp only[dx] at hx
    exact⟨rfl,g3 X hX B0 K1 w1 a1 hs1 (fun K2 w2 a2 dd cap q1 q2 q3 q4=>hend K2 w2 a2 dd cap q1 q2 q3 (st1.widen q4 hle hle2))⟩
   |exit i=>cases h2
   |ret=>cases h2
  unfold nD at h
  split at h
  ·rename_i ops
   split at h
   ·rename_i k o c hld
    obtain⟨hk,hko,hoc⟩:=Qo hld
    split at h
    ·rename_i hdg
     obtain⟨hdst,hgd⟩:=hdg
     obtain⟨⟨aW,σ2⟩,h1,h⟩:=iP.1 h
     simp only[RF,iR] at h
     obtain⟨q1,hq1,rfl,rfl,rfl,hq⟩:=h
     have hle1:=lg hS _ _ _ _ _ h1
     have hsz:ops.size=k+1:=by rw[<-Array.length_toList];exact hk
     refine⟨RG (RP _ _) hle1,rQ.2,hok'.2,fun X hX B0 K w a' hs hend=>hX _ _ _ _ (wpIn_region ?_)⟩
     rw[hsz,List.range_succ]
     refine pI _ _ _ ?_
     have hs':St E B0 {σ with next:=σ.next+ops.size} K w fr a' n ⟨[],B,true⟩:=⟨mD hs.ok _,hs.hB,hs.fr,hs.sz,hs.df,fun s h=>RS (hs.st s h) (RP _ _),hs.hD⟩
     have rR:iO n ops.toList=true:=hok'.1
     refine wZ hE hS ops σ.next rR none _ (List.range k) fr _ K w a' h1 List.nodup_range (fun i hi=>by have:=List.mem_range.1 hi;omega) hs' (mF _) (fun i hi hA=>by have:=hs.st _ hA;omega) ?_
     intro a1 K1 w1 hs1 st1
     show wpOpsIn (FW none) 0 E.P ops _ [k] a1 w1
     have QN:ops[k]? =some o:=by simpa using hko
     unfold wpOpsIn
     simp only[QN]
     have hw:Region.wanted o (yielded ops a1.tmps)=true:=oh hs1.fr ops o (by rw[hs1.sz];exact rR) (by unfold aT;rw[hgd])
     rw[if_pos hw]
     refine⟨fun _ _=>trivial,?_⟩
     unfold GA at hq1
     split at hq1
     ·rename_i f bf
      split at hq1
      ·rename_i g0 xs ys jJ
       simp only[iE] at hq1
       subst hq1
       simp only[iR] at hq
       obtain⟨rfl,rfl⟩:=hq
       have hrel:=ig hs1.ok hs1.fr f
       rw[jJ] at hrel
       generalize hcf:a1.eval f=cf at hrel
       cases hrel with
       |fn _ _ _ av bv ha hb ko kr=>
       have hargs:=kX hs1.ok hs1.fr c.args
       have hex:((o.semAt (FW none).round a1.eval).run E.P w1)= .ok (.defer ⟨.fn (.func g0) bv,av++c.args.map a1.eval⟩) w1:=by
        show (execOp a1.eval o).run E.P w1=_
        unfold execOp
        simp only[hoc]
        unfold resolve
        simp only[bf,hcf,Deferred.ofValue,Sem.run_bind,Sem.run_pure,Result.andThen_ok]
       rw[hex,Oper.uponIn_defer,hdst]
       show wpOpsIn (FW none) 0 E.P ops _ [] _ w1
       unfold wpOpsIn
       obtain⟨bs,d1,_,_,d4⟩:=hs1.df
       have hd0:a1.defers=[]:=by rw[d1,d4 rfl];rfl
       have hst:St E B0 σ2 K1 w1 aW {a1 with defers:=⟨.fn (.func g0) bv,av++c.args.map a1.eval⟩::a1.defers} n ⟨[⟨.fn (.func g0) bv,av++c.args.map a1.eval⟩],B,true⟩:=
        ⟨hs1.ok,hs1.hB,hs1.fr,hs1.sz,⟨[],by rw[hd0];rfl,List.nodup_nil,(fun b hb=>by cases hb),fun _=>rfl⟩,hs1.st,hs1.hD⟩
       refine⟨rfl,hend K1 w1 _ _ bv rfl (jI (jI ⟨ha,ko⟩ hargs) ⟨hb,kr⟩) hst ?_⟩
       have sa':Step E B0 (newer σ σ2) {σ with next:=σ.next+ops.size} K w σ2 K1 w1:=st1.mono (fun s h=>by
        have h0:σ.next+ops.size<=σ2.next:=hle1
        rcases h with h|h
        ·exact⟨h.1,by omega⟩
        ·exact⟨RG (RP _ _) h.1,h.2⟩)
       exact⟨sa'.ok,sa'.ext,sa'.below,sa'.D,sa'.A,sa'.nI,sa'.gZ⟩
      ·cases hq1
     ·cases hq1
    ·cases h
   ·exact go h
  ·exact go h
 |_=>intro fr σ b aB σ1 g fu h hnr hok;simp[nD] at h
def GZ (K:Con) (T:Nat->Nat) (w:World) (pv:Option V) (u:FrameMode):Prop:=match pv with
 |none=>u= .returning
 |some v=>∃c,u= .panicking [{v:=c,recovered:=false}]/\Rel K T w v c
theorem QO {σ2:Sig} (hS1:jG E S.code) {g:FuncId} {fu:List V} {d:Nat} {pv:Option V} (h:Ad E S g fu d pv σ=some σ2):HasBody E g/\σ.next<=σ2.next/\∀B0 K w args u,ay E B0 σ K w->B0<=w.heap.size->(∀s,K.A s->s<σ.next)->RelA K σ.top w fu args->
 GZ K σ.top w pv u->
 CallsDIn Fence.wide 0 E.P g args u w (fun e u' w'=>(∃cv,e= .returned cv)/\settle u'= .returning/\∃K2,ay E B0 σ2 K2 w'/\(∀s,K2.A s->s<σ2.next)/\Step E B0 (newer σ σ2) σ K w σ2 K2 w'):=by
 simp only[Ad,iP] at h
 obtain⟨fn,hfn,c,hc,h⟩:=h
 split at h
 ·rename_i id ops rest
  split at h
  ·rename_i o hops
   split at h
   ·rename_i hok
    obtain⟨hrec,hlen,rP,hnr⟩:=hok
    obtain⟨⟨e,aB,σ3⟩,hcode,h⟩:=iP.1 h
    have hne:e= .normal\/e= .ret:=by
     cases e with
     |normal=>exact .inl rfl
     |ret=>exact .inr rfl
     |exit i=>cases h
    have h':(fn.results.toList.mapM (resV E aB σ3)).map (fun _=>σ3)=some σ2:=by rcases hne with rfl|rfl<;>exact h
    simp only[RF] at h'
    obtain⟨vs,hvs,rfl⟩:=h'
    obtain⟨hle,hwp⟩:=hS1 _ _ _ _ _ _ hcode
    have rQ:bH rest=true:=by simpa [bH] using hnr
    have hok':aP fn.ntmps (.region id ops false)=true/\aP fn.ntmps rest=true:=by simpa [aP] using rP
    refine⟨⟨fn,_,hfn,hc⟩,hle,fun B0 K w args u hs hB hA hr hu=>callsDIn_of_wpSIn hfn hc trivial (fun c₀ cs hm=>wpSIn_seq (wpSIn_region ?_))⟩
    have hst:=Aa (E:=E) (f:=g) (d:=d) (fn:=fn) hs hB hA hr hlen
    have QS:ops= #[o]:=by rw[<-Array.toArray_toList (xs:=ops),hops]
    have rR:iO fn.ntmps ops.toList=true:=hok'.1
    have hdst:∀t,o.dst=some t->t<fn.ntmps:=by
     intro t ht
     simp only[iO,hops,List.all_cons,ht] at rR
     simpa using rR
    have hgd:o.guard=none:=by
     unfold isRec at hrec
     split at hrec
     ·assumption
     ·cases hrec
    have hex:∀a:Act,(execOp a.eval o).run E.P w= .ok .recover w:=by
     intro a
     unfold isRec at hrec
     split at hrec
     ·rename_i c0 hop _
      split at hrec
      ·rename_i bf
       unfold execOp
       simp only[hop]
       unfold resolve
       simp only[bf]
       rfl
      ·cases hrec
     ·cases hrec
    have fin:∀(cv:Value) (u':FrameMode),Rel K σ.top w (pv.getD .nili) cv->settle u'= .returning->rest.wpSIn Fence.wide 0 E.P (bodyPostS E.P fn c₀ cs (fun e u' w'=>(∃cv,e= .returned cv)/\settle u'= .returning/\∃K2,ay E B0 σ3 K2 w'/\(∀s,K2.A s->s<σ3.next)/\Step E B0 (newer σ σ3) σ K w σ3 K2 w'))
     (({tmps:=args++Array.replicate (fn.ntmps-args.size) undef,defers:=[]}:Act).put o.dst cv) ({c₀ with mode:=u'}::cs) w:=by
     intro cv u' hcv hset
     have hs1:=hst.put (new:=fun _=>False) (.refl hs) hcv hdst hA
     refine wpSIn_of_wpIn rfl (wpIn_mono (hwp none B0 K w _ fn.ntmps ⟨[],w.heap.size,true⟩ hs1 hok'.2 (.inr rQ)) ?_)
     rintro x a' w' ⟨hx,K2,hs2,st2⟩
     obtain⟨bs,d1,_,_,d4⟩:=hs2.df
     have hd:a'.defers=[]:=by rw[d1,d4 rfl];rfl
     obtain⟨vo,r1,r2⟩:=z8 hs2.ok hs2.fr hvs
     have good:a'.defers=[]/\∃u'',({c₀ with mode:=u'}::cs:List Frame)={c₀ with mode:=u''}::cs/\∃v,(results fn a'.tmps).run E.P w'= .ok v w'/\((∃cv,Ending.returned v= .returned cv)/\settle u''= .returning/\∃K2,ay E B0 σ3 K2 w'/\(∀s,K2.A s->s<σ3.next)/\Step E B0 (newer σ σ3) σ K w σ3 K2 w'):=
      ⟨hd,u',rfl,vo,r1,⟨vo,rfl⟩,hset,K2,hs2.ok,hs2.st,st2⟩
     rcases hne with rfl|rfl<;>cases x<;>simp only[dx] at hx<;>exact good
    subst QS
    show wpOpsSIn Fence.wide 0 E.P #[o] _ [0] _ (c₀::cs) w
    have ho0:(#[o]:Array Oper)[0]? =some o:=rfl
    have hw:∀f,Region.wanted o f=true:=fun f=>by unfold Region.wanted;rw[hgd]
    unfold wpOpsSIn
    simp only[ho0,hw,if_true,hex]
    refine⟨fun _ _=>trivial,?_⟩
    cases pv with
    |none=>
     have hu':u= .returning:=hu
     have hmode:c₀.mode= .returning:=hm.trans hu'
     have hrd:recoverD (c₀::cs)=none:=by simp only[recoverD,hmode]
     rw[hrd]
     unfold wpOpsSIn
     have hc0:({c₀ with mode:=.returning}:Frame)=c₀:=by cases c₀;simp_all
     have:=fin .nilIface .returning .nili rfl
     rw[hc0] at this
     exact this
    |some v0=>
     obtain⟨cv,hu',hcv⟩:=hu
     have hmode:c₀.mode= .panicking [{v:=cv,recovered:=false}]:=hm.trans hu'
     have hrd:recoverD (c₀::cs)=some (cv,{c₀ with mode:=.panicking [{v:=cv,recovered:=true}]}::cs):=by simp only[recoverD,hmode]
     rw[hrd]
     unfold wpOpsSIn
     exact fin cv _ hcv rfl
   ·cases h
  ·cases h
 ·cases h
end
section
variable {E:Env} {S:bG} {Q:jQ} {K K':Con} {w w':World} {σ σ' σ1:Sig} {B0:Nat} {fr fr':Fr} {a:Act} {n:Nat} {ds:jl} {v:V}
theorem G5 {b:Code} {pv:Option V} (h:vk S b fr σ=some (pv,fr',σ')):pv=none/\∃e,(e= .normal\/e= .ret)/\S.code b fr σ=some (e,fr',σ'):=by
 obtain⟨⟨e,aB,σ1⟩,h1,h2⟩:=iP.1 h
 cases e with
 |exit i=>cases h2
 |normal=>cases h2;exact⟨rfl,_,.inl rfl,h1⟩
 |ret=>cases h2;exact⟨rfl,_,.inr rfl,h1⟩
theorem G6 {S0:bG} {b:Code} {pv:Option V} (h:Ac E S0 S Q b fr σ=some (pv,fr',σ')):
 vk S b fr σ=some (pv,fr',σ')\/∃id ops y v,b= .seq (.region id ops false) y/\pv=some v/\lY E S0 Q ops.toList σ.next (List.range ops.size) fr {σ with next:=σ.next+ops.toList.length}=some (v,fr',σ'):=by
 unfold Ac at h
 split at h
 ·rename_i id ops y
  split at h
  ·rename_i v aB σ1 h1
   cases h
   exact .inr ⟨id,ops,y,v,rfl,rfl,h1⟩
  ·exact .inl h
 ·exact .inl h
theorem callR_sound {m:Nat} (hE:EnvOK E):nZ E (callR E (evl E m) (evl E (m+1)) (evp E m)):=by
 intro f args d σ v σ' h
 have hS:=evl_sound hE m
 have hS1:=(evl_sound hE (m+1)).code
 have hQ:=QK hE m
 simp only[callR,iP] at h
 obtain⟨fn,hfn,c,hc,h⟩:=h
 split at h
 ·rename_i hok
  obtain⟨hlen,rP,hnr⟩:=hok
  obtain⟨⟨b,aB,σ1,g,fu⟩,h1,h⟩:=iP.1 h
  obtain⟨⟨pv,aW,σ2⟩,h2,h⟩:=iP.1 h
  obtain⟨σ3,h3,h⟩:=iP.1 h
  simp only[RF,iR] at h
  obtain⟨vs,hvs,hv,rfl⟩:=h
  obtain⟨hle1,QT,G7,hX⟩:=QM (n:=fn.ntmps) (B:=0) hE hS hS1 c _ _ _ _ _ _ _ h1 hnr rP
  obtain⟨QU,hle3,hrec⟩:=QO hS1 h3
  have hle2:σ1.next<=σ2.next:=by
   rcases G6 h2 with h2| ⟨id,ops,y,v0,rfl,rfl,h4⟩
   ·obtain⟨_,e,_,hb⟩:=G5 h2
    exact(hS1 _ _ _ _ _ _ hb).1
   ·exact(GY (id:=id) hE hS hQ h4).1
  refine⟨RG hle1 (RG hle2 hle3),⟨fn,c,hfn,hc⟩,fun ro B0 K w cargs hs hB hA hr=>?_⟩
  have jd:=Aa (E:=E) (f:=f) (d:=d) (fn:=fn) hs hB hA hr hlen
  have hst:St E B0 σ K w {d:=d,om:=E.om f,tm:=fun i=>args.getD i undefV} {tmps:=cargs++Array.replicate (fn.ntmps-cargs.size) undef,defers:=[]} fn.ntmps ⟨[],0,true⟩:=
   ⟨jd.ok,jd.hB,jd.fr,jd.sz,⟨[],rfl,List.nodup_nil,(fun b hb=>by cases hb),fun _=>rfl⟩,jd.st,Sb _⟩
  have leave:∀(K1 K2:Con) (w1 w2:World) (dd:Deferred) (cap:Array Value) (tmps:Array Value) (u:FrameMode),dd.target= .fn (.func g) cap->RelA K1 σ1.top w1 fu (dd.args++cap)->Step E B0 (newer σ σ1) σ K w σ1 K1 w1->Step E B0 (newer σ1 σ2) σ1 K1 w1 σ2 K2 w2->B0<=w2.heap.size->(∀s,K2.A s->s<σ2.next)->bT K2 σ2.top w2 aW tmps->
   GZ K2 σ2.top w2 pv u->LeavesInM Fence.wide 0 E.P fn tmps (iA E B0 σ K w v σ3) [dd] u w2:=by
   intro K1 K2 w1 w2 dd cap tmps u htar hra st1 st2 hB2 hA2 hf2 hu
   have QV:RelA K2 σ2.top w2 fu (dd.args++cap):=RelA.ext st2.ext hra
   have hinv:(invoke dd.target dd.args).run E.P w2= .ok (.enter g (dd.args++cap)) w2:=by
    rw[htar]
    exact og hE QU _ _
   have hne:u≠ .run:=by
    cases pv with
    |none=>rw[show u= .returning from hu];simp
    |some v0=>obtain⟨c,rfl,_⟩:=hu;simp
   refine⟨hne,.inr ⟨(fun h=>by simp[Fence.wide] at h),.func g,cap,g,dd.args++cap,htar,hinv,(fun _ _=>trivial),?_⟩⟩
   refine(hrec B0 K2 w2 _ u st2.ok hB2 hA2 QV hu).mono ?_
   rintro e u' w3 ⟨⟨cv,rfl⟩,hset,K3,mK,hA3,fF⟩
   show LeavesIn Fence.wide 0 E.P fn tmps (iA E B0 σ K w v σ3) [] (settle u') w3
   rw[hset]
   have hf3:bT K3 σ3.top w3 aW tmps:=hf2.ext fF.ext
   obtain⟨vo,r3,r4⟩:=z8 mK hf3 hvs
   rw[hv] at r4
   exact⟨vo,r3,K3,r4,mK,hA3,(st1.widen st2 hle1 hle2).widen fF (RG hle1 hle2) hle3⟩
  have qH:CallsIn Fence.wide 0 E.P f cargs w (iA E B0 σ K w v σ3):=by
   rcases G6 h2 with h4| ⟨id,ops,y,v0,rfl,rfl,h4⟩
   ·obtain⟨rfl,e,hne,hb⟩:=G5 h4
    refine callsIn_of_wp_marks hfn hc trivial ?_
    refine hX (fun c a wx=>c.wpIn (FW none) 0 E.P (bodyPostM Fence.wide 0 E.P fn (iA E B0 σ K w v σ3)) a wx) (fun x y a wx hx=>wpIn_seq (wpIn_mono hx ?_)) B0 K w _ hst ?_
    ·rintro ex a' w' ⟨rfl,hy⟩
     exact hy
    ·intro K1 w1 a1 dd cap htar hra hs1 st1
     refine wpIn_mono ((hS1 _ _ _ _ _ _ hb).2 none B0 K1 w1 a1 _ _ hs1 G7 (.inr QT)) ?_
     rintro x a2 w2 ⟨hx,K2,hs2,st2⟩
     obtain⟨bs,d1,_,_,d4⟩:=hs2.df
     have hd:a2.defers=[dd]:=by rw[d1,d4 rfl];rfl
     have:=leave K1 K2 w1 w2 dd cap a2.tmps .returning htar hra st1 st2 hs2.hB hs2.st hs2.fr rfl
     rw[<-hd] at this
     rcases hne with rfl|rfl<;>cases x<;>simp only[dx] at hx<;>exact this
   ·refine GN hfn hc trivial ?_
    refine hX (fun c a wx=>cZ Fence.wide E.P c (fun ch a w'=>LeavesInM Fence.wide 0 E.P fn a.tmps (iA E B0 σ K w v σ3) a.defers (.panicking ch) w') a wx) (fun x y a wx hx=>GK hx) B0 K w _ hst ?_
    intro K1 w1 a1 dd cap htar hra hs1 st1
    have QW:aP fn.ntmps (.region id ops false)=true:=by
     have:aP fn.ntmps (.region id ops false)=true/\aP fn.ntmps y=true:=by simpa [aP] using G7
     exact this.1
    refine GJ (cZ.mono ((GY (id:=id) hE hS hQ h4).2 B0 K1 w1 a1 _ _ hs1 QW) ?_)
    rintro ch a2 w2 ⟨K2,⟨cv,rfl,g2,g3,g4⟩,⟨g5,g6⟩,bs,d1,_,_,d4⟩
    have hd:a2.defers=[dd]:=by rw[d1,d4 rfl];rfl
    rw[hd]
    exact leave K1 K2 w1 w2 dd cap a2.tmps _ htar hra st1 g4 (RG hs1.hB g4.below.size) g3 g5 ⟨cv,rfl,g2⟩
  exact qH
 ·cases h
end
end Aq
end
