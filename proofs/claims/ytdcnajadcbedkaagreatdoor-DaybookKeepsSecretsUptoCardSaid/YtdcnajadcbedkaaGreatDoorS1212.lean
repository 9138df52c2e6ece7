/- Part of the proof of a law. -/
import Derived.Below
import Derived.ChangeSame
import Derived.ChangeShapes
import Derived.ChangeStays
import Derived.RowKit
import Derived.Test.YtdcnajadcbedkaaGreatDoorS1205
import Derived.Test.YtdcnajadcbedkaaGreatDoorS1211
import Derived.WideShapes
set_option linter.all false
section
namespace Aq
open Go
section
variable {R:iH} {E:Env} (hR:nR R)
include hR
def TG (E:Env) (om:Bool) (c:Code) (body:{β:Type}->MS R.T->(Ex->MS R.T->Option β)->Option β):Prop:=
 ∀(β:Type) (st:MS R.T) (k:Ex->MS R.T->Option β) (x:β) (fr:Fr) (σ:ah) (ρ:aN),ρ.om.om=om->body st k=some x->aH ρ σ.next st fr σ->CW E c fr σ fun e fr' σ'=> ∃ρ' st',aH ρ' σ'.next st' fr' σ'/\Kp (iI E c) (aJ c) st fr σ ρ st' fr' σ' ρ'/\k e st'=some x
omit hR in
theorem TH:∀(ρ:aN) (σ:ah) (o:Nat) (x:Ob R.T),dY (R:=R) ρ σ o x->dY (R:=R) ρ σ o (.ro x):=fun _ _ _ _ h=>h
theorem aac {om:Bool} {β:Type} {c:Code} {key:Nat} {sh:Shape} {outs:List (Ex×Shape)} {body:{β:Type}->MS R.T->(Ex->MS R.T->Option β)->Option β} (hb:TG E om c body) {H B:MS R.T} {TI:Fr} {σ0:ah} {ρ0:aN} (bq:ρ0.om.om=om)
 (hB:∀(st' S':MS R.T) (fr':Fr) (σ':ah) (ρ':aN) (b':Nat),aH ρ' b' st' fr' σ'->Kp (iI E c) (aJ c) H TI σ0 ρ0 S' fr' σ' ρ'->aH ρ' b' B fr' σ') (hro:∀o,RO B o):
 ∀(m:Nat) (p:pI R.T sh) (o:Out R.T outs) (fr:Fr) (σ:ah) (ρ:aN),dA key (aJ c) B sh outs body m p=some o->aH ρ σ.next (unpack R sh p) fr σ->Kp (iI E c) (aJ c) H TI σ0 ρ0 (B.over (unpack R sh p)) fr σ ρ->
 CW E (.loop c) fr σ fun e fr' σ'=> ∃ρ' S' st',aH ρ' σ'.next st' fr' σ'/\Kp (iI E c) (aJ c) H TI σ0 ρ0 S' fr' σ' ρ'/\(∀o,aR o (aJ c)=false->RO H o->look st'.ob o=none)/\∀(k:Ex->MS R.T->Option β) (bs:MS R.T),uE R bs k outs o=k e (bs.over st')
 |0,p,o,fr,σ,ρ,h,_,_=>by cases h
 |m+1,p,o,fr,σ,ρ,h,hi,hkp=>by
  unfold dA at h
  have hbase:aH ρ σ.next B fr σ:=hB _ _ _ _ _ _ hi hkp
  refine CW.loop ((hb _ _ _ _ fr σ ρ ((congrArg Cx.om hkp.om).trans bq) h (hbase.over hi)).mono ?_)
  rintro e fr' σ' ⟨ρ',st',hi',uL,hk⟩
  have hall:=hkp.trans uL
  cases e with
  |normal=>
   dsimp only at hk
   split at hk
   ·rename_i p' hp'
    obtain⟨ρ2,S2,h1,h2,_,h3⟩:=hi'.lg hR hp'
    have yx:=hall.trans h2
    refine aac hb bq hB hro m p' o fr' σ' ρ2 hk h1 ⟨yx.fr,fun q hq=>⟨(yx.ob q hq).ob,(yx.ob q hq).ln,(yx.ob q hq).om,(yx.ob q hq).nx,(yx.ob q hq).lp,(yx.ob q hq).dp,fun hr=>⟨?_,((yx.ob q hq).ro hr).2⟩⟩⟩
    exact LQ (hro q) fun x hx=>(by rw[h3 q hq ((hall.ob q hq).ro hr).1] at hx;cases hx)
   ·cases hk
  |exit i=>
   obtain⟨ρ2,S2,gG,h1,h2,_,h3,h4⟩:=Dc (β:=β) hR hi' hk
   exact⟨ρ2,S2,gG,h1,hall.trans h2,fun q hq hr=>h3 q hq ((hall.ob q hq).ro hr).1,h4⟩
  |ret=>
   obtain⟨ρ2,S2,gG,h1,h2,_,h3,h4⟩:=Dc (β:=β) hR hi' hk
   exact⟨ρ2,S2,gG,h1,hall.trans h2,fun q hq hr=>h3 q hq ((hall.ob q hq).ro hr).1,h4⟩
omit hR in
theorem aad {om:Bool} {c:Code} {body:{β:Type}->MS R.T->(Ex->MS R.T->Option β)->Option β} (hb:TG E om c body) {β:Type}:∀(m:Nat) (st:MS R.T) (k:Ex->MS R.T->Option β) (x:β) (fr:Fr) (σ:ah) (ρ:aN),ρ.om.om=om->Gm (R:=R) (fun st k=>body st k) m st k=some x->aH ρ σ.next st fr σ->
 CW E (.loop c) fr σ fun e fr' σ'=> ∃ρ' st',aH ρ' σ'.next st' fr' σ'/\Kp (iI E c) (aJ c) st fr σ ρ st' fr' σ' ρ'/\k e st'=some x
 |0,st,k,x,fr,σ,ρ,_,h,_=>by cases h
 |m+1,st,k,x,fr,σ,ρ,bq,h,hi=>by
  unfold Gm at h
  refine CW.loop ((hb _ _ _ _ fr σ ρ bq h hi).mono ?_)
  rintro e fr' σ' ⟨ρ',st',hi',uL,hk⟩
  cases e with
  |normal=>
   dsimp only at hk
   by_cases hW:True
   ·refine(aad hb m st' k x fr' σ' ρ' ?_ hk hi').mono ?_
    ·exact(congrArg Cx.om uL.om).trans bq
    ·rintro e xZ lC ⟨oM,gG,h1,h2,h3⟩
     exact⟨oM,gG,h1,uL.trans h2,h3⟩
   ·exact absurd trivial hW
  |exit i=>exact⟨ρ',st',hi',uL,hk⟩
  |ret=>exact⟨ρ',st',hi',uL,hk⟩
omit hR in
def TJ {X:Type} (key:Nat) (W:List Nat) (b:MS R.T) (sh:Shape) (outs:List (Ex×Shape)) (body:{β:Type}->X->MS R.T->(Ex->MS R.T->Option β)->Option β) (xs:List X) (e:Ex) (st:MS R.T):Option (Out R.T outs):=match e with
    |.normal=>match lg R W st.obs sh with
     |some p=>Gn key W b sh outs body xs p
     |none=>none
    |e=>rP R W e st.obs outs
omit hR in
def aae (r0:nY) (l:Nat) (σ3:ah) (x:Ex) (bb:Bool) (σ':ah):Prop:=match x with
 |.normal=>bb=true/\σ'=σ3.fO l {r0 with st:=0,pend:=none}
 |e=>bb=false/\σ'=σ3.fO l {r0 with st:=2,pend:=some e}
omit hR in
theorem aH.aaf {ρ:aN} {b:Nat} {st:MS R.T} {fr fr':Fr} {σ:ah} (h:aH ρ b st fr σ) (he:st.fr=[]) (hd:fr'.d=ρ.om.dp) (ho:fr'.om=ρ.om.om):aH ρ b st fr' σ:={h with
 d:=hd
 om:=ho
 fr:=fun i v hv=>by rw[he] at hv;cases hv}
omit hR in
theorem aH.obs {ρ:aN} {b:Nat} {st:MS R.T} {fr:Fr} {σ:ah} (h:aH ρ b st fr σ):aH ρ b st.obs fr σ:={h with
 fr:=fun i v hv=>by cases hv
 ob:=h.ob}
omit hR in
theorem aY.weak {nr:Bool} {o:Nat} {st st':MS R.T} {ρ ρ':aN} {σ σ':ah} (h:aY nr o st ρ σ st' ρ' σ'):aY false o st ρ σ st' ρ' σ':=⟨h.ob,h.ln,h.om,h.nx,h.lp,fun L hL=>h.dp L (.inr (by rcases hL with e|e;cases e;exact e)),h.ro⟩
omit hR in
theorem aY.shift {o:Nat} {st st':MS R.T} {ρ ρ':aN} {σ σ' lC:ah} (h:aY false o st ρ σ st' ρ' σ') (hp:∀L:Loc,L.1<=ρ.om.dp->lC.obj L=σ'.obj L) (hn:σ'.next<=lC.next) (hl:∀l,l<σ.next->lC.loops l=σ'.loops l) (ht:∀s,s<ρ.om.lo->lC.top s=σ'.top s):aY false o st ρ σ st' ρ' lC:=
 ⟨h.ob,h.ln,h.om,aav h.nx hn,⟨fun l hl'=>(hl l hl').trans (h.lp.1 l hl'),fun s hs=>(ht s hs).trans (h.lp.2 s hs)⟩,fun L hL ho=>(hp L (by rcases hL with e|e;cases e;exact e)).trans (h.dp L hL ho),fun hr=>⟨(h.ro hr).1,fun s=>by
   have:=(h.ro hr).2 s
   unfold ah.cB ah.fP at this⊢
   rw[hp _ (ρ.om.CV o)];exact this⟩⟩
omit hR in
theorem aag {c c':Cx} (h:c'=c) (p:Nat):(c'.lc p).1<=c.dp:=by rw[<-h];exact c'.CV p
omit hR in
theorem Shift.loc {d:Nat} {σ σ':ah} (h:Shift d σ σ') {L:Loc} (hL:L.1<=d):σ'.obj L=σ.obj L:=h.obj L.1 L.2 hL
def qU (c:Code):Bool:=(aJ c).all fun d=>Nat.blt d F0
omit hR in
theorem TK {c:Code} (h:qU c=true):∀d,aR d (aJ c)=true->d<F0:=fun d hd=>by
 unfold qU at h
 rw[adI] at h
 have:=h d (ZL hd)
 unfold Nat.blt at this
 exact ae3 this
omit hR in
theorem aah {ρ:aN} {b:Nat} {σ:ah}:∀{ps:List Nat} {jf:List (TV R.T)} {vs:List V} {st st':MS R.T} {fr:Fr},CU st ps jf=some st'->au R ρ σ.top jf vs->aH ρ b st fr σ->ps.length=vs.length/\aH ρ b st' {fr with tm:=(ps.zip vs).foldl (fun tm (p,a)=>upd tm p a) fr.tm} σ/\st'.ob=st.ob
 | [],[],vs,st,st',fr,h,hr,hi=>by
   cases h;rw[hr.fB];exact⟨rfl,hi,rfl⟩
 | [],_::_,_,_,_,_,h,_,_=>by cases h
 |_::_,[],_,_,_,_,h,_,_=>by cases h
 |i::ps,t::jf,vs,st,st',fr,h,hr,hi=>by
  obtain⟨v,ws,rfl,h1,h2⟩:=hr.dN
  obtain⟨a1,a2,a3⟩:=aah (fr:=fr.set i v) (show CU (st.put i t) ps jf=some st' from h) h2 (hi.put i (.of h1))
  exact⟨by simp[a1],a2,a3⟩
omit hR in
theorem aai {k:gU} {x:xE R.T k}:oF (kE R k x)=false:=by cases k<;>rfl
omit hR in
theorem aaj {o:Nat} {y:Ob R.T} {O:List Nat}:∀{l:List (Nat×gU)} {x:gy R.T l},zJ O l=true->look (jg R l x) o=some y->aR o O=false/\oF y=false
 | [],x,_,h=>by cases h
 | [(i,k)],x,hd,h=>by
   unfold zJ at hd
   rw[aan,ajp] at hd
   have h':look [(i,kE R k x)] o=some y:=h
   by_cases e:o=i
   ·subst e;rw[jq] at h';cases h';exact⟨hd.1,aai⟩
   ·rw[gD _ _ e] at h';cases h'
 | (i,k)::q::l,x,hd,h=>by
   unfold zJ at hd
   rw[aan,ajp] at hd
   have h':look ((i,kE R k x.1)::jg R (q::l) x.2) o=some y:=h
   by_cases e:o=i
   ·subst e;rw[jq] at h';cases h';exact⟨hd.1,aai⟩
   ·rw[gD _ _ e] at h';exact aaj hd.2 h'
omit hR in
theorem ajK {W K O:List Nat} {mark:Ob R.T->Ob R.T} {st:MS R.T} {s:Shape} {p:pI R.T s} {o:Nat} (hd:zJ O s.ob=true) (h:RO ((base W K O mark st).over (unpack R s p)) o):look (unpack R s p).ob o=none:=by
 cases hu:look (unpack R s p).ob o with
 |none=>rfl
 |some y=>
  exfalso
  have hk:aR o O=false/\oF y=false:=by
   obtain⟨sl,ob⟩:=s
   cases ob with
   |nil=>cases hu
   |cons a as=>exact aaj hd hu
  have hb:look (base W K O mark st).ob o=none:=by
   have:∀is:List Nat,aR o is=false->look (mZ (fun o b=> !(aR o W)&& mM W b) mark st.ob is) o=none:=by
    intro is
    induction is with
    |nil=>intro _;rfl
    |cons j is ih=>
     intro h
     have h':(Nat.beq o j||aR o is)=false:=h
     rw[ajk] at h'
     unfold mZ
     split
     ·rename_i x hx
      cases (!(aR j W)&& mM W x)
      ·exact ih h'.2
      ·rw[cond_true,gD _ _ (LJ h'.1)];exact ih h'.2
     ·exact ih h'.2
   exact this O hk.1
  have:=h y (by show look ((base W K O mark st).ob++(unpack R s p).ob) o=some y;rw[vV,hb];exact hu)
  rw[hk.2] at this;cases this
def oO (E:Env) (I:IR R):Prop:=(∀g,∀i∈I.it g,E.imp g=true/\∀pa pb xs,i.F pa pb=some xs->Z9 E g (bG R i.a pa) (bG R i.b pb) (xs.map (bG R i.el)))/\Mk E I.im
theorem aak {σ:ah} {n:Nat}:∀cs:List V,aX cs=true->cs.mapM (aQ (n+1) σ)=some cs:=by
 intro cs
 induction cs with
 |nil=>intro _;rfl
 |cons a l ih=>
  intro h
  simp only[aX,aan] at h
  rw[adi,jV h.1,ih h.2];rfl
theorem aal {I:IR R} (hI:oO E I) {g:Nat} {ρ:aN} {top:Nat->Nat} {u v:List (TV R.T)} {va vb:List V} (hu:pO u=true) (hv:pO v=true) (ha:au R ρ top u va) (hb:au R ρ top v vb):∀{l:List (FI R)} {el:List Sk} {o:Option (List (aA R.T el))},(∀i∈l,i∈I.it g)->Gp u v l=some ⟨el,o⟩->
 E.imp g=true/\iO el=true/\∀xs,o=some xs->Z9 E g va vb (xs.map (bG R el))
 | [],el,o,_,h=>by cases h
 |i::l,el,o,hl,h=>by
  unfold Gp at h
  split at h
  ·rename_i pa pb hpa hpb
   obtain⟨hc,h⟩:=dO h
   simp only[aan] at hc
   obtain⟨⟨⟨⟨c1,c2⟩,c3⟩,c4⟩,c5⟩:=hc
   cases h
   obtain⟨h1,h2⟩:=hI.1 g i (hl i (by simp))
   refine⟨h1,c3,fun xs hx=> ?_⟩
   have e1:=rZ hR i.a pa u va c1 hpa ha 19 ah.init (by have:=ae3 c4;omega)
   have e2:=rZ hR i.b pb v vb c2 hpb hb 19 ah.init (by have:=ae3 c5;omega)
   rw[aak hR va (yg hR u va hu ha)] at e1
   rw[aak hR vb (yg hR v vb hv hb)] at e2
   cases e1;cases e2
   exact h2 pa pb xs hx
  ·exact aal hI hu hv ha hb (fun x hx=>hl x (by simp[hx])) h
theorem qd {n:Nat} {om:Bool} {F:Nat->List (FR R)} {I:IR R} (hF:bH E F) (hI:oO E I) {A:bR}:∀c:Code,qU c=true->TG E om c fun st k=>bA E R n om F I A c st k
 |.skip=>fun hw _ st k x fr σ ρ _ h hi=>CW.skip ⟨ρ,st,hi,.refl,h⟩
 |.exit i=>fun hw _ st k x fr σ ρ _ h hi=>CW.exit ⟨ρ,st,hi,.refl,h⟩
 |.ret=>fun hw _ st k x fr σ ρ _ h hi=>CW.ret ⟨ρ,st,hi,.refl,h⟩
 |.region id ops dr=>fun hw β st k x fr σ ρ bq h hi=>by
  have h':(bif dr then (bif ou ops.toList then ny E R om F I.im (o9 ops.toList) ops.toList ops.toList st [] (fun st=>k .normal st) else none) else tH E R om F I.im ops.toList ops.toList st (fun st=>k .normal st))=some x:=h
  have aam:∀{nr:Bool} {W:List Nat} {st':MS R.T} {fr':Fr} {σ':ah} {ρ':aN} {j:Nat},Kp nr W st fr (σ.bump j) ρ st' fr' σ' ρ'->Kp nr W st fr σ ρ st' fr' σ' ρ':=fun h=>⟨h.fr,fun o ho=>⟨(h.ob o ho).ob,(h.ob o ho).ln,(h.ob o ho).om,aav (ajO _ _) (h.ob o ho).nx,⟨fun l hl=>(h.ob o ho).lp.1 l (adV hl (ajO _ _)),(h.ob o ho).lp.2⟩,(h.ob o ho).dp,fun hr=>⟨((h.ob o ho).ro hr).1,((h.ob o ho).ro hr).2⟩⟩⟩
  cases dr with
  |true=>
   rw[cond_true] at h'
   obtain⟨he,h'⟩:=dO h'
   refine CW.draw he (Dp hR hF hI.2 _ σ.next ρ st fr _ [] (TK hw) bq (hi.next _) (RS _) h' ?_)
   intro ρ' st' fr' σ' hi' hn hkp hk
   exact⟨ρ',st',hi'.le hn,aam hkp,hk⟩
  |false=>
   rw[cond_false] at h'
   refine CW.region (yu hR hF hI.2 _ σ.next ρ st fr _ (TK hw) bq (hi.next _) (RS _) h' ?_)
   intro ρ' st' fr' σ' hi' hn hkp hk
   exact⟨ρ',st',hi'.le hn,aam hkp,hk⟩
 |.seq a b=>fun hw β st k x fr σ ρ bq h hi=>by
  have h':(match look A.joins (mO b) with
   |none=>bA E R n om F I A a st fun e st=>match e with
    |.normal=>bA E R n om F I A b st k
    |e=>k e st
   |some q=>(bA E R n om F I A (β:=Out R.T q.outs) a ((base (aJ a) q.K q.O .ro st).over st) fun e st=>rP R (aJ a) e st q.outs).bind (uE R (base (aJ a) q.K q.O (fun b=>b) st) (fun e st=>match e with
    |.normal=>bA E R n om F I A b st k
    |e=>k e st) q.outs))=some x:=h
  have hw2:qU a=true/\qU b=true:=by
   have hw':((aJ a++aJ b).all fun d=>Nat.blt d F0)=true:=hw
   rw[List.all_append,aan] at hw';exact hw'
  have hl:∀i,aR i (aJ (.seq a b))=false->aR i (aJ a)=false/\aR i (aJ b)=false:=fun i hi=>by
   have hi':aR i (aJ a++aJ b)=false:=hi
   rw[Gv,ajk] at hi';exact hi'
  have fin:∀(e:Ex) (st':MS R.T) (fr':Fr) (σ':ah) (ρ':aN),aH ρ' σ'.next st' fr' σ'->Kp (iI E a) (aJ a) st fr σ ρ st' fr' σ' ρ'->(match e with
   |.normal=>bA E R n om F I A b st' k
   |e=>k e st')=some x->rJ E b (fun e fr' σ'=> ∃ρ' st',aH ρ' σ'.next st' fr' σ'/\Kp (iI E (.seq a b)) (aJ (.seq a b)) st fr σ ρ st' fr' σ' ρ'/\k e st'=some x) e fr' σ':=by
   intro e st' fr' σ' ρ' hi' hkp hk
   have TL:=(hkp.mono (W':=aJ (.seq a b)) fun i hi=>(hl i hi).1).nr (GU:=iI E (.seq a b)) (fun e=>by simp only[iI,aan] at e;exact e.1)
   cases e with
   |normal=>
    refine(qd hF hI b hw2.2 _ st' k x fr' σ' ρ' ((congrArg Cx.om hkp.om).trans bq) hk hi').mono ?_
    rintro e xZ lC ⟨oM,gG,h1,h2,h3⟩
    exact⟨oM,gG,h1,TL.trans ((h2.mono fun i hi=>(hl i hi).2).nr (fun e=>by simp only[iI,aan] at e;exact e.2)),h3⟩
   |exit i=>exact⟨ρ',st',hi',TL,hk⟩
   |ret=>exact⟨ρ',st',hi',TL,hk⟩
  split at h'
  ·refine CW.seq ((qd hF hI a hw2.1 _ st _ x fr σ ρ bq h' hi).mono ?_)
   rintro e fr' σ' ⟨ρ',st',hi',hkp,hk⟩
   exact fin e st' fr' σ' ρ' hi' hkp hk
  ·rename_i q _
   obtain⟨o,ho,h'⟩:=iR.1 h'
   have hro:∀o x,look st.ob o=some x->aR o (aJ a)=false->aR o q.O=true->mM (aJ a) x=true->RO ((base (aJ a) q.K q.O .ro st).over st) o:=fun o x h1 h2 h3 h4=>Sy h1 h2 h3 h4
   have hH:∀o,aR o (aJ a)=false->RO st o->RO ((base (aJ a) q.K q.O .ro st).over st) o:=fun o _ h=>LQ (YI (fun _ _=>rfl) h) h
   have hbase:aH ρ σ.next (base (aJ a) q.K q.O .ro st) fr σ:=hi.base (st0:=(base (aJ a) q.K q.O .ro st).over st) TH (Kp.refl (nr:=false)) hi hro
   refine CW.seq ((qd hF hI a hw2.1 _ _ _ o fr σ ρ bq ho (hbase.over hi)).mono ?_)
   rintro e fr' σ' ⟨ρ',st',hi',hkp,hk⟩
   obtain⟨ρ2,S2,gG,h1,g1,_,h3,h2⟩:=Dc (β:=β) hR hi' hk
   rw[h2] at h'
   obtain⟨f1,f2⟩:=finish (K:=q.K) hi hH hro (hkp.trans g1) h1 fun o ho hr=>h3 o ho ((hkp.ob o ho).ro hr).1
   exact fin e _ fr' σ' ρ2 f1 f2 h'
 |.cond c a b=>fun hw β st k x fr σ ρ bq h hi=>by
  have h':(match bB [] st c with
   |some (.gQ t)=>bif t then bA E R n om F I A a st k else bA E R n om F I A b st k
   |some (.bool t)=>bif t then bA E R n om F I A a (st.Cc c true) k else bA E R n om F I A b (st.Cc c false) k
   |_=>none)=some x:=h
  have hw2:qU a=true/\qU b=true:=by
   have hw':((aJ a++aJ b).all fun d=>Nat.blt d F0)=true:=hw
   rw[List.all_append,aan] at hw';exact hw'
  have hl:∀i,aR i (aJ (.cond c a b))=false->aR i (aJ a)=false/\aR i (aJ b)=false:=fun i hi=>by
   have hi':aR i (aJ a++aJ b)=false:=hi
   rw[Gv,ajk] at hi';exact hi'
  have ha:∀st':MS R.T,st'.ob=st.ob->aH ρ σ.next st' fr σ->bA E R n om F I A a st' k=some x->CW E a fr σ fun e fr' σ'=> ∃ρ' st',aH ρ' σ'.next st' fr' σ'/\Kp (iI E (.cond c a b)) (aJ (.cond c a b)) st fr σ ρ st' fr' σ' ρ'/\k e st'=some x:=fun st' hs hi' hk=>by
   refine(qd hF hI a hw2.1 _ st' k x fr σ ρ bq hk hi').mono ?_
   rintro e xZ lC ⟨oM,gG,h1,h2,h3⟩
   exact⟨oM,gG,h1,((⟨h2.fr,fun o ho=>(h2.ob o ho).from hs⟩:Kp (iI E a) (aJ a) st fr σ ρ gG xZ lC oM).mono fun i hi=>(hl i hi).1).nr (fun e=>by simp only[iI,aan] at e;exact e.1),h3⟩
  have hb:∀st':MS R.T,st'.ob=st.ob->aH ρ σ.next st' fr σ->bA E R n om F I A b st' k=some x->CW E b fr σ fun e fr' σ'=> ∃ρ' st',aH ρ' σ'.next st' fr' σ'/\Kp (iI E (.cond c a b)) (aJ (.cond c a b)) st fr σ ρ st' fr' σ' ρ'/\k e st'=some x:=fun st' hs hi' hk=>by
   refine(qd hF hI b hw2.2 _ st' k x fr σ ρ bq hk hi').mono ?_
   rintro e xZ lC ⟨oM,gG,h1,h2,h3⟩
   exact⟨oM,gG,h1,((⟨h2.fr,fun o ho=>(h2.ob o ho).from hs⟩:Kp (iI E b) (aJ b) st fr σ ρ gG xZ lC oM).mono fun i hi=>(hl i hi).2).nr (fun e=>by simp only[iI,aan] at e;exact e.2),h3⟩
  split at h'
  ·rename_i t hc
   refine CW.cond (bf (E:=E) hi .nil hc).tJ (fun e=> ?_) (fun e=> ?_)
   ·subst e;exact ha st rfl hi h'
   ·subst e;exact hb st rfl hi h'
  ·rename_i t hc
   have hl:aH ρ σ.next (st.Cc c t) fr σ/\(st.Cc c t).ob=st.ob:=by
    cases c with
    |tmp j=>exact⟨hi.learn (show Rl R ρ σ.top (.bool t) (fr.tm j) from hi.fr _ _ (ajv hc)).pY,rfl⟩
    |_=>exact⟨hi,rfl⟩
   refine CW.cond (bf (E:=E) hi .nil hc).pY (fun e=> ?_) (fun e=> ?_)
   ·subst e;exact ha _ hl.2 hl.1 h'
   ·subst e;exact hb _ hl.2 hl.1 h'
  ·cases h'
 |.block id c=>fun hw β st k x fr σ ρ bq h hi=>by
  have h':(bA E R n om F I A c st fun e st=>match e with
   |.exit i=>bif Nat.beq i id then k .normal st else k (.exit i) st
   |e=>k e st)=some x:=h
  refine CW.block ((qd hF hI c hw _ st _ x fr σ ρ bq h' hi).mono ?_)
  rintro e fr' σ' ⟨ρ',st',hi',hkp,hk⟩
  cases e with
  |normal=>exact⟨ρ',st',hi',hkp,hk⟩
  |ret=>exact⟨ρ',st',hi',hkp,hk⟩
  |exit i=>
   dsimp only at hk
   unfold uw
   dsimp only
   cases hb:Nat.beq i id
   ·rw[hb] at hk
    rw[if_neg (LJ hb)]
    exact⟨ρ',st',hi',hkp,hk⟩
   ·rw[hb] at hk
    rw[if_pos (d9 hb)]
    exact⟨ρ',st',hi',hkp,hk⟩
 |.loop c=>fun hw β st k x fr σ ρ bq h hi=>by
  have h':(match look A.loops (mO c) with
   |some q=>match lg R (aJ c) st q.sh with
    |some p=>(dA (mO c) (aJ c) (base (aJ c) q.K q.O .ro st) q.sh q.outs (fun st k=>bA E R n om F I A c st k) n p).bind (uE R (base (aJ c) q.K q.O (fun b=>b) st) k q.outs)
    |none=>none
   |none=>Gm (R:=R) (fun st k=>bA E R n om F I A c st k) 130 st k)=some x:=h
  split at h'
  ·rename_i q _
   split at h'
   ·rename_i p hp
    obtain⟨o,ho,h'⟩:=iR.1 h'
    obtain⟨ρ1,S1,p1,p2,_,p3⟩:=hi.lg (nr:=iI E c) hR hp
    have hro:∀o x,look st.ob o=some x->aR o (aJ c)=false->aR o q.O=true->mM (aJ c) x=true->RO ((base (aJ c) q.K q.O .ro st).over (unpack R q.sh p)) o:=fun o x h1 h2 h3 h4=>Sy h1 h2 h3 h4
    have hH:∀o,aR o (aJ c)=false->RO st o->RO ((base (aJ c) q.K q.O .ro st).over (unpack R q.sh p)) o:=fun o ho h=>YH (p3 o ho h)
    have hB:∀(st' S':MS R.T) (fr':Fr) (σ':ah) (ρ':aN) (b':Nat),aH ρ' b' st' fr' σ'->Kp (iI E c) (aJ c) ((base (aJ c) q.K q.O .ro st).over (unpack R q.sh p)) fr σ ρ S' fr' σ' ρ'->aH ρ' b' (base (aJ c) q.K q.O .ro st) fr' σ':=
     fun st' S' fr' σ' ρ' b' h1 h2=>hi.base TH h2 h1 hro
    have hk0:Kp (iI E c) (aJ c) ((base (aJ c) q.K q.O .ro st).over (unpack R q.sh p)) fr σ ρ ((base (aJ c) q.K q.O .ro st).over (unpack R q.sh p)) fr σ ρ1:=⟨fun _ _=>rfl,fun q hq=>⟨(p2.ob q hq).ob,(p2.ob q hq).ln,(p2.ob q hq).om,RS _,⟨fun _ _=>rfl,fun _ _=>rfl⟩,fun _ _ _=>rfl,fun hr=>⟨hr,fun _=>⟨rfl,rfl⟩⟩⟩⟩
    refine(aac (β:=β) hR (qd hF hI c hw) bq hB (fun o=>fun y hy=>by obtain⟨z,_,_,rfl⟩:=vW hy;rfl) n p o fr σ ρ1 ho p1 hk0).mono ?_
    rintro e fr' σ' ⟨ρ',S',st',hi',hkp,hn,hk⟩
    obtain⟨f1,f2⟩:=finish (K:=q.K) hi hH hro hkp hi' hn
    exact⟨ρ',_,f1,f2,by rw[<-hk k];exact h'⟩
   ·cases h'
  ·exact aad (qd hF hI c hw) 130 st k x fr σ ρ bq h' hi
 |.rangeFunc f ps a c=>fun hw β st k x fr σ ρ bq h hi=>by
  have h':(match look A.loops (mO c) with
   |some q=>match bB [] st f with
    |some (.fn g u v)=>bif pO u&& pO v&& zJ q.O q.sh.ob&& iI E a&& iI E c then (match Gp u v (I.it g) with
     |some ⟨el,xs⟩=>match lg R (ps.toList++aJ a++aJ c) st.obs q.sh with
      |some p=>(xs.bind fun xs=>Gn (mO c) (ps.toList++aJ a++aJ c) (base (ps.toList++aJ a++aJ c) q.K q.O .ro st) q.sh q.outs (fun x st k=>match CU st ps.toList (gJ R .sh el x) with
        |some st=>bA E R n om F I A a st fun e st=>match e with
         |.normal=>bA E R n om F I A c st k
         |_=>none
        |none=>none) xs p).bind (uE R (base (ps.toList++aJ a++aJ c) q.K q.O (fun b=>b) st) k q.outs)
      |none=>none
     |none=>none) else none
    |_=>none
   |none=>none)=some x:=h
  split at h'
  ·rename_i q _
   split at h'
   ·rename_i g u v hf
    obtain⟨hst,h'⟩:=dO h'
    simp only[aan] at hst
    obtain⟨⟨hst,hna⟩,hnc⟩:=hst
    split at h'
    ·rename_i el xs hfi
     split at h'
     ·rename_i p hp
      obtain⟨o,ho,h'⟩:=iR.1 h'
      obtain⟨ys,hys,ho⟩:=iR.1 ho
      obtain⟨va,vb,KN,hva,hvb⟩:=(bf (E:=E) hi .nil hf).mP
      obtain⟨himp,hel,hit⟩:=aal hR hI hst.1.1 hst.1.2 hva hvb (fun _ h=>h) hfi
      have hit:=hit ys hys
      obtain⟨ρ1,S1,p1,p2,p0,p3⟩:=hi.obs.lg (nr:=false) hR hp
      have hw3:qU a=true/\qU c=true:=by
       have hw':((ps.toList++aJ a++aJ c).all fun d=>Nat.blt d F0)=true:=hw
       rw[List.all_append,List.all_append,aan,aan] at hw';exact⟨hw'.1.2,hw'.2⟩
      clear hw
      generalize hW:ps.toList++aJ a++aJ c=W at*
      have hl:∀i,aR i W=false->aR i ps.toList=false/\aR i (aJ a)=false/\aR i (aJ c)=false:=fun i hi=>by
       rw[<-hW,Gv,Gv,ajk,ajk] at hi;exact⟨hi.1.1,hi.1.2,hi.2⟩
      have hro:∀o x,look st.ob o=some x->aR o W=false->aR o q.O=true->mM W x=true->RO ((base W q.K q.O .ro st).over (unpack R q.sh p)) o:=fun o x h1 h2 h3 h4=>Sy h1 h2 h3 h4
      have hH:∀o,aR o W=false->RO st o->RO ((base W q.K q.O .ro st).over (unpack R q.sh p)) o:=fun o ho h=>YH (p3 o ho h)
      generalize hHe:(base W q.K q.O .ro st).over (unpack R q.sh p)=H at*
      have hB:∀(st' S':MS R.T) (σ':ah) (ρ':aN) (b':Nat),aH ρ' b' st' fr σ'->Kp false W H fr σ ρ S' fr σ' ρ'->aH ρ' b' (base W q.K q.O .ro st) fr σ':=
       fun st' S' σ' ρ' b' h1 h2=>hi.base TH h2 h1 hro
      have ajM:∀o,RO (base W q.K q.O .ro st) o:=fun o=>fun y hy=>by obtain⟨z,_,_,rfl⟩:=vW hy;rfl
      let r0:nY:={st:=0,pend:=none,fr:=fr,ps:=ps.toList,dS:=a,body:=c}
      let body:{β:Type}->aA R.T el->MS R.T->(Ex->MS R.T->Option β)->Option β:=fun x st k=>match CU st ps.toList (gJ R .sh el x) with
          |some st=>bA E R n om F I A a st fun e st=>match e with
           |.normal=>bA E R n om F I A c st k
           |_=>none
          |none=>none
      let J:List (List V)->ah->Prop:=fun L σ'=> ∃(zs:List (aA R.T el)) (p':pI R.T q.sh) (ρ':aN),L=zs.map (bG R el)/\Gn (mO c) W (base W q.K q.O .ro st) q.sh q.outs body zs p'=some o/\aH ρ' σ'.next (unpack R q.sh p') fr σ'/\(unpack R q.sh p').fr=[]/\
       Kp false W H fr σ ρ ((base W q.K q.O .ro st).over (unpack R q.sh p')) fr σ' ρ'/\σ'.loops σ.next=some r0
      let Fin:Ex->ah->Prop:=fun e σ'=> ∃(ρ':aN) (S' st':MS R.T),aH ρ' σ'.next st' fr σ'/\Kp false W H fr σ ρ S' fr σ' ρ'/\(∀o,aR o W=false->RO H o->look st'.ob o=none)/\∀(k:Ex->MS R.T->Option β) (bs:MS R.T),uE R bs k q.outs o=k e (bs.over st')
      let D:ah->Prop:=fun σ'=> ∃e,Fin e σ'/\σ'.loops σ.next=some {r0 with st:=2,pend:=some e}
      have shJ:∀L σ1 σ2,σ.next<σ1.next->J L σ1->Shift ρ.om.dp σ1 σ2->J L σ2:=by
       rintro L σ1 σ2 hlt ⟨zs,p',ρ',e1,e2,e3,e4,e5,e6⟩ hs
       exact⟨zs,p',ρ',e1,e2,(e3.shift (fun p=>hs.loc (aag e5.om p)) hs.top).le hs.next,e4,⟨e5.fr,fun o ho=>(e5.ob o ho).shift (fun L hL=>hs.loc hL) hs.next (fun l hl=>hs.loops l (by omega)) (fun s hs'=>hs.top s (by have:=hi.nx;omega))⟩,(hs.loops _ hlt).trans e6⟩
      have shD:∀σ1 σ2,σ.next<σ1.next->D σ1->Shift ρ.om.dp σ1 σ2->D σ2:=by
       rintro σ1 σ2 hlt ⟨e,⟨ρ',S',st',e1,e2,e3,e4⟩,e5⟩ hs
       exact⟨e,⟨ρ',S',st',(e1.shift (fun p=>hs.loc (aag e2.om p)) hs.top).le hs.next,⟨e2.fr,fun o ho=>(e2.ob o ho).shift (fun L hL=>hs.loc hL) hs.next (fun l hl=>hs.loops l (by omega)) (fun s hs'=>hs.top s (by have:=hi.nx;omega))⟩,e3,e4⟩,(hs.loops _ hlt).trans e5⟩
      have fin:∀(σ2:ah) (r:nY) (e:Ex),Fin e σ2->∃ρ' st',aH ρ' (σ2.mg σ.next).next st' fr (σ2.mg σ.next)/\Kp false (aJ (.rangeFunc f ps a c)) st fr σ ρ st' fr (σ2.mg σ.next) ρ'/\k e st'=some x:=by
       rintro σ2 r e ⟨ρ',S',st',e1,e2,e3,e4⟩
       have yt:aH ρ' σ2.next st' fr (σ2.mg σ.next):=e1.shift (fun _=>rfl) (fun _ _=>rfl)
       have e2':Kp false W H fr σ ρ S' fr (σ2.mg σ.next) ρ':=⟨e2.fr,fun o ho=>(e2.ob o ho).shift (fun _ _=>rfl) (RS _) (fun l hl=>by
        show upd σ2.loops σ.next none l=_
        unfold upd;rw[if_neg (by omega)]) (fun _ _=>rfl)⟩
       obtain⟨f1,f2⟩:=finish (K:=q.K) hi hH hro e2' yt e3
       refine⟨ρ',_,f1, ?_,by rw[<-e4 k];exact h'⟩
       show Kp false (ps.toList++aJ a++aJ c) _ _ _ _ _ _ _ _
       rw[hW];exact f2
      refine CW.range KN himp ?_
      rw[hi.d]
      have hent:(σ.enter fr ps a c).next=σ.next+1:=rfl
      obtain⟨m,w,σ2,hm,hnx,hJD⟩:=hit ρ.om.dp σ.next (σ.enter fr ps a c) J D shJ shD (by
       rintro y L σ1 hlt ⟨zs,p',ρ',e1,e2,e3,e4,e5,e6⟩
       cases zs with
       |nil=>cases e1
       |cons z zs=>
        simp only[ac7,ajj] at e1
        obtain⟨rfl,rfl⟩:=e1
        have hbase:=hB _ _ _ _ _ e3 e5
        have e2':body z ((base W q.K q.O .ro st).over (unpack R q.sh p')) (TJ (mO c) W (base W q.K q.O .ro st) q.sh q.outs body zs)=some o:=e2
        show∃c' σ',yw E σ.next (bG R el z) σ1 c' σ'/\_
        generalize hkk:TJ (mO c) W (base W q.K q.O .ro st) q.sh q.outs body zs=kk at e2'
        dsimp only[body] at e2'
        split at e2'
        ·rename_i st1 xu
         obtain⟨hlen,i1,i2⟩:=aah xu (vZ hR el z hel) (hbase.over e3)
         have GN:ρ'.om.om=om:=(congrArg Cx.om e5.om).trans bq
         obtain⟨m1,x1,bQ,σ2,q1,ρ2,st2,q2,q3,q4⟩:=qd hF hI a hw3.1 _ _ _ _ _ _ ρ' GN e2' i1
         cases x1 with
         |exit i=>cases q4
         |ret=>cases q4
         |normal=>
          dsimp only at q4
          obtain⟨nb,hnb⟩:=zQ (aJ a)
          have lp2:σ2.loops σ.next=some r0:=((q3.ob nb (hnb nb (RS _))).lp.1 _ hlt).trans e6
          have nx2:=(q3.ob nb (hnb nb (RS _))).nx
          have q2':aH ρ2 σ2.next st2 bQ (σ2.fO σ.next {r0 with st:=1}):=q2.shift (fun _=>rfl) (fun _ _=>rfl)
          obtain⟨m2,x2,fK,σ3,t1,ρ3,uq,t2,t3,t4⟩:=qd hF hI c hw3.2 _ _ _ _ bQ (σ2.fO σ.next {r0 with st:=1}) ρ2 ((congrArg Cx.om q3.om).trans GN) q4 q2'
          obtain⟨nc,hnb'⟩:=zQ (aJ c)
          have lp3:σ3.loops σ.next=some {r0 with st:=1}:=((t3.ob nc (hnb' nc (RS _))).lp.1 _ (show σ.next<σ2.next by omega)).trans (by show upd σ2.loops σ.next _ σ.next=_;unfold upd;rw[if_pos rfl])
          have TM:σ2.next<=σ3.next:=(t3.ob nc (hnb' nc (RS _))).nx
          have keep:∀p,aR p W=false->aY false p H ρ σ uq ρ3 σ3:=fun p hp=>by
           have k1:=e5.ob p hp
           have k2:aY false p ((base W q.K q.O .ro st).over (unpack R q.sh p')) ρ' σ1 st2 ρ2 σ2:=(q3.ob p (hl p hp).2.1).weak.from i2
           have k3:=(t3.ob p (hl p hp).2.2).weak
           have k12:=k1.trans k2
           refine⟨k3.ob.trans k12.ob,k3.ln.trans k12.ln,k3.om.trans k12.om,aav k12.nx TM,⟨fun l hl=> ?_,fun s hs=>(k3.lp.2 s (by rw[k12.om];exact hs)).trans (k12.lp.2 s hs)⟩,fun L hn hL=>(k3.dp L (by rw[k12.om];exact hn) (by rw[k12.om];exact hL)).trans (k12.dp L hn hL),fun hr=> ?_⟩
           ·refine(k3.lp.1 l (show l<σ2.next by have:=k12.nx;omega)).trans (Eq.trans ?_ (k12.lp.1 l hl))
            show upd σ2.loops σ.next _ l=_
            unfold upd;rw[if_neg (by omega)]
           ·have r1:=k12.ro hr
            have r2:=k3.ro r1.1
            rw[k12.om] at r2
            exact⟨r2.1,fun s=>⟨(r2.2 s).1.trans (r1.2 s).1,(r2.2 s).2.trans (r1.2 s).2⟩⟩
          have fd:∀(r':nY),aH ρ3 σ3.next uq.obs fK (σ3.fO σ.next r'):=fun r'=>t2.obs.shift (fun _=>rfl) (fun _ _=>rfl)
          have keep':∀(r':nY),∀p,aR p W=false->aY false p H ρ σ uq.obs ρ3 (σ3.fO σ.next r'):=fun r' p hp=>((keep p hp).congr (gG:=uq.obs) rfl).shift (lC:=σ3.fO σ.next r') (fun _ _=>rfl) (RS _) (fun l hl=>by
           show upd σ3.loops σ.next _ l=_
           unfold upd;rw[if_neg (by omega)]) (fun _ _=>rfl)
          have atl:∀(r':nY),(σ3.fO σ.next r').loops σ.next=some r':=fun r'=>by show upd σ3.loops σ.next _ σ.next=_;unfold upd;rw[if_pos rfl]
          have deep:∀(r':nY) a o,ρ.om.dp<a->(σ3.fO σ.next r').obj (a,o)=σ1.obj (a,o):=fun r' a o ha=>
           ((t3.ob nc (hnb' nc (RS _))).dp (a,o) (.inl hnc) (Cx.YE _ (by rw[q3.om,e5.om];exact ha))).trans ((q3.ob nb (hnb nb (RS _))).dp (a,o) (.inl hna) (Cx.YE _ (by rw[e5.om];exact ha)))
          have loops:∀(r':nY) s,s<σ1.next->(σ3.fO σ.next r').loops s=σ1.loops s\/s=σ.next:=fun r' s hs=>by
           by_cases es:s=σ.next
           ·exact .inr es
           ·left
            have u1:(σ3.fO σ.next r').loops s=σ3.loops s:=by show upd σ3.loops σ.next _ s=_;unfold upd;rw[if_neg es]
            have u2:(σ2.fO σ.next {r0 with st:=1}).loops s=σ2.loops s:=by show upd σ2.loops σ.next _ s=_;unfold upd;rw[if_neg es]
            exact u1.trans (((t3.ob nc (hnb' nc (RS _))).lp.1 s (show s<σ2.next by omega)).trans (u2.trans ((q3.ob nb (hnb nb (RS _))).lp.1 s hs)))
          have rnd:∀(bb:Bool) (σ':ah),aae r0 σ.next σ3 x2 bb σ'->yw E σ.next (bG R el z) σ1 bb σ':=fun bb σ' hbb=>
           yw.of e6 rfl hlen ⟨m1,.normal,bQ,σ2,q1,rfl,r0,lp2,rfl,m2,x2,fK,σ3,t1,_,lp3,rfl,by cases x2<;>exact hbb⟩
          have stop:∀e,aae r0 σ.next σ3 x2 false (σ3.fO σ.next {r0 with st:=2,pend:=some e})->rP R W e uq.obs q.outs=some o->∃c' σ',yw E σ.next (bG R el z) σ1 c' σ'/\σ1.next<=σ'.next/\(∀a o,ρ.om.dp<a->σ'.obj (a,o)=σ1.obj (a,o))/\(∀s,s<σ1.next->σ'.loops s=σ1.loops s\/s=σ.next)/\(c'=true->J (zs.map (bG R el)) σ')/\(c'=false->D σ'):=by
           intro e he hpk
           obtain⟨ρ4,S4,BO,g1,g2,g3,g4,g5⟩:=Dc (nr:=false) (β:=β) hR (fd {r0 with st:=2,pend:=some e}) hpk
           have GV:ρ4.om=ρ.om:=by
            obtain⟨nw,hnw⟩:=zQ W
            exact g2.om.trans (keep nw (hnw nw (RS _))).om
           refine⟨false,σ3.fO σ.next {r0 with st:=2,pend:=some e},rnd _ _ he,aav nx2 TM,deep _,loops _,(fun h=>by cases h),fun _=>⟨e,⟨ρ4,S4,BO,g1.aaf (g3 rfl) (by rw[GV];exact hi.d) (by rw[GV];exact hi.om),⟨fun _ _=>rfl,fun p hp=>(keep' _ p hp).trans (g2.ob p hp)⟩,fun p hp hr=>g4 p hp ((keep p hp).ro hr).1,g5⟩,atl _⟩⟩
          cases x2 with
          |normal=>
           rw[<-hkk] at t4
           unfold TJ at t4
           dsimp only at t4
           split at t4
           ·rename_i p4 hp4
            obtain⟨ρ4,S4,g1,g2,g3,g4⟩:=(fd {r0 with st:=0,pend:=none}).lg (nr:=false) hR hp4
            have GV:ρ4.om=ρ.om:=by
             obtain⟨nw,hnw⟩:=zQ W
             exact g2.om.trans (keep nw (hnw nw (RS _))).om
            refine⟨true,σ3.fO σ.next {r0 with st:=0,pend:=none},rnd _ _ ⟨rfl,rfl⟩,aav nx2 TM,deep _,loops _,fun _=>⟨zs,p4,ρ4,rfl,t4,g1.aaf (g3 rfl) (by rw[GV];exact hi.d) (by rw[GV];exact hi.om),g3 rfl,⟨fun _ _=>rfl,fun p hp=> ?_⟩,atl _⟩,fun h=>by cases h⟩
            ·have kk:=(keep' {r0 with st:=0,pend:=none} p hp).trans (g2.ob p hp)
             exact⟨kk.ob,kk.ln,kk.om,kk.nx,kk.lp,kk.dp,fun hr=>⟨LQ (ajM p) fun y hy=>(by rw[g4 p hp ((keep p hp).ro hr).1] at hy;cases hy),(kk.ro hr).2⟩⟩
           ·cases t4
          |exit i=>rw[<-hkk] at t4;exact stop (.exit i) ⟨rfl,rfl⟩ t4
          |ret=>rw[<-hkk] at t4;exact stop .ret ⟨rfl,rfl⟩ t4
        ·cases e2') (ake _) (by
       refine⟨ys,p,ρ1,rfl,ho,(p1.shift (σ':=σ.enter fr ps a c) (fun _=>rfl) (fun _ _=>rfl)).le (adh _),p0 rfl,⟨fun _ _=>rfl,fun o ho=> ?_⟩, ?_⟩
       ·rw[hHe]
        exact⟨(p2.ob o ho).ob,(p2.ob o ho).ln,(p2.ob o ho).om,adh _,⟨fun l hl=>(by show upd σ.loops σ.next _ l=_;unfold upd;rw[if_neg (by omega)]),fun _ _=>rfl⟩,fun _ _ _=>rfl,fun hr=>⟨hr,fun _=>⟨rfl,rfl⟩⟩⟩
       ·show upd σ.loops σ.next _ σ.next=_;unfold upd;rw[if_pos rfl])
      refine⟨m,w,σ2,hm, ?_⟩
      rcases hJD with ⟨zs,p',ρ',e1,e2,e3,e4,e5,e6⟩| ⟨e,hfin,e6⟩
      ·cases zs with
       |cons z zs=>cases e1
       |nil=>
        have e2':rP R W .normal (unpack R q.sh p').obs q.outs=some o:=e2
        obtain⟨ρ4,S4,BO,g1,g2,g3,g4,g5⟩:=Dc (nr:=false) (β:=β) hR e3.obs e2'
        have hno:∀p,aR p W=false->RO H p->look (unpack R q.sh p').ob p=none:=fun p hp hr=>ajK hst.2 ((e5.ob p hp).ro hr).1
        have Mx:∀p,aR p W=false->RO H p->RO (unpack R q.sh p').obs p:=fun p hp hr y hy=>by
         have:look (unpack R q.sh p').ob p=some y:=hy
         rw[hno p hp hr] at this;cases this
        exact⟨_,e6,(by show (0:Nat)≠1;omega),fin σ2 r0 .normal ⟨ρ4,S4,BO,g1,⟨fun _ _=>rfl,fun p hp=>by
         have a1:=e5.ob p hp
         have a2:=g2.ob p hp
         have MB:=a2.ro
         rw[a1.om] at MB
         exact⟨a2.ob.trans a1.ob,a2.ln.trans a1.ln,a2.om.trans a1.om,aav a1.nx a2.nx,⟨fun l hl=>(a2.lp.1 l (adV hl a1.nx)).trans (a1.lp.1 l hl),fun s hs=>(a2.lp.2 s (by rw[a1.om];exact hs)).trans (a1.lp.2 s hs)⟩,fun L hn hL=>(a2.dp L (by rw[a1.om];exact hn) (by rw[a1.om];exact hL)).trans (a1.dp L hn hL),fun hr=>⟨(MB (Mx p hp hr)).1,fun s=>⟨((MB (Mx p hp hr)).2 s).1.trans ((a1.ro hr).2 s).1,((MB (Mx p hp hr)).2 s).2.trans ((a1.ro hr).2 s).2⟩⟩⟩⟩,fun p hp hr=>g4 p hp (Mx p hp hr),g5⟩⟩
      ·exact⟨_,e6,(by show (2:Nat)≠1;omega),fin σ2 r0 e hfin⟩
     ·cases h'
    ·cases h'
   ·cases h'
  ·cases h'
 |.scope c=>fun hw β st k x fr σ ρ bq h hi=>CW.scope (qd hF hI c hw _ st k x fr σ ρ bq h hi)
 |.label _=>fun hw _ st k x fr σ ρ _ h hi=>CW.label ⟨ρ,st,hi,.refl,h⟩
 |.goto _=>fun hw _ st k x fr σ ρ _ h hi=>by cases h
 |.refuse _=>fun hw _ st k x fr σ ρ _ h hi=>by cases h
omit hR in
theorem Dq {ρ:aN} {b:Nat} {st:MS R.T} {fr:Fr} {σ:ah} (hi:aH ρ b st fr σ):∀{rs:List ResultVar} {jf:List (TV R.T)},rV E R st rs=some jf->∃vs,rs.mapM (lX E fr σ)=some vs/\au R ρ σ.top jf vs
 | [],jf,h=>by cases h;exact⟨[],rfl,rfl⟩
 |.tmp t::l,jf,h=>by
  unfold rV at h
  split at h
  ·rename_i v hv
   split at h
   ·rename_i vs hvs
    cases h
    obtain⟨ws,h1,h2⟩:=Dq hi hvs
    have:=bf (E:=E) hi .nil hv
    exact⟨fr.tm t::ws,by rw[adi];simp[lX,h1],.cons' this h2⟩
   ·cases h
  ·cases h
 |.cell a t::l,jf,h=>by
  unfold rV at h
  split at h
  ·rename_i o off hv
   split at h
   ·rename_i cs hl
    split at h
    ·rename_i v hld
     split at h
     ·rename_i vs hvs
      cases h
      obtain⟨ws,h1,h2⟩:=Dq hi hvs
      obtain⟨s,h3,h4⟩:=(bf (E:=E) hi .nil hv).oJ
      rw[BR] at h4
      obtain⟨s',l',h5,h6,h7⟩:=hi.rd hl
      rw[h3] at h5;cases h5
      obtain⟨y,hy,hr⟩:=vX h7 hld
      exact⟨y::ws,by rw[adi];simp[lX,h4,h6,hy,h1],.cons' hr h2⟩
     ·cases h
    ·cases h
   ·rename_i ss hl
    split at h
    ·rename_i v hld
     split at h
     ·rename_i vs hvs
      cases h
      obtain⟨ws,h1,h2⟩:=Dq hi hvs
      obtain⟨s,h3,h4⟩:=(bf (E:=E) hi .nil hv).oJ
      rw[BR] at h4
      obtain⟨s',h5,h6⟩:=hi.rd hl
      rw[h3] at h5;cases h5
      obtain⟨y,hy,hr⟩:=Zt (ρ:=ρ) (top:=σ.top) hld
      exact⟨y::ws,by rw[adi];simp[lX,h4,h6,hy,h1],.cons' hr h2⟩
     ·cases h
    ·cases h
   ·cases h
  ·cases h
omit hR in
theorem MC:∀(l:List (TV R.T)) (vs:List V) (i:Nat) (P:TV R.T->V->Prop),(∀j v,l[j]? =some v->P v (vs.getD j aC))->∀j v,look (vR i l) j=some v->i<=j/\P v (vs.getD (j-i) aC)
 | [],vs,i,P,_,j,v,h=>by cases h
 |x::l,vs,i,P,hp,j,v,h=>by
  have h':look ((i,x)::vR (i+1) l) j=some v:=h
  by_cases e:j=i
  ·subst e
   rw[jq] at h';cases h'
   exact⟨RS _,by simpa using hp 0 x rfl⟩
  ·rw[gD _ _ e] at h'
   obtain⟨h1,h2⟩:=MC l vs.tail (i+1) P (fun j v hj=>by
    have:=hp (j+1) v (by simpa using hj)
    cases vs<;>simpa using this) j v h'
   refine⟨by omega, ?_⟩
   have e2:j-i=(j-(i+1))+1:=by omega
   rw[e2]
   cases vs<;>simpa using h2
def Cx.main (om:Bool):Cx:=⟨om,1,0,fun _=>none,fun _ _ h=>(by cases h),fun _ _ _ h=>(by cases h)⟩
theorem ME {n:Nat} {om:Bool} {F:Nat->List (FR R)} {I:IR R} (hF:bH E F) (hI:oO E I) {A:bR} {f:Nat} {fn:Func} {args res:List Sk} {p:aA R.T args} {x:aA R.T res} (h:dH E R n om F I A fn args res p=some x) (hf:E.P.funcs[f]? =some fn) (ha:iO args=true)
 (hlen:(bG R args p).length=args.length) (bq:E.om f=om) (hs:E.jO f=none) (hok:(match fn.body with|some c=>decide (args.length<=fn.ntmps)&& iM fn.ntmps c&& qU c|none=>false)=true):Pure E f (bG R args p) (lJ (bG R res x)):=by
 unfold dH at h
 split at h
 ·rename_i c hc
  rw[hc] at hok;dsimp only at hok
  rw[aan] at hok
  obtain⟨hok,hwk⟩:=hok
  refine Pure.of' fn.results.toList hf hc (fun fr σ hd ho ht=> ?_) rfl (by rw[hlen];exact hok) hs
  have hi:aH ⟨fun _=>none,fun _=>none,fun _=>0,Cx.main om⟩ σ.next (⟨vR 0 (gJ R .sh args p),[]⟩:MS R.T) fr σ:={
   d:=hd
   om:=by rw[ho,bq];rfl
   fr:=fun i v hv=>by
    obtain⟨_,h2⟩:=MC _ (bG R args p) 0 (fun v w=>Rl R ⟨fun _=>none,fun _=>none,fun _=>0,Cx.main om⟩ σ.top v w) (fun j v hj=>by
     obtain⟨w,h1,h2⟩:=(vZ hR args p ha).get hj
     rw[adH,h1];exact h2) i v hv
    rw[ht]
    exact .of (by simpa using h2)
   ob:=fun o x hx=>by cases hx
   inj:=fun t u s h=>by cases h
   lt:=fun t s h=>by cases h
   ge:=fun t s h=>by cases h
   nx:=ael _}
  refine(qd hR hF hI c hwk _ _ _ x fr σ _ rfl h hi).mono ?_
  rintro e fr' σ' ⟨ρ',st',hi',_,hk⟩
  have key:(match rV E R st' fn.results.toList with
   |some vs=>bif iO res&& Nat.ble (oH res) 16 then fU R res (nQ st' vs) else none
   |none=>none)=some x->∃vs,fn.results.toList.mapM (lX E fr' σ')=some vs/\aQ 20 σ' (match vs with| [v]=>v|vs=>.bE vs)=some (lJ (bG R res x)):=by
   intro hk
   split at hk
   ·rename_i jf GX
    obtain⟨hb,hk⟩:=dO hk
    rw[aan] at hb
    obtain⟨vs,h1,h2⟩:=Dq hi' GX
    refine⟨vs,h1, ?_⟩
    have aqL:=ae3 hb.2
    obtain⟨vs',v1,v2⟩:=GA hR hi' h2
    have c1:=(v2 15).trans (rZ hR res x (nQ st' jf) vs' hb.1 hk v1 19 σ' (by omega))
    have c2:=(v2 16).trans (rZ hR res x (nQ st' jf) vs' hb.1 hk v1 20 σ' (by omega))
    clear v1 v2
    match vs,c1,c2 with
    | [],c1,c2=>
      have:bG R res x=[]:=by simpa using c1.symm
      rw[this]
      show aQ 20 σ' (.bE [])=some (.bE [])
      rw[Rt];rfl
    | [v],c1,c2=>
      rw[adi] at c2
      obtain⟨w,hw,c2⟩:=iR.1 c2
      have:[w]=bG R res x:=by simpa using c2
      rw[<-this];exact hw
    |v::w::vs,c1,c2=>
     show aQ 20 σ' (.bE (v::w::vs))=_
     rw[Rt,c1,Option.map_some]
     have hl:(bG R res x).length=(v::w::vs).length:=by
      have:∀(l:List V) (m:List V),l.mapM (aQ 19 σ')=some m->m.length=l.length:=by
       intro l
       induction l with
       |nil=>intro m h;cases h;rfl
       |cons a l ih=>
        intro m h
        rw[adi] at h
        obtain⟨b,hb,h⟩:=iR.1 h
        obtain⟨c,hc,h⟩:=iR.1 h
        cases h
        simp[ih c hc]
      exact this _ _ c1
     match bG R res x,hl with
     |a::b::l,_=>rfl
   ·cases hk
  cases e with
  |exit i=>cases hk
  |normal=>exact key hk
  |ret=>exact key hk
 ·cases h
theorem GY {n:Nat} {om:Bool} {F:Nat->List (FR R)} {I:IR R} (hF:bH E F) (hI:oO E I) {A:bR} {f:Nat} {fn:Func} {args:List Sk} {τ:Ty} {p:aA R.T args} {x:List (Den R.T τ)} (h:zK E R n om F I A fn args τ p=some x) (hf:E.P.funcs[f]? =some fn) (ha:iO args=true)
 (hlen:(bG R args p).length=args.length) (bq:E.om f=om) (hs:E.jO f=none) (hok:(match fn.body with|some c=>decide (args.length<=fn.ntmps)&& iM fn.ntmps c&& qU c|none=>false)=true):
 Pure E f (bG R args p) (.aj .sh (x.map (aG R τ)))/\oC E f (bG R args p) (dx R τ) (x.map (aG R τ)):=by
 unfold zK at h
 split at h
 ·rename_i c hc
  rw[hc] at hok;dsimp only at hok
  rw[aan] at hok
  obtain⟨hok,hwk⟩:=hok
  have hi:aH ⟨fun _=>none,fun _=>none,fun _=>0,Cx.main om⟩ ah.init.next (⟨vR 0 (gJ R .sh args p),[]⟩:MS R.T) ({d:=1,om:=E.om f,tm:=fun i=>(bG R args p).getD i aC}:Fr) ah.init:={
   d:=rfl
   om:=bq
   fr:=fun i v hv=>by
    obtain⟨_,h2⟩:=MC _ (bG R args p) 0 (fun v w=>Rl R ⟨fun _=>none,fun _=>none,fun _=>0,Cx.main om⟩ ah.init.top v w) (fun j v hj=>by
     obtain⟨w,h1,h2⟩:=(vZ hR args p ha).get hj
     rw[adH,h1];exact h2) i v hv
    exact .of (by simpa using h2)
   ob:=fun o x hx=>by cases hx
   inj:=fun t u s h=>by cases h
   lt:=fun t s h=>by cases h
   ge:=fun t s h=>by cases h
   nx:=ael _}
  have himp:qJ E f (bG R args p) 1 ah.init (fun v σ1=> ∃c,v= .aj c (x.map (aG R τ))/\(c= .nil\/c= .full\/∃s,c= .own (dx R τ) s/\σ1.top s=(x.map (aG R τ)).length)):=by
   refine qJ.of hf hc (by rw[hlen];exact hok) ((qd hR hF hI c hwk _ _ _ x _ ah.init _ rfl h hi).mono ?_)
   rintro e fr' σ' ⟨ρ',st',hi',_,hk⟩
   have key:(match rV E R st' fn.results.toList with
    |some [v]=>bif R5 v then zy R τ v else none
    |_=>none)=some x->∃vs,fn.results.toList.mapM (lX E fr' σ')=some vs/\∃c:Cap,(match vs with| [v]=>v|vs=>V.bE vs)=V.aj c (x.map (aG R τ))/\(c= .nil\/c= .full\/∃s,c= .own (dx R τ) s/\σ'.top s=(x.map (aG R τ)).length):=by
    intro hk
    split at hk
    ·rename_i tv GX
     obtain⟨hb,hk⟩:=dO hk
     obtain⟨vs,h1,h2⟩:=Dq hi' GX
     obtain⟨v,l,rfl,h3,h4⟩:=h2.dN
     rw[h4.fB] at h1
     refine⟨[v],h1, ?_⟩
     unfold zy at hk
     split at hk
     ·rename_i cp τ' l0 _
      obtain⟨e,e2⟩:=qP hk;subst e;cases e2
      obtain⟨c',rfl,hc'⟩:=h3.kJ
      refine⟨c',rfl, ?_⟩
      cases cp<;>simp only[R5,aap] at hb
      ·exact .inr (.inl hc')
      ·rcases hc' with rfl|rfl| ⟨s,rfl,_,ht⟩
       ·exact .inl rfl
       ·exact .inr (.inl rfl)
       ·exact .inr (.inr ⟨s,rfl,by rw[aau];exact ht⟩)
     ·cases hk
      exact⟨.nil,h3.p8,.inl rfl⟩
     ·cases hk
    ·cases hk
   cases e with
   |exit i=>cases hk
   |normal=>exact key hk
   |ret=>exact key hk
  obtain⟨m,v,σ1,hm,cp,rfl,hcp⟩:=himp
  have hpc:aX (x.map (aG R τ))=true:=by
   have:=FZ (oK hR τ) x
   simpa [aF] using this
  refine⟨⟨m, ?_⟩,.of hm hpc hcp⟩
  simp only[jJ,hs,hm,Option.bind_some]
  exact xD _ _ (oK hR τ)
 ·cases h
omit hR in
theorem aaq {c:Cp}:∀{l:List Sk} {p:aA R.T l},(gJ R c l p).length=l.length
 | [],_=>rfl
 | [_],_=>rfl
 |_::k::l,p=>by show (gJ R c (k::l) p.2).length+1=_;rw[aaq];rfl
omit hR in
theorem aar {ρ:aN} {top:Nat->Nat}:∀{l:List Sk} {y:aA R.T l} {vs:List V},xU l=true->au R ρ top (gJ R .any l y) vs->vs=bG R l y
 | [],_,_,_,h=>h.fB
 | [k],y,vs,hs,h=>by
   cases k<;>first| (cases hs;done)|skip
   rename_i t
   cases t<;>first| (cases hs;done)|skip
   all_goals
    obtain⟨v,ws,rfl,h1,h2⟩:=au.dN (ts:=[]) h
    rw[h2.fB]
    exact congrArg (fun v=>[v]) h1
 |k::q::l,y,vs,hs,h=>by
  cases k<;>first| (cases hs;done)|skip
  rename_i t
  cases t<;>first| (cases hs;done)|skip
  all_goals
   obtain⟨v,ws,rfl,h1,h2⟩:=au.dN (ts:=gJ R .any (q::l) y.2) h
   rw[aar (l:=q::l) hs h2]
   exact congrArg (fun v=>v::bG R (q::l) y.2) h1
def GZ:List (Nat×gU)->Bool
 | []=>true
 | (i,_)::l=>Nat.ble F0 i&& GZ l
omit hR in
theorem aas:∀{l:List (Nat×gU)} {x:gy R.T l},GZ l=true->∀{i:Nat} {v:Ob R.T},look (jg R l x) i=some v->F0<=i
 | [],x,_,i,v,hv=>by cases hv
 | [(j,k)],x,h,i,v,hv=>by
   unfold GZ at h;rw[aan] at h
   have hv':look [(j,kE R k x)] i=some v:=hv
   by_cases e:i=j
   ·rw[e];exact ae3 h.1
   ·rw[gD _ _ e] at hv';cases hv'
 | (j,k)::q::l,x,h,i,v,hv=>by
   unfold GZ at h;rw[aan] at h
   have hv':look ((j,kE R k x.1)::jg R (q::l) x.2) i=some v:=hv
   by_cases e:i=j
   ·rw[e];exact ae3 h.1
   ·rw[gD _ _ e] at hv';exact aas h.2 hv'
theorem Dr {n:Nat} {om:Bool} {F:Nat->List (FR R)} {I:IR R} (hF:bH E F) (hI:oO E I) {A:bR} {f:Nat} {fn:Func} {args res:List Sk} {obs:List (Nat×gU)} {p:aA R.T args} {q:gy R.T obs} {y:aA R.T res} {q':gy R.T obs} (h:vS E R n om F I A fn args obs res p q=some (y,q')) (hf:E.P.funcs[f]? =some fn) (bq:E.om f=om)
 (hok:(match fn.body with|some c=>decide (args.length<=fn.ntmps)&& iM fn.ntmps c&& qU c&& (xU res&& tu obs&& GZ obs)|none=>false)=true):
 ∀(ρ:aN) (vs:List V) (σ:ah),ρ.om.om=E.om f->(∀t,ρ.tk t=none)->ρ.om.lo<=σ.next->
  au R ρ σ.top (gJ R .any args p) vs->(∀o x,look (jg R obs q) o=some x->dY ρ σ o x)->
  qJ E f vs ρ.om.dp σ fun v σ'=>v=lJ (bG R res y)/\(∀o x,look (jg R obs q') o=some x->dY ρ σ' o x)/\σ.next<=σ'.next/\(∀l,l<σ.next->σ'.loops l=σ.loops l)/\(∀s,s<ρ.om.lo->σ'.top s=σ.top s)/\
   ∀L:Loc,L.1<=ρ.om.dp->ρ.om.out L->σ'.obj L=σ.obj L:=by
 intro ρ vs σ hρo htk hlo hargs ajS
 unfold vS at h
 split at h
 ·rename_i c hc
  rw[hc] at hok;dsimp only at hok
  simp only[aan] at hok
  obtain⟨⟨hok,hwk⟩,⟨hsc,ajT⟩,hbig⟩:=hok
  have hlen:vs.length=args.length:=by rw[hargs.length];exact aaq
  have hi:aH ρ σ.next (⟨vR 0 (gJ R .any args p),jg R obs q⟩:MS R.T) ({d:=ρ.om.dp,om:=E.om f,tm:=fun i=>vs.getD i aC}:Fr) σ:={
   d:=rfl
   om:=hρo.symm
   fr:=fun i v hv=>by
    obtain⟨_,h2⟩:=MC _ vs 0 (fun v w=>Rl R ρ σ.top v w) (fun j v hj=>by
     obtain⟨w,h1,h2⟩:=hargs.get hj
     rw[adH,h1];exact h2) i v hv
    exact .of (by simpa using h2)
   ob:=ajS
   inj:=fun t u s h=>by rw[htk t] at h;cases h
   lt:=fun t s h=>by rw[htk t] at h;cases h
   ge:=fun t s h=>by rw[htk t] at h;cases h
   nx:=hlo}
  refine qJ.of hf hc (by rw[hlen];simpa using hok) ((qd hR hF hI c hwk _ _ _ (y,q') _ σ ρ (hρo.trans bq) h hi).mono ?_)
  rintro e fr' σ' ⟨ρ',st',hi',hkp,hk⟩
  have key:(match rV E R st' fn.results.toList with
   |some vs=>match fU R res vs with
    |some y=>match lK R st'.ob obs with
     |some q'=>some (y,q')
     |none=>none
    |none=>none
   |none=>none)=some (y,q')->∃ws,fn.results.toList.mapM (lX E fr' σ')=some ws/\(fun v σ'=>v=lJ (bG R res y)/\(∀o x,look (jg R obs q') o=some x->dY ρ σ' o x)/\σ.next<=σ'.next/\(∀l,l<σ.next->σ'.loops l=σ.loops l)/\(∀s,s<ρ.om.lo->σ'.top s=σ.top s)/\
    ∀L:Loc,L.1<=ρ.om.dp->ρ.om.out L->σ'.obj L=σ.obj L) (match ws with| [v]=>v|vs=>V.bE vs) σ':=by
   intro hk
   split at hk
   ·rename_i jf GX
    split at hk
    ·rename_i y' hy'
     split at hk
     ·rename_i q1 hq1
      cases hk
      obtain⟨ws,h1,h2⟩:=Dq hi' GX
      have hws:=aar hsc (xY hR res y jf ws hy' h2)
      obtain⟨nb,hnb⟩:=zQ (aJ c)
      have hk0:=hkp.ob nb (hnb nb (RS _))
      refine⟨ws,h1, ?_,fun o x hx=> ?_,hk0.nx,hk0.lp.1,hk0.lp.2,fun L hL ho=>hk0.dp L (.inr hL) ho⟩
      ·rw[<-hws]
       rcases ws with _| ⟨a,_| ⟨b,l⟩⟩<;>rfl
      ·obtain⟨kk,yy,z,e1,e2,rfl,e4⟩:=Mq obs q' hq1 o x hx
       have hbo:=aas hbig hx
       have hm:aR o (aJ c)=false:=by
        cases hm:aR o (aJ c)
        ·rfl
        ·have:=TK hwk o hm;omega
       have hk1:=hkp.ob o hm
       exact Tq (e4 ajT) hk1.ob.symm hk1.ln.symm (by rw[hk1.om]) (LP hR e2 (hi'.ob _ _ e1))
     ·cases hk
    ·cases hk
   ·cases hk
  cases e with
  |exit i=>cases hk
  |normal=>exact key hk
  |ret=>exact key hk
 ·cases h
end
end Aq
end
section
namespace Aq
open Go
def jr (k:IntKind) (x y:Int):Int:=k.wrap (BitVec.ofInt k.bits x&&& BitVec.ofInt k.bits y).toNat
def kR (k:IntKind) (x y:Int):Int:=k.wrap (BitVec.ofInt k.bits x|||BitVec.ofInt k.bits y).toNat
def eD (k:IntKind) (x y:Int):Int:=k.wrap (BitVec.ofInt k.bits x^^^BitVec.ofInt k.bits y).toNat
def mQ (k:IntKind) (x y:Int):Int:=k.wrap (x*2^min y.toNat k.bits)
def aD (k:IntKind) (x y:Int):Int:=x.fdiv (2^min y.toNat k.bits)
section
variable {R:iH} {E:Env}
def cZ (f:Nat) (r:FR R) (F:Nat->List (FR R)):Nat->List (FR R):=fun g=>bif Nat.beq g f then r::F g else F g
theorem dM {f:Nat} {r:FR R} {F:Nat->List (FR R)} (hF:bH E F) (h:∀p x,r.F p=some x->Pure E f (bG R r.args p) (lJ (bG R r.res x))) (ho:r.own=false:=by rfl):bH E (cZ f r F):=by
 intro g q hq p x hx
 unfold cZ at hq
 cases hb:Nat.beq g f
 ·rw[hb] at hq;exact hF g q hq p x hx
 ·rw[hb,cond_true] at hq
  rcases adf.1 hq with rfl|hq
  ·rw[d9 hb];exact⟨fun _=>h p x hx,fun e=>by rw[ho] at e;cases e⟩
  ·exact hF g q hq p x hx
def noF:Nat->List (FR R):=fun _=>[]
def noI:IR R:=⟨fun _=>[],fun _=>[]⟩
theorem ajU:oO E (noI (R:=R)):=⟨fun _ _ h=>(by cases h),fun _ _ h=>(by cases h)⟩
def E9 (g:Nat) (i:FI R) (I:IR R):IR R:=⟨fun f=>bif Nat.beq f g then i::I.it f else I.it f,I.im⟩
def qg (g:Nat) (m:FM R) (I:IR R):IR R:=⟨I.it,fun f=>bif Nat.beq f g then m::I.im f else I.im f⟩
theorem zU {g:Nat} {m:FM R} {I:IR R} (hI:oO E I) (h:wh E g m) (hg:E.imp g=true:=by rfl):oO E (qg g m I):=by
 refine⟨hI.1,fun f r hr=> ?_⟩
 have hr':r∈(bif Nat.beq f g then m::I.im f else I.im f):=hr
 cases hb:Nat.beq f g
 ·rw[hb] at hr';exact hI.2 f r hr'
 ·rw[hb,cond_true] at hr'
  rcases adf.1 hr' with rfl|hr'
  ·rw[d9 hb];exact⟨hg,h⟩
  ·exact hI.2 f r hr'
theorem ajV:bH E (noF (R:=R)):=fun _ _ h=>by cases h
theorem G5 {f:Nat} {args:List Sk} {τ:Ty} {G:aA R.T args->Option (List (Den R.T τ))} {d:List (Den R.T τ)} {F:Nat->List (FR R)} (hF:bH E F)
 (h:∀p x,G p=some x->Pure E f (bG R args p) (.aj .sh (x.map (aG R τ)))/\oC E f (bG R args p) (dx R τ) (x.map (aG R τ))) (hc:iO args=true:=by rfl) (hn:E.vB f=false:=by rfl):bH E (cZ f ⟨args,[.d (.slice τ)],G,d,true⟩ F):=by
 intro g q hq p x hx
 unfold cZ at hq
 cases hb:Nat.beq g f
 ·rw[hb] at hq;exact hF g q hq p x hx
 ·rw[hb,cond_true] at hq
  rcases adf.1 hq with rfl|hq
  ·rw[d9 hb]
   obtain⟨h1,h2⟩:=h p x hx
   refine⟨fun _=>h1,fun _ τ' e l hl=> ?_⟩
   cases e
   have hl':x=l:=hl
   subst hl'
   exact⟨fun _=>⟨hn,h2⟩,fun e=>(by rw[hc] at e;cases e)⟩
  ·exact hF g q hq p x hx
end
def aaw:(k:jo)->BZ k
 |.i _=>(0:Int)
 |.a _ n=>Vec.rep n 0
def aax:(l:List jo)->zw l
 | []=>()
 | [k]=>aaw k
 |k::h::l=>(aaw k,aax (h::l))
section
variable (R:iH)
mutual
def aay:(k:Sk)->qL R.T k
 |.d t=>Cb R t
 |.l _ t=>([]:List (Den R.T t))
 |.agg l=>cK l
 |.ref _ _=>()
 |.aK l _=>cK l
 |.bP _=>()
 |.dG k e=>([]:List (Den R.T k×Den R.T e))
 |.fn _ a b=>(cK a,cK b)
 |.dX=>()
 |.vw _ _=>()
 |.sg l=>aax l
 |.undef=>()
def cK:(l:List Sk)->aA R.T l
 | []=>()
 | [k]=>aay k
 |k::h::l=>(aay k,cK (h::l))
end
end
end Aq
end
section
namespace Aq
open Go Go.RowKit
mutual
def jX:V->Nat
 |.str s=>s.length+1
 |.agg cs=>nS cs
 |.aj _ l=>nS l+1
 |_=>1
def nS:List V->Nat
 | []=>0
 |v::l=>jX v+nS l
end
def Dt (k:IntKind) (n:Int):Nat:=if (Lit.int k n).wf=true then 0 else 2^64
theorem ajW {k:IntKind} {n:Int} (h:(Lit.int k n).wf=true):Dt k n=0:=if_pos h
theorem ajX {k:IntKind} {n:Int} (h:Dt k n<2^64):k.min<=n/\n<=k.max:=by
 unfold Dt at h
 split at h
 ·rename_i hw
  simp only[Lit.wf,aan,decide_eq_true_eq] at hw
  exact hw
 ·exact absurd h (Nat.lt_irrefl _)
mutual
def jY:V->Nat
 |.str s=>s.length+1
 |.agg cs=>nT cs
 |.aj _ l=>nT l+1
 |.int k n=>1+Dt k n
 |_=>1
def nT:List V->Nat
 | []=>0
 |v::l=>jY v+nT l
end
mutual
theorem aaz:∀v:V,jX v<=jY v
 |.str s=>by simp[jX,jY]
 |.agg cs=>by simp only[jX,jY];exact G6 cs
 |.aj _ l=>by simp only[jX,jY];exact Nat.add_le_add_right (G6 l) 1
 |.int k n=>by simp[jX,jY]
 |.bool _|.fJ|.fF|.eZ|.gH|.bE _|.vw .. |.ref .. |.bP .. |.aK .. |.fn .. |.dG .. |.iface .. |.raw _=>by simp[jX,jY]
theorem G6:∀l:List V,nS l<=nT l
 | []=>RS _
 |v::l=>by simp only[nS,nT];exact Nat.add_le_add (aaz v) (G6 l)
end
structure Bulk (H:Type) (bk:DataW H->Nat) (bs:List (DataW H)->Nat):Prop where
 one:∀d,1<=bk d
 str:∀s,s.length+1<=bk (.lit (.string s))
 agg:∀l,bs l<=bk (.agg l)
 sl:∀l r,bs l+1<=bk (.slice l r)
 nil:bs []=0
 cons:∀d l,bs (d::l)=bk d+bs l
section
variable {H:Type} {bk:DataW H->Nat} {bs:List (DataW H)->Nat} (hb:Bulk H bk bs)
include hb
theorem Bulk.append (a b:List (DataW H)):bs (a++b)=bs a+bs b:=by
 induction a with
 |nil=>simp[hb.nil]
 |cons v a ih=>simp only[List.cons_append,hb.cons,ih];omega
end
def qh {α β γ:Type} (Q:α->β->γ->Prop):List α->List β->List γ->Prop
 | [],[],[]=>True
 |t::ts,c::cs,d::ds=>Q t c d/\qh Q ts cs ds
 |_,_,_=>False
theorem qh.append {α β γ:Type} {Q:α->β->γ->Prop}:∀{a a':List α} {b b':List β} {c c':List γ},qh Q a b c->qh Q a' b' c'->qh Q (a++a') (b++b') (c++c')
 | [],_,[],_,[],_,_,h=>h
 |_::_,_,_::_,_,_::_,_,h,h'=>⟨h.1,h.2.append h'⟩
 | [],_,_::_,_,_,_,h,_=>h.elim
 | [],_,[],_,_::_,_,h,_=>h.elim
 |_::_,_,[],_,_,_,h,_=>h.elim
 |_::_,_,_::_,_,[],_,h,_=>h.elim
theorem qh.mono {α β γ:Type} {Q Q':α->β->γ->Prop} (hq:∀a b c,Q a b c->Q' a b c):∀{a:List α} {b:List β} {c:List γ},qh Q a b c->qh Q' a b c
 | [],[],[],_=>trivial
 |_::_,_::_,_::_,h=>⟨hq _ _ _ h.1,h.2.mono hq⟩
 | [],_::_,_,h=>h.elim
 | [],[],_::_,h=>h.elim
 |_::_,[],_,h=>h.elim
 |_::_,_::_,[],h=>h.elim
theorem qh.len {α β γ:Type} {Q:α->β->γ->Prop}:∀{a:List α} {b:List β} {c:List γ},qh Q a b c->a.length=b.length
 | [],[],[],_=>rfl
 |_::_,_::_,_::_,h=>by simp[h.2.len]
 | [],_::_,_,h=>h.elim
 | [],[],_::_,h=>h.elim
 |_::_,[],_,h=>h.elim
 |_::_,_::_,[],h=>h.elim
section
variable (P:Program)
def G7 (t:TypeId):Option (List (Nat×TypeId)):=match P.underlying t with
 |some (.struct fs)=>some (fs.toList.map fun f=>(f.offset,f.type))
 |some (.array n e)=>some ((List.range n).map fun i=>(i*P.cellsOf e,e))
 |_=>none
def Du (t:TypeId):Bool:=match P.underlying t with
 |some .bool=>true
 |some (.int _)=>true
 |some .string=>true
 |some (.slice _)=>true
 |_=>false
def G8:List (Nat×TypeId)->Nat->Nat->Bool
 | [],off,tot=>off==tot
 | (o,u)::l,off,tot=>o==off&& G8 l (off+P.cellsOf u) tot
def Dv:Nat->TypeId->Option (List TypeId)
 |0,_=>none
 |k+1,t=>match G7 P t with
  |some ps=>if G8 P ps 0 (P.cellsOf t)=true then (ps.mapM fun (p:Nat×TypeId)=>match Dv k p.2 with
    |some l=>if l.length=P.cellsOf p.2 then some l else none
    |none=>none).map List.flatten else none
  |none=>if Du P t=true/\P.cellsOf t=1 then some [t] else none
end
section
variable {P:Program} {w:World} {H:Type} {enc:TypeId×Value->H} {bk:DataW H->Nat} {bs:List (DataW H)->Nat}
abbrev jZ (enc:TypeId×Value->H) (P:Program) (w:World) (f:Nat) (t:TypeId) (cs:List Value):Option (DataW H×List MemPlace):=DataW.trod enc P w 0 (fun _=>true) true f t cs
theorem ajY {fuel:Nat} {t:TypeId} {cs:List Value} {d:DataW H} {ps:List MemPlace} {pl:List (Nat×TypeId)} (hp:G7 P t=some pl) (h:jZ enc P w (fuel+1) t cs=some (d,ps)):
 cs.length=P.cellsOf t/\∃xs,pl.mapM (fun p=>jZ enc P w fuel p.2 ((cs.drop p.1).take (P.cellsOf p.2)))=some xs/\d= .agg (xs.map (·.1)):=by
 unfold G7 at hp
 split at hp
 ·rename_i fs hu
  simp only[iE] at hp
  subst hp
  simp only[jZ,DataW.trod,hu] at h
  split at h
  ·rename_i hl
   simp only[aao,mF] at h
   obtain⟨xs,h1,rfl,rfl⟩:=h
   refine⟨hl,xs, ?_,rfl⟩
   rw[List.mapM_map]
   exact h1
  ·cases h
 ·rename_i n e hu
  simp only[iE] at hp
  subst hp
  simp only[jZ,DataW.trod,hu] at h
  split at h
  ·rename_i hl
   simp only[aao,mF] at h
   obtain⟨xs,h1,rfl,rfl⟩:=h
   refine⟨hl,xs, ?_,rfl⟩
   rw[List.mapM_map]
   exact h1
  ·cases h
 ·cases hp
def TN (enc:TypeId×Value->H) (P:Program) (w:World) (fuel:Nat) (u:TypeId) (c:Value) (d:DataW H):Prop:=∃f p,f<=fuel/\jZ enc P w f u [c]=some (d,p)/\Du P u=true
theorem aaA {fuel:Nat} {t:TypeId} {cs:List Value} {x:DataW H×List MemPlace} (hl:Du P t=true) (h:jZ enc P w fuel t cs=some x):∃c,cs=[c]:=by
 cases fuel with
 |zero=>simp[jZ,DataW.trod] at h
 |succ f=>
  unfold Du at hl
  split at hl
  all_goals (rename_i hu;simp only[jZ,DataW.trod,hu] at h;split at h<;>first|exact⟨_,rfl⟩|simp_all)
theorem ajZ (hb:Bulk H bk bs):∀(k fuel:Nat) (t:TypeId) (cs:List Value) (d:DataW H) (ps:List MemPlace) (ts:List TypeId),Dv P k t=some ts->jZ enc P w fuel t cs=some (d,ps)->
 ∃ds,qh (TN enc P w fuel) ts cs ds/\bs ds<=bk d:=by
 intro k
 induction k with
 |zero=>intro fuel t cs d ps ts h;simp[Dv] at h
 |succ k ih=>
  intro fuel t cs d ps ts h ht
  simp only[Dv] at h
  split at h
  ·rename_i pl hp
   split at h
   ·rename_i hcon
    cases fuel with
    |zero=>simp[jZ,DataW.trod] at ht
    |succ fuel=>
     obtain⟨hl,xs,hx,rfl⟩:=ajY hp ht
     simp only[aao] at h
     obtain⟨Dw,aj0,rfl⟩:=h
     have key:∀(pl:List (Nat×TypeId)) (off:Nat) (xs:List (DataW H×List MemPlace)) (Dw:List (List TypeId)),G8 P pl off cs.length=true->
      pl.mapM (fun p=>jZ enc P w fuel p.2 ((cs.drop p.1).take (P.cellsOf p.2)))=some xs->
      (pl.mapM fun p=>match Dv P k p.2 with
        |some l=>if l.length=P.cellsOf p.2 then some l else none
        |none=>none)=some Dw->∃ds,qh (TN enc P w (fuel+1)) Dw.flatten (cs.drop off) ds/\bs ds<=bs (xs.map (·.1)):=by
      intro pl
      induction pl with
      |nil=>
       intro off xs Dw hc h1 h2
       simp only[List.mapM_nil,Option.pure_def,iE] at h1 h2
       subst h1;subst h2
       simp only[G8,beq_iff_eq] at hc
       rw[hc,List.drop_length]
       exact⟨[],trivial,RS _⟩
      |cons p pl ihp=>
       intro off xs Dw hc h1 h2
       obtain⟨o,u⟩:=p
       simp only[G8,aan,beq_iff_eq] at hc
       obtain⟨rfl,hc⟩:=hc
       simp only[adi,Option.bind_eq_bind,iR,Option.pure_def,iE] at h1 h2
       obtain⟨⟨d1,p1⟩,g1,xs',g2,rfl⟩:=h1
       obtain⟨l1,g3,aqN,g4,rfl⟩:=h2
       split at g3
       ·rename_i l0 hl0
        split at g3
        ·cases g3
         obtain⟨ds1,a1,a2⟩:=ih _ _ _ _ _ _ hl0 g1
         obtain⟨ds2,a3,a4⟩:=ihp _ _ _ hc g2 g4
         refine⟨ds1++ds2, ?_, ?_⟩
         ·rw[List.flatten_cons]
          have e:cs.drop o=(cs.drop o).take (P.cellsOf u)++cs.drop (o+P.cellsOf u):=by
           rw[<-List.drop_drop,aga]
          rw[e]
          exact qh.append (a1.mono fun _ _ _ ⟨f,q,h1,h2⟩=>⟨f,q,Nat.le_succ_of_le h1,h2⟩) a3
         ·rw[hb.append,ac7,hb.cons];show _<=bk d1+_;omega
        ·cases g3
       ·cases g3
     have:=key pl 0 xs Dw (by rw[hl];exact hcon) hx aj0
     obtain⟨ds,h1,h2⟩:=this
     exact⟨ds,by simpa using h1,aav h2 (hb.agg _)⟩
   ·cases h
  ·split at h
   ·rename_i hlf
    simp only[iE] at h
    subst h
    obtain⟨c,rfl⟩:=aaA hlf.1 ht
    refine⟨[d],⟨⟨fuel,ps,RS _,ht,hlf.1⟩,trivial⟩, ?_⟩
    rw[hb.cons,hb.nil];omega
   ·cases h
def oP (K:aP) (T:Nat->Nat) (w:World) (vs:List V) (cs:List Value):Prop:=vs.length=cs.length/\∀j,j<vs.length->Rel K T w (vs.getD j aC) (cs.getD j undef)
theorem oP.cons {K:aP} {T:Nat->Nat} {v:V} {c:Value} {vs:List V} {cs:List Value} (h:Rel K T w v c) (hs:oP K T w vs cs):oP K T w (v::vs) (c::cs):=by
 refine⟨by simp[hs.1],fun j hj=> ?_⟩
 cases j with
 |zero=>exact h
 |succ j=>simpa using hs.2 j (by simpa using hj)
variable (R:iH)
def nA (P:Program) (t:TypeId):Ty->Bool
 |.int k=>match P.underlying t with
  |some (.int k')=>decide (k'=k)
  |_=>false
 |.bool=>match P.underlying t with
  |some .bool=>true
  |_=>false
 |.str=>match P.underlying t with
  |some .string=>true
  |_=>false
 |.slice τ=>match P.underlying t with
  |some (.slice e)=>decide (R.ty e=some τ)&& decide (0<P.cellsOf e)
  |_=>false
 |.st n=>match Dv P 10 t with
  |some ts=>decide (ts.map R.ty=(R.lf n).map some)&& (G7 P t).isSome
  |none=>false
def allI (w:World) (b o:Nat):Prop:=∃v,w.cell? (at_ b o)=some v
abbrev KA (w:World):aP:=aP.lend (allI w) (fun b=> ∃es bL,w.heap[b]? =some (.map es bL))
theorem TP {α β:Type} {f:α->Option β}:∀{l:List α} {r:List β},l.mapM f=some r->r.length=l.length/\∀(i:Nat) (hi:i<l.length) (hr:i<r.length),f l[i]=some r[i]:=by
 intro l
 induction l with
 |nil=>intro r h;simp at h;subst h;exact⟨rfl,fun i hi=>absurd hi (aat i)⟩
 |cons a l ih=>
  intro r h
  simp only[adi,Option.bind_eq_bind,iR,Option.pure_def,iE] at h
  obtain⟨y,h1,ys,h2,rfl⟩:=h
  obtain⟨h3,h4⟩:=ih h2
  refine⟨by simp[h3],fun i hi hr=> ?_⟩
  cases i with
  |zero=>exact h1
  |succ i=>exact h4 i (by simpa using hi) (by simpa using hr)
theorem aaB {base:Nat} {a:Addr} {n:Nat} {cs:List Value} (h:w.cells? base a n=some cs):cs.length=n/\∀j,j<n->w.cell? (a.add j)=some (cs.getD j undef):=by
 unfold World.cells? at h
 split at h
 ·obtain⟨h1,h2⟩:=TP h
  rw[amh] at h1
  refine⟨h1,fun j hj=> ?_⟩
  have:=h2 j (by simpa using hj) (by omega)
  simp only[al4] at this
  rw[this,adH,acR (by omega)]
  rfl
 ·cases h
theorem plain_of_cell {a:Addr} {v:Value} (h:w.cell? a=some v):a=at_ a.block a.off:=by
 unfold World.cell? at h
 obtain⟨b,o,s⟩:=a
 cases s with
 |none=>rfl
 |some s=>dsimp only at h;split at h<;>simp at h
theorem aaC (hb:Bulk H bk bs) (hR:nR R) {T:Nat->Nat} {Q:TypeId->Value->DataW H->Prop} (hq:∀u c d τ,Q u c d->R.ty u=some τ->lZ τ=true->∃x:Den R.T τ,Rel (KA w) T w (aG R τ x) c/\jY (aG R τ x)<=bk d):
 ∀(l:List Ty) (ts:List TypeId) (cs:List Value) (ds:List (DataW H)),l.all lZ=true->ts.map R.ty=l.map some->qh Q ts cs ds->∃p:mI R.T l,oP (KA w) T w (encs R l p) cs/\nT (encs R l p)<=bs ds
 | [],ts,cs,ds,_,hm,h=>by
   have:ts=[]:=by simpa using hm
   subst this
   cases cs with
   |nil=>cases ds with
    |nil=>exact⟨(),⟨rfl,fun j hj=>absurd hj (aat j)⟩,by rw[hb.nil];exact RS _⟩
    |cons=>exact h.elim
   |cons=>exact h.elim
 | [τ],ts,cs,ds,hl,hm,h=>by
   cases ts with
   |nil=>simp at hm
   |cons u ts=>
    simp only[ac7,List.map_nil,ajj,List.map_eq_nil_iff] at hm
    obtain⟨hu,rfl⟩:=hm
    cases cs with
    |nil=>exact h.elim
    |cons c cs=>cases ds with
     |nil=>exact h.elim
     |cons d ds=>
      obtain⟨h1,h2⟩:=h
      cases cs with
      |cons=>exact h2.elim
      |nil=>cases ds with
       |cons=>exact h2.elim
       |nil=>
        obtain⟨x,h3,h4⟩:=hq u c d τ h1 hu (by simpa using hl)
        refine⟨x,oP.cons h3 ⟨rfl,fun j hj=>absurd hj (aat j)⟩, ?_⟩
        rw[hb.cons,hb.nil]
        show jY _+0<=_
        omega
 |τ::τ'::l,ts,cs,ds,hl,hm,h=>by
  cases ts with
  |nil=>simp at hm
  |cons u ts=>
   rw[ac7,ac7] at hm
   injection hm with hu hm
   cases cs with
   |nil=>exact h.elim
   |cons c cs=>cases ds with
    |nil=>exact h.elim
    |cons d ds=>
     obtain⟨h1,h2⟩:=h
     rw[List.all_cons,aan] at hl
     obtain⟨x,h3,h4⟩:=hq u c d τ h1 hu hl.1
     obtain⟨p,h5,h6⟩:=aaC hb hR hq (τ'::l) ts cs ds hl.2 hm h2
     refine⟨(x,p),oP.cons h3 h5, ?_⟩
     rw[hb.cons]
     show jY (aG R τ x)+nT (encs R (τ'::l) p)<=_
     omega
theorem aj3 (τ:Ty) (hl:lZ τ=true) (x:Den R.T τ):(aG R τ x).cells=[aG R τ x]:=by
 cases τ with
 |st n=>simp[lZ] at hl
 |_=>rfl
theorem aj4 (hb:Bulk H bk bs) (hR:nR R) {T:Nat->Nat} (hty:∀t τ,R.ty t=some τ->nA R P t τ=true):∀(fuel:Nat) (t:TypeId) (cs:List Value) (d:DataW H) (ps:List MemPlace) (τ:Ty),R.ty t=some τ->jZ enc P w fuel t cs=some (d,ps)->
 ∃x:Den R.T τ,oP (KA w) T w (aG R τ x).cells cs/\jY (aG R τ x)<=bk d:=by
 intro fuel
 induction fuel using Nat.strongRecOn with
 |_ fuel ih=>
  have leaf:∀f,f<=fuel->∀u c d p τ,lZ τ=true->R.ty u=some τ->jZ enc P w f u [c]=some (d,p)->∃x:Den R.T τ,Rel (KA w) T w (aG R τ x) c/\jY (aG R τ x)<=bk d:=by
   intro f hf u c d p τ hl hu h
   cases f with
   |zero=>simp[jZ,DataW.trod] at h
   |succ f=>
    have ho:=hty u τ hu
    cases τ with
    |st n=>simp[lZ] at hl
    |int k=>
     simp only[nA] at ho
     split at ho
     ·rename_i k' hk
      have:=of_decide_eq_true ho
      subst this
      cases c with
      |int k2 n=>
       simp only[jZ,DataW.trod,hk] at h
       split at h
       ·rename_i hkk
        obtain⟨rfl,hwf⟩:=hkk
        simp only[iE,mF] at h
        obtain⟨rfl,rfl⟩:=h
        exact⟨(n:Int),.int _ _,by show 1+Dt _ _<=_;rw[ajW hwf];exact hb.one _⟩
       ·cases h
      |_=>simp only[jZ,DataW.trod,hk] at h;cases h
     ·cases ho
    |bool=>
     simp only[nA] at ho
     split at ho
     ·rename_i hk
      cases c with
      |bool b=>exact⟨(b:Bool),.bool _,hb.one _⟩
      |_=>simp only[jZ,DataW.trod,hk] at h;cases h
     ·cases ho
    |str=>
     simp only[nA] at ho
     split at ho
     ·rename_i hk
      cases c with
      |string b=>
       simp only[jZ,DataW.trod,hk] at h
       split at h
       ·simp only[iE,mF] at h
        obtain⟨rfl,rfl⟩:=h
        exact⟨b.data.toList,.str _ _ rfl,hb.str _⟩
       ·cases h
      |_=>simp only[jZ,DataW.trod,hk] at h;cases h
     ·cases ho
    |slice τ=>
     simp only[nA] at ho
     split at ho
     ·rename_i e hk
      rw[aan] at ho
      have he:=of_decide_eq_true ho.1
      have hpos:=of_decide_eq_true ho.2
      cases c with
      |slice a len cap=>
       cases a with
       |none=>
        cases len with
        |succ n=>simp only[jZ,DataW.trod,hk] at h;cases h
        |zero=>cases cap with
         |succ n=>simp only[jZ,DataW.trod,hk] at h;cases h
         |zero=>exact⟨([]:List (Den R.T τ)),.dP .sh none (fun _=>rfl) trivial,hb.one _⟩
       |some a=>
        simp only[jZ,DataW.trod,hk] at h
        split at h
        ·rename_i hc
         obtain⟨_,hlc,_⟩:=hc
         simp only[iR,if_true,aao,mF] at h
         obtain⟨elems,h1,rest,h2,rfl,rfl⟩:=h
         obtain⟨e1,e2⟩:=TP h1
         obtain⟨r1,r2⟩:=TP h2
         rw[amh] at e1 r1
         have hplain:0<cap->a=at_ a.block a.off:=fun hcap=>by
          have hread:∃i cs x,w.cells? 0 (a.add (i*P.cellsOf e)) (P.cellsOf e)=some cs/\jZ enc P w f e cs=some x/\i=0:=by
           by_cases hl0:0<len
           ·have:=e2 0 (by simpa using hl0) (by omega)
            simp only[al4,iR] at this
            obtain⟨cs,g1,g2⟩:=this
            exact⟨0,cs,_,g1,g2,rfl⟩
           ·have:=r2 0 (by simp;omega) (by omega)
            simp only[al4,iR] at this
            obtain⟨cs,g1,g2⟩:=this
            exact⟨len+0,cs,_,g1,g2,by omega⟩
          obtain⟨i,cs,_,g1,_,rfl⟩:=hread
          have:=(aaB g1).2 0 hpos
          have ha:(a.add (0*P.cellsOf e)).add 0=a:=by simp[Addr.add]
          rw[ha] at this
          exact plain_of_cell this
         have hel:∀i,∃x:Den R.T τ,∃Dx:List Value,∀hi:i<elems.length,(∀j,j<P.cellsOf e->w.cell? ((a.add (i*P.cellsOf e)).add j)=some (Dx.getD j undef))/\Dx.length=P.cellsOf e/\
          oP (KA w) T w (aG R τ x).cells Dx/\jY (aG R τ x)<=bk elems[i].1:=fun i=>by
          by_cases hi:i<elems.length
          ·have:=e2 i (by simpa using (by omega:i<len)) hi
           simp only[al4,iR] at this
           obtain⟨Dx,g1,g2⟩:=this
           obtain⟨c1,c2⟩:=aaB g1
           obtain⟨x,x1,x2⟩:=ih f (by omega) e Dx elems[i].1 elems[i].2 τ he g2
           exact⟨x,Dx,fun _=>⟨c2,c1,x1,x2⟩⟩
          ·exact⟨Cb R τ,[],fun h=>absurd h hi⟩
         let xs:List (Den R.T τ):=(List.range elems.length).map fun i=>(hel i).choose
         have hxs:∀i (hi:i<xs.length) (hi':i<elems.length),(∀j,j<P.cellsOf e->w.cell? ((a.add (i*P.cellsOf e)).add j)=some ((hel i).choose_spec.choose.getD j undef))/\(hel i).choose_spec.choose.length=P.cellsOf e/\
          oP (KA w) T w (aG R τ xs[i]).cells (hel i).choose_spec.choose/\jY (aG R τ xs[i])<=bk elems[i].1:=fun i hi hi'=>by
          have:=(hel i).choose_spec.choose_spec hi'
          have e:xs[i]=(hel i).choose:=by simp[xs]
          rw[e];exact this
         have hxl:xs.length=len:=by simp[xs,e1]
         refine⟨(xs:List (Den R.T τ)), ?_, ?_⟩
         ·show Rel _ _ _ (.aj .sh (xs.map (aG R τ))) (.slice (some a) len cap)
          by_cases hcap:0<cap
          ·obtain⟨b,o,s⟩:=a
           have hs:s=none:=by
            have:=hplain hcap
            simp only[at_,Addr.mk.injEq] at this
            exact this.2.2
           subst hs
           have key:Rel (KA w) T w (.aj .sh (xs.map (aG R τ))) (.slice (some (at_ b o)) (xs.map (aG R τ)).length cap):=by
            refine .aj .sh _ b o (P.cellsOf e) cap (fun i j=>if hi:i<elems.length then (hel i).choose_spec.choose.getD j undef else undef) (by rw[aau,hxl];exact hlc) (fun i hi=> ?_) (fun i j hi hj=> ?_) (fun i j hi hj=> ?_) trivial
            all_goals
             rw[aau] at hi
             have hi':i<elems.length:=by omega
             obtain⟨y1,y2,y3,y4⟩:=hxs i hi hi'
             have hg:(xs.map (aG R τ)).getD i aC=aG R τ xs[i]:=by simp[List.getD,hi]
            ·rw[hg];exact y3.1.trans y2
            ·rw[dif_pos hi']
             have hadd:at_ b (o+i*P.cellsOf e+j)=((⟨b,o,none⟩:Addr).add (i*P.cellsOf e)).add j:=by
              rw[show (⟨b,o,none⟩:Addr)=at_ b o from rfl,addr_add,addr_add]
             have this:=(congrArg w.cell? hadd).trans (y1 j hj)
             exact⟨this,_,this⟩
            ·rw[hg,dif_pos hi']
             exact y3.2 j (by rw[y3.1,y2];exact hj)
           rw[aau,hxl] at key
           exact key
          ·have h0:len=0:=by omega
           have h0':cap=0:=by omega
           subst h0;subst h0'
           have:xs=[]:=adK hxl
           rw[this]
           exact .dP .sh (some a) (fun h=>by cases h) trivial
         ·show nT (xs.map (aG R τ))+1<=_
          refine aav (Nat.succ_le_succ ?_) (hb.sl _ _)
          have aj5:∀(l:List (Den R.T τ)) (m:List (DataW H×List MemPlace)),l.length=m.length->(∀i (hi:i<l.length) (hi':i<m.length),jY (aG R τ l[i])<=bk m[i].1)->nT (l.map (aG R τ))<=bs (m.map (·.1)):=by
           intro l
           induction l with
           |nil=>intro m _ _;exact ael _
           |cons x l ihl=>
            intro m hm hle
            cases m with
            |nil=>simp at hm
            |cons y m=>
             rw[ac7,ac7,hb.cons]
             have h0:=hle 0 (by simp) (by simp)
             have h1:=ihl m (by simpa using hm) (fun i hi hi'=>hle (i+1) (by simpa using hi) (by simpa using hi'))
             simp only[List.getElem_cons_zero] at h0
             show jY _+nT _<=_
             omega
          exact aj5 xs elems (by rw[hxl,e1]) fun i hi hi'=>(hxs i hi hi').2.2.2
        ·cases h
      |_=>simp only[jZ,DataW.trod,hk] at h;cases h
     ·cases ho
  have ho:=hty
  intro t cs d ps τ ht h
  cases τ with
  |st n=>
   have ho:=hty t _ ht
   simp only[nA] at ho
   split at ho
   ·rename_i ts hts
    rw[aan] at ho
    have hm:=of_decide_eq_true ho.1
    obtain⟨ds,h1,h2⟩:=ajZ hb _ _ _ _ _ _ _ hts h
    obtain⟨p,h3,h4⟩:=aaC R hb hR (Q:=TN enc P w fuel) (T:=T) (fun u c d τ hq hu hl=>by
     obtain⟨f,q,hf,hq,_⟩:=hq
     exact leaf f hf u c d q τ hl hu hq) (R.lf n) ts cs ds (hR.leaf n) hm h1
    refine⟨R.to n p, ?_, ?_⟩
    ·show oP _ _ _ (R.enc n (R.to n p)).cells cs
     rw[hR.enc,hR.Gq];exact h3
    ·show jY (R.enc n (R.to n p))<=_
     rw[hR.enc,hR.Gq]
     exact aav h4 h2
   ·cases ho
  |_=>
   have hl:Du P t=true:=by
    have ho:=hty t _ ht
    simp only[nA] at ho
    split at ho
    ·rename_i hu;simp[Du,hu]
    ·cases ho
   obtain⟨c,rfl⟩:=aaA hl h
   obtain⟨x,h1,h2⟩:=leaf fuel (RS _) t c d ps _ rfl ht h
   refine⟨x, ?_,h2⟩
   rw[aj3 R _ rfl]
   exact oP.cons h1 ⟨rfl,fun j hj=>absurd hj (aat j)⟩
end
end Aq
end
section
namespace Aq
open Go Go.RowKit Go.ChangeShapes Go.WideShapes
section
variable {P:Program} {w:World} {H:Type} {enc:TypeId×Value->H} {bk:DataW H->Nat} {bs:List (DataW H)->Nat} (R:iH)
theorem aaD (hb:Bulk H bk bs) (hR:nR R) {T:Nat->Nat} (hty:∀t τ,R.ty t=some τ->nA R P t τ=true) {t:TypeId} {v:Value} {d:DataW H} {ps:List MemPlace} {τ:Ty} (ht:R.ty t=some τ)
 {r:Reach} {base:Nat} (hok:Value.okWide P w r base t v) (h:DataW.Trod enc P w 0 (fun _=>true) true t v d ps):∃x:Den R.T τ,Rel (KA w) T w (aG R τ x) v/\jY (aG R τ x)<=bk d:=by
 obtain⟨fuel,h⟩:=h
 obtain⟨x,h1,h2⟩:=aj4 R hb hR (T:=T) hty fuel t _ d ps τ ht h
 refine⟨x, ?_,h2⟩
 have ho:=hty t τ ht
 have one:∀c,v=c->c.cells= #[c]->(aG R τ x).cells=[aG R τ x]->Rel (KA w) T w (aG R τ x) v:=by
  intro c hv hc he
  subst hv
  rw[hc,he] at h1
  exact h1.2 0 (by simp)
 cases τ with
 |int k=>
  simp only[nA] at ho
  split at ho
  ·rename_i k' hu
   obtain⟨n,rfl⟩:=okWide_int hu hok
   exact one _ rfl rfl rfl
  ·cases ho
 |bool=>
  simp only[nA] at ho
  split at ho
  ·rename_i hu
   obtain⟨n,rfl⟩:=okWide_bool hu hok
   exact one _ rfl rfl rfl
  ·cases ho
 |str=>
  simp only[nA] at ho
  split at ho
  ·rename_i hu
   obtain⟨n,rfl⟩:=okWide_string hu hok
   exact one _ rfl rfl rfl
  ·cases ho
 |slice τ=>
  simp only[nA] at ho
  split at ho
  ·rename_i e hu
   obtain⟨a,l,c,rfl⟩:=okWide_slice hu hok
   exact one _ rfl rfl rfl
  ·cases ho
 |st n=>
  simp only[nA] at ho
  split at ho
  ·rename_i ts hts
   rw[aan] at ho
   have hagg:∃cs,v= .agg cs:=by
    have hs:=ho.2
    unfold G7 at hs
    unfold Value.okWide at hok
    split at hs
    ·rename_i fs hu
     rw[hu] at hok
     exact⟨_,hok.choose_spec.1⟩
    ·rename_i m e hu
     rw[hu] at hok
     exact⟨_,hok.choose_spec.1⟩
    ·cases hs
   obtain⟨cs,rfl⟩:=hagg
   have he:aG R (.st n) x= .agg (encs R (R.lf n) (R.of n x)):=hR.enc n x
   rw[he] at h1⊢
   obtain⟨h3,h4⟩:=h1
   have h3':(encs R (R.lf n) (R.of n x)).length=cs.toList.length:=h3
   refine .agg _ cs (by simpa using h3') (fun i hi=> ?_)
   have h5:Rel (KA w) T w ((encs R (R.lf n) (R.of n x)).getD i aC) (cs.toList.getD i undef):=h4 i hi
   simpa [adH,amc] using h5
  ·cases ho
theorem aaE (hb:Bulk H bk bs) (hR:nR R) {T:Nat->Nat} (hty:∀t τ,R.ty t=some τ->nA R P t τ=true) {r:Reach} {base:Nat}:∀(l:List Ty) (ts:List TypeId) (vs:List Value) (ds:List (DataW H)) (ps:List MemPlace),ts.map R.ty=l.map some->
 (∀(j:Nat) t v,ts[j]? =some t->vs[j]? =some v->Value.okWide P w r base t v)->DataW.TrodAll enc P w 0 (fun _=>true) true ts vs ds ps->
 ∃p:aA R.T (l.map Sk.d),oP (KA w) T w (bG R (l.map Sk.d) p) vs/\nT (bG R (l.map Sk.d) p)<=bs ds
 | [],ts,vs,ds,ps,hm,hok,h=>by
   have:ts=[]:=by simpa using hm
   subst this
   obtain⟨rfl,rfl,rfl⟩:=trodAll_nil h
   exact⟨(),⟨rfl,fun j hj=>absurd hj (aat j)⟩,by rw[hb.nil];exact RS _⟩
 | [τ],ts,vs,ds,ps,hm,hok,h=>by
   cases ts with
   |nil=>simp at hm
   |cons u ts=>
    simp only[ac7,List.map_nil,ajj,List.map_eq_nil_iff] at hm
    obtain⟨hu,rfl⟩:=hm
    obtain⟨v0,vs0,d0,ds0,p0,q0,rfl,rfl,rfl,h0,r0⟩:=trodAll_cons h
    obtain⟨rfl,rfl,rfl⟩:=trodAll_nil r0
    obtain⟨x,h3,h4⟩:=aaD R hb hR (T:=T) hty hu (hok 0 u v0 rfl rfl) h0
    refine⟨x,oP.cons h3 ⟨rfl,fun j hj=>absurd hj (aat j)⟩, ?_⟩
    rw[hb.cons,hb.nil]
    show jY (aG R τ x)+0<=_
    omega
 |τ::τ'::l,ts,vs,ds,ps,hm,hok,h=>by
  cases ts with
  |nil=>simp at hm
  |cons u ts=>
   rw[ac7,ac7] at hm
   injection hm with hu hm
   obtain⟨v0,vs0,d0,ds0,p0,q0,rfl,rfl,rfl,h0,r0⟩:=trodAll_cons h
   obtain⟨x,h3,h4⟩:=aaD R hb hR (T:=T) hty hu (hok 0 u v0 rfl rfl) h0
   obtain⟨p,h5,h6⟩:=aaE hb hR hty (τ'::l) ts vs0 ds0 q0 hm (fun j t v h1 h2=>hok (j+1) t v h1 h2) r0
   refine⟨(x,p),oP.cons h3 h5, ?_⟩
   rw[hb.cons]
   show jY (aG R τ x)+nT (bG R ((τ'::l).map Sk.d) p)<=_
   omega
theorem aj6 {K:aP} {T:Nat->Nat} {vs:List V} {args:Array Value} (h:oP K T w vs args.toList):RelA K T w vs args:=by
 refine⟨by simpa using h.1,fun i hi=> ?_⟩
 have:=h.2 i hi
 simpa [adH,amc] using this
end
section
variable {P:Program} {H:Type} {enc:TypeId×Value->H}
theorem aaF {Tp:TypeId->Prop} (K:Kids P Tp) (hsz:∀{t e:TypeId},Tp t->P.underlying t=some (.slice e)->0<P.cellsOf e) {W W':World} (hbel:Below W.heap.size W W') {sp:Nat->Bool}:
 ∀{ts:List TypeId} {vs:List Value} {ds:List (DataW H)} {ps:List MemPlace},(∀t∈ts,Tp t)->DataW.TrodAll enc P W 0 (fun _=>true) true ts vs ds ps->(∀p∈ps,p.block<W.heap.size)->(∀p∈ps,sp p.block=true)->DataW.TrodAll enc P W' 0 sp true ts vs ds ps
 | [],[],[],_,_,h,_,_=>h
 |_::_,_::_,_::_,_,hT,⟨p,q,⟨n,h1⟩,h2,e⟩,hlt,hs=>by
  subst e
  refine⟨p,q,⟨n, ?_⟩,aaF K hsz hbel (fun t ht=>hT t (adF _ ht)) h2 (fun x hx=>hlt x (akd _ hx)) (fun x hx=>hs x (akd _ hx)),rfl⟩
  exact DataW.trod_stays K hsz (fun h=>by cases h) (hT _ (by simp)) h1 (fun x hx=>hbel.same (hlt x (ajr _ hx))) (fun x hx=>hs x (ajr _ hx))
 | [],_::_,_,_,_,h,_,_=>h.elim
 | [],[],_::_,_,_,h,_,_=>h.elim
 |_::_,[],_,_,_,h,_,_=>h.elim
 |_::_,_::_,[],_,_,h,_,_=>h.elim
theorem aj7 {f:Func} {s:ChangeSpec} {apart fresh handsOn again:Bool} {W W':World} {args:Array Value} {v:Value} {ds gs:List (DataW H)} {before pa pv:List MemPlace}
 (hW:DataW.Whole enc P f.params.toList s.vars apart W args.toList ds gs before)
 (hres:∀(b:Nat) (sp:Nat->Bool) (hd:Bool),DataW.TrodAll enc P W' b sp hd f.resultTypes.toList (v.resultList f.resultTypes.size) (s.fn H (ds++gs)).results [])
 (hargs:∀sp:Nat->Bool,(∀p∈before,sp p.block=true)->DataW.TrodAll enc P W' 0 sp true f.params.toList args.toList (s.fn H (ds++gs)).args pa)
 (hvars:∀sp:Nat->Bool,(∀p∈before,sp p.block=true)->DataW.TrodVars enc P W' sp s.vars (s.fn H (ds++gs)).vars pv)
 (hps:before=pa++pv) (hbel:Below W.heap.size W W')
 (hok:∀(j:Nat) (t:TypeId) (r:Value),f.resultTypes[j]? =some t->(v.resultList f.resultTypes.size)[j]? =some r->Value.okWide P W' .any 0 t r):
 s.post enc P f apart fresh handsOn again W args v W':=by
 have hlt:∀p∈before,p.block<W.heap.size:=hW.lt
 have hold:∀p∈before,(fun b=>decide (b<W.heap.size)) p.block=true:=fun p hp=>by simpa using hlt p hp
 refine⟨ds,gs,before,[],pa,pv,hW,hres _ _ _,hargs _ hold,hvars _ hold,World.keptBut_mono (fun p hp=>⟨hp, ?_⟩) (hbel.frame (· ∈before)),fun _=> ?_⟩
 ·rw[hps,agj] at hp
  exact Or.inr hp
 ·obtain⟨_,_,_,_,_,hz,hn⟩:=hW
  refine⟨hok,_,_,([]++pa)++pv,⟨[]++pa,pv,trodAll_append (hargs _ (fun _ _=>rfl)) (hres _ _ _),hvars _ (fun _ _=>rfl),rfl, ?_, ?_⟩, ?_⟩
  ·intro b off hp
   have hp':MemPlace.cell b off∈before:=by rw[hps];simpa using hp
   rw[hbel.frozen (p:=⟨b,off,none⟩) (hlt _ hp')]
   exact hz b off hp'
  ·intro ha
   have:=hn ha
   rw[hps] at this
   simpa using this
  ·intro p hp _
   rw[hps]
   simpa using hp
end
theorem aj8 {E:Env} {R:iH} {H:Type} {enc:TypeId×Value->H} {bk:DataW H->Nat} {bs:List (DataW H)->Nat} (hb:Bulk H bk bs) (hR:nR R) (hty:∀t τ,R.ty t=some τ->nA R E.P t τ=true)
 {Tp:TypeId->Prop} (K:Kids E.P Tp) (hsz:∀{t e:TypeId},Tp t->E.P.underlying t=some (.slice e)->0<E.P.cellsOf e) {f:FuncId} {fn:Func} {s:ChangeSpec} {apart fresh handsOn again:Bool} {W:World} {base:Nat} {args:Array Value} {ds gs:List (DataW H)} {before:List MemPlace}
 {l:List Ty} (hl:fn.params.toList.map R.ty=l.map some) (hT:∀t∈fn.params.toList,Tp t) (hvars:s.vars=[])
 (hspec:s.fn H ds={results:=[.lit (.bool true)],args:=ds})
 {tb:TypeId} (hres:fn.resultTypes= #[tb]) (TQ:E.P.underlying tb=some .bool)
 (hval:∀(j:Nat) t v,fn.params[j]? =some t->args[j]? =some v->Value.okWide E.P W .any base t v)
 (hW:DataW.Whole enc E.P fn.params.toList s.vars apart W args.toList ds gs before)
 (aj9:∀g cs,E.glob g=some cs->Rel (KA W) (fun _=>0) W (.aK cs 0) (.pointer (some (at_ g 0))))
 (akb:∀p:aA R.T (l.map Sk.d),nT (bG R (l.map Sk.d) p)<=bs ds->sU E f (bG R (l.map Sk.d) p) (.bool true)):
 Calls E.P f args W fun e W'=> ∃v,e= .returned v/\s.post enc E.P fn apart fresh handsOn again W args v W':=by
 have hW':=hW
 obtain⟨p,q,hA,hV,hpq,_,_⟩:=hW
 rw[hvars] at hV
 obtain⟨rfl,rfl⟩:=trodVars_none hV
 rw[aeX] at hpq
 subst hpq
 obtain⟨x,h1,h2⟩:=aaE R hb hR (T:=fun _=>0) hty (r:=.any) (base:=base) l fn.params.toList args.toList ds _ hl (fun j t v h1 h2=>hval j t v (by simpa using h1) (by simpa using h2)) hA
 obtain⟨_,hcall⟩:=akb x h2
 have hc:=callsIn_wide.1 (hcall (allI W) _ W args ⟨fun b o h=>h,fun b h=>h,aj9⟩ (aj6 h1))
 refine hc.mono fun e W' he=> ?_
 cases e with
 |returned c=>
  obtain⟨hbel,hrel⟩:=he
  cases hrel
  have hlt:∀p∈before,p.block<W.heap.size:=hW'.lt
  refine⟨_,rfl,aj7 (pa:=before) (pv:=[]) hW' (fun b sp hd=> ?_) (fun sp hs=> ?_) (fun sp hs=> ?_) (by simp) hbel ?_⟩
  ·rw[aeX,hspec,hres]
   exact trodAll_mk1 ⟨1,by simp[DataW.trod,TQ,Value.cells]⟩
  ·rw[aeX,hspec]
   exact aaF K hsz hbel hT hA hlt hs
  ·rw[aeX,hspec,hvars];exact rfl
  ·exact ok_one hres rfl (by unfold Value.okWide;rw[TQ];simp[Cell.okWide,Cell.ok,TQ])
 |panicked ch=>exact he.elim
 |outgrown=>exact he.elim
end Aq
end
