/- Part of the proof of a law. -/
import Derived.Below
import Derived.ChangeSame
import Derived.ChangeShapes
import Derived.ChangeStays
import Derived.RowKit
import Derived.Test.YtgdialomgeijcaaGreatF3405
import Derived.Test.YtgdialomgeijcaaGreatF3411
import Derived.WideShapes
set_option linter.all false
set_option linter.unusedSimpArgs false
set_option linter.unusedSectionVars false
section
namespace Aq
open Go
set_option linter.unusedSectionVars false
set_option linter.unusedVariables false
section
variable {R:fI} {E:Env} (hR:kY R)
include hR
def Mg (E:Env) (om:Bool) (c:Code) (body:{β:Type}→MS R.T→(Ex→MS R.T→Option β)→Option β):Prop:=
 ∀(β:Type) (st:MS R.T) (k:Ex→MS R.T→Option β) (x:β) (fr:Fr) (σ:ah) (ρ:aK),ρ.om.om=om→body st k=some x→aB ρ σ.next st fr σ→CW E c fr σ fun e fr' σ'=> ∃ρ' st',aB ρ' σ'.next st' fr' σ'∧Kp (fU E c) (aN c) st fr σ ρ st' fr' σ' ρ'∧k e st'=some x
omit hR in
theorem Mh:∀(ρ:aK) (σ:ah) (o:Nat) (x:Ob R.T),dx (R:=R) ρ σ o x→dx (R:=R) ρ σ o (.ro x):=fun _ _ _ _ h=>h
theorem TI {om:Bool} {β:Type} {c:Code} {key:Nat} {sh:Shape} {outs:List (Ex×Shape)} {body:{β:Type}→MS R.T→(Ex→MS R.T→Option β)→Option β} (hb:Mg E om c body) {H B:MS R.T} {Mi:Fr} {σ0:ah} {ρ0:aK} (aW:ρ0.om.om=om)
 (hB:∀(st' S':MS R.T) (fr':Fr) (σ':ah) (ρ':aK) (b':Nat),aB ρ' b' st' fr' σ'→Kp (fU E c) (aN c) H Mi σ0 ρ0 S' fr' σ' ρ'→aB ρ' b' B fr' σ') (hro:∀o,RO B o):
 ∀(m:Nat) (p:mo R.T sh) (o:Out R.T outs) (fr:Fr) (σ:ah) (ρ:aK),kX key (aN c) B sh outs body m p=some o→aB ρ σ.next (unpack R sh p) fr σ→Kp (fU E c) (aN c) H Mi σ0 ρ0 (B.over (unpack R sh p)) fr σ ρ→
 CW E (.loop c) fr σ fun e fr' σ'=> ∃ρ' S' st',aB ρ' σ'.next st' fr' σ'∧Kp (fU E c) (aN c) H Mi σ0 ρ0 S' fr' σ' ρ'∧(∀o,aO o (aN c)=false→RO H o→look st'.ob o=none)∧∀(k:Ex→MS R.T→Option β) (bs:MS R.T),rz R bs k outs o=k e (bs.over st')
 |0,p,o,fr,σ,ρ,h,_,_=>by cases h
 |m+1,p,o,fr,σ,ρ,h,hi,hkp=>by
  unfold kX at h
  have hbase:aB ρ σ.next B fr σ:=hB _ _ _ _ _ _ hi hkp
  refine CW.loop ((hb _ _ _ _ fr σ ρ ((congrArg Cx.om hkp.om).trans aW) h (hbase.over hi)).mono ?_)
  rintro e fr' σ' ⟨ρ',st',hi',rH,hk⟩
  have hall:=hkp.trans rH
  cases e with
  |normal=>
   dsimp only at hk
   split at hk
   ·rename_i p' hp'
    obtain⟨ρ2,S2,h1,h2,_,h3⟩:=hi'.jf hR hp'
    have vS:=hall.trans h2
    refine TI hb aW hB hro m p' o fr' σ' ρ2 hk h1 ⟨vS.fr,fun q hq=>⟨(vS.ob q hq).ob,(vS.ob q hq).ln,(vS.ob q hq).om,(vS.ob q hq).nx,(vS.ob q hq).lp,(vS.ob q hq).dp,fun hr=>⟨?_,((vS.ob q hq).ro hr).2⟩⟩⟩
    exact Gp (hro q) fun x hx=>(by rw[h3 q hq ((hall.ob q hq).ro hr).1] at hx;cases hx)
   ·cases hk
  |exit i=>
   obtain⟨ρ2,S2,eH,h1,h2,_,h3,h4⟩:=Ak (β:=β) hR hi' hk
   exact⟨ρ2,S2,eH,h1,hall.trans h2,fun q hq hr=>h3 q hq ((hall.ob q hq).ro hr).1,h4⟩
  |ret=>
   obtain⟨ρ2,S2,eH,h1,h2,_,h3,h4⟩:=Ak (β:=β) hR hi' hk
   exact⟨ρ2,S2,eH,h1,hall.trans h2,fun q hq hr=>h3 q hq ((hall.ob q hq).ro hr).1,h4⟩
omit hR in
theorem TJ {om:Bool} {c:Code} {body:{β:Type}→MS R.T→(Ex→MS R.T→Option β)→Option β} (hb:Mg E om c body) {β:Type}:∀(m:Nat) (st:MS R.T) (k:Ex→MS R.T→Option β) (x:β) (fr:Fr) (σ:ah) (ρ:aK),ρ.om.om=om→CY (R:=R) (fun st k=>body st k) m st k=some x→aB ρ σ.next st fr σ→
 CW E (.loop c) fr σ fun e fr' σ'=> ∃ρ' st',aB ρ' σ'.next st' fr' σ'∧Kp (fU E c) (aN c) st fr σ ρ st' fr' σ' ρ'∧k e st'=some x
 |0,st,k,x,fr,σ,ρ,_,h,_=>by cases h
 |m+1,st,k,x,fr,σ,ρ,aW,h,hi=>by
  unfold CY at h
  refine CW.loop ((hb _ _ _ _ fr σ ρ aW h hi).mono ?_)
  rintro e fr' σ' ⟨ρ',st',hi',rH,hk⟩
  cases e with
  |normal=>
   dsimp only at hk
   by_cases hW:True
   ·refine(TJ hb m st' k x fr' σ' ρ' ?_ hk hi').mono ?_
    ·exact(congrArg Cx.om rH.om).trans aW
    ·rintro e vM jh ⟨lV,eH,h1,h2,h3⟩
     exact⟨lV,eH,h1,rH.trans h2,h3⟩
   ·exact absurd trivial hW
  |exit i=>exact⟨ρ',st',hi',rH,hk⟩
  |ret=>exact⟨ρ',st',hi',rH,hk⟩
omit hR in
def Mj {X:Type} (key:Nat) (W:List Nat) (b:MS R.T) (sh:Shape) (outs:List (Ex×Shape)) (body:{β:Type}→X→MS R.T→(Ex→MS R.T→Option β)→Option β) (xs:List X) (e:Ex) (st:MS R.T):Option (Out R.T outs):=match e with
    |.normal=>match jf R W st.obs sh with
     |some p=>z8 key W b sh outs body xs p
     |none=>none
    |e=>oJ R W e st.obs outs
omit hR in
def TK (r0:lu) (l:Nat) (σ3:ah) (x:Ex) (bb:Bool) (σ':ah):Prop:=match x with
 |.normal=>bb=true∧σ'=σ3.dG l {r0 with st:=0,pend:=none}
 |e=>bb=false∧σ'=σ3.dG l {r0 with st:=2,pend:=some e}
omit hR in
theorem aB.TL {ρ:aK} {b:Nat} {st:MS R.T} {fr fr':Fr} {σ:ah} (h:aB ρ b st fr σ) (he:st.fr=[]) (hd:fr'.d=ρ.om.dp) (ho:fr'.om=ρ.om.om):aB ρ b st fr' σ:={h with
 d:=hd
 om:=ho
 fr:=fun i v hv=>by rw[he] at hv;cases hv}
omit hR in
theorem aB.obs {ρ:aK} {b:Nat} {st:MS R.T} {fr:Fr} {σ:ah} (h:aB ρ b st fr σ):aB ρ b st.obs fr σ:={h with
 fr:=fun i v hv=>by cases hv
 ob:=h.ob}
omit hR in
theorem aQ.weak {nr:Bool} {o:Nat} {st st':MS R.T} {ρ ρ':aK} {σ σ':ah} (h:aQ nr o st ρ σ st' ρ' σ'):aQ false o st ρ σ st' ρ' σ':=⟨h.ob,h.ln,h.om,h.nx,h.lp,fun L hL=>h.dp L (.inr (by rcases hL with e|e;cases e;exact e)),h.ro⟩
omit hR in
theorem aQ.shift {o:Nat} {st st':MS R.T} {ρ ρ':aK} {σ σ' jh:ah} (h:aQ false o st ρ σ st' ρ' σ') (hp:∀L:Loc,L.1≤ρ.om.dp→jh.obj L=σ'.obj L) (hn:σ'.next≤jh.next) (hl:∀l,l<σ.next→jh.loops l=σ'.loops l) (ht:∀s,s<ρ.om.lo→jh.top s=σ'.top s):aQ false o st ρ σ st' ρ' jh:=
 ⟨h.ob,h.ln,h.om,Nat.le_trans h.nx hn,⟨fun l hl'=>(hl l hl').trans (h.lp.1 l hl'),fun s hs=>(ht s hs).trans (h.lp.2 s hs)⟩,fun L hL ho=>(hp L (by rcases hL with e|e;cases e;exact e)).trans (h.dp L hL ho),fun hr=>⟨(h.ro hr).1,fun s=>by
   have:=(h.ro hr).2 s
   unfold ah.bD ah.dU at this⊢
   rw[hp _ (ρ.om.Aa o)];exact this⟩⟩
omit hR in
theorem TM {c c':Cx} (h:c'=c) (p:Nat):(c'.lc p).1≤c.dp:=by rw[←h];exact c'.Aa p
omit hR in
theorem Shift.loc {d:Nat} {σ σ':ah} (h:Shift d σ σ') {L:Loc} (hL:L.1≤d):σ'.obj L=σ.obj L:=h.obj L.1 L.2 hL
def qo (c:Code):Bool:=(aN c).all fun d=>Nat.blt d F0
omit hR in
theorem TN {c:Code} (h:qo c=true):∀d,aO d (aN c)=true→d<F0:=fun d hd=>by
 unfold qo at h
 rw[List.all_eq_true] at h
 have:=h d (Te hd)
 unfold Nat.blt at this
 exact Nat.le_of_ble_eq_true this
omit hR in
theorem TP {ρ:aK} {b:Nat} {σ:ah}:∀{ps:List Nat} {gM:List (TV R.T)} {vs:List V} {st st':MS R.T} {fr:Fr},xE st ps gM=some st'→ay R ρ σ.top gM vs→aB ρ b st fr σ→ps.length=vs.length∧aB ρ b st' {fr with tm:=(ps.zip vs).foldl (fun tm (p,a)=>upd tm p a) fr.tm} σ∧st'.ob=st.ob
 | [],[],vs,st,st',fr,h,hr,hi=>by
   cases h;rw[hr.dO];exact⟨rfl,hi,rfl⟩
 | [],_::_,_,_,_,_,h,_,_=>by cases h
 |_::_,[],_,_,_,_,h,_,_=>by cases h
 |i::ps,t::gM,vs,st,st',fr,h,hr,hi=>by
  obtain⟨v,ws,rfl,h1,h2⟩:=hr.bX
  obtain⟨a1,a2,a3⟩:=TP (fr:=fr.set i v) (show xE (st.put i t) ps gM=some st' from h) h2 (hi.put i (.of h1))
  exact⟨by simp[a1],a2,a3⟩
omit hR in
theorem TQ {k:iT} {x:u6 R.T k}:lM (jd R k x)=false:=by cases k<;>rfl
omit hR in
theorem TR {o:Nat} {y:Ob R.T} {O:List Nat}:∀{l:List (Nat×iT)} {x:lJ R.T l},xD O l=true→look (je R l x) o=some y→aO o O=false∧lM y=false
 | [],x,_,h=>by cases h
 | [(i,k)],x,hd,h=>by
   unfold xD at hd
   rw[Bool.and_eq_true,Bool.not_eq_true'] at hd
   have h':look [(i,jd R k x)] o=some y:=h
   by_cases e:o=i
   ·subst e;rw[gI] at h';cases h';exact⟨hd.1,TQ⟩
   ·rw[eU _ _ e] at h';cases h'
 | (i,k)::q::l,x,hd,h=>by
   unfold xD at hd
   rw[Bool.and_eq_true,Bool.not_eq_true'] at hd
   have h':look ((i,jd R k x.1)::je R (q::l) x.2) o=some y:=h
   by_cases e:o=i
   ·subst e;rw[gI] at h';cases h';exact⟨hd.1,TQ⟩
   ·rw[eU _ _ e] at h';exact TR hd.2 h'
omit hR in
theorem ac4 {W K O:List Nat} {mark:Ob R.T→Ob R.T} {st:MS R.T} {s:Shape} {p:mo R.T s} {o:Nat} (hd:xD O s.ob=true) (h:RO ((base W K O mark st).over (unpack R s p)) o):look (unpack R s p).ob o=none:=by
 cases hu:look (unpack R s p).ob o with
 |none=>rfl
 |some y=>
  exfalso
  have hk:aO o O=false∧lM y=false:=by
   obtain⟨sl,ob⟩:=s
   cases ob with
   |nil=>cases hu
   |cons a as=>exact TR hd hu
  have hb:look (base W K O mark st).ob o=none:=by
   have:∀is:List Nat,aO o is=false→look (kD (fun o b=> !(aO o W)&& jV W b) mark st.ob is) o=none:=by
    intro is
    induction is with
    |nil=>intro _;rfl
    |cons j is ih=>
     intro h
     have h':(Nat.beq o j||aO o is)=false:=h
     rw[Bool.or_eq_false_iff] at h'
     unfold kD
     split
     ·rename_i x hx
      cases (!(aO j W)&& jV W x)
      ·exact ih h'.2
      ·rw[cond_true,eU _ _ (Gl h'.1)];exact ih h'.2
     ·exact ih h'.2
   exact this O hk.1
  have:=h y (by show look ((base W K O mark st).ob++(unpack R s p).ob) o=some y;rw[uq,hb];exact hu)
  rw[hk.2] at this;cases this
def xQ (E:Env) (I:IR R):Prop:=(∀g,∀i∈I.it g,E.imp g=true∧∀pa pb xs,i.F pa pb=some xs→Dz E g (aI R i.a pa) (aI R i.b pb) (xs.map (aI R i.el)))∧GN E I.im
theorem TS {σ:ah} {n:Nat}:∀cs:List V,aY cs=true→cs.mapM (aJ (n+1) σ)=some cs:=by
 intro cs
 induction cs with
 |nil=>intro _;rfl
 |cons a l ih=>
  intro h
  simp only[aY,Bool.and_eq_true] at h
  rw[List.mapM_cons,iG h.1,ih h.2];rfl
theorem TT {I:IR R} (hI:xQ E I) {g:Nat} {ρ:aK} {top:Nat→Nat} {u v:List (TV R.T)} {va vb:List V} (hu:mE u=true) (hv:mE v=true) (ha:ay R ρ top u va) (hb:ay R ρ top v vb):∀{l:List (FI R)} {el:List Sk} {o:Option (List (ak R.T el))},(∀i∈l,i∈I.it g)→CZ u v l=some ⟨el,o⟩→
 E.imp g=true∧gH el=true∧∀xs,o=some xs→Dz E g va vb (xs.map (aI R el))
 | [],el,o,_,h=>by cases h
 |i::l,el,o,hl,h=>by
  unfold CZ at h
  split at h
  ·rename_i pa pb hpa hpb
   obtain⟨hc,h⟩:=bU h
   simp only[Bool.and_eq_true] at hc
   obtain⟨⟨⟨⟨c1,c2⟩,c3⟩,c4⟩,c5⟩:=hc
   cases h
   obtain⟨h1,h2⟩:=hI.1 g i (hl i (by simp))
   refine⟨h1,c3,fun xs hx=> ?_⟩
   have e1:=oV hR i.a pa u va c1 hpa ha 19 ah.init (by have:=Nat.le_of_ble_eq_true c4;omega)
   have e2:=oV hR i.b pb v vb c2 hpb hb 19 ah.init (by have:=Nat.le_of_ble_eq_true c5;omega)
   rw[TS hR va (vN hR u va hu ha)] at e1
   rw[TS hR vb (vN hR v vb hv hb)] at e2
   cases e1;cases e2
   exact h2 pa pb xs hx
  ·exact TT hI hu hv ha hb (fun x hx=>hl x (by simp[hx])) h
theorem oW {n:Nat} {om:Bool} {F:Nat→List (FR R)} {I:IR R} (hF:bG E F) (hI:xQ E I) {A:dM}:∀c:Code,qo c=true→Mg E om c fun st k=>dh E R n om F I A c st k
 |.skip=>fun hw _ st k x fr σ ρ _ h hi=>CW.skip ⟨ρ,st,hi,.refl,h⟩
 |.exit i=>fun hw _ st k x fr σ ρ _ h hi=>CW.exit ⟨ρ,st,hi,.refl,h⟩
 |.ret=>fun hw _ st k x fr σ ρ _ h hi=>CW.ret ⟨ρ,st,hi,.refl,h⟩
 |.region id ops dr=>fun hw β st k x fr σ ρ aW h hi=>by
  have h':(bif dr then (bif ko ops.toList then kG E R om F I.im (kP ops.toList) ops.toList ops.toList st [] (fun st=>k .normal st) else none) else qg E R om F I.im ops.toList ops.toList st (fun st=>k .normal st))=some x:=h
  have TU:∀{nr:Bool} {W:List Nat} {st':MS R.T} {fr':Fr} {σ':ah} {ρ':aK} {j:Nat},Kp nr W st fr (σ.bump j) ρ st' fr' σ' ρ'→Kp nr W st fr σ ρ st' fr' σ' ρ':=fun h=>⟨h.fr,fun o ho=>⟨(h.ob o ho).ob,(h.ob o ho).ln,(h.ob o ho).om,Nat.le_trans (Nat.le_add_right _ _) (h.ob o ho).nx,⟨fun l hl=>(h.ob o ho).lp.1 l (Nat.lt_of_lt_of_le hl (Nat.le_add_right _ _)),(h.ob o ho).lp.2⟩,(h.ob o ho).dp,fun hr=>⟨((h.ob o ho).ro hr).1,((h.ob o ho).ro hr).2⟩⟩⟩
  cases dr with
  |true=>
   rw[cond_true] at h'
   obtain⟨he,h'⟩:=bU h'
   refine CW.draw he (Ay hR hF hI.2 _ σ.next ρ st fr _ [] (TN hw) aW (hi.next _) (Nat.le_refl _) h' ?_)
   intro ρ' st' fr' σ' hi' hn hkp hk
   exact⟨ρ',st',hi'.le hn,TU hkp,hk⟩
  |false=>
   rw[cond_false] at h'
   refine CW.region (vR hR hF hI.2 _ σ.next ρ st fr _ (TN hw) aW (hi.next _) (Nat.le_refl _) h' ?_)
   intro ρ' st' fr' σ' hi' hn hkp hk
   exact⟨ρ',st',hi'.le hn,TU hkp,hk⟩
 |.seq a b=>fun hw β st k x fr σ ρ aW h hi=>by
  have h':(match look A.joins (jX b) with
   |none=>dh E R n om F I A a st fun e st=>match e with
    |.normal=>dh E R n om F I A b st k
    |e=>k e st
   |some q=>(dh E R n om F I A (β:=Out R.T q.outs) a ((base (aN a) q.K q.O .ro st).over st) fun e st=>oJ R (aN a) e st q.outs).bind (rz R (base (aN a) q.K q.O (fun b=>b) st) (fun e st=>match e with
    |.normal=>dh E R n om F I A b st k
    |e=>k e st) q.outs))=some x:=h
  have hw2:qo a=true∧qo b=true:=by
   have hw':((aN a++aN b).all fun d=>Nat.blt d F0)=true:=hw
   rw[List.all_append,Bool.and_eq_true] at hw';exact hw'
  have hl:∀i,aO i (aN (.seq a b))=false→aO i (aN a)=false∧aO i (aN b)=false:=fun i hi=>by
   have hi':aO i (aN a++aN b)=false:=hi
   rw[Dh,Bool.or_eq_false_iff] at hi';exact hi'
  have fin:∀(e:Ex) (st':MS R.T) (fr':Fr) (σ':ah) (ρ':aK),aB ρ' σ'.next st' fr' σ'→Kp (fU E a) (aN a) st fr σ ρ st' fr' σ' ρ'→(match e with
   |.normal=>dh E R n om F I A b st' k
   |e=>k e st')=some x→gF E b (fun e fr' σ'=> ∃ρ' st',aB ρ' σ'.next st' fr' σ'∧Kp (fU E (.seq a b)) (aN (.seq a b)) st fr σ ρ st' fr' σ' ρ'∧k e st'=some x) e fr' σ':=by
   intro e st' fr' σ' ρ' hi' hkp hk
   have Mk:=(hkp.mono (W':=aN (.seq a b)) fun i hi=>(hl i hi).1).nr (Dy:=fU E (.seq a b)) (fun e=>by simp only[fU,Bool.and_eq_true] at e;exact e.1)
   cases e with
   |normal=>
    refine(oW hF hI b hw2.2 _ st' k x fr' σ' ρ' ((congrArg Cx.om hkp.om).trans aW) hk hi').mono ?_
    rintro e vM jh ⟨lV,eH,h1,h2,h3⟩
    exact⟨lV,eH,h1,Mk.trans ((h2.mono fun i hi=>(hl i hi).2).nr (fun e=>by simp only[fU,Bool.and_eq_true] at e;exact e.2)),h3⟩
   |exit i=>exact⟨ρ',st',hi',Mk,hk⟩
   |ret=>exact⟨ρ',st',hi',Mk,hk⟩
  split at h'
  ·refine CW.seq ((oW hF hI a hw2.1 _ st _ x fr σ ρ aW h' hi).mono ?_)
   rintro e fr' σ' ⟨ρ',st',hi',hkp,hk⟩
   exact fin e st' fr' σ' ρ' hi' hkp hk
  ·rename_i q _
   obtain⟨o,ho,h'⟩:=Option.bind_eq_some_iff.1 h'
   have hro:∀o x,look st.ob o=some x→aO o (aN a)=false→aO o q.O=true→jV (aN a) x=true→RO ((base (aN a) q.K q.O .ro st).over st) o:=fun o x h1 h2 h3 h4=>Lb h1 h2 h3 h4
   have hH:∀o,aO o (aN a)=false→RO st o→RO ((base (aN a) q.K q.O .ro st).over st) o:=fun o _ h=>Gp (Ry (fun _ _=>rfl) h) h
   have hbase:aB ρ σ.next (base (aN a) q.K q.O .ro st) fr σ:=hi.base (st0:=(base (aN a) q.K q.O .ro st).over st) Mh (Kp.refl (nr:=false)) hi hro
   refine CW.seq ((oW hF hI a hw2.1 _ _ _ o fr σ ρ aW ho (hbase.over hi)).mono ?_)
   rintro e fr' σ' ⟨ρ',st',hi',hkp,hk⟩
   obtain⟨ρ2,S2,eH,h1,g1,_,h3,h2⟩:=Ak (β:=β) hR hi' hk
   rw[h2] at h'
   obtain⟨f1,f2⟩:=finish (K:=q.K) hi hH hro (hkp.trans g1) h1 fun o ho hr=>h3 o ho ((hkp.ob o ho).ro hr).1
   exact fin e _ fr' σ' ρ2 f1 f2 h'
 |.cond c a b=>fun hw β st k x fr σ ρ aW h hi=>by
  have h':(match aV [] st c with
   |some (.fq t)=>bif t then dh E R n om F I A a st k else dh E R n om F I A b st k
   |some (.bool t)=>bif t then dh E R n om F I A a (st.zw c true) k else dh E R n om F I A b (st.zw c false) k
   |_=>none)=some x:=h
  have hw2:qo a=true∧qo b=true:=by
   have hw':((aN a++aN b).all fun d=>Nat.blt d F0)=true:=hw
   rw[List.all_append,Bool.and_eq_true] at hw';exact hw'
  have hl:∀i,aO i (aN (.cond c a b))=false→aO i (aN a)=false∧aO i (aN b)=false:=fun i hi=>by
   have hi':aO i (aN a++aN b)=false:=hi
   rw[Dh,Bool.or_eq_false_iff] at hi';exact hi'
  have ha:∀st':MS R.T,st'.ob=st.ob→aB ρ σ.next st' fr σ→dh E R n om F I A a st' k=some x→CW E a fr σ fun e fr' σ'=> ∃ρ' st',aB ρ' σ'.next st' fr' σ'∧Kp (fU E (.cond c a b)) (aN (.cond c a b)) st fr σ ρ st' fr' σ' ρ'∧k e st'=some x:=fun st' hs hi' hk=>by
   refine(oW hF hI a hw2.1 _ st' k x fr σ ρ aW hk hi').mono ?_
   rintro e vM jh ⟨lV,eH,h1,h2,h3⟩
   exact⟨lV,eH,h1,((⟨h2.fr,fun o ho=>(h2.ob o ho).from hs⟩:Kp (fU E a) (aN a) st fr σ ρ eH vM jh lV).mono fun i hi=>(hl i hi).1).nr (fun e=>by simp only[fU,Bool.and_eq_true] at e;exact e.1),h3⟩
  have hb:∀st':MS R.T,st'.ob=st.ob→aB ρ σ.next st' fr σ→dh E R n om F I A b st' k=some x→CW E b fr σ fun e fr' σ'=> ∃ρ' st',aB ρ' σ'.next st' fr' σ'∧Kp (fU E (.cond c a b)) (aN (.cond c a b)) st fr σ ρ st' fr' σ' ρ'∧k e st'=some x:=fun st' hs hi' hk=>by
   refine(oW hF hI b hw2.2 _ st' k x fr σ ρ aW hk hi').mono ?_
   rintro e vM jh ⟨lV,eH,h1,h2,h3⟩
   exact⟨lV,eH,h1,((⟨h2.fr,fun o ho=>(h2.ob o ho).from hs⟩:Kp (fU E b) (aN b) st fr σ ρ eH vM jh lV).mono fun i hi=>(hl i hi).2).nr (fun e=>by simp only[fU,Bool.and_eq_true] at e;exact e.2),h3⟩
  split at h'
  ·rename_i t hc
   refine CW.cond (aR (E:=E) hi .nil hc).qh (fun e=> ?_) (fun e=> ?_)
   ·subst e;exact ha st rfl hi h'
   ·subst e;exact hb st rfl hi h'
  ·rename_i t hc
   have hl:aB ρ σ.next (st.zw c t) fr σ∧(st.zw c t).ob=st.ob:=by
    cases c with
    |tmp j=>exact⟨hi.learn (show Rl R ρ σ.top (.bool t) (fr.tm j) from hi.fr _ _ (acP hc)).mK,rfl⟩
    |_=>exact⟨hi,rfl⟩
   refine CW.cond (aR (E:=E) hi .nil hc).mK (fun e=> ?_) (fun e=> ?_)
   ·subst e;exact ha _ hl.2 hl.1 h'
   ·subst e;exact hb _ hl.2 hl.1 h'
  ·cases h'
 |.block id c=>fun hw β st k x fr σ ρ aW h hi=>by
  have h':(dh E R n om F I A c st fun e st=>match e with
   |.exit i=>bif Nat.beq i id then k .normal st else k (.exit i) st
   |e=>k e st)=some x:=h
  refine CW.block ((oW hF hI c hw _ st _ x fr σ ρ aW h' hi).mono ?_)
  rintro e fr' σ' ⟨ρ',st',hi',hkp,hk⟩
  cases e with
  |normal=>exact⟨ρ',st',hi',hkp,hk⟩
  |ret=>exact⟨ρ',st',hi',hkp,hk⟩
  |exit i=>
   dsimp only at hk
   unfold mh
   dsimp only
   cases hb:Nat.beq i id
   ·rw[hb] at hk
    rw[if_neg (Gl hb)]
    exact⟨ρ',st',hi',hkp,hk⟩
   ·rw[hb] at hk
    rw[if_pos (dn hb)]
    exact⟨ρ',st',hi',hkp,hk⟩
 |.loop c=>fun hw β st k x fr σ ρ aW h hi=>by
  have h':(match look A.loops (jX c) with
   |some q=>match jf R (aN c) st q.sh with
    |some p=>(kX (jX c) (aN c) (base (aN c) q.K q.O .ro st) q.sh q.outs (fun st k=>dh E R n om F I A c st k) n p).bind (rz R (base (aN c) q.K q.O (fun b=>b) st) k q.outs)
    |none=>none
   |none=>CY (R:=R) (fun st k=>dh E R n om F I A c st k) 130 st k)=some x:=h
  split at h'
  ·rename_i q _
   split at h'
   ·rename_i p hp
    obtain⟨o,ho,h'⟩:=Option.bind_eq_some_iff.1 h'
    obtain⟨ρ1,S1,p1,p2,_,p3⟩:=hi.jf (nr:=fU E c) hR hp
    have hro:∀o x,look st.ob o=some x→aO o (aN c)=false→aO o q.O=true→jV (aN c) x=true→RO ((base (aN c) q.K q.O .ro st).over (unpack R q.sh p)) o:=fun o x h1 h2 h3 h4=>Lb h1 h2 h3 h4
    have hH:∀o,aO o (aN c)=false→RO st o→RO ((base (aN c) q.K q.O .ro st).over (unpack R q.sh p)) o:=fun o ho h=>Rx (p3 o ho h)
    have hB:∀(st' S':MS R.T) (fr':Fr) (σ':ah) (ρ':aK) (b':Nat),aB ρ' b' st' fr' σ'→Kp (fU E c) (aN c) ((base (aN c) q.K q.O .ro st).over (unpack R q.sh p)) fr σ ρ S' fr' σ' ρ'→aB ρ' b' (base (aN c) q.K q.O .ro st) fr' σ':=
     fun st' S' fr' σ' ρ' b' h1 h2=>hi.base Mh h2 h1 hro
    have hk0:Kp (fU E c) (aN c) ((base (aN c) q.K q.O .ro st).over (unpack R q.sh p)) fr σ ρ ((base (aN c) q.K q.O .ro st).over (unpack R q.sh p)) fr σ ρ1:=⟨fun _ _=>rfl,fun q hq=>⟨(p2.ob q hq).ob,(p2.ob q hq).ln,(p2.ob q hq).om,Nat.le_refl _,⟨fun _ _=>rfl,fun _ _=>rfl⟩,fun _ _ _=>rfl,fun hr=>⟨hr,fun _=>⟨rfl,rfl⟩⟩⟩⟩
    refine(TI (β:=β) hR (oW hF hI c hw) aW hB (fun o=>fun y hy=>by obtain⟨z,_,_,rfl⟩:=uw hy;rfl) n p o fr σ ρ1 ho p1 hk0).mono ?_
    rintro e fr' σ' ⟨ρ',S',st',hi',hkp,hn,hk⟩
    obtain⟨f1,f2⟩:=finish (K:=q.K) hi hH hro hkp hi' hn
    exact⟨ρ',_,f1,f2,by rw[←hk k];exact h'⟩
   ·cases h'
  ·exact TJ (oW hF hI c hw) 130 st k x fr σ ρ aW h' hi
 |.rangeFunc f ps a c=>fun hw β st k x fr σ ρ aW h hi=>by
  have h':(match look A.loops (jX c) with
   |some q=>match aV [] st f with
    |some (.fn g u v)=>bif mE u&& mE v&& xD q.O q.sh.ob&& fU E a&& fU E c then (match CZ u v (I.it g) with
     |some ⟨el,xs⟩=>match jf R (ps.toList++aN a++aN c) st.obs q.sh with
      |some p=>(xs.bind fun xs=>z8 (jX c) (ps.toList++aN a++aN c) (base (ps.toList++aN a++aN c) q.K q.O .ro st) q.sh q.outs (fun x st k=>match xE st ps.toList (gN R .sh el x) with
        |some st=>dh E R n om F I A a st fun e st=>match e with
         |.normal=>dh E R n om F I A c st k
         |_=>none
        |none=>none) xs p).bind (rz R (base (ps.toList++aN a++aN c) q.K q.O (fun b=>b) st) k q.outs)
      |none=>none
     |none=>none) else none
    |_=>none
   |none=>none)=some x:=h
  split at h'
  ·rename_i q _
   split at h'
   ·rename_i g u v hf
    obtain⟨hst,h'⟩:=bU h'
    simp only[Bool.and_eq_true] at hst
    obtain⟨⟨hst,hna⟩,hnc⟩:=hst
    split at h'
    ·rename_i el xs hfi
     split at h'
     ·rename_i p hp
      obtain⟨o,ho,h'⟩:=Option.bind_eq_some_iff.1 h'
      obtain⟨ys,hys,ho⟩:=Option.bind_eq_some_iff.1 ho
      obtain⟨va,vb,qV,hva,hvb⟩:=(aR (E:=E) hi .nil hf).jY
      obtain⟨himp,hel,hit⟩:=TT hR hI hst.1.1 hst.1.2 hva hvb (fun _ h=>h) hfi
      have hit:=hit ys hys
      obtain⟨ρ1,S1,p1,p2,p0,p3⟩:=hi.obs.jf (nr:=false) hR hp
      have hw3:qo a=true∧qo c=true:=by
       have hw':((ps.toList++aN a++aN c).all fun d=>Nat.blt d F0)=true:=hw
       rw[List.all_append,List.all_append,Bool.and_eq_true,Bool.and_eq_true] at hw';exact⟨hw'.1.2,hw'.2⟩
      clear hw
      generalize hW:ps.toList++aN a++aN c=W at*
      have hl:∀i,aO i W=false→aO i ps.toList=false∧aO i (aN a)=false∧aO i (aN c)=false:=fun i hi=>by
       rw[←hW,Dh,Dh,Bool.or_eq_false_iff,Bool.or_eq_false_iff] at hi;exact⟨hi.1.1,hi.1.2,hi.2⟩
      have hro:∀o x,look st.ob o=some x→aO o W=false→aO o q.O=true→jV W x=true→RO ((base W q.K q.O .ro st).over (unpack R q.sh p)) o:=fun o x h1 h2 h3 h4=>Lb h1 h2 h3 h4
      have hH:∀o,aO o W=false→RO st o→RO ((base W q.K q.O .ro st).over (unpack R q.sh p)) o:=fun o ho h=>Rx (p3 o ho h)
      generalize hHe:(base W q.K q.O .ro st).over (unpack R q.sh p)=H at*
      have hB:∀(st' S':MS R.T) (σ':ah) (ρ':aK) (b':Nat),aB ρ' b' st' fr σ'→Kp false W H fr σ ρ S' fr σ' ρ'→aB ρ' b' (base W q.K q.O .ro st) fr σ':=
       fun st' S' σ' ρ' b' h1 h2=>hi.base Mh h2 h1 hro
      have ac6:∀o,RO (base W q.K q.O .ro st) o:=fun o=>fun y hy=>by obtain⟨z,_,_,rfl⟩:=uw hy;rfl
      let r0:lu:={st:=0,pend:=none,fr:=fr,ps:=ps.toList,bB:=a,body:=c}
      let body:{β:Type}→ak R.T el→MS R.T→(Ex→MS R.T→Option β)→Option β:=fun x st k=>match xE st ps.toList (gN R .sh el x) with
          |some st=>dh E R n om F I A a st fun e st=>match e with
           |.normal=>dh E R n om F I A c st k
           |_=>none
          |none=>none
      let J:List (List V)→ah→Prop:=fun L σ'=> ∃(zs:List (ak R.T el)) (p':mo R.T q.sh) (ρ':aK),L=zs.map (aI R el)∧z8 (jX c) W (base W q.K q.O .ro st) q.sh q.outs body zs p'=some o∧aB ρ' σ'.next (unpack R q.sh p') fr σ'∧(unpack R q.sh p').fr=[]∧
       Kp false W H fr σ ρ ((base W q.K q.O .ro st).over (unpack R q.sh p')) fr σ' ρ'∧σ'.loops σ.next=some r0
      let Fin:Ex→ah→Prop:=fun e σ'=> ∃(ρ':aK) (S' st':MS R.T),aB ρ' σ'.next st' fr σ'∧Kp false W H fr σ ρ S' fr σ' ρ'∧(∀o,aO o W=false→RO H o→look st'.ob o=none)∧∀(k:Ex→MS R.T→Option β) (bs:MS R.T),rz R bs k q.outs o=k e (bs.over st')
      let D:ah→Prop:=fun σ'=> ∃e,Fin e σ'∧σ'.loops σ.next=some {r0 with st:=2,pend:=some e}
      have shJ:∀L σ1 σ2,σ.next<σ1.next→J L σ1→Shift ρ.om.dp σ1 σ2→J L σ2:=by
       rintro L σ1 σ2 hlt ⟨zs,p',ρ',e1,e2,e3,e4,e5,e6⟩ hs
       exact⟨zs,p',ρ',e1,e2,(e3.shift (fun p=>hs.loc (TM e5.om p)) hs.top).le hs.next,e4,⟨e5.fr,fun o ho=>(e5.ob o ho).shift (fun L hL=>hs.loc hL) hs.next (fun l hl=>hs.loops l (by omega)) (fun s hs'=>hs.top s (by have:=hi.nx;omega))⟩,(hs.loops _ hlt).trans e6⟩
      have shD:∀σ1 σ2,σ.next<σ1.next→D σ1→Shift ρ.om.dp σ1 σ2→D σ2:=by
       rintro σ1 σ2 hlt ⟨e,⟨ρ',S',st',e1,e2,e3,e4⟩,e5⟩ hs
       exact⟨e,⟨ρ',S',st',(e1.shift (fun p=>hs.loc (TM e2.om p)) hs.top).le hs.next,⟨e2.fr,fun o ho=>(e2.ob o ho).shift (fun L hL=>hs.loc hL) hs.next (fun l hl=>hs.loops l (by omega)) (fun s hs'=>hs.top s (by have:=hi.nx;omega))⟩,e3,e4⟩,(hs.loops _ hlt).trans e5⟩
      have fin:∀(σ2:ah) (r:lu) (e:Ex),Fin e σ2→∃ρ' st',aB ρ' (σ2.jL σ.next).next st' fr (σ2.jL σ.next)∧Kp false (aN (.rangeFunc f ps a c)) st fr σ ρ st' fr (σ2.jL σ.next) ρ'∧k e st'=some x:=by
       rintro σ2 r e ⟨ρ',S',st',e1,e2,e3,e4⟩
       have LQ:aB ρ' σ2.next st' fr (σ2.jL σ.next):=e1.shift (fun _=>rfl) (fun _ _=>rfl)
       have e2':Kp false W H fr σ ρ S' fr (σ2.jL σ.next) ρ':=⟨e2.fr,fun o ho=>(e2.ob o ho).shift (fun _ _=>rfl) (Nat.le_refl _) (fun l hl=>by
        show upd σ2.loops σ.next none l=_
        unfold upd;rw[if_neg (by omega)]) (fun _ _=>rfl)⟩
       obtain⟨f1,f2⟩:=finish (K:=q.K) hi hH hro e2' LQ e3
       refine⟨ρ',_,f1, ?_,by rw[←e4 k];exact h'⟩
       show Kp false (ps.toList++aN a++aN c) _ _ _ _ _ _ _ _
       rw[hW];exact f2
      refine CW.range qV himp ?_
      rw[hi.d]
      have hent:(σ.enter fr ps a c).next=σ.next+1:=rfl
      obtain⟨m,w,σ2,hm,hnx,hJD⟩:=hit ρ.om.dp σ.next (σ.enter fr ps a c) J D shJ shD (by
       rintro y L σ1 hlt ⟨zs,p',ρ',e1,e2,e3,e4,e5,e6⟩
       cases zs with
       |nil=>cases e1
       |cons z zs=>
        simp only[List.map_cons,List.cons.injEq] at e1
        obtain⟨rfl,rfl⟩:=e1
        have hbase:=hB _ _ _ _ _ e3 e5
        have e2':body z ((base W q.K q.O .ro st).over (unpack R q.sh p')) (Mj (jX c) W (base W q.K q.O .ro st) q.sh q.outs body zs)=some o:=e2
        show∃c' σ',uE E σ.next (aI R el z) σ1 c' σ'∧_
        generalize hkk:Mj (jX c) W (base W q.K q.O .ro st) q.sh q.outs body zs=kk at e2'
        dsimp only[body] at e2'
        split at e2'
        ·rename_i st1 qR
         obtain⟨hlen,i1,i2⟩:=TP qR (vO hR el z hel) (hbase.over e3)
         have Dv:ρ'.om.om=om:=(congrArg Cx.om e5.om).trans aW
         obtain⟨m1,x1,aP,σ2,q1,ρ2,st2,q2,q3,q4⟩:=oW hF hI a hw3.1 _ _ _ _ _ _ ρ' Dv e2' i1
         cases x1 with
         |exit i=>cases q4
         |ret=>cases q4
         |normal=>
          dsimp only at q4
          obtain⟨nb,hnb⟩:=Aj (aN a)
          have lp2:σ2.loops σ.next=some r0:=((q3.ob nb (hnb nb (Nat.le_refl _))).lp.1 _ hlt).trans e6
          have TW:=(q3.ob nb (hnb nb (Nat.le_refl _))).nx
          have q2':aB ρ2 σ2.next st2 aP (σ2.dG σ.next {r0 with st:=1}):=q2.shift (fun _=>rfl) (fun _ _=>rfl)
          obtain⟨m2,x2,bZ,σ3,t1,ρ3,kC,t2,t3,t4⟩:=oW hF hI c hw3.2 _ _ _ _ aP (σ2.dG σ.next {r0 with st:=1}) ρ2 ((congrArg Cx.om q3.om).trans Dv) q4 q2'
          obtain⟨nc,hnb'⟩:=Aj (aN c)
          have lp3:σ3.loops σ.next=some {r0 with st:=1}:=((t3.ob nc (hnb' nc (Nat.le_refl _))).lp.1 _ (show σ.next<σ2.next by omega)).trans (by show upd σ2.loops σ.next _ σ.next=_;unfold upd;rw[if_pos rfl])
          have Ml:σ2.next≤σ3.next:=(t3.ob nc (hnb' nc (Nat.le_refl _))).nx
          have keep:∀p,aO p W=false→aQ false p H ρ σ kC ρ3 σ3:=fun p hp=>by
           have k1:=e5.ob p hp
           have k2:aQ false p ((base W q.K q.O .ro st).over (unpack R q.sh p')) ρ' σ1 st2 ρ2 σ2:=(q3.ob p (hl p hp).2.1).weak.from i2
           have k3:=(t3.ob p (hl p hp).2.2).weak
           have k12:=k1.trans k2
           refine⟨k3.ob.trans k12.ob,k3.ln.trans k12.ln,k3.om.trans k12.om,Nat.le_trans k12.nx Ml,⟨fun l hl=> ?_,fun s hs=>(k3.lp.2 s (by rw[k12.om];exact hs)).trans (k12.lp.2 s hs)⟩,fun L hn hL=>(k3.dp L (by rw[k12.om];exact hn) (by rw[k12.om];exact hL)).trans (k12.dp L hn hL),fun hr=> ?_⟩
           ·refine(k3.lp.1 l (show l<σ2.next by have:=k12.nx;omega)).trans (Eq.trans ?_ (k12.lp.1 l hl))
            show upd σ2.loops σ.next _ l=_
            unfold upd;rw[if_neg (by omega)]
           ·have r1:=k12.ro hr
            have r2:=k3.ro r1.1
            rw[k12.om] at r2
            exact⟨r2.1,fun s=>⟨(r2.2 s).1.trans (r1.2 s).1,(r2.2 s).2.trans (r1.2 s).2⟩⟩
          have fd:∀(r':lu),aB ρ3 σ3.next kC.obs bZ (σ3.dG σ.next r'):=fun r'=>t2.obs.shift (fun _=>rfl) (fun _ _=>rfl)
          have keep':∀(r':lu),∀p,aO p W=false→aQ false p H ρ σ kC.obs ρ3 (σ3.dG σ.next r'):=fun r' p hp=>((keep p hp).congr (eH:=kC.obs) rfl).shift (jh:=σ3.dG σ.next r') (fun _ _=>rfl) (Nat.le_refl _) (fun l hl=>by
           show upd σ3.loops σ.next _ l=_
           unfold upd;rw[if_neg (by omega)]) (fun _ _=>rfl)
          have TY:∀(r':lu),(σ3.dG σ.next r').loops σ.next=some r':=fun r'=>by show upd σ3.loops σ.next _ σ.next=_;unfold upd;rw[if_pos rfl]
          have deep:∀(r':lu) a o,ρ.om.dp<a→(σ3.dG σ.next r').obj (a,o)=σ1.obj (a,o):=fun r' a o ha=>
           ((t3.ob nc (hnb' nc (Nat.le_refl _))).dp (a,o) (.inl hnc) (Cx.Ru _ (by rw[q3.om,e5.om];exact ha))).trans ((q3.ob nb (hnb nb (Nat.le_refl _))).dp (a,o) (.inl hna) (Cx.Ru _ (by rw[e5.om];exact ha)))
          have loops:∀(r':lu) s,s<σ1.next→(σ3.dG σ.next r').loops s=σ1.loops s∨s=σ.next:=fun r' s hs=>by
           by_cases es:s=σ.next
           ·exact .inr es
           ·left
            have u1:(σ3.dG σ.next r').loops s=σ3.loops s:=by show upd σ3.loops σ.next _ s=_;unfold upd;rw[if_neg es]
            have u2:(σ2.dG σ.next {r0 with st:=1}).loops s=σ2.loops s:=by show upd σ2.loops σ.next _ s=_;unfold upd;rw[if_neg es]
            exact u1.trans (((t3.ob nc (hnb' nc (Nat.le_refl _))).lp.1 s (show s<σ2.next by omega)).trans (u2.trans ((q3.ob nb (hnb nb (Nat.le_refl _))).lp.1 s hs)))
          have T9:∀(bb:Bool) (σ':ah),TK r0 σ.next σ3 x2 bb σ'→uE E σ.next (aI R el z) σ1 bb σ':=fun bb σ' hbb=>
           uE.of e6 rfl hlen ⟨m1,.normal,aP,σ2,q1,rfl,r0,lp2,rfl,m2,x2,bZ,σ3,t1,_,lp3,rfl,by cases x2<;>exact hbb⟩
          have stop:∀e,TK r0 σ.next σ3 x2 false (σ3.dG σ.next {r0 with st:=2,pend:=some e})→oJ R W e kC.obs q.outs=some o→∃c' σ',uE E σ.next (aI R el z) σ1 c' σ'∧σ1.next≤σ'.next∧(∀a o,ρ.om.dp<a→σ'.obj (a,o)=σ1.obj (a,o))∧(∀s,s<σ1.next→σ'.loops s=σ1.loops s∨s=σ.next)∧(c'=true→J (zs.map (aI R el)) σ')∧(c'=false→D σ'):=by
           intro e he hpk
           obtain⟨ρ4,S4,zi,g1,g2,g3,g4,g5⟩:=Ak (nr:=false) (β:=β) hR (fd {r0 with st:=2,pend:=some e}) hpk
           have DC:ρ4.om=ρ.om:=by
            obtain⟨nw,hnw⟩:=Aj W
            exact g2.om.trans (keep nw (hnw nw (Nat.le_refl _))).om
           refine⟨false,σ3.dG σ.next {r0 with st:=2,pend:=some e},T9 _ _ he,Nat.le_trans TW Ml,deep _,loops _,(fun h=>by cases h),fun _=>⟨e,⟨ρ4,S4,zi,g1.TL (g3 rfl) (by rw[DC];exact hi.d) (by rw[DC];exact hi.om),⟨fun _ _=>rfl,fun p hp=>(keep' _ p hp).trans (g2.ob p hp)⟩,fun p hp hr=>g4 p hp ((keep p hp).ro hr).1,g5⟩,TY _⟩⟩
          cases x2 with
          |normal=>
           rw[←hkk] at t4
           unfold Mj at t4
           dsimp only at t4
           split at t4
           ·rename_i p4 hp4
            obtain⟨ρ4,S4,g1,g2,g3,g4⟩:=(fd {r0 with st:=0,pend:=none}).jf (nr:=false) hR hp4
            have DC:ρ4.om=ρ.om:=by
             obtain⟨nw,hnw⟩:=Aj W
             exact g2.om.trans (keep nw (hnw nw (Nat.le_refl _))).om
            refine⟨true,σ3.dG σ.next {r0 with st:=0,pend:=none},T9 _ _ ⟨rfl,rfl⟩,Nat.le_trans TW Ml,deep _,loops _,fun _=>⟨zs,p4,ρ4,rfl,t4,g1.TL (g3 rfl) (by rw[DC];exact hi.d) (by rw[DC];exact hi.om),g3 rfl,⟨fun _ _=>rfl,fun p hp=> ?_⟩,TY _⟩,fun h=>by cases h⟩
            ·have kk:=(keep' {r0 with st:=0,pend:=none} p hp).trans (g2.ob p hp)
             exact⟨kk.ob,kk.ln,kk.om,kk.nx,kk.lp,kk.dp,fun hr=>⟨Gp (ac6 p) fun y hy=>(by rw[g4 p hp ((keep p hp).ro hr).1] at hy;cases hy),(kk.ro hr).2⟩⟩
           ·cases t4
          |exit i=>rw[←hkk] at t4;exact stop (.exit i) ⟨rfl,rfl⟩ t4
          |ret=>rw[←hkk] at t4;exact stop .ret ⟨rfl,rfl⟩ t4
        ·cases e2') (Nat.lt_succ_self _) (by
       refine⟨ys,p,ρ1,rfl,ho,(p1.shift (σ':=σ.enter fr ps a c) (fun _=>rfl) (fun _ _=>rfl)).le (Nat.le_succ _),p0 rfl,⟨fun _ _=>rfl,fun o ho=> ?_⟩, ?_⟩
       ·rw[hHe]
        exact⟨(p2.ob o ho).ob,(p2.ob o ho).ln,(p2.ob o ho).om,Nat.le_succ _,⟨fun l hl=>(by show upd σ.loops σ.next _ l=_;unfold upd;rw[if_neg (by omega)]),fun _ _=>rfl⟩,fun _ _ _=>rfl,fun hr=>⟨hr,fun _=>⟨rfl,rfl⟩⟩⟩
       ·show upd σ.loops σ.next _ σ.next=_;unfold upd;rw[if_pos rfl])
      refine⟨m,w,σ2,hm, ?_⟩
      rcases hJD with ⟨zs,p',ρ',e1,e2,e3,e4,e5,e6⟩| ⟨e,hfin,e6⟩
      ·cases zs with
       |cons z zs=>cases e1
       |nil=>
        have e2':oJ R W .normal (unpack R q.sh p').obs q.outs=some o:=e2
        obtain⟨ρ4,S4,zi,g1,g2,g3,g4,g5⟩:=Ak (nr:=false) (β:=β) hR e3.obs e2'
        have hno:∀p,aO p W=false→RO H p→look (unpack R q.sh p').ob p=none:=fun p hp hr=>ac4 hst.2 ((e5.ob p hp).ro hr).1
        have GZ:∀p,aO p W=false→RO H p→RO (unpack R q.sh p').obs p:=fun p hp hr y hy=>by
         have:look (unpack R q.sh p').ob p=some y:=hy
         rw[hno p hp hr] at this;cases this
        exact⟨_,e6,(by show (0:Nat)≠1;omega),fin σ2 r0 .normal ⟨ρ4,S4,zi,g1,⟨fun _ _=>rfl,fun p hp=>by
         have a1:=e5.ob p hp
         have a2:=g2.ob p hp
         have G5:=a2.ro
         rw[a1.om] at G5
         exact⟨a2.ob.trans a1.ob,a2.ln.trans a1.ln,a2.om.trans a1.om,Nat.le_trans a1.nx a2.nx,⟨fun l hl=>(a2.lp.1 l (Nat.lt_of_lt_of_le hl a1.nx)).trans (a1.lp.1 l hl),fun s hs=>(a2.lp.2 s (by rw[a1.om];exact hs)).trans (a1.lp.2 s hs)⟩,fun L hn hL=>(a2.dp L (by rw[a1.om];exact hn) (by rw[a1.om];exact hL)).trans (a1.dp L hn hL),fun hr=>⟨(G5 (GZ p hp hr)).1,fun s=>⟨((G5 (GZ p hp hr)).2 s).1.trans ((a1.ro hr).2 s).1,((G5 (GZ p hp hr)).2 s).2.trans ((a1.ro hr).2 s).2⟩⟩⟩⟩,fun p hp hr=>g4 p hp (GZ p hp hr),g5⟩⟩
      ·exact⟨_,e6,(by show (2:Nat)≠1;omega),fin σ2 r0 e hfin⟩
     ·cases h'
    ·cases h'
   ·cases h'
  ·cases h'
 |.scope c=>fun hw β st k x fr σ ρ aW h hi=>CW.scope (oW hF hI c hw _ st k x fr σ ρ aW h hi)
 |.label _=>fun hw _ st k x fr σ ρ _ h hi=>CW.label ⟨ρ,st,hi,.refl,h⟩
 |.goto _=>fun hw _ st k x fr σ ρ _ h hi=>by cases h
 |.refuse _=>fun hw _ st k x fr σ ρ _ h hi=>by cases h
omit hR in
theorem G6 {ρ:aK} {b:Nat} {st:MS R.T} {fr:Fr} {σ:ah} (hi:aB ρ b st fr σ):∀{rs:List ResultVar} {gM:List (TV R.T)},vI E R st rs=some gM→∃vs,rs.mapM (gU E fr σ)=some vs∧ay R ρ σ.top gM vs
 | [],gM,h=>by cases h;exact⟨[],rfl,rfl⟩
 |.tmp t::l,gM,h=>by
  unfold vI at h
  split at h
  ·rename_i v hv
   split at h
   ·rename_i vs hvs
    cases h
    obtain⟨ws,h1,h2⟩:=G6 hi hvs
    have:=aR (E:=E) hi .nil hv
    exact⟨fr.tm t::ws,by rw[List.mapM_cons];simp[gU,h1],.cons' this h2⟩
   ·cases h
  ·cases h
 |.cell a t::l,gM,h=>by
  unfold vI at h
  split at h
  ·rename_i o off hv
   split at h
   ·rename_i cs hl
    split at h
    ·rename_i v hld
     split at h
     ·rename_i vs hvs
      cases h
      obtain⟨ws,h1,h2⟩:=G6 hi hvs
      obtain⟨s,h3,h4⟩:=(aR (E:=E) hi .nil hv).lT
      rw[zm] at h4
      obtain⟨s',l',h5,h6,h7⟩:=hi.rd hl
      rw[h3] at h5;cases h5
      obtain⟨y,hy,hr⟩:=uy h7 hld
      exact⟨y::ws,by rw[List.mapM_cons];simp[gU,h4,h6,hy,h1],.cons' hr h2⟩
     ·cases h
    ·cases h
   ·rename_i ss hl
    split at h
    ·rename_i v hld
     split at h
     ·rename_i vs hvs
      cases h
      obtain⟨ws,h1,h2⟩:=G6 hi hvs
      obtain⟨s,h3,h4⟩:=(aR (E:=E) hi .nil hv).lT
      rw[zm] at h4
      obtain⟨s',h5,h6⟩:=hi.rd hl
      rw[h3] at h5;cases h5
      obtain⟨y,hy,hr⟩:=SE (ρ:=ρ) (top:=σ.top) hld
      exact⟨y::ws,by rw[List.mapM_cons];simp[gU,h4,h6,hy,h1],.cons' hr h2⟩
     ·cases h
    ·cases h
   ·cases h
  ·cases h
omit hR in
theorem Ua:∀(l:List (TV R.T)) (vs:List V) (i:Nat) (P:TV R.T→V→Prop),(∀j v,l[j]? =some v→P v (vs.getD j aA))→∀j v,look (C8 i l) j=some v→i≤j∧P v (vs.getD (j-i) aA)
 | [],vs,i,P,_,j,v,h=>by cases h
 |x::l,vs,i,P,hp,j,v,h=>by
  have h':look ((i,x)::C8 (i+1) l) j=some v:=h
  by_cases e:j=i
  ·subst e
   rw[gI] at h';cases h'
   exact⟨Nat.le_refl _,by simpa using hp 0 x rfl⟩
  ·rw[eU _ _ e] at h'
   obtain⟨h1,h2⟩:=Ua l vs.tail (i+1) P (fun j v hj=>by
    have:=hp (j+1) v (by simpa using hj)
    cases vs<;>simpa using this) j v h'
   refine⟨by omega, ?_⟩
   have e2:j-i=(j-(i+1))+1:=by omega
   rw[e2]
   cases vs<;>simpa using h2
def Cx.main (om:Bool):Cx:=⟨om,1,0,fun _=>none,fun _ _ h=>(by cases h),fun _ _ _ h=>(by cases h)⟩
theorem gX {n:Nat} {om:Bool} {F:Nat→List (FR R)} {I:IR R} (hF:bG E F) (hI:xQ E I) {A:dM} {f:Nat} {fn:Func} {args res:List Sk} {p:ak R.T args} {x:ak R.T res} (h:dS E R n om F I A fn args res p=some x) (hf:E.P.funcs[f]? =some fn) (ha:gH args=true)
 (hlen:(aI R args p).length=args.length) (aW:E.om f=om) (hs:E.mY f=none) (hok:(match fn.body with|some c=>decide (args.length≤fn.ntmps)&& bO fn.ntmps c&& qo c|none=>false)=true):Pure E f (aI R args p) (bT (aI R res x)):=by
 unfold dS at h
 split at h
 ·rename_i c hc
  rw[hc] at hok;dsimp only at hok
  rw[Bool.and_eq_true] at hok
  obtain⟨hok,hwk⟩:=hok
  refine Pure.of' fn.results.toList hf hc (fun fr σ hd ho ht=> ?_) rfl (by rw[hlen];exact hok) hs
  have hi:aB ⟨fun _=>none,fun _=>none,fun _=>0,Cx.main om⟩ σ.next (⟨C8 0 (gN R .sh args p),[]⟩:MS R.T) fr σ:={
   d:=hd
   om:=by rw[ho,aW];rfl
   fr:=fun i v hv=>by
    obtain⟨_,h2⟩:=Ua _ (aI R args p) 0 (fun v w=>Rl R ⟨fun _=>none,fun _=>none,fun _=>0,Cx.main om⟩ σ.top v w) (fun j v hj=>by
     obtain⟨w,h1,h2⟩:=(vO hR args p ha).get hj
     rw[List.getD_eq_getElem?_getD,h1];exact h2) i v hv
    rw[ht]
    exact .of (by simpa using h2)
   ob:=fun o x hx=>by cases hx
   inj:=fun t u s h=>by cases h
   lt:=fun t s h=>by cases h
   ge:=fun t s h=>by cases h
   nx:=Nat.zero_le _}
  refine(oW hR hF hI c hwk _ _ _ x fr σ _ rfl h hi).mono ?_
  rintro e fr' σ' ⟨ρ',st',hi',_,hk⟩
  have key:(match vI E R st' fn.results.toList with
   |some vs=>bif gH res&& Nat.ble (lQ res) 16 then eF R res (kV st' vs) else none
   |none=>none)=some x→∃vs,fn.results.toList.mapM (gU E fr' σ')=some vs∧aJ 20 σ' (match vs with| [v]=>v|vs=>.aT vs)=some (bT (aI R res x)):=by
   intro hk
   split at hk
   ·rename_i gM htv
    obtain⟨hb,hk⟩:=bU hk
    rw[Bool.and_eq_true] at hb
    obtain⟨vs,h1,h2⟩:=G6 hi' htv
    refine⟨vs,h1, ?_⟩
    have ahy:=Nat.le_of_ble_eq_true hb.2
    obtain⟨vs',v1,v2⟩:=Dm hR hi' h2
    have c1:=(v2 15).trans (oV hR res x (kV st' gM) vs' hb.1 hk v1 19 σ' (by omega))
    have c2:=(v2 16).trans (oV hR res x (kV st' gM) vs' hb.1 hk v1 20 σ' (by omega))
    clear v1 v2
    match vs,c1,c2 with
    | [],c1,c2=>
      have:aI R res x=[]:=by simpa using c1.symm
      rw[this]
      show aJ 20 σ' (.aT [])=some (.aT [])
      rw[Ki];rfl
    | [v],c1,c2=>
      rw[List.mapM_cons] at c2
      obtain⟨w,hw,c2⟩:=Option.bind_eq_some_iff.1 c2
      have:[w]=aI R res x:=by simpa using c2
      rw[←this];exact hw
    |v::w::vs,c1,c2=>
     show aJ 20 σ' (.aT (v::w::vs))=_
     rw[Ki,c1,Option.map_some]
     have hl:(aI R res x).length=(v::w::vs).length:=by
      have:∀(l:List V) (m:List V),l.mapM (aJ 19 σ')=some m→m.length=l.length:=by
       intro l
       induction l with
       |nil=>intro m h;cases h;rfl
       |cons a l ih=>
        intro m h
        rw[List.mapM_cons] at h
        obtain⟨b,hb,h⟩:=Option.bind_eq_some_iff.1 h
        obtain⟨c,hc,h⟩:=Option.bind_eq_some_iff.1 h
        cases h
        simp[ih c hc]
      exact this _ _ c1
     match aI R res x,hl with
     |a::b::l,_=>rfl
   ·cases hk
  cases e with
  |exit i=>cases hk
  |normal=>exact key hk
  |ret=>exact key hk
 ·cases h
end
end Aq
end
section
namespace Aq
open Go
section
variable {R:fI} {E:Env}
def dB (f:Nat) (r:FR R) (F:Nat→List (FR R)):Nat→List (FR R):=fun g=>bif Nat.beq g f then r::F g else F g
theorem bQ {f:Nat} {r:FR R} {F:Nat→List (FR R)} (hF:bG E F) (h:∀p x,r.F p=some x→Pure E f (aI R r.args p) (bT (aI R r.res x))) (ho:r.own=false:=by rfl):bG E (dB f r F):=by
 intro g q hq p x hx
 unfold dB at hq
 cases hb:Nat.beq g f
 ·rw[hb] at hq;exact hF g q hq p x hx
 ·rw[hb,cond_true] at hq
  rcases List.mem_cons.1 hq with rfl|hq
  ·rw[dn hb];exact⟨fun _=>h p x hx,fun e=>by rw[ho] at e;cases e⟩
  ·exact hF g q hq p x hx
def Ub:Nat→List (FR R):=fun _=>[]
def Uc:IR R:=⟨fun _=>[],fun _=>[]⟩
theorem adf:xQ E (Uc (R:=R)):=⟨fun _ _ h=>(by cases h),fun _ _ h=>(by cases h)⟩
def wH (g:Nat) (i:FI R) (I:IR R):IR R:=⟨fun f=>bif Nat.beq f g then i::I.it f else I.it f,I.im⟩
theorem adg {g:Nat} {i:FI R} {I:IR R} (hI:xQ E I) (h:E.imp g=true∧∀pa pb xs,i.F pa pb=some xs→Dz E g (aI R i.a pa) (aI R i.b pb) (xs.map (aI R i.el))):xQ E (wH g i I):=by
 refine⟨fun f q hq=> ?_,hI.2⟩
 have hq':q∈(bif Nat.beq f g then i::I.it f else I.it f):=hq
 cases hb:Nat.beq f g
 ·rw[hb] at hq';exact hI.1 f q hq'
 ·rw[hb,cond_true] at hq'
  rcases List.mem_cons.1 hq' with rfl|hq'
  ·rw[dn hb];exact h
  ·exact hI.1 f q hq'
theorem adh:bG E (Ub (R:=R)):=fun _ _ h=>by cases h
end
def adi (E:Env) (R:fI) (n:Nat) (om:Bool) (F:Nat→List (FR R)) (I:IR R) (A:dM) (c:Option Code) (el:List Sk) {β:Type} (x:ak R.T el) (st:MS R.T) (k:Ex→MS R.T→Option β):Option β:=match c with
 |some (.rangeFunc _ ps a c)=>match xE st ps.toList (gN R .sh el x) with
  |some st=>dh E R n om F I A a st fun e st=>match e with
   |.normal=>dh E R n om F I A c st k
   |_=>none
  |none=>none
 |_=>none
def wrR (c:Option Code):List Nat:=match c with
 |some (.rangeFunc _ ps a c)=>ps.toList++aN a++aN c
 |_=>[]
def Ud:(k:gG)→zo k
 |.i _=>(0:Int)
 |.a _ n=>Vec.rep n 0
def Ue:(l:List gG)→wY l
 | []=>()
 | [k]=>Ud k
 |k::h::l=>(Ud k,Ue (h::l))
section
variable (R:fI)
mutual
def Uf:(k:Sk)→nM R.T k
 |.d t=>zu R t
 |.l _ t=>([]:List (Den R.T t))
 |.agg l=>bC l
 |.ref _ _=>()
 |.aH l _=>bC l
 |.bq _=>()
 |.bL k e=>([]:List (Den R.T k×Den R.T e))
 |.fn _ a b=>(bC a,bC b)
 |.d9=>()
 |.vw _ _=>()
 |.sg l=>Ue l
 |.undef=>()
def bC:(l:List Sk)→ak R.T l
 | []=>()
 | [k]=>Uf k
 |k::h::l=>(Uf k,bC (h::l))
end
end
end Aq
end
section
namespace Aq
open Go Go.RowKit
mutual
def mQ:V→Nat
 |.str s=>s.length+1
 |.agg cs=>nU cs
 |.aj _ l=>nU l+1
 |_=>1
def nU:List V→Nat
 | []=>0
 |v::l=>mQ v+nU l
end
def Mq (k:IntKind) (n:Int):Nat:=if (Lit.int k n).wf=true then 0 else 2^64
theorem adk {k:IntKind} {n:Int} (h:(Lit.int k n).wf=true):Mq k n=0:=if_pos h
mutual
def gP:V→Nat
 |.str s=>s.length+1
 |.agg cs=>mR cs
 |.aj _ l=>mR l+1
 |.int k n=>1+Mq k n
 |_=>1
def mR:List V→Nat
 | []=>0
 |v::l=>gP v+mR l
end
mutual
theorem Mr:∀v:V,mQ v≤gP v
 |.str s=>by simp[mQ,gP]
 |.agg cs=>by simp only[mQ,gP];exact Ms cs
 |.aj _ l=>by simp only[mQ,gP];exact Nat.add_le_add_right (Ms l) 1
 |.int k n=>by simp[mQ,gP]
 |.bool _|.dQ|.dJ|.dF|.dK|.aT _|.vw .. |.ref .. |.bq .. |.aH .. |.fn .. |.bL .. |.iface .. |.raw _=>by simp[mQ,gP]
theorem Ms:∀l:List V,nU l≤mR l
 | []=>Nat.le_refl _
 |v::l=>by simp only[nU,mR];exact Nat.add_le_add (Mr v) (Ms l)
end
structure Bulk (H:Type) (bk:DataW H→Nat) (bs:List (DataW H)→Nat):Prop where
 one:∀d,1≤bk d
 str:∀s,s.length+1≤bk (.lit (.string s))
 agg:∀l,bs l≤bk (.agg l)
 sl:∀l r,bs l+1≤bk (.slice l r)
 nil:bs []=0
 cons:∀d l,bs (d::l)=bk d+bs l
section
variable {H:Type} {bk:DataW H→Nat} {bs:List (DataW H)→Nat} (hb:Bulk H bk bs)
include hb
theorem Bulk.append (a b:List (DataW H)):bs (a++b)=bs a+bs b:=by
 induction a with
 |nil=>simp[hb.nil]
 |cons v a ih=>simp only[List.cons_append,hb.cons,ih];omega
end
def mU {α β γ:Type} (Q:α→β→γ→Prop):List α→List β→List γ→Prop
 | [],[],[]=>True
 |t::ts,c::cs,d::ds=>Q t c d∧mU Q ts cs ds
 |_,_,_=>False
theorem mU.append {α β γ:Type} {Q:α→β→γ→Prop}:∀{a a':List α} {b b':List β} {c c':List γ},mU Q a b c→mU Q a' b' c'→mU Q (a++a') (b++b') (c++c')
 | [],_,[],_,[],_,_,h=>h
 |_::_,_,_::_,_,_::_,_,h,h'=>⟨h.1,h.2.append h'⟩
 | [],_,_::_,_,_,_,h,_=>h.elim
 | [],_,[],_,_::_,_,h,_=>h.elim
 |_::_,_,[],_,_,_,h,_=>h.elim
 |_::_,_,_::_,_,[],_,h,_=>h.elim
theorem mU.mono {α β γ:Type} {Q Q':α→β→γ→Prop} (hq:∀a b c,Q a b c→Q' a b c):∀{a:List α} {b:List β} {c:List γ},mU Q a b c→mU Q' a b c
 | [],[],[],_=>trivial
 |_::_,_::_,_::_,h=>⟨hq _ _ _ h.1,h.2.mono hq⟩
 | [],_::_,_,h=>h.elim
 | [],[],_::_,h=>h.elim
 |_::_,[],_,h=>h.elim
 |_::_,_::_,[],h=>h.elim
theorem mU.len {α β γ:Type} {Q:α→β→γ→Prop}:∀{a:List α} {b:List β} {c:List γ},mU Q a b c→a.length=b.length
 | [],[],[],_=>rfl
 |_::_,_::_,_::_,h=>by simp[h.2.len]
 | [],_::_,_,h=>h.elim
 | [],[],_::_,h=>h.elim
 |_::_,[],_,h=>h.elim
 |_::_,_::_,[],h=>h.elim
section
variable (P:Program)
def DF (t:TypeId):Option (List (Nat×TypeId)):=match P.underlying t with
 |some (.struct fs)=>some (fs.toList.map fun f=>(f.offset,f.type))
 |some (.array n e)=>some ((List.range n).map fun i=>(i*P.cellsOf e,e))
 |_=>none
def Az (t:TypeId):Bool:=match P.underlying t with
 |some .bool=>true
 |some (.int _)=>true
 |some .string=>true
 |some (.slice _)=>true
 |_=>false
def DI:List (Nat×TypeId)→Nat→Nat→Bool
 | [],off,tot=>off==tot
 | (o,u)::l,off,tot=>o==off&& DI l (off+P.cellsOf u) tot
def AA:Nat→TypeId→Option (List TypeId)
 |0,_=>none
 |k+1,t=>match DF P t with
  |some ps=>if DI P ps 0 (P.cellsOf t)=true then (ps.mapM fun (p:Nat×TypeId)=>match AA k p.2 with
    |some l=>if l.length=P.cellsOf p.2 then some l else none
    |none=>none).map List.flatten else none
  |none=>if Az P t=true∧P.cellsOf t=1 then some [t] else none
end
section
variable {P:Program} {w:World} {H:Type} {enc:TypeId×Value→H} {bk:DataW H→Nat} {bs:List (DataW H)→Nat}
abbrev iw (enc:TypeId×Value→H) (P:Program) (w:World) (f:Nat) (t:TypeId) (cs:List Value):Option (DataW H×List MemPlace):=DataW.trod enc P w 0 (fun _=>true) true f t cs
theorem adl {fuel:Nat} {t:TypeId} {cs:List Value} {d:DataW H} {ps:List MemPlace} {pl:List (Nat×TypeId)} (hp:DF P t=some pl) (h:iw enc P w (fuel+1) t cs=some (d,ps)):
 cs.length=P.cellsOf t∧∃xs,pl.mapM (fun p=>iw enc P w fuel p.2 ((cs.drop p.1).take (P.cellsOf p.2)))=some xs∧d= .agg (xs.map (·.1)):=by
 unfold DF at hp
 split at hp
 ·rename_i fs hu
  simp only[Option.some.injEq] at hp
  subst hp
  simp only[iw,DataW.trod,hu] at h
  split at h
  ·rename_i hl
   simp only[Option.map_eq_some_iff,Prod.mk.injEq] at h
   obtain⟨xs,h1,rfl,rfl⟩:=h
   refine⟨hl,xs, ?_,rfl⟩
   rw[List.mapM_map]
   exact h1
  ·cases h
 ·rename_i n e hu
  simp only[Option.some.injEq] at hp
  subst hp
  simp only[iw,DataW.trod,hu] at h
  split at h
  ·rename_i hl
   simp only[Option.map_eq_some_iff,Prod.mk.injEq] at h
   obtain⟨xs,h1,rfl,rfl⟩:=h
   refine⟨hl,xs, ?_,rfl⟩
   rw[List.mapM_map]
   exact h1
  ·cases h
 ·cases hp
def Mt (enc:TypeId×Value→H) (P:Program) (w:World) (fuel:Nat) (u:TypeId) (c:Value) (d:DataW H):Prop:=∃f p,f≤fuel∧iw enc P w f u [c]=some (d,p)∧Az P u=true
theorem Ug {fuel:Nat} {t:TypeId} {cs:List Value} {x:DataW H×List MemPlace} (hl:Az P t=true) (h:iw enc P w fuel t cs=some x):∃c,cs=[c]:=by
 cases fuel with
 |zero=>simp[iw,DataW.trod] at h
 |succ f=>
  unfold Az at hl
  split at hl
  all_goals (rename_i hu;simp only[iw,DataW.trod,hu] at h;split at h<;>first|exact⟨_,rfl⟩|simp_all)
theorem adn (hb:Bulk H bk bs):∀(k fuel:Nat) (t:TypeId) (cs:List Value) (d:DataW H) (ps:List MemPlace) (ts:List TypeId),AA P k t=some ts→iw enc P w fuel t cs=some (d,ps)→
 ∃ds,mU (Mt enc P w fuel) ts cs ds∧bs ds≤bk d:=by
 intro k
 induction k with
 |zero=>intro fuel t cs d ps ts h;simp[AA] at h
 |succ k ih=>
  intro fuel t cs d ps ts h ht
  simp only[AA] at h
  split at h
  ·rename_i pl hp
   split at h
   ·rename_i hcon
    cases fuel with
    |zero=>simp[iw,DataW.trod] at ht
    |succ fuel=>
     obtain⟨hl,xs,hx,rfl⟩:=adl hp ht
     simp only[Option.map_eq_some_iff] at h
     obtain⟨AB,ado,rfl⟩:=h
     have key:∀(pl:List (Nat×TypeId)) (off:Nat) (xs:List (DataW H×List MemPlace)) (AB:List (List TypeId)),DI P pl off cs.length=true→
      pl.mapM (fun p=>iw enc P w fuel p.2 ((cs.drop p.1).take (P.cellsOf p.2)))=some xs→
      (pl.mapM fun p=>match AA P k p.2 with
        |some l=>if l.length=P.cellsOf p.2 then some l else none
        |none=>none)=some AB→∃ds,mU (Mt enc P w (fuel+1)) AB.flatten (cs.drop off) ds∧bs ds≤bs (xs.map (·.1)):=by
      intro pl
      induction pl with
      |nil=>
       intro off xs AB hc h1 h2
       simp only[List.mapM_nil,Option.pure_def,Option.some.injEq] at h1 h2
       subst h1;subst h2
       simp only[DI,beq_iff_eq] at hc
       rw[hc,List.drop_length]
       exact⟨[],trivial,Nat.le_refl _⟩
      |cons p pl ihp=>
       intro off xs AB hc h1 h2
       obtain⟨o,u⟩:=p
       simp only[DI,Bool.and_eq_true,beq_iff_eq] at hc
       obtain⟨rfl,hc⟩:=hc
       simp only[List.mapM_cons,Option.bind_eq_bind,Option.bind_eq_some_iff,Option.pure_def,Option.some.injEq] at h1 h2
       obtain⟨⟨d1,p1⟩,g1,xs',g2,rfl⟩:=h1
       obtain⟨l1,g3,ahz,g4,rfl⟩:=h2
       split at g3
       ·rename_i l0 hl0
        split at g3
        ·cases g3
         obtain⟨ds1,a1,a2⟩:=ih _ _ _ _ _ _ hl0 g1
         obtain⟨ds2,a3,a4⟩:=ihp _ _ _ hc g2 g4
         refine⟨ds1++ds2, ?_, ?_⟩
         ·rw[List.flatten_cons]
          have e:cs.drop o=(cs.drop o).take (P.cellsOf u)++cs.drop (o+P.cellsOf u):=by
           rw[←List.drop_drop,List.take_append_drop]
          rw[e]
          exact mU.append (a1.mono fun _ _ _ ⟨f,q,h1,h2⟩=>⟨f,q,Nat.le_succ_of_le h1,h2⟩) a3
         ·rw[hb.append,List.map_cons,hb.cons];show _≤bk d1+_;omega
        ·cases g3
       ·cases g3
     have:=key pl 0 xs AB (by rw[hl];exact hcon) hx ado
     obtain⟨ds,h1,h2⟩:=this
     exact⟨ds,by simpa using h1,Nat.le_trans h2 (hb.agg _)⟩
   ·cases h
  ·split at h
   ·rename_i hlf
    simp only[Option.some.injEq] at h
    subst h
    obtain⟨c,rfl⟩:=Ug hlf.1 ht
    refine⟨[d],⟨⟨fuel,ps,Nat.le_refl _,ht,hlf.1⟩,trivial⟩, ?_⟩
    rw[hb.cons,hb.nil];omega
   ·cases h
def lX (K:aF) (T:Nat→Nat) (w:World) (vs:List V) (cs:List Value):Prop:=vs.length=cs.length∧∀j,j<vs.length→Rel K T w (vs.getD j aA) (cs.getD j undef)
theorem lX.cons {K:aF} {T:Nat→Nat} {v:V} {c:Value} {vs:List V} {cs:List Value} (h:Rel K T w v c) (hs:lX K T w vs cs):lX K T w (v::vs) (c::cs):=by
 refine⟨by simp[hs.1],fun j hj=> ?_⟩
 cases j with
 |zero=>exact h
 |succ j=>simpa using hs.2 j (by simpa using hj)
variable (R:fI)
def kH (P:Program) (t:TypeId):Ty→Bool
 |.int k=>match P.underlying t with
  |some (.int k')=>decide (k'=k)
  |_=>false
 |.bool=>match P.underlying t with
  |some .bool=>true
  |_=>false
 |.str=>match P.underlying t with
  |some .string=>true
  |_=>false
 |.slice τ=>match P.underlying t with
  |some (.slice e)=>decide (R.ty e=some τ)&& decide (0<P.cellsOf e)
  |_=>false
 |.st n=>match AA P 10 t with
  |some ts=>decide (ts.map R.ty=(R.lf n).map some)&& (DF P t).isSome
  |none=>false
def allI (w:World) (b o:Nat):Prop:=∃v,w.cell? (at_ b o)=some v
abbrev KA (w:World):aF:=aF.lend (allI w) (fun b=> ∃es aZ,w.heap[b]? =some (.map es aZ))
theorem Mv {α β:Type} {f:α→Option β}:∀{l:List α} {r:List β},l.mapM f=some r→r.length=l.length∧∀(i:Nat) (hi:i<l.length) (hr:i<r.length),f l[i]=some r[i]:=by
 intro l
 induction l with
 |nil=>intro r h;simp at h;subst h;exact⟨rfl,fun i hi=>absurd hi (Nat.not_lt_zero i)⟩
 |cons a l ih=>
  intro r h
  simp only[List.mapM_cons,Option.bind_eq_bind,Option.bind_eq_some_iff,Option.pure_def,Option.some.injEq] at h
  obtain⟨y,h1,ys,h2,rfl⟩:=h
  obtain⟨h3,h4⟩:=ih h2
  refine⟨by simp[h3],fun i hi hr=> ?_⟩
  cases i with
  |zero=>exact h1
  |succ i=>exact h4 i (by simpa using hi) (by simpa using hr)
theorem Uh {base:Nat} {a:Addr} {n:Nat} {cs:List Value} (h:w.cells? base a n=some cs):cs.length=n∧∀j,j<n→w.cell? (a.add j)=some (cs.getD j undef):=by
 unfold World.cells? at h
 split at h
 ·obtain⟨h1,h2⟩:=Mv h
  rw[List.length_range] at h1
  refine⟨h1,fun j hj=> ?_⟩
  have:=h2 j (by simpa using hj) (by omega)
  simp only[List.getElem_range] at this
  rw[this,List.getD_eq_getElem?_getD,List.getElem?_eq_getElem (by omega)]
  rfl
 ·cases h
theorem plain_of_cell {a:Addr} {v:Value} (h:w.cell? a=some v):a=at_ a.block a.off:=by
 unfold World.cell? at h
 obtain⟨b,o,s⟩:=a
 cases s with
 |none=>rfl
 |some s=>dsimp only at h;split at h<;>simp at h
theorem Ui (hb:Bulk H bk bs) (hR:kY R) {T:Nat→Nat} {Q:TypeId→Value→DataW H→Prop} (hq:∀u c d τ,Q u c d→R.ty u=some τ→jI τ=true→∃x:Den R.T τ,Rel (KA w) T w (aC R τ x) c∧gP (aC R τ x)≤bk d):
 ∀(l:List Ty) (ts:List TypeId) (cs:List Value) (ds:List (DataW H)),l.all jI=true→ts.map R.ty=l.map some→mU Q ts cs ds→∃p:jS R.T l,lX (KA w) T w (encs R l p) cs∧mR (encs R l p)≤bs ds
 | [],ts,cs,ds,_,hm,h=>by
   have:ts=[]:=by simpa using hm
   subst this
   cases cs with
   |nil=>cases ds with
    |nil=>exact⟨(),⟨rfl,fun j hj=>absurd hj (Nat.not_lt_zero j)⟩,by rw[hb.nil];exact Nat.le_refl _⟩
    |cons=>exact h.elim
   |cons=>exact h.elim
 | [τ],ts,cs,ds,hl,hm,h=>by
   cases ts with
   |nil=>simp at hm
   |cons u ts=>
    simp only[List.map_cons,List.map_nil,List.cons.injEq,List.map_eq_nil_iff] at hm
    obtain⟨hu,rfl⟩:=hm
    cases cs with
    |nil=>exact h.elim
    |cons c cs=>cases ds with
     |nil=>exact h.elim
     |cons d ds=>
      obtain⟨h1,h2⟩:=h
      cases cs with
      |cons=>exact h2.elim
      |nil=>cases ds with
       |cons=>exact h2.elim
       |nil=>
        obtain⟨x,h3,h4⟩:=hq u c d τ h1 hu (by simpa using hl)
        refine⟨x,lX.cons h3 ⟨rfl,fun j hj=>absurd hj (Nat.not_lt_zero j)⟩, ?_⟩
        rw[hb.cons,hb.nil]
        show gP _+0≤_
        omega
 |τ::τ'::l,ts,cs,ds,hl,hm,h=>by
  cases ts with
  |nil=>simp at hm
  |cons u ts=>
   rw[List.map_cons,List.map_cons] at hm
   injection hm with hu hm
   cases cs with
   |nil=>exact h.elim
   |cons c cs=>cases ds with
    |nil=>exact h.elim
    |cons d ds=>
     obtain⟨h1,h2⟩:=h
     rw[List.all_cons,Bool.and_eq_true] at hl
     obtain⟨x,h3,h4⟩:=hq u c d τ h1 hu hl.1
     obtain⟨p,h5,h6⟩:=Ui hb hR hq (τ'::l) ts cs ds hl.2 hm h2
     refine⟨(x,p),lX.cons h3 h5, ?_⟩
     rw[hb.cons]
     show gP (aC R τ x)+mR (encs R (τ'::l) p)≤_
     omega
theorem adr (τ:Ty) (hl:jI τ=true) (x:Den R.T τ):(aC R τ x).cells=[aC R τ x]:=by
 cases τ with
 |st n=>simp[jI] at hl
 |_=>rfl
theorem ads (hb:Bulk H bk bs) (hR:kY R) {T:Nat→Nat} (hty:∀t τ,R.ty t=some τ→kH R P t τ=true):∀(fuel:Nat) (t:TypeId) (cs:List Value) (d:DataW H) (ps:List MemPlace) (τ:Ty),R.ty t=some τ→iw enc P w fuel t cs=some (d,ps)→
 ∃x:Den R.T τ,lX (KA w) T w (aC R τ x).cells cs∧gP (aC R τ x)≤bk d:=by
 intro fuel
 induction fuel using Nat.strongRecOn with
 |_ fuel ih=>
  have leaf:∀f,f≤fuel→∀u c d p τ,jI τ=true→R.ty u=some τ→iw enc P w f u [c]=some (d,p)→∃x:Den R.T τ,Rel (KA w) T w (aC R τ x) c∧gP (aC R τ x)≤bk d:=by
   intro f hf u c d p τ hl hu h
   cases f with
   |zero=>simp[iw,DataW.trod] at h
   |succ f=>
    have ho:=hty u τ hu
    cases τ with
    |st n=>simp[jI] at hl
    |int k=>
     simp only[kH] at ho
     split at ho
     ·rename_i k' hk
      have:=of_decide_eq_true ho
      subst this
      cases c with
      |int k2 n=>
       simp only[iw,DataW.trod,hk] at h
       split at h
       ·rename_i hkk
        obtain⟨rfl,hwf⟩:=hkk
        simp only[Option.some.injEq,Prod.mk.injEq] at h
        obtain⟨rfl,rfl⟩:=h
        exact⟨(n:Int),.int _ _,by show 1+Mq _ _≤_;rw[adk hwf];exact hb.one _⟩
       ·cases h
      |_=>simp only[iw,DataW.trod,hk] at h;cases h
     ·cases ho
    |bool=>
     simp only[kH] at ho
     split at ho
     ·rename_i hk
      cases c with
      |bool b=>exact⟨(b:Bool),.bool _,hb.one _⟩
      |_=>simp only[iw,DataW.trod,hk] at h;cases h
     ·cases ho
    |str=>
     simp only[kH] at ho
     split at ho
     ·rename_i hk
      cases c with
      |string b=>
       simp only[iw,DataW.trod,hk] at h
       split at h
       ·simp only[Option.some.injEq,Prod.mk.injEq] at h
        obtain⟨rfl,rfl⟩:=h
        exact⟨b.data.toList,.str _ _ rfl,hb.str _⟩
       ·cases h
      |_=>simp only[iw,DataW.trod,hk] at h;cases h
     ·cases ho
    |slice τ=>
     simp only[kH] at ho
     split at ho
     ·rename_i e hk
      rw[Bool.and_eq_true] at ho
      have he:=of_decide_eq_true ho.1
      have hpos:=of_decide_eq_true ho.2
      cases c with
      |slice a len cap=>
       cases a with
       |none=>
        cases len with
        |succ n=>simp only[iw,DataW.trod,hk] at h;cases h
        |zero=>cases cap with
         |succ n=>simp only[iw,DataW.trod,hk] at h;cases h
         |zero=>exact⟨([]:List (Den R.T τ)),.bY .sh none (fun _=>rfl) trivial,hb.one _⟩
       |some a=>
        simp only[iw,DataW.trod,hk] at h
        split at h
        ·rename_i hc
         obtain⟨_,hlc,_⟩:=hc
         simp only[Option.bind_eq_some_iff,if_true,Option.map_eq_some_iff,Prod.mk.injEq] at h
         obtain⟨elems,h1,rest,h2,rfl,rfl⟩:=h
         obtain⟨e1,e2⟩:=Mv h1
         obtain⟨r1,r2⟩:=Mv h2
         rw[List.length_range] at e1 r1
         have hplain:0<cap→a=at_ a.block a.off:=fun hcap=>by
          have hread:∃i cs x,w.cells? 0 (a.add (i*P.cellsOf e)) (P.cellsOf e)=some cs∧iw enc P w f e cs=some x∧i=0:=by
           by_cases hl0:0<len
           ·have:=e2 0 (by simpa using hl0) (by omega)
            simp only[List.getElem_range,Option.bind_eq_some_iff] at this
            obtain⟨cs,g1,g2⟩:=this
            exact⟨0,cs,_,g1,g2,rfl⟩
           ·have:=r2 0 (by simp;omega) (by omega)
            simp only[List.getElem_range,Option.bind_eq_some_iff] at this
            obtain⟨cs,g1,g2⟩:=this
            exact⟨len+0,cs,_,g1,g2,by omega⟩
          obtain⟨i,cs,_,g1,_,rfl⟩:=hread
          have:=(Uh g1).2 0 hpos
          have ha:(a.add (0*P.cellsOf e)).add 0=a:=by simp[Addr.add]
          rw[ha] at this
          exact plain_of_cell this
         have hel:∀i,∃x:Den R.T τ,∃AJ:List Value,∀hi:i<elems.length,(∀j,j<P.cellsOf e→w.cell? ((a.add (i*P.cellsOf e)).add j)=some (AJ.getD j undef))∧AJ.length=P.cellsOf e∧
          lX (KA w) T w (aC R τ x).cells AJ∧gP (aC R τ x)≤bk elems[i].1:=fun i=>by
          by_cases hi:i<elems.length
          ·have:=e2 i (by simpa using (by omega:i<len)) hi
           simp only[List.getElem_range,Option.bind_eq_some_iff] at this
           obtain⟨AJ,g1,g2⟩:=this
           obtain⟨c1,c2⟩:=Uh g1
           obtain⟨x,x1,x2⟩:=ih f (by omega) e AJ elems[i].1 elems[i].2 τ he g2
           exact⟨x,AJ,fun _=>⟨c2,c1,x1,x2⟩⟩
          ·exact⟨zu R τ,[],fun h=>absurd h hi⟩
         let xs:List (Den R.T τ):=(List.range elems.length).map fun i=>(hel i).choose
         have hxs:∀i (hi:i<xs.length) (hi':i<elems.length),(∀j,j<P.cellsOf e→w.cell? ((a.add (i*P.cellsOf e)).add j)=some ((hel i).choose_spec.choose.getD j undef))∧(hel i).choose_spec.choose.length=P.cellsOf e∧
          lX (KA w) T w (aC R τ xs[i]).cells (hel i).choose_spec.choose∧gP (aC R τ xs[i])≤bk elems[i].1:=fun i hi hi'=>by
          have:=(hel i).choose_spec.choose_spec hi'
          have e:xs[i]=(hel i).choose:=by simp[xs]
          rw[e];exact this
         have hxl:xs.length=len:=by simp[xs,e1]
         refine⟨(xs:List (Den R.T τ)), ?_, ?_⟩
         ·show Rel _ _ _ (.aj .sh (xs.map (aC R τ))) (.slice (some a) len cap)
          by_cases hcap:0<cap
          ·obtain⟨b,o,s⟩:=a
           have hs:s=none:=by
            have:=hplain hcap
            simp only[at_,Addr.mk.injEq] at this
            exact this.2.2
           subst hs
           have key:Rel (KA w) T w (.aj .sh (xs.map (aC R τ))) (.slice (some (at_ b o)) (xs.map (aC R τ)).length cap):=by
            refine .aj .sh _ b o (P.cellsOf e) cap (fun i j=>if hi:i<elems.length then (hel i).choose_spec.choose.getD j undef else undef) (by rw[List.length_map,hxl];exact hlc) (fun i hi=> ?_) (fun i j hi hj=> ?_) (fun i j hi hj=> ?_) trivial
            all_goals
             rw[List.length_map] at hi
             have hi':i<elems.length:=by omega
             obtain⟨y1,y2,y3,y4⟩:=hxs i hi hi'
             have hg:(xs.map (aC R τ)).getD i aA=aC R τ xs[i]:=by simp[List.getD,hi]
            ·rw[hg];exact y3.1.trans y2
            ·rw[dif_pos hi']
             have hadd:at_ b (o+i*P.cellsOf e+j)=((⟨b,o,none⟩:Addr).add (i*P.cellsOf e)).add j:=by
              rw[show (⟨b,o,none⟩:Addr)=at_ b o from rfl,addr_add,addr_add]
             have this:=(congrArg w.cell? hadd).trans (y1 j hj)
             exact⟨this,_,this⟩
            ·rw[hg,dif_pos hi']
             exact y3.2 j (by rw[y3.1,y2];exact hj)
           rw[List.length_map,hxl] at key
           exact key
          ·have h0:len=0:=by omega
           have h0':cap=0:=by omega
           subst h0;subst h0'
           have:xs=[]:=List.eq_nil_of_length_eq_zero hxl
           rw[this]
           exact .bY .sh (some a) (fun h=>by cases h) trivial
         ·show mR (xs.map (aC R τ))+1≤_
          refine Nat.le_trans (Nat.succ_le_succ ?_) (hb.sl _ _)
          have adt:∀(l:List (Den R.T τ)) (m:List (DataW H×List MemPlace)),l.length=m.length→(∀i (hi:i<l.length) (hi':i<m.length),gP (aC R τ l[i])≤bk m[i].1)→mR (l.map (aC R τ))≤bs (m.map (·.1)):=by
           intro l
           induction l with
           |nil=>intro m _ _;exact Nat.zero_le _
           |cons x l ihl=>
            intro m hm hle
            cases m with
            |nil=>simp at hm
            |cons y m=>
             rw[List.map_cons,List.map_cons,hb.cons]
             have h0:=hle 0 (by simp) (by simp)
             have h1:=ihl m (by simpa using hm) (fun i hi hi'=>hle (i+1) (by simpa using hi) (by simpa using hi'))
             simp only[List.getElem_cons_zero] at h0
             show gP _+mR _≤_
             omega
          exact adt xs elems (by rw[hxl,e1]) fun i hi hi'=>(hxs i hi hi').2.2.2
        ·cases h
      |_=>simp only[iw,DataW.trod,hk] at h;cases h
     ·cases ho
  have ho:=hty
  intro t cs d ps τ ht h
  cases τ with
  |st n=>
   have ho:=hty t _ ht
   simp only[kH] at ho
   split at ho
   ·rename_i ts hts
    rw[Bool.and_eq_true] at ho
    have hm:=of_decide_eq_true ho.1
    obtain⟨ds,h1,h2⟩:=adn hb _ _ _ _ _ _ _ hts h
    obtain⟨p,h3,h4⟩:=Ui R hb hR (Q:=Mt enc P w fuel) (T:=T) (fun u c d τ hq hu hl=>by
     obtain⟨f,q,hf,hq,_⟩:=hq
     exact leaf f hf u c d q τ hl hu hq) (R.lf n) ts cs ds (hR.leaf n) hm h1
    refine⟨R.to n p, ?_, ?_⟩
    ·show lX _ _ _ (R.enc n (R.to n p)).cells cs
     rw[hR.enc,hR.C9];exact h3
    ·show gP (R.enc n (R.to n p))≤_
     rw[hR.enc,hR.C9]
     exact Nat.le_trans h4 h2
   ·cases ho
  |_=>
   have hl:Az P t=true:=by
    have ho:=hty t _ ht
    simp only[kH] at ho
    split at ho
    ·rename_i hu;simp[Az,hu]
    ·cases ho
   obtain⟨c,rfl⟩:=Ug hl h
   obtain⟨x,h1,h2⟩:=leaf fuel (Nat.le_refl _) t c d ps _ rfl ht h
   refine⟨x, ?_,h2⟩
   rw[adr R _ rfl]
   exact lX.cons h1 ⟨rfl,fun j hj=>absurd hj (Nat.not_lt_zero j)⟩
end
end Aq
end
section
namespace Aq
open Go Go.RowKit Go.ChangeShapes Go.WideShapes
section
variable {P:Program} {w:World} {H:Type} {enc:TypeId×Value→H} {bk:DataW H→Nat} {bs:List (DataW H)→Nat} (R:fI)
theorem Uj (hb:Bulk H bk bs) (hR:kY R) {T:Nat→Nat} (hty:∀t τ,R.ty t=some τ→kH R P t τ=true) {t:TypeId} {v:Value} {d:DataW H} {ps:List MemPlace} {τ:Ty} (ht:R.ty t=some τ)
 {r:Reach} {base:Nat} (hok:Value.okWide P w r base t v) (h:DataW.Trod enc P w 0 (fun _=>true) true t v d ps):∃x:Den R.T τ,Rel (KA w) T w (aC R τ x) v∧gP (aC R τ x)≤bk d:=by
 obtain⟨fuel,h⟩:=h
 obtain⟨x,h1,h2⟩:=ads R hb hR (T:=T) hty fuel t _ d ps τ ht h
 refine⟨x, ?_,h2⟩
 have ho:=hty t τ ht
 have one:∀c,v=c→c.cells= #[c]→(aC R τ x).cells=[aC R τ x]→Rel (KA w) T w (aC R τ x) v:=by
  intro c hv hc he
  subst hv
  rw[hc,he] at h1
  exact h1.2 0 (by simp)
 cases τ with
 |int k=>
  simp only[kH] at ho
  split at ho
  ·rename_i k' hu
   obtain⟨n,rfl⟩:=okWide_int hu hok
   exact one _ rfl rfl rfl
  ·cases ho
 |bool=>
  simp only[kH] at ho
  split at ho
  ·rename_i hu
   obtain⟨n,rfl⟩:=okWide_bool hu hok
   exact one _ rfl rfl rfl
  ·cases ho
 |str=>
  simp only[kH] at ho
  split at ho
  ·rename_i hu
   obtain⟨n,rfl⟩:=okWide_string hu hok
   exact one _ rfl rfl rfl
  ·cases ho
 |slice τ=>
  simp only[kH] at ho
  split at ho
  ·rename_i e hu
   obtain⟨a,l,c,rfl⟩:=okWide_slice hu hok
   exact one _ rfl rfl rfl
  ·cases ho
 |st n=>
  simp only[kH] at ho
  split at ho
  ·rename_i ts hts
   rw[Bool.and_eq_true] at ho
   have hagg:∃cs,v= .agg cs:=by
    have hs:=ho.2
    unfold DF at hs
    unfold Value.okWide at hok
    split at hs
    ·rename_i fs hu
     rw[hu] at hok
     exact⟨_,hok.choose_spec.1⟩
    ·rename_i m e hu
     rw[hu] at hok
     exact⟨_,hok.choose_spec.1⟩
    ·cases hs
   obtain⟨cs,rfl⟩:=hagg
   have he:aC R (.st n) x= .agg (encs R (R.lf n) (R.of n x)):=hR.enc n x
   rw[he] at h1⊢
   obtain⟨h3,h4⟩:=h1
   have h3':(encs R (R.lf n) (R.of n x)).length=cs.toList.length:=h3
   refine .agg _ cs (by simpa using h3') (fun i hi=> ?_)
   have h5:Rel (KA w) T w ((encs R (R.lf n) (R.of n x)).getD i aA) (cs.toList.getD i undef):=h4 i hi
   simpa [List.getD_eq_getElem?_getD,Array.getD_eq_getD_getElem?] using h5
  ·cases ho
theorem Uk (hb:Bulk H bk bs) (hR:kY R) {T:Nat→Nat} (hty:∀t τ,R.ty t=some τ→kH R P t τ=true) {r:Reach} {base:Nat}:∀(l:List Ty) (ts:List TypeId) (vs:List Value) (ds:List (DataW H)) (ps:List MemPlace),ts.map R.ty=l.map some→
 (∀(j:Nat) t v,ts[j]? =some t→vs[j]? =some v→Value.okWide P w r base t v)→DataW.TrodAll enc P w 0 (fun _=>true) true ts vs ds ps→
 ∃p:ak R.T (l.map Sk.d),lX (KA w) T w (aI R (l.map Sk.d) p) vs∧mR (aI R (l.map Sk.d) p)≤bs ds
 | [],ts,vs,ds,ps,hm,hok,h=>by
   have:ts=[]:=by simpa using hm
   subst this
   obtain⟨rfl,rfl,rfl⟩:=trodAll_nil h
   exact⟨(),⟨rfl,fun j hj=>absurd hj (Nat.not_lt_zero j)⟩,by rw[hb.nil];exact Nat.le_refl _⟩
 | [τ],ts,vs,ds,ps,hm,hok,h=>by
   cases ts with
   |nil=>simp at hm
   |cons u ts=>
    simp only[List.map_cons,List.map_nil,List.cons.injEq,List.map_eq_nil_iff] at hm
    obtain⟨hu,rfl⟩:=hm
    obtain⟨v0,vs0,d0,ds0,p0,q0,rfl,rfl,rfl,h0,r0⟩:=trodAll_cons h
    obtain⟨rfl,rfl,rfl⟩:=trodAll_nil r0
    obtain⟨x,h3,h4⟩:=Uj R hb hR (T:=T) hty hu (hok 0 u v0 rfl rfl) h0
    refine⟨x,lX.cons h3 ⟨rfl,fun j hj=>absurd hj (Nat.not_lt_zero j)⟩, ?_⟩
    rw[hb.cons,hb.nil]
    show gP (aC R τ x)+0≤_
    omega
 |τ::τ'::l,ts,vs,ds,ps,hm,hok,h=>by
  cases ts with
  |nil=>simp at hm
  |cons u ts=>
   rw[List.map_cons,List.map_cons] at hm
   injection hm with hu hm
   obtain⟨v0,vs0,d0,ds0,p0,q0,rfl,rfl,rfl,h0,r0⟩:=trodAll_cons h
   obtain⟨x,h3,h4⟩:=Uj R hb hR (T:=T) hty hu (hok 0 u v0 rfl rfl) h0
   obtain⟨p,h5,h6⟩:=Uk hb hR hty (τ'::l) ts vs0 ds0 q0 hm (fun j t v h1 h2=>hok (j+1) t v h1 h2) r0
   refine⟨(x,p),lX.cons h3 h5, ?_⟩
   rw[hb.cons]
   show gP (aC R τ x)+mR (aI R ((τ'::l).map Sk.d) p)≤_
   omega
theorem adu {K:aF} {T:Nat→Nat} {vs:List V} {args:Array Value} (h:lX K T w vs args.toList):RelA K T w vs args:=by
 refine⟨by simpa using h.1,fun i hi=> ?_⟩
 have:=h.2 i hi
 simpa [List.getD_eq_getElem?_getD,Array.getD_eq_getD_getElem?] using this
end
section
variable {P:Program} {H:Type} {enc:TypeId×Value→H}
theorem Ul {Tp:TypeId→Prop} (K:Kids P Tp) (hsz:∀{t e:TypeId},Tp t→P.underlying t=some (.slice e)→0<P.cellsOf e) {W W':World} (hbel:Below W.heap.size W W') {sp:Nat→Bool}:
 ∀{ts:List TypeId} {vs:List Value} {ds:List (DataW H)} {ps:List MemPlace},(∀t∈ts,Tp t)→DataW.TrodAll enc P W 0 (fun _=>true) true ts vs ds ps→(∀p∈ps,p.block<W.heap.size)→(∀p∈ps,sp p.block=true)→DataW.TrodAll enc P W' 0 sp true ts vs ds ps
 | [],[],[],_,_,h,_,_=>h
 |_::_,_::_,_::_,_,hT,⟨p,q,⟨n,h1⟩,h2,e⟩,hlt,hs=>by
  subst e
  refine⟨p,q,⟨n, ?_⟩,Ul K hsz hbel (fun t ht=>hT t (List.mem_cons_of_mem _ ht)) h2 (fun x hx=>hlt x (List.mem_append_right _ hx)) (fun x hx=>hs x (List.mem_append_right _ hx)),rfl⟩
  exact DataW.trod_stays K hsz (fun h=>by cases h) (hT _ (by simp)) h1 (fun x hx=>hbel.same (hlt x (List.mem_append_left _ hx))) (fun x hx=>hs x (List.mem_append_left _ hx))
 | [],_::_,_,_,_,h,_,_=>h.elim
 | [],[],_::_,_,_,h,_,_=>h.elim
 |_::_,[],_,_,_,h,_,_=>h.elim
 |_::_,_::_,[],_,_,h,_,_=>h.elim
theorem adv {f:Func} {s:ChangeSpec} {apart fresh handsOn again:Bool} {W W':World} {args:Array Value} {v:Value} {ds gs:List (DataW H)} {before pa pv:List MemPlace}
 (hW:DataW.Whole enc P f.params.toList s.vars apart W args.toList ds gs before)
 (hres:∀(b:Nat) (sp:Nat→Bool) (hd:Bool),DataW.TrodAll enc P W' b sp hd f.resultTypes.toList (v.resultList f.resultTypes.size) (s.fn H (ds++gs)).results [])
 (hargs:∀sp:Nat→Bool,(∀p∈before,sp p.block=true)→DataW.TrodAll enc P W' 0 sp true f.params.toList args.toList (s.fn H (ds++gs)).args pa)
 (hvars:∀sp:Nat→Bool,(∀p∈before,sp p.block=true)→DataW.TrodVars enc P W' sp s.vars (s.fn H (ds++gs)).vars pv)
 (hps:before=pa++pv) (hbel:Below W.heap.size W W')
 (hok:∀(j:Nat) (t:TypeId) (r:Value),f.resultTypes[j]? =some t→(v.resultList f.resultTypes.size)[j]? =some r→Value.okWide P W' .any 0 t r):
 s.post enc P f apart fresh handsOn again W args v W':=by
 have hlt:∀p∈before,p.block<W.heap.size:=hW.lt
 have hold:∀p∈before,(fun b=>decide (b<W.heap.size)) p.block=true:=fun p hp=>by simpa using hlt p hp
 refine⟨ds,gs,before,[],pa,pv,hW,hres _ _ _,hargs _ hold,hvars _ hold,World.keptBut_mono (fun p hp=>⟨hp, ?_⟩) (hbel.frame (· ∈before)),fun _=> ?_⟩
 ·rw[hps,List.mem_append] at hp
  exact Or.inr hp
 ·obtain⟨_,_,_,_,_,hz,hn⟩:=hW
  refine⟨hok,_,_,([]++pa)++pv,⟨[]++pa,pv,trodAll_append (hargs _ (fun _ _=>rfl)) (hres _ _ _),hvars _ (fun _ _=>rfl),rfl, ?_, ?_⟩, ?_⟩
  ·intro b off hp
   have hp':MemPlace.cell b off∈before:=by rw[hps];simpa using hp
   rw[hbel.frozen (p:=⟨b,off,none⟩) (hlt _ hp')]
   exact hz b off hp'
  ·intro ha
   have:=hn ha
   rw[hps] at this
   simpa using this
  ·intro p hp _
   rw[hps]
   simpa using hp
end
theorem adw {E:Env} {R:fI} {H:Type} {enc:TypeId×Value→H} {bk:DataW H→Nat} {bs:List (DataW H)→Nat} (hb:Bulk H bk bs) (hR:kY R) (hty:∀t τ,R.ty t=some τ→kH R E.P t τ=true)
 {Tp:TypeId→Prop} (K:Kids E.P Tp) (hsz:∀{t e:TypeId},Tp t→E.P.underlying t=some (.slice e)→0<E.P.cellsOf e) {f:FuncId} {fn:Func} {s:ChangeSpec} {apart fresh handsOn again:Bool} {W:World} {base:Nat} {args:Array Value} {ds gs:List (DataW H)} {before:List MemPlace}
 {l:List Ty} (hl:fn.params.toList.map R.ty=l.map some) (hT:∀t∈fn.params.toList,Tp t) (hvars:s.vars=[])
 (hspec:s.fn H ds={results:=[.lit (.bool true)],args:=ds})
 {tb:TypeId} (hres:fn.resultTypes= #[tb]) (Mw:E.P.underlying tb=some .bool)
 (hval:∀(j:Nat) t v,fn.params[j]? =some t→args[j]? =some v→Value.okWide E.P W .any base t v)
 (hW:DataW.Whole enc E.P fn.params.toList s.vars apart W args.toList ds gs before)
 (adx:∀g cs,E.glob g=some cs→Rel (KA W) (fun _=>0) W (.aH cs 0) (.pointer (some (at_ g 0))))
 (ady:∀p:ak R.T (l.map Sk.d),mR (aI R (l.map Sk.d) p)≤bs ds→jk E f (aI R (l.map Sk.d) p) (.bool true)):
 Calls E.P f args W fun e W'=> ∃v,e= .returned v∧s.post enc E.P fn apart fresh handsOn again W args v W':=by
 have hW':=hW
 obtain⟨p,q,hA,hV,hpq,_,_⟩:=hW
 rw[hvars] at hV
 obtain⟨rfl,rfl⟩:=trodVars_none hV
 rw[List.append_nil] at hpq
 subst hpq
 obtain⟨x,h1,h2⟩:=Uk R hb hR (T:=fun _=>0) hty (r:=.any) (base:=base) l fn.params.toList args.toList ds _ hl (fun j t v h1 h2=>hval j t v (by simpa using h1) (by simpa using h2)) hA
 obtain⟨_,hcall⟩:=ady x h2
 have hc:=callsIn_wide.1 (hcall (allI W) _ W args ⟨fun b o h=>h,fun b h=>h,adx⟩ (adu h1))
 refine hc.mono fun e W' he=> ?_
 cases e with
 |returned c=>
  obtain⟨hbel,hrel⟩:=he
  cases hrel
  have hlt:∀p∈before,p.block<W.heap.size:=hW'.lt
  refine⟨_,rfl,adv (pa:=before) (pv:=[]) hW' (fun b sp hd=> ?_) (fun sp hs=> ?_) (fun sp hs=> ?_) (by simp) hbel ?_⟩
  ·rw[List.append_nil,hspec,hres]
   exact trodAll_mk1 ⟨1,by simp[DataW.trod,Mw,Value.cells]⟩
  ·rw[List.append_nil,hspec]
   exact Ul K hsz hbel hT hA hlt hs
  ·rw[List.append_nil,hspec,hvars];exact rfl
  ·exact ok_one hres rfl (by unfold Value.okWide;rw[Mw];simp[Cell.okWide,Cell.ok,Mw])
 |panicked ch=>exact he.elim
 |outgrown=>exact he.elim
end Aq
end
