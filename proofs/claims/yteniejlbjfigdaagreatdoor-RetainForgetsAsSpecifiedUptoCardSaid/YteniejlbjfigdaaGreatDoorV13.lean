/- Part of the proof of a law. -/
import Derived.Test.YteniejlbjfigdaaGreatDoorV12
set_option linter.all false
set_option linter.unusedSimpArgs false
set_option linter.unusedSectionVars false
namespace Aq
open Go
set_option linter.unusedSectionVars false
set_option linter.unusedVariables false
section
variable {R:jB} {E:Env} (hR:oh R)
include hR
def V9 (E:Env) (om:Bool) (c:Code) (body:{β:Type}→MS R.T→(Ex→MS R.T→Option β)→Option β):Prop:=
 ∀(β:Type) (st:MS R.T) (k:Ex→MS R.T→Option β) (x:β) (fr:Fr) (σ:ah) (ρ:aS),ρ.om=om→body st k=some x→aJ ρ σ.next st fr σ→CW E c fr σ fun e fr' σ'=> ∃ρ' st',aJ ρ' σ'.next st' fr' σ'∧Kp (dO c) (aL c) st fr σ ρ st' fr' σ' ρ'∧k e st'=some x
omit hR in
theorem Wd:∀(ρ:aS) (σ:ah) (o:Nat) (x:Ob R.T),fq (R:=R) ρ σ o x→fq (R:=R) ρ σ o (.ro x):=fun _ _ _ _ h=>h
theorem adn {om:Bool} {β:Type} {c:Code} {key:Nat} {sh:Shape} {outs:List (Ex×Shape)} {body:{β:Type}→MS R.T→(Ex→MS R.T→Option β)→Option β} (hb:V9 E om c body) {H B:MS R.T} {Wh:Fr} {σ0:ah} {ρ0:aS} (bS:ρ0.om=om)
 (hB:∀(st' S':MS R.T) (fr':Fr) (σ':ah) (ρ':aS) (b':Nat),aJ ρ' b' st' fr' σ'→Kp (dO c) (aL c) H Wh σ0 ρ0 S' fr' σ' ρ'→aJ ρ' b' B fr' σ') (hro:∀o,RO B o):
 ∀(m:Nat) (p:oU R.T sh) (o:Out R.T outs) (fr:Fr) (σ:ah) (ρ:aS),cu key (aL c) B sh outs body m p=some o→aJ ρ σ.next (unpack R sh p) fr σ→Kp (dO c) (aL c) H Wh σ0 ρ0 (B.over (unpack R sh p)) fr σ ρ→
 CW E (.loop c) fr σ fun e fr' σ'=> ∃ρ' S' st',aJ ρ' σ'.next st' fr' σ'∧Kp (dO c) (aL c) H Wh σ0 ρ0 S' fr' σ' ρ'∧(∀o,bn o (aL c)=false→RO H o→look st'.ob o=none)∧∀(k:Ex→MS R.T→Option β) (bs:MS R.T),uD R bs k outs o=k e (bs.over st')
 |0,p,o,fr,σ,ρ,h,_,_=>by cases h
 |m+1,p,o,fr,σ,ρ,h,hi,hkp=>by
  unfold cu at h
  have hbase:aJ ρ σ.next B fr σ:=hB _ _ _ _ _ _ hi hkp
  refine CW.loop ((hb _ _ _ _ fr σ ρ (hkp.om.trans bS) h (hbase.over hi)).mono ?_)
  rintro e fr' σ' ⟨ρ',st',hi',uJ,hk⟩
  have hall:=hkp.trans uJ
  cases e with
  |normal=>
   dsimp only at hk
   split at hk
   ·rename_i p' hp'
    obtain⟨ρ2,S2,h1,h2,_,h3⟩:=hi'.kN hR hp'
    have yt:=hall.trans h2
    refine adn hb bS hB hro m p' o fr' σ' ρ2 hk h1 ⟨yt.fr,fun q hq=>⟨(yt.ob q hq).ob,(yt.ob q hq).ln,(yt.ob q hq).om,(yt.ob q hq).nx,(yt.ob q hq).lp,(yt.ob q hq).dp,fun hr=>⟨?_,((yt.ob q hq).ro hr).2⟩⟩⟩
    exact Nb (hro q) fun x hx=>(by rw[h3 q hq ((hall.ob q hq).ro hr).1] at hx;cases hx)
   ·cases hk
  |exit i=>
   obtain⟨ρ2,S2,gM,h1,h2,_,h3,h4⟩:=DL (β:=β) hR hi' hk
   exact⟨ρ2,S2,gM,h1,hall.trans h2,fun q hq hr=>h3 q hq ((hall.ob q hq).ro hr).1,h4⟩
  |ret=>
   obtain⟨ρ2,S2,gM,h1,h2,_,h3,h4⟩:=DL (β:=β) hR hi' hk
   exact⟨ρ2,S2,gM,h1,hall.trans h2,fun q hq hr=>h3 q hq ((hall.ob q hq).ro hr).1,h4⟩
omit hR in
theorem ado {om:Bool} {c:Code} {body:{β:Type}→MS R.T→(Ex→MS R.T→Option β)→Option β} (hb:V9 E om c body) {β:Type}:∀(m:Nat) (st:MS R.T) (k:Ex→MS R.T→Option β) (x:β) (fr:Fr) (σ:ah) (ρ:aS),ρ.om=om→GY (R:=R) (fun st k=>body st k) m st k=some x→aJ ρ σ.next st fr σ→
 CW E (.loop c) fr σ fun e fr' σ'=> ∃ρ' st',aJ ρ' σ'.next st' fr' σ'∧Kp (dO c) (aL c) st fr σ ρ st' fr' σ' ρ'∧k e st'=some x
 |0,st,k,x,fr,σ,ρ,_,h,_=>by cases h
 |m+1,st,k,x,fr,σ,ρ,bS,h,hi=>by
  unfold GY at h
  refine CW.loop ((hb _ _ _ _ fr σ ρ bS h hi).mono ?_)
  rintro e fr' σ' ⟨ρ',st',hi',uJ,hk⟩
  cases e with
  |normal=>
   dsimp only at hk
   by_cases hW:True
   ·refine(ado hb m st' k x fr' σ' ρ' ?_ hk hi').mono ?_
    ·exact uJ.om.trans bS
    ·rintro e yg lD ⟨oz,gM,h1,h2,h3⟩
     exact⟨oz,gM,h1,uJ.trans h2,h3⟩
   ·exact absurd trivial hW
  |exit i=>exact⟨ρ',st',hi',uJ,hk⟩
  |ret=>exact⟨ρ',st',hi',uJ,hk⟩
omit hR in
def Wi {X:Type} (key:Nat) (W:List Nat) (b:MS R.T) (sh:Shape) (outs:List (Ex×Shape)) (body:{β:Type}→X→MS R.T→(Ex→MS R.T→Option β)→Option β) (xs:List X) (e:Ex) (st:MS R.T):Option (Out R.T outs):=match e with
    |.normal=>match kN R W st.obs sh with
     |some p=>GZ key W b sh outs body xs p
     |none=>none
    |e=>qY R W e st.obs outs
omit hR in
def adp (r0:nN) (l:Nat) (σ3:ah) (x:Ex) (bb:Bool) (σ':ah):Prop:=match x with
 |.normal=>bb=true∧σ'=σ3.fJ l {r0 with st:=0,pend:=none}
 |e=>bb=false∧σ'=σ3.fJ l {r0 with st:=2,pend:=some e}
omit hR in
mutual
theorem Rl.top {ρ:aS} {t t':Nat→Nat} (ht:∀u s,ρ.tk u=some s→t' s=t s):∀(x:TV R.T) (v:V),Rl R ρ t x v→Rl R ρ t' x v
 |.aj c ty l,v,h=>by
  obtain⟨c',hv,hc⟩:=h
  refine⟨c',hv, ?_⟩
  cases c<;>first|exact hc|skip
  rcases hc with hc|hc| ⟨s,h1,h2,h3⟩
  ·exact .inl hc
  ·exact .inr (.inl hc)
  ·exact .inr (.inr ⟨s,h1,h2,(ht _ _ h2).trans h3⟩)
 |.agg cs,v,h=>by obtain⟨l,hv,hl⟩:=h;exact⟨l,hv,aB.top ht cs l hl⟩
 |.bJ cs,v,h=>by obtain⟨l,hv,hl⟩:=h;exact⟨l,hv,aB.top ht cs l hl⟩
 |.aM cs off,v,h=>by obtain⟨l,hv,hl⟩:=h;exact⟨l,hv,aB.top ht cs l hl⟩
 |.fn f a b,v,h=>by obtain⟨a',b',hv,ha,hb⟩:=h;exact⟨a',b',hv,aB.top ht a a' ha,aB.top ht b b' hb⟩
 |.ref _ _,_,h=>h
 |.cK _,_,h=>h
 |.vw _ _,_,h=>h
 |.kZ _ _ _ _,_,h=>h
 |.opt _ _ _,_,h=>h.elim
 |.int _ _,_,h=>h
 |.bool _,_,h=>h
 |.iM _,_,h=>h
 |.str _,_,h=>h
 |.fU,_,h=>h
 |.fB,_,h=>h
 |.eY,_,h=>h
 |.iA,_,h=>h
 |.dK,_,h=>h
 |.dD _ _ _,_,h=>h
 |.undef,_,h=>h
 |.sg _,_,h=>h
 |.sv _ _ _ _ _ _,_,h=>h
 |.sel _ _ _ _ _ _,_,h=>h
 |.qW _ _ _ _,_,h=>h
 |.gone,_,h=>h
theorem aB.top {ρ:aS} {t t':Nat→Nat} (ht:∀u s,ρ.tk u=some s→t' s=t s):∀(x:List (TV R.T)) (v:List V),aB R ρ t x v→aB R ρ t' x v
 | [],_,h=>h
 |x::xs,_,⟨v,vs,e,h1,h2⟩=>⟨v,vs,e,Rl.top ht x v h1,aB.top ht xs vs h2⟩
end
omit hR in
theorem iT.top {fr:Fr} {ρ:aS} {t t':Nat→Nat} (ht:∀u s,ρ.tk u=some s→t' s=t s) {x:TV R.T} {v:V} (h:iT fr ρ t x v):iT fr ρ t' x v:=by
 cases x with
 |opt j w y=>exact⟨fun hc=>Rl.top ht y v (h.1 hc),h.2⟩
 |_=>exact .of (Rl.top ht _ v h)
omit hR in
theorem adq {ρ:aS} {σ σ':ah} {p:Nat} (hp:σ'.obj (1,p)=σ.obj (1,p)) (ht:∀u s,ρ.tk u=some s→σ'.top s=σ.top s):∀{x:Ob R.T},fq ρ σ p x→fq ρ σ' p x
 |.cells cs,h=>by
  obtain⟨s,l,h1,h2,h3⟩:=h
  exact⟨s,l,h1,by unfold ah.bY at h2⊢;rw[hp];exact h2,aB.top ht _ _ h3⟩
 |.map k e m,h=>by
  obtain⟨s,h1,h2⟩:=h
  exact⟨s,h1,by unfold ah.fZ at h2⊢;rw[hp];exact h2⟩
 |.smap ks vs,h=>by
  obtain⟨s,k,l,h1,h2,h3,h4⟩:=h
  exact⟨s,k,l,h1,by unfold ah.fZ at h2⊢;rw[hp];exact h2,aB.top ht _ _ h3,aB.top ht _ _ h4⟩
 |.arr t l,h=>by
  refine⟨h.1, ?_⟩
  rcases h.2 with h| ⟨s,cs,h1,h2,h3⟩
  ·exact .inl h
  ·exact .inr ⟨s,cs,h1,by unfold ah.bY at h2⊢;rw[hp];exact h2,xX l cs h3⟩
 |.sg ss,h=>by
  obtain⟨s,h1,h2⟩:=h
  exact⟨s,h1,by unfold ah.bY at h2⊢;rw[hp];exact h2⟩
 |.gone,_=>trivial
 |.ro b,h=>adq hp ht (x:=b) h
omit hR in
theorem aJ.shift {ρ:aS} {b:Nat} {st:MS R.T} {fr:Fr} {σ σ':ah} (h:aJ ρ b st fr σ) (hp:∀p,σ'.obj (1,p)=σ.obj (1,p)) (ht:∀s,s<b→σ'.top s=σ.top s):aJ ρ b st fr σ':={h with
 fr:=fun i v hv=>(h.fr i v hv).top fun u s hu=>ht s (h.lt u s hu)
 ob:=fun o x hx=>adq (hp o) (fun u s hu=>ht s (h.lt u s hu)) (h.ob o x hx)}
omit hR in
theorem aJ.adr {ρ:aS} {b:Nat} {st:MS R.T} {fr fr':Fr} {σ:ah} (h:aJ ρ b st fr σ) (he:st.fr=[]) (hd:fr'.d=1) (ho:fr'.om=ρ.om):aJ ρ b st fr' σ:={h with
 d:=hd
 om:=ho
 fr:=fun i v hv=>by rw[he] at hv;cases hv}
omit hR in
theorem aJ.obs {ρ:aS} {b:Nat} {st:MS R.T} {fr:Fr} {σ:ah} (h:aJ ρ b st fr σ):aJ ρ b st.obs fr σ:={h with
 fr:=fun i v hv=>by cases hv
 ob:=h.ob}
omit hR in
theorem bI.weak {nr:Bool} {o:Nat} {st st':MS R.T} {ρ ρ':aS} {σ σ':ah} (h:bI nr o st ρ σ st' ρ' σ'):bI false o st ρ σ st' ρ' σ':=⟨h.ob,h.ln,h.om,h.nx,h.lp,(fun e=>by cases e),h.ro⟩
omit hR in
theorem Kp.nr {nr Wj:Bool} {W:List Nat} {st st':MS R.T} {fr fr':Fr} {ρ ρ':aS} {σ σ':ah} (hn:Wj=true→nr=true) (h:Kp nr W st fr σ ρ st' fr' σ' ρ'):Kp Wj W st fr σ ρ st' fr' σ' ρ':=⟨h.fr,fun o ho=>⟨(h.ob o ho).ob,(h.ob o ho).ln,(h.ob o ho).om,(h.ob o ho).nx,(h.ob o ho).lp,fun e=>(h.ob o ho).dp (hn e),(h.ob o ho).ro⟩⟩
omit hR in
theorem bI.shift {o:Nat} {st st':MS R.T} {ρ ρ':aS} {σ σ' lD:ah} (h:bI false o st ρ σ st' ρ' σ') (hp:∀p,lD.obj (1,p)=σ'.obj (1,p)) (hn:σ'.next≤lD.next) (hl:∀l,l<σ.next→lD.loops l=σ'.loops l):bI false o st ρ σ st' ρ' lD:=
 ⟨h.ob,h.ln,h.om,Nat.le_trans h.nx hn,fun l hl'=>(hl l hl').trans (h.lp l hl'),(fun e=>by cases e),fun hr=>⟨(h.ro hr).1,fun s=>by
   have:=(h.ro hr).2 s
   unfold ah.bY ah.fZ at this⊢
   rw[hp];exact this⟩⟩
omit hR in
theorem ads {ρ:aS} {b:Nat} {σ:ah}:∀{ps:List Nat} {jM:List (TV R.T)} {vs:List V} {st st':MS R.T} {fr:Fr},Dt st ps jM=some st'→aB R ρ σ.top jM vs→aJ ρ b st fr σ→ps.length=vs.length∧aJ ρ b st' {fr with tm:=(ps.zip vs).foldl (fun tm (p,a)=>upd tm p a) fr.tm} σ∧st'.ob=st.ob
 | [],[],vs,st,st',fr,h,hr,hi=>by
   cases h;rw[hr.gK];exact⟨rfl,hi,rfl⟩
 | [],_::_,_,_,_,_,h,_,_=>by cases h
 |_::_,[],_,_,_,_,h,_,_=>by cases h
 |i::ps,t::jM,vs,st,st',fr,h,hr,hi=>by
  obtain⟨v,ws,rfl,h1,h2⟩:=hr.eO
  obtain⟨a1,a2,a3⟩:=ads (fr:=fr.set i v) (show Dt (st.put i t) ps jM=some st' from h) h2 (hi.put i (.of h1))
  exact⟨by simp[a1],a2,a3⟩
omit hR in
theorem adt {k:oQ} {x:zN R.T k}:nX (sO R k x)=false:=by cases k<;>rfl
omit hR in
theorem adu {o:Nat} {y:Ob R.T} {O:List Nat}:∀{l:List (Nat×oQ)} {x:zO R.T l},zY O l=true→look (xL R l x) o=some y→bn o O=false∧nX y=false
 | [],x,_,h=>by cases h
 | [(i,k)],x,hd,h=>by
   unfold zY at hd
   rw[Bool.and_eq_true,Bool.not_eq_true'] at hd
   have h':look [(i,sO R k x)] o=some y:=h
   by_cases e:o=i
   ·subst e;rw[mU] at h';cases h';exact⟨hd.1,adt⟩
   ·rw[jR _ _ e] at h';cases h'
 | (i,k)::q::l,x,hd,h=>by
   unfold zY at hd
   rw[Bool.and_eq_true,Bool.not_eq_true'] at hd
   have h':look ((i,sO R k x.1)::xL R (q::l) x.2) o=some y:=h
   by_cases e:o=i
   ·subst e;rw[mU] at h';cases h';exact⟨hd.1,adt⟩
   ·rw[jR _ _ e] at h';exact adu hd.2 h'
omit hR in
theorem aos {W K O:List Nat} {mark:Ob R.T→Ob R.T} {st:MS R.T} {s:Shape} {p:oU R.T s} {o:Nat} (hd:zY O s.ob=true) (h:RO ((base W K O mark st).over (unpack R s p)) o):look (unpack R s p).ob o=none:=by
 cases hu:look (unpack R s p).ob o with
 |none=>rfl
 |some y=>
  exfalso
  have hk:bn o O=false∧nX y=false:=by
   obtain⟨sl,ob⟩:=s
   cases ob with
   |nil=>cases hu
   |cons a as=>exact adu hd hu
  have hb:look (base W K O mark st).ob o=none:=by
   have:∀is:List Nat,bn o is=false→look (mP (fun o b=> !(bn o W)&& mg W b) mark st.ob is) o=none:=by
    intro is
    induction is with
    |nil=>intro _;rfl
    |cons j is ih=>
     intro h
     have h':(Nat.beq o j||bn o is)=false:=h
     rw[Bool.or_eq_false_iff] at h'
     unfold mP
     split
     ·rename_i x hx
      cases (!(bn j W)&& mg W x)
      ·exact ih h'.2
      ·rw[cond_true,jR _ _ (M8 h'.1)];exact ih h'.2
     ·exact ih h'.2
   exact this O hk.1
  have:=h y (by show look ((base W K O mark st).ob++(unpack R s p).ob) o=some y;rw[Ad,hb];exact hu)
  rw[hk.2] at this;cases this
def yu (E:Env) (I:Nat→List (FI R)):Prop:=∀g,∀i∈I g,E.imp g=true∧∀pa pb xs,i.F pa pb=some xs→HY E g (bG R i.a pa) (bG R i.b pb) (xs.map (bG R i.el))
theorem adv {σ:ah} {n:Nat}:∀cs:List V,bf cs=true→cs.mapM (aQ (n+1) σ)=some cs:=by
 intro cs
 induction cs with
 |nil=>intro _;rfl
 |cons a l ih=>
  intro h
  simp only[bf,Bool.and_eq_true] at h
  rw[List.mapM_cons,jQ h.1,ih h.2];rfl
theorem adw {I:Nat→List (FI R)} (hI:yu E I) {g:Nat} {ρ:aS} {top:Nat→Nat} {u v:List (TV R.T)} {va vb:List V} (hu:oW u=true) (hv:oW v=true) (ha:aB R ρ top u va) (hb:aB R ρ top v vb):∀{l:List (FI R)} {el:List Sk} {o:Option (List (ak R.T el))},(∀i∈l,i∈I g)→G5 u v l=some ⟨el,o⟩→
 E.imp g=true∧jg el=true∧∀xs,o=some xs→HY E g va vb (xs.map (bG R el))
 | [],el,o,_,h=>by cases h
 |i::l,el,o,hl,h=>by
  unfold G5 at h
  split at h
  ·rename_i pa pb hpa hpb
   obtain⟨hc,h⟩:=d9 h
   simp only[Bool.and_eq_true] at hc
   obtain⟨⟨⟨⟨c1,c2⟩,c3⟩,c4⟩,c5⟩:=hc
   cases h
   obtain⟨h1,h2⟩:=hI g i (hl i (by simp))
   refine⟨h1,c3,fun xs hx=> ?_⟩
   have e1:=rF hR i.a pa u va c1 hpa ha 19 ah.init (by have:=Nat.le_of_ble_eq_true c4;omega)
   have e2:=rF hR i.b pb v vb c2 hpb hb 19 ah.init (by have:=Nat.le_of_ble_eq_true c5;omega)
   rw[adv hR va (yh hR u va hu ha)] at e1
   rw[adv hR vb (yh hR v vb hv hb)] at e2
   cases e1;cases e2
   exact h2 pa pb xs hx
  ·exact adw hI hu hv ha hb (fun x hx=>hl x (by simp[hx])) h
theorem rG {n:Nat} {om:Bool} {F:Nat→List (FR R)} {I:Nat→List (FI R)} (hF:aO E F) (hI:yu E I) {A:aW}:∀c:Code,V9 E om c fun st k=>bA E R n om F I A c st k
 |.skip=>fun _ st k x fr σ ρ _ h hi=>CW.skip ⟨ρ,st,hi,.refl,h⟩
 |.exit i=>fun _ st k x fr σ ρ _ h hi=>CW.exit ⟨ρ,st,hi,.refl,h⟩
 |.ret=>fun _ st k x fr σ ρ _ h hi=>CW.ret ⟨ρ,st,hi,.refl,h⟩
 |.region id ops dr=>fun β st k x fr σ ρ bS h hi=>by
  have h':(bif dr then (bif ni ops.toList then sQ E R om F (nQ ops.toList) ops.toList ops.toList st [] (fun st=>k .normal st) else none) else xS E R om F ops.toList ops.toList st (fun st=>k .normal st))=some x:=h
  have adx:∀{W:List Nat} {st':MS R.T} {fr':Fr} {σ':ah} {ρ':aS} {j:Nat},Kp true W st fr (σ.bump j) ρ st' fr' σ' ρ'→Kp true W st fr σ ρ st' fr' σ' ρ':=fun h=>⟨h.fr,fun o ho=>⟨(h.ob o ho).ob,(h.ob o ho).ln,(h.ob o ho).om,Nat.le_trans (Nat.le_add_right _ _) (h.ob o ho).nx,fun l hl=>(h.ob o ho).lp l (Nat.lt_of_lt_of_le hl (Nat.le_add_right _ _)),(h.ob o ho).dp,fun hr=>⟨((h.ob o ho).ro hr).1,((h.ob o ho).ro hr).2⟩⟩⟩
  cases dr with
  |true=>
   rw[cond_true] at h'
   obtain⟨he,h'⟩:=d9 h'
   refine CW.draw he (NC hR hF _ σ.next ρ st fr _ [] bS (hi.next _) h' ?_)
   intro ρ' st' fr' σ' hi' hn hkp hk
   exact⟨ρ',st',by rw[hn];exact hi',adx hkp,hk⟩
  |false=>
   rw[cond_false] at h'
   refine CW.region (HV hR hF _ σ.next ρ st fr _ bS (hi.next _) h' ?_)
   intro ρ' st' fr' σ' hi' hn hkp hk
   exact⟨ρ',st',by rw[hn];exact hi',adx hkp,hk⟩
 |.seq a b=>fun β st k x fr σ ρ bS h hi=>by
  have h':(match look A.joins (mR b) with
   |none=>bA E R n om F I A a st fun e st=>match e with
    |.normal=>bA E R n om F I A b st k
    |e=>k e st
   |some q=>(bA E R n om F I A (β:=Out R.T q.outs) a ((base (aL a) q.K q.O .ro st).over st) fun e st=>qY R (aL a) e st q.outs).bind (uD R (base (aL a) q.K q.O (fun b=>b) st) (fun e st=>match e with
    |.normal=>bA E R n om F I A b st k
    |e=>k e st) q.outs))=some x:=h
  have hl:∀i,bn i (aL (.seq a b))=false→bn i (aL a)=false∧bn i (aL b)=false:=fun i hi=>by
   have hi':bn i (aL a++aL b)=false:=hi
   rw[Hg,Bool.or_eq_false_iff] at hi';exact hi'
  have fin:∀(e:Ex) (st':MS R.T) (fr':Fr) (σ':ah) (ρ':aS),aJ ρ' σ'.next st' fr' σ'→Kp (dO a) (aL a) st fr σ ρ st' fr' σ' ρ'→(match e with
   |.normal=>bA E R n om F I A b st' k
   |e=>k e st')=some x→dh E b (fun e fr' σ'=> ∃ρ' st',aJ ρ' σ'.next st' fr' σ'∧Kp (dO (.seq a b)) (aL (.seq a b)) st fr σ ρ st' fr' σ' ρ'∧k e st'=some x) e fr' σ':=by
   intro e st' fr' σ' ρ' hi' hkp hk
   have Wm:=(hkp.mono (W':=aL (.seq a b)) fun i hi=>(hl i hi).1).nr (Wj:=dO (.seq a b)) (fun e=>by simp only[dO,Bool.and_eq_true] at e;exact e.1)
   cases e with
   |normal=>
    refine(rG hF hI b _ st' k x fr' σ' ρ' (hkp.om.trans bS) hk hi').mono ?_
    rintro e yg lD ⟨oz,gM,h1,h2,h3⟩
    exact⟨oz,gM,h1,Wm.trans ((h2.mono fun i hi=>(hl i hi).2).nr (fun e=>by simp only[dO,Bool.and_eq_true] at e;exact e.2)),h3⟩
   |exit i=>exact⟨ρ',st',hi',Wm,hk⟩
   |ret=>exact⟨ρ',st',hi',Wm,hk⟩
  split at h'
  ·refine CW.seq ((rG hF hI a _ st _ x fr σ ρ bS h' hi).mono ?_)
   rintro e fr' σ' ⟨ρ',st',hi',hkp,hk⟩
   exact fin e st' fr' σ' ρ' hi' hkp hk
  ·rename_i q _
   obtain⟨o,ho,h'⟩:=Option.bind_eq_some_iff.1 h'
   have hro:∀o x,look st.ob o=some x→bn o (aL a)=false→bn o q.O=true→mg (aL a) x=true→RO ((base (aL a) q.K q.O .ro st).over st) o:=fun o x h1 h2 h3 h4=>Vy h1 h2 h3 h4
   have hH:∀o,bn o (aL a)=false→RO st o→RO ((base (aL a) q.K q.O .ro st).over st) o:=fun o _ h=>Nb (acd (fun _ _=>rfl) h) h
   have hbase:aJ ρ σ.next (base (aL a) q.K q.O .ro st) fr σ:=hi.base (st0:=(base (aL a) q.K q.O .ro st).over st) Wd (Kp.refl (nr:=false)) hi hro
   refine CW.seq ((rG hF hI a _ _ _ o fr σ ρ bS ho (hbase.over hi)).mono ?_)
   rintro e fr' σ' ⟨ρ',st',hi',hkp,hk⟩
   obtain⟨ρ2,S2,gM,h1,g1,_,h3,h2⟩:=DL (β:=β) hR hi' hk
   rw[h2] at h'
   obtain⟨f1,f2⟩:=finish (K:=q.K) hi hH hro (hkp.trans g1) h1 fun o ho hr=>h3 o ho ((hkp.ob o ho).ro hr).1
   exact fin e _ fr' σ' ρ2 f1 f2 h'
 |.cond c a b=>fun β st k x fr σ ρ bS h hi=>by
  have h':(match bO [] st c with
   |some (.iM t)=>bif t then bA E R n om F I A a st k else bA E R n om F I A b st k
   |some (.bool t)=>bif t then bA E R n om F I A a (st.CJ c true) k else bA E R n om F I A b (st.CJ c false) k
   |_=>none)=some x:=h
  have hl:∀i,bn i (aL (.cond c a b))=false→bn i (aL a)=false∧bn i (aL b)=false:=fun i hi=>by
   have hi':bn i (aL a++aL b)=false:=hi
   rw[Hg,Bool.or_eq_false_iff] at hi';exact hi'
  have ha:∀st':MS R.T,st'.ob=st.ob→aJ ρ σ.next st' fr σ→bA E R n om F I A a st' k=some x→CW E a fr σ fun e fr' σ'=> ∃ρ' st',aJ ρ' σ'.next st' fr' σ'∧Kp (dO (.cond c a b)) (aL (.cond c a b)) st fr σ ρ st' fr' σ' ρ'∧k e st'=some x:=fun st' hs hi' hk=>by
   refine(rG hF hI a _ st' k x fr σ ρ bS hk hi').mono ?_
   rintro e yg lD ⟨oz,gM,h1,h2,h3⟩
   exact⟨oz,gM,h1,((⟨h2.fr,fun o ho=>(h2.ob o ho).from hs⟩:Kp (dO a) (aL a) st fr σ ρ gM yg lD oz).mono fun i hi=>(hl i hi).1).nr (fun e=>by simp only[dO,Bool.and_eq_true] at e;exact e.1),h3⟩
  have hb:∀st':MS R.T,st'.ob=st.ob→aJ ρ σ.next st' fr σ→bA E R n om F I A b st' k=some x→CW E b fr σ fun e fr' σ'=> ∃ρ' st',aJ ρ' σ'.next st' fr' σ'∧Kp (dO (.cond c a b)) (aL (.cond c a b)) st fr σ ρ st' fr' σ' ρ'∧k e st'=some x:=fun st' hs hi' hk=>by
   refine(rG hF hI b _ st' k x fr σ ρ bS hk hi').mono ?_
   rintro e yg lD ⟨oz,gM,h1,h2,h3⟩
   exact⟨oz,gM,h1,((⟨h2.fr,fun o ho=>(h2.ob o ho).from hs⟩:Kp (dO b) (aL b) st fr σ ρ gM yg lD oz).mono fun i hi=>(hl i hi).2).nr (fun e=>by simp only[dO,Bool.and_eq_true] at e;exact e.2),h3⟩
  split at h'
  ·rename_i t hc
   refine CW.cond (bH (E:=E) hi .nil hc).sS (fun e=> ?_) (fun e=> ?_)
   ·subst e;exact ha st rfl hi h'
   ·subst e;exact hb st rfl hi h'
  ·rename_i t hc
   have hl:aJ ρ σ.next (st.CJ c t) fr σ∧(st.CJ c t).ob=st.ob:=by
    cases c with
    |tmp j=>exact⟨hi.learn (show Rl R ρ σ.top (.bool t) (fr.tm j) from hi.fr _ _ (aok hc)).qw,rfl⟩
    |_=>exact⟨hi,rfl⟩
   refine CW.cond (bH (E:=E) hi .nil hc).qw (fun e=> ?_) (fun e=> ?_)
   ·subst e;exact ha _ hl.2 hl.1 h'
   ·subst e;exact hb _ hl.2 hl.1 h'
  ·cases h'
 |.block id c=>fun β st k x fr σ ρ bS h hi=>by
  have h':(bA E R n om F I A c st fun e st=>match e with
   |.exit i=>bif Nat.beq i id then k .normal st else k (.exit i) st
   |e=>k e st)=some x:=h
  refine CW.block ((rG hF hI c _ st _ x fr σ ρ bS h' hi).mono ?_)
  rintro e fr' σ' ⟨ρ',st',hi',hkp,hk⟩
  cases e with
  |normal=>exact⟨ρ',st',hi',hkp,hk⟩
  |ret=>exact⟨ρ',st',hi',hkp,hk⟩
  |exit i=>
   dsimp only at hk
   unfold oN
   dsimp only
   cases hb:Nat.beq i id
   ·rw[hb] at hk
    rw[if_neg (M8 hb)]
    exact⟨ρ',st',hi',hkp,hk⟩
   ·rw[hb] at hk
    rw[if_pos (eF hb)]
    exact⟨ρ',st',hi',hkp,hk⟩
 |.loop c=>fun β st k x fr σ ρ bS h hi=>by
  have h':(match look A.loops (mR c) with
   |some q=>match kN R (aL c) st q.sh with
    |some p=>(cu (mR c) (aL c) (base (aL c) q.K q.O .ro st) q.sh q.outs (fun st k=>bA E R n om F I A c st k) n p).bind (uD R (base (aL c) q.K q.O (fun b=>b) st) k q.outs)
    |none=>none
   |none=>GY (R:=R) (fun st k=>bA E R n om F I A c st k) 130 st k)=some x:=h
  split at h'
  ·rename_i q _
   split at h'
   ·rename_i p hp
    obtain⟨o,ho,h'⟩:=Option.bind_eq_some_iff.1 h'
    obtain⟨ρ1,S1,p1,p2,_,p3⟩:=hi.kN (nr:=dO c) hR hp
    have hro:∀o x,look st.ob o=some x→bn o (aL c)=false→bn o q.O=true→mg (aL c) x=true→RO ((base (aL c) q.K q.O .ro st).over (unpack R q.sh p)) o:=fun o x h1 h2 h3 h4=>Vy h1 h2 h3 h4
    have hH:∀o,bn o (aL c)=false→RO st o→RO ((base (aL c) q.K q.O .ro st).over (unpack R q.sh p)) o:=fun o ho h=>ab9 (p3 o ho h)
    have hB:∀(st' S':MS R.T) (fr':Fr) (σ':ah) (ρ':aS) (b':Nat),aJ ρ' b' st' fr' σ'→Kp (dO c) (aL c) ((base (aL c) q.K q.O .ro st).over (unpack R q.sh p)) fr σ ρ S' fr' σ' ρ'→aJ ρ' b' (base (aL c) q.K q.O .ro st) fr' σ':=
     fun st' S' fr' σ' ρ' b' h1 h2=>hi.base Wd h2 h1 hro
    have hk0:Kp (dO c) (aL c) ((base (aL c) q.K q.O .ro st).over (unpack R q.sh p)) fr σ ρ ((base (aL c) q.K q.O .ro st).over (unpack R q.sh p)) fr σ ρ1:=⟨fun _ _=>rfl,fun q hq=>⟨(p2.ob q hq).ob,(p2.ob q hq).ln,(p2.ob q hq).om,Nat.le_refl _,fun _ _=>rfl,fun _ _ _ _=>rfl,fun hr=>⟨hr,fun _=>⟨rfl,rfl⟩⟩⟩⟩
    refine(adn (β:=β) hR (rG hF hI c) bS hB (fun o=>fun y hy=>by obtain⟨z,_,_,rfl⟩:=vW hy;rfl) n p o fr σ ρ1 ho p1 hk0).mono ?_
    rintro e fr' σ' ⟨ρ',S',st',hi',hkp,hn,hk⟩
    obtain⟨f1,f2⟩:=finish (K:=q.K) hi hH hro hkp hi' hn
    exact⟨ρ',_,f1,f2,by rw[←hk k];exact h'⟩
   ·cases h'
  ·exact ado (rG hF hI c) 130 st k x fr σ ρ bS h' hi
 |.rangeFunc f ps a c=>fun β st k x fr σ ρ bS h hi=>by
  have h':(match look A.loops (mR c) with
   |some q=>match bO [] st f with
    |some (.fn g u v)=>bif oW u&& oW v&& zY q.O q.sh.ob&& dO a&& dO c then (match G5 u v (I g) with
     |some ⟨el,xs⟩=>match kN R (ps.toList++aL a++aL c) st.obs q.sh with
      |some p=>(xs.bind fun xs=>GZ (mR c) (ps.toList++aL a++aL c) (base (ps.toList++aL a++aL c) q.K q.O .ro st) q.sh q.outs (fun x st k=>match Dt st ps.toList (kM R .sh el x) with
        |some st=>bA E R n om F I A a st fun e st=>match e with
         |.normal=>bA E R n om F I A c st k
         |_=>none
        |none=>none) xs p).bind (uD R (base (ps.toList++aL a++aL c) q.K q.O (fun b=>b) st) k q.outs)
      |none=>none
     |none=>none) else none
    |_=>none
   |none=>none)=some x:=h
  split at h'
  ·rename_i q _
   split at h'
   ·rename_i g u v hf
    obtain⟨hst,h'⟩:=d9 h'
    simp only[Bool.and_eq_true] at hst
    obtain⟨⟨hst,hna⟩,hnc⟩:=hst
    split at h'
    ·rename_i el xs hfi
     split at h'
     ·rename_i p hp
      obtain⟨o,ho,h'⟩:=Option.bind_eq_some_iff.1 h'
      obtain⟨ys,hys,ho⟩:=Option.bind_eq_some_iff.1 ho
      obtain⟨va,vb,Md,hva,hvb⟩:=(bH (E:=E) hi .nil hf).oq
      obtain⟨himp,hel,hit⟩:=adw hR hI hst.1.1 hst.1.2 hva hvb (fun _ h=>h) hfi
      have hit:=hit ys hys
      obtain⟨ρ1,S1,p1,p2,p0,p3⟩:=hi.obs.kN (nr:=false) hR hp
      generalize hW:ps.toList++aL a++aL c=W at*
      have hl:∀i,bn i W=false→bn i ps.toList=false∧bn i (aL a)=false∧bn i (aL c)=false:=fun i hi=>by
       rw[←hW,Hg,Hg,Bool.or_eq_false_iff,Bool.or_eq_false_iff] at hi;exact⟨hi.1.1,hi.1.2,hi.2⟩
      have hro:∀o x,look st.ob o=some x→bn o W=false→bn o q.O=true→mg W x=true→RO ((base W q.K q.O .ro st).over (unpack R q.sh p)) o:=fun o x h1 h2 h3 h4=>Vy h1 h2 h3 h4
      have hH:∀o,bn o W=false→RO st o→RO ((base W q.K q.O .ro st).over (unpack R q.sh p)) o:=fun o ho h=>ab9 (p3 o ho h)
      generalize hHe:(base W q.K q.O .ro st).over (unpack R q.sh p)=H at*
      have hB:∀(st' S':MS R.T) (σ':ah) (ρ':aS) (b':Nat),aJ ρ' b' st' fr σ'→Kp false W H fr σ ρ S' fr σ' ρ'→aJ ρ' b' (base W q.K q.O .ro st) fr σ':=
       fun st' S' σ' ρ' b' h1 h2=>hi.base Wd h2 h1 hro
      have aou:∀o,RO (base W q.K q.O .ro st) o:=fun o=>fun y hy=>by obtain⟨z,_,_,rfl⟩:=vW hy;rfl
      let r0:nN:={st:=0,pend:=none,fr:=fr,ps:=ps.toList,dV:=a,body:=c}
      let body:{β:Type}→ak R.T el→MS R.T→(Ex→MS R.T→Option β)→Option β:=fun x st k=>match Dt st ps.toList (kM R .sh el x) with
          |some st=>bA E R n om F I A a st fun e st=>match e with
           |.normal=>bA E R n om F I A c st k
           |_=>none
          |none=>none
      let J:List (List V)→ah→Prop:=fun L σ'=> ∃(zs:List (ak R.T el)) (p':oU R.T q.sh) (ρ':aS),L=zs.map (bG R el)∧GZ (mR c) W (base W q.K q.O .ro st) q.sh q.outs body zs p'=some o∧aJ ρ' σ'.next (unpack R q.sh p') fr σ'∧(unpack R q.sh p').fr=[]∧
       Kp false W H fr σ ρ ((base W q.K q.O .ro st).over (unpack R q.sh p')) fr σ' ρ'∧σ'.loops σ.next=some r0
      let Fin:Ex→ah→Prop:=fun e σ'=> ∃(ρ':aS) (S' st':MS R.T),aJ ρ' σ'.next st' fr σ'∧Kp false W H fr σ ρ S' fr σ' ρ'∧(∀o,bn o W=false→RO H o→look st'.ob o=none)∧∀(k:Ex→MS R.T→Option β) (bs:MS R.T),uD R bs k q.outs o=k e (bs.over st')
      let D:ah→Prop:=fun σ'=> ∃e,Fin e σ'∧σ'.loops σ.next=some {r0 with st:=2,pend:=some e}
      have shJ:∀L σ1 σ2,σ.next<σ1.next→J L σ1→Shift 1 σ1 σ2→J L σ2:=by
       rintro L σ1 σ2 hlt ⟨zs,p',ρ',e1,e2,e3,e4,e5,e6⟩ hs
       exact⟨zs,p',ρ',e1,e2,(e3.shift (fun p=>hs.obj 1 p (Nat.le_refl _)) hs.top).le hs.next,e4,⟨e5.fr,fun o ho=>(e5.ob o ho).shift (fun p=>hs.obj 1 p (Nat.le_refl _)) hs.next fun l hl=>hs.loops l (by omega)⟩,(hs.loops _ hlt).trans e6⟩
      have shD:∀σ1 σ2,σ.next<σ1.next→D σ1→Shift 1 σ1 σ2→D σ2:=by
       rintro σ1 σ2 hlt ⟨e,⟨ρ',S',st',e1,e2,e3,e4⟩,e5⟩ hs
       exact⟨e,⟨ρ',S',st',(e1.shift (fun p=>hs.obj 1 p (Nat.le_refl _)) hs.top).le hs.next,⟨e2.fr,fun o ho=>(e2.ob o ho).shift (fun p=>hs.obj 1 p (Nat.le_refl _)) hs.next fun l hl=>hs.loops l (by omega)⟩,e3,e4⟩,(hs.loops _ hlt).trans e5⟩
      have fin:∀(σ2:ah) (r:nN) (e:Ex),Fin e σ2→∃ρ' st',aJ ρ' (σ2.lU σ.next).next st' fr (σ2.lU σ.next)∧Kp false (aL (.rangeFunc f ps a c)) st fr σ ρ st' fr (σ2.lU σ.next) ρ'∧k e st'=some x:=by
       rintro σ2 r e ⟨ρ',S',st',e1,e2,e3,e4⟩
       have e1':aJ ρ' σ2.next st' fr (σ2.lU σ.next):=e1.shift (fun _=>rfl) (fun _ _=>rfl)
       have e2':Kp false W H fr σ ρ S' fr (σ2.lU σ.next) ρ':=⟨e2.fr,fun o ho=>(e2.ob o ho).shift (fun _=>rfl) (Nat.le_refl _) fun l hl=>by
        show upd σ2.loops σ.next none l=_
        unfold upd;rw[if_neg (by omega)]⟩
       obtain⟨f1,f2⟩:=finish (K:=q.K) hi hH hro e2' e1' e3
       refine⟨ρ',_,f1, ?_,by rw[←e4 k];exact h'⟩
       show Kp false (ps.toList++aL a++aL c) _ _ _ _ _ _ _ _
       rw[hW];exact f2
      refine CW.range Md himp ?_
      rw[hi.d]
      have hent:(σ.enter fr ps a c).next=σ.next+1:=rfl
      obtain⟨m,w,σ2,hm,hnx,hJD⟩:=hit 1 σ.next (σ.enter fr ps a c) J D shJ shD (by
       rintro y L σ1 hlt ⟨zs,p',ρ',e1,e2,e3,e4,e5,e6⟩
       cases zs with
       |nil=>cases e1
       |cons z zs=>
        simp only[List.map_cons,List.cons.injEq] at e1
        obtain⟨rfl,rfl⟩:=e1
        have hbase:=hB _ _ _ _ _ e3 e5
        have e2':body z ((base W q.K q.O .ro st).over (unpack R q.sh p')) (Wi (mR c) W (base W q.K q.O .ro st) q.sh q.outs body zs)=some o:=e2
        show∃c' σ',wu E σ.next (bG R el z) σ1 c' σ'∧_
        generalize hkk:Wi (mR c) W (base W q.K q.O .ro st) q.sh q.outs body zs=kk at e2'
        dsimp only[body] at e2'
        split at e2'
        ·rename_i st1 zG
         obtain⟨hlen,i1,i2⟩:=ads zG (wm hR el z hel) (hbase.over e3)
         have Hy:ρ'.om=om:=e5.om.trans bS
         obtain⟨m1,x1,bR,σ2,q1,ρ2,st2,q2,q3,q4⟩:=rG hF hI a _ _ _ _ _ _ ρ' Hy e2' i1
         cases x1 with
         |exit i=>cases q4
         |ret=>cases q4
         |normal=>
          dsimp only at q4
          obtain⟨nb,hnb⟩:=DK (aL a)
          have lp2:σ2.loops σ.next=some r0:=((q3.ob nb (hnb nb (Nat.le_refl _))).lp _ hlt).trans e6
          have nx2:=(q3.ob nb (hnb nb (Nat.le_refl _))).nx
          have q2':aJ ρ2 σ2.next st2 bR (σ2.fJ σ.next {r0 with st:=1}):=q2.shift (fun _=>rfl) (fun _ _=>rfl)
          obtain⟨m2,x2,fO,σ3,t1,ρ3,uo,t2,t3,t4⟩:=rG hF hI c _ _ _ _ bR (σ2.fJ σ.next {r0 with st:=1}) ρ2 (q3.om.trans Hy) q4 q2'
          obtain⟨nc,hnb'⟩:=DK (aL c)
          have lp3:σ3.loops σ.next=some {r0 with st:=1}:=((t3.ob nc (hnb' nc (Nat.le_refl _))).lp _ (show σ.next<σ2.next by omega)).trans (by show upd σ2.loops σ.next _ σ.next=_;unfold upd;rw[if_pos rfl])
          have Wn:σ2.next≤σ3.next:=(t3.ob nc (hnb' nc (Nat.le_refl _))).nx
          have keep:∀p,bn p W=false→bI false p H ρ σ uo ρ3 σ3:=fun p hp=>by
           have k1:=e5.ob p hp
           have k2:bI false p ((base W q.K q.O .ro st).over (unpack R q.sh p')) ρ' σ1 st2 ρ2 σ2:=(q3.ob p (hl p hp).2.1).weak.from i2
           have k3:=(t3.ob p (hl p hp).2.2).weak
           have k12:=k1.trans k2
           refine⟨k3.ob.trans k12.ob,k3.ln.trans k12.ln,k3.om.trans k12.om,Nat.le_trans k12.nx Wn,fun l hl=> ?_,(fun e=>by cases e),fun hr=> ?_⟩
           ·refine(k3.lp l (show l<σ2.next by have:=k12.nx;omega)).trans (Eq.trans ?_ (k12.lp l hl))
            show upd σ2.loops σ.next _ l=_
            unfold upd;rw[if_neg (by omega)]
           ·have r1:=k12.ro hr
            have r2:=k3.ro r1.1
            exact⟨r2.1,fun s=>⟨(r2.2 s).1.trans (r1.2 s).1,(r2.2 s).2.trans (r1.2 s).2⟩⟩
          have fd:∀(r':nN),aJ ρ3 σ3.next uo.obs fO (σ3.fJ σ.next r'):=fun r'=>t2.obs.shift (fun _=>rfl) (fun _ _=>rfl)
          have keep':∀(r':nN),∀p,bn p W=false→bI false p H ρ σ uo.obs ρ3 (σ3.fJ σ.next r'):=fun r' p hp=>((keep p hp).congr (gM:=uo.obs) rfl).shift (lD:=σ3.fJ σ.next r') (fun _=>rfl) (Nat.le_refl _) fun l hl=>by
           show upd σ3.loops σ.next _ l=_
           unfold upd;rw[if_neg (by omega)]
          have atl:∀(r':nN),(σ3.fJ σ.next r').loops σ.next=some r':=fun r'=>by show upd σ3.loops σ.next _ σ.next=_;unfold upd;rw[if_pos rfl]
          have deep:∀(r':nN) a o,1<a→(σ3.fJ σ.next r').obj (a,o)=σ1.obj (a,o):=fun r' a o ha=>
           ((t3.ob nc (hnb' nc (Nat.le_refl _))).dp hnc a o ha).trans ((q3.ob nb (hnb nb (Nat.le_refl _))).dp hna a o ha)
          have loops:∀(r':nN) s,s<σ1.next→(σ3.fJ σ.next r').loops s=σ1.loops s∨s=σ.next:=fun r' s hs=>by
           by_cases es:s=σ.next
           ·exact .inr es
           ·left
            have u1:(σ3.fJ σ.next r').loops s=σ3.loops s:=by show upd σ3.loops σ.next _ s=_;unfold upd;rw[if_neg es]
            have u2:(σ2.fJ σ.next {r0 with st:=1}).loops s=σ2.loops s:=by show upd σ2.loops σ.next _ s=_;unfold upd;rw[if_neg es]
            exact u1.trans (((t3.ob nc (hnb' nc (Nat.le_refl _))).lp s (show s<σ2.next by omega)).trans (u2.trans ((q3.ob nb (hnb nb (Nat.le_refl _))).lp s hs)))
          have rnd:∀(bb:Bool) (σ':ah),adp r0 σ.next σ3 x2 bb σ'→wu E σ.next (bG R el z) σ1 bb σ':=fun bb σ' hbb=>
           wu.of e6 rfl hlen ⟨m1,.normal,bR,σ2,q1,rfl,r0,lp2,rfl,m2,x2,fO,σ3,t1,_,lp3,rfl,by cases x2<;>exact hbb⟩
          have stop:∀e,adp r0 σ.next σ3 x2 false (σ3.fJ σ.next {r0 with st:=2,pend:=some e})→qY R W e uo.obs q.outs=some o→∃c' σ',wu E σ.next (bG R el z) σ1 c' σ'∧σ1.next≤σ'.next∧(∀a o,1<a→σ'.obj (a,o)=σ1.obj (a,o))∧(∀s,s<σ1.next→σ'.loops s=σ1.loops s∨s=σ.next)∧(c'=true→J (zs.map (bG R el)) σ')∧(c'=false→D σ'):=by
           intro e he hpk
           obtain⟨ρ4,S4,Cw,g1,g2,g3,g4,g5⟩:=DL (nr:=false) (β:=β) hR (fd {r0 with st:=2,pend:=some e}) hpk
           refine⟨false,σ3.fJ σ.next {r0 with st:=2,pend:=some e},rnd _ _ he,Nat.le_trans nx2 Wn,deep _,loops _,(fun h=>by cases h),fun _=>⟨e,⟨ρ4,S4,Cw,g1.adr (g3 rfl) hi.d (hi.om.trans ?_),⟨fun _ _=>rfl,fun p hp=>(keep' _ p hp).trans (g2.ob p hp)⟩,fun p hp hr=>g4 p hp ((keep p hp).ro hr).1,g5⟩,atl _⟩⟩
           obtain⟨nw,hnw⟩:=DK W
           have:=(keep nw (hnw nw (Nat.le_refl _))).om
           rw[g2.om,this]
          cases x2 with
          |normal=>
           rw[←hkk] at t4
           unfold Wi at t4
           dsimp only at t4
           split at t4
           ·rename_i p4 hp4
            obtain⟨ρ4,S4,g1,g2,g3,g4⟩:=(fd {r0 with st:=0,pend:=none}).kN (nr:=false) hR hp4
            refine⟨true,σ3.fJ σ.next {r0 with st:=0,pend:=none},rnd _ _ ⟨rfl,rfl⟩,Nat.le_trans nx2 Wn,deep _,loops _,fun _=>⟨zs,p4,ρ4,rfl,t4,g1.adr (g3 rfl) hi.d (hi.om.trans ?_),g3 rfl,⟨fun _ _=>rfl,fun p hp=> ?_⟩,atl _⟩,fun h=>by cases h⟩
            ·obtain⟨nw,hnw⟩:=DK W
             have:=(keep nw (hnw nw (Nat.le_refl _))).om
             rw[g2.om,this]
            ·have kk:=(keep' {r0 with st:=0,pend:=none} p hp).trans (g2.ob p hp)
             exact⟨kk.ob,kk.ln,kk.om,kk.nx,kk.lp,kk.dp,fun hr=>⟨Nb (aou p) fun y hy=>(by rw[g4 p hp ((keep p hp).ro hr).1] at hy;cases hy),(kk.ro hr).2⟩⟩
           ·cases t4
          |exit i=>rw[←hkk] at t4;exact stop (.exit i) ⟨rfl,rfl⟩ t4
          |ret=>rw[←hkk] at t4;exact stop .ret ⟨rfl,rfl⟩ t4
        ·cases e2') (Nat.lt_succ_self _) (by
       refine⟨ys,p,ρ1,rfl,ho,(p1.shift (σ':=σ.enter fr ps a c) (fun _=>rfl) (fun _ _=>rfl)).le (Nat.le_succ _),p0 rfl,⟨fun _ _=>rfl,fun o ho=> ?_⟩, ?_⟩
       ·rw[hHe]
        exact⟨(p2.ob o ho).ob,(p2.ob o ho).ln,(p2.ob o ho).om,Nat.le_succ _,fun l hl=>(by show upd σ.loops σ.next _ l=_;unfold upd;rw[if_neg (by omega)]),(fun e=>by cases e),fun hr=>⟨hr,fun _=>⟨rfl,rfl⟩⟩⟩
       ·show upd σ.loops σ.next _ σ.next=_;unfold upd;rw[if_pos rfl])
      refine⟨m,w,σ2,hm, ?_⟩
      rcases hJD with ⟨zs,p',ρ',e1,e2,e3,e4,e5,e6⟩| ⟨e,hfin,e6⟩
      ·cases zs with
       |cons z zs=>cases e1
       |nil=>
        have e2':qY R W .normal (unpack R q.sh p').obs q.outs=some o:=e2
        obtain⟨ρ4,S4,Cw,g1,g2,g3,g4,g5⟩:=DL (nr:=false) (β:=β) hR e3.obs e2'
        have hno:∀p,bn p W=false→RO H p→look (unpack R q.sh p').ob p=none:=fun p hp hr=>aos hst.2 ((e5.ob p hp).ro hr).1
        have ND:∀p,bn p W=false→RO H p→RO (unpack R q.sh p').obs p:=fun p hp hr y hy=>by
         have:look (unpack R q.sh p').ob p=some y:=hy
         rw[hno p hp hr] at this;cases this
        exact⟨_,e6,(by show (0:Nat)≠1;omega),fin σ2 r0 .normal ⟨ρ4,S4,Cw,g1,⟨fun _ _=>rfl,fun p hp=>by
         have a1:=e5.ob p hp
         have a2:=g2.ob p hp
         exact⟨a2.ob.trans a1.ob,a2.ln.trans a1.ln,a2.om.trans a1.om,Nat.le_trans a1.nx a2.nx,fun l hl=>(a2.lp l (Nat.lt_of_lt_of_le hl a1.nx)).trans (a1.lp l hl),(fun e=>by cases e),fun hr=>⟨(a2.ro (ND p hp hr)).1,fun s=>⟨((a2.ro (ND p hp hr)).2 s).1.trans ((a1.ro hr).2 s).1,((a2.ro (ND p hp hr)).2 s).2.trans ((a1.ro hr).2 s).2⟩⟩⟩⟩,fun p hp hr=>g4 p hp (ND p hp hr),g5⟩⟩
      ·exact⟨_,e6,(by show (2:Nat)≠1;omega),fin σ2 r0 e hfin⟩
     ·cases h'
    ·cases h'
   ·cases h'
  ·cases h'
 |.scope _=>fun _ st k x fr σ ρ _ h hi=>by cases h
 |.label _=>fun _ st k x fr σ ρ _ h hi=>by cases h
 |.goto _=>fun _ st k x fr σ ρ _ h hi=>by cases h
 |.refuse _=>fun _ st k x fr σ ρ _ h hi=>by cases h
omit hR in
theorem HZ {ρ:aS} {b:Nat} {st:MS R.T} {fr:Fr} {σ:ah} (hi:aJ ρ b st fr σ):∀{rs:List ResultVar} {jM:List (TV R.T)},uG E R st rs=some jM→∃vs,rs.mapM (iD E fr σ)=some vs∧aB R ρ σ.top jM vs
 | [],jM,h=>by cases h;exact⟨[],rfl,rfl⟩
 |.tmp t::l,jM,h=>by
  unfold uG at h
  split at h
  ·rename_i v hv
   split at h
   ·rename_i vs hvs
    cases h
    obtain⟨ws,h1,h2⟩:=HZ hi hvs
    have:=bH (E:=E) hi .nil hv
    exact⟨fr.tm t::ws,by rw[List.mapM_cons];simp[iD,h1],.cons' this h2⟩
   ·cases h
  ·cases h
 |.cell a t::l,jM,h=>by
  unfold uG at h
  split at h
  ·rename_i o off hv
   split at h
   ·rename_i cs hl
    split at h
    ·rename_i v hld
     split at h
     ·rename_i vs hvs
      cases h
      obtain⟨ws,h1,h2⟩:=HZ hi hvs
      obtain⟨s,h3,h4⟩:=(bH (E:=E) hi .nil hv).oo
      rw[Cy] at h4
      obtain⟨s',l',h5,h6,h7⟩:=hi.rd hl
      rw[h3] at h5;cases h5
      obtain⟨y,hy,hr⟩:=vY h7 hld
      exact⟨y::ws,by rw[List.mapM_cons];simp[iD,h4,h6,hy,h1],.cons' hr h2⟩
     ·cases h
    ·cases h
   ·rename_i ss hl
    split at h
    ·rename_i v hld
     split at h
     ·rename_i vs hvs
      cases h
      obtain⟨ws,h1,h2⟩:=HZ hi hvs
      obtain⟨s,h3,h4⟩:=(bH (E:=E) hi .nil hv).oo
      rw[Cy] at h4
      obtain⟨s',h5,h6⟩:=hi.rd hl
      rw[h3] at h5;cases h5
      obtain⟨y,hy,hr⟩:=acY (ρ:=ρ) (top:=σ.top) hld
      exact⟨y::ws,by rw[List.mapM_cons];simp[iD,h4,h6,hy,h1],.cons' hr h2⟩
     ·cases h
    ·cases h
   ·cases h
  ·cases h
omit hR in
theorem Wo:∀(l:List (TV R.T)) (vs:List V) (i:Nat) (P:TV R.T→V→Prop),(∀j v,l[j]? =some v→P v (vs.getD j ay))→∀j v,look (zZ i l) j=some v→i≤j∧P v (vs.getD (j-i) ay)
 | [],vs,i,P,_,j,v,h=>by cases h
 |x::l,vs,i,P,hp,j,v,h=>by
  have h':look ((i,x)::zZ (i+1) l) j=some v:=h
  by_cases e:j=i
  ·subst e
   rw[mU] at h';cases h'
   exact⟨Nat.le_refl _,by simpa using hp 0 x rfl⟩
  ·rw[jR _ _ e] at h'
   obtain⟨h1,h2⟩:=Wo l vs.tail (i+1) P (fun j v hj=>by
    have:=hp (j+1) v (by simpa using hj)
    cases vs<;>simpa using this) j v h'
   refine⟨by omega, ?_⟩
   have e2:j-i=(j-(i+1))+1:=by omega
   rw[e2]
   cases vs<;>simpa using h2
theorem Ai {n:Nat} {om:Bool} {F:Nat→List (FR R)} {I:Nat→List (FI R)} (hF:aO E F) (hI:yu E I) {A:aW} {f:Nat} {fn:Func} {args res:List Sk} {p:ak R.T args} {x:ak R.T res} (h:aZ E R n om F I A fn args res p=some x) (hf:E.P.funcs[f]? =some fn) (ha:jg args=true)
 (hlen:(bG R args p).length=args.length) (bS:E.om f=om) (hs:E.kX f=none) (hok:(match fn.body with|some c=>decide (args.length≤fn.ntmps)&& fE fn.ntmps c|none=>false)=true):Pure E f (bG R args p) (ku (bG R res x)):=by
 unfold aZ at h
 split at h
 ·rename_i c hc
  rw[hc] at hok;dsimp only at hok
  refine Pure.of' fn.results.toList hf hc (fun fr σ hd ho ht=> ?_) rfl (by rw[hlen];exact hok) hs
  have hi:aJ ⟨fun _=>none,fun _=>none,fun _=>0,om⟩ σ.next (⟨zZ 0 (kM R .sh args p),[]⟩:MS R.T) fr σ:={
   d:=hd
   om:=by rw[ho,bS]
   fr:=fun i v hv=>by
    obtain⟨_,h2⟩:=Wo _ (bG R args p) 0 (fun v w=>Rl R ⟨fun _=>none,fun _=>none,fun _=>0,om⟩ σ.top v w) (fun j v hj=>by
     obtain⟨w,h1,h2⟩:=(wm hR args p ha).get hj
     rw[List.getD_eq_getElem?_getD,h1];exact h2) i v hv
    rw[ht]
    exact .of (by simpa using h2)
   ob:=fun o x hx=>by cases hx
   inj:=fun t u s h=>by cases h
   lt:=fun t s h=>by cases h}
  refine(rG hR hF hI c _ _ _ x fr σ _ rfl h hi).mono ?_
  rintro e fr' σ' ⟨ρ',st',hi',_,hk⟩
  have key:(match uG E R st' fn.results.toList with
   |some vs=>bif jg res&& Nat.ble (nZ res) 16 then iq R res (nE st' vs) else none
   |none=>none)=some x→∃vs,fn.results.toList.mapM (iD E fr' σ')=some vs∧aQ 20 σ' (match vs with| [v]=>v|vs=>.bJ vs)=some (ku (bG R res x)):=by
   intro hk
   split at hk
   ·rename_i jM Wp
    obtain⟨hb,hk⟩:=d9 hk
    rw[Bool.and_eq_true] at hb
    obtain⟨vs,h1,h2⟩:=HZ hi' Wp
    refine⟨vs,h1, ?_⟩
    have aw2:=Nat.le_of_ble_eq_true hb.2
    obtain⟨vs',v1,v2⟩:=Hq hR hi' h2
    have c1:=(v2 15).trans (rF hR res x (nE st' jM) vs' hb.1 hk v1 19 σ' (by omega))
    have c2:=(v2 16).trans (rF hR res x (nE st' jM) vs' hb.1 hk v1 20 σ' (by omega))
    clear v1 v2
    match vs,c1,c2 with
    | [],c1,c2=>
      have:bG R res x=[]:=by simpa using c1.symm
      rw[this]
      show aQ 20 σ' (.bJ [])=some (.bJ [])
      rw[Ms];rfl
    | [v],c1,c2=>
      rw[List.mapM_cons] at c2
      obtain⟨w,hw,c2⟩:=Option.bind_eq_some_iff.1 c2
      have:[w]=bG R res x:=by simpa using c2
      rw[←this];exact hw
    |v::w::vs,c1,c2=>
     show aQ 20 σ' (.bJ (v::w::vs))=_
     rw[Ms,c1,Option.map_some]
     have hl:(bG R res x).length=(v::w::vs).length:=by
      have:∀(l:List V) (m:List V),l.mapM (aQ 19 σ')=some m→m.length=l.length:=by
       intro l
       induction l with
       |nil=>intro m h;cases h;rfl
       |cons a l ih=>
        intro m h
        rw[List.mapM_cons] at h
        obtain⟨b,hb,h⟩:=Option.bind_eq_some_iff.1 h
        obtain⟨c,hc,h⟩:=Option.bind_eq_some_iff.1 h
        cases h
        simp[ih c hc]
      exact this _ _ c1
     match bG R res x,hl with
     |a::b::l,_=>rfl
   ·cases hk
  cases e with
  |exit i=>cases hk
  |normal=>exact key hk
  |ret=>exact key hk
 ·cases h
theorem Wq {n:Nat} {om:Bool} {F:Nat→List (FR R)} {I:Nat→List (FI R)} (hF:aO E F) (hI:yu E I) {A:aW} {f:Nat} {fn:Func} {args:List Sk} {τ:Ty} {p:ak R.T args} {x:List (Den R.T τ)} (h:G6 E R n om F I A fn args τ p=some x) (hf:E.P.funcs[f]? =some fn) (ha:jg args=true)
 (hlen:(bG R args p).length=args.length) (bS:E.om f=om) (hs:E.kX f=none) (hok:(match fn.body with|some c=>decide (args.length≤fn.ntmps)&& fE fn.ntmps c|none=>false)=true):
 Pure E f (bG R args p) (.aj .sh (x.map (aD R τ)))∧nC E f (bG R args p) (dB R τ) (x.map (aD R τ)):=by
 unfold G6 at h
 split at h
 ·rename_i c hc
  rw[hc] at hok;dsimp only at hok
  have hi:aJ ⟨fun _=>none,fun _=>none,fun _=>0,om⟩ ah.init.next (⟨zZ 0 (kM R .sh args p),[]⟩:MS R.T) ({d:=1,om:=E.om f,tm:=fun i=>(bG R args p).getD i ay}:Fr) ah.init:={
   d:=rfl
   om:=bS
   fr:=fun i v hv=>by
    obtain⟨_,h2⟩:=Wo _ (bG R args p) 0 (fun v w=>Rl R ⟨fun _=>none,fun _=>none,fun _=>0,om⟩ ah.init.top v w) (fun j v hj=>by
     obtain⟨w,h1,h2⟩:=(wm hR args p ha).get hj
     rw[List.getD_eq_getElem?_getD,h1];exact h2) i v hv
    exact .of (by simpa using h2)
   ob:=fun o x hx=>by cases hx
   inj:=fun t u s h=>by cases h
   lt:=fun t s h=>by cases h}
  have himp:jK E f (bG R args p) 1 ah.init (fun v σ1=> ∃c,v= .aj c (x.map (aD R τ))∧(c= .nil∨c= .full∨∃s,c= .own (dB R τ) s∧σ1.top s=(x.map (aD R τ)).length)):=by
   refine jK.of hf hc (by rw[hlen];exact hok) ((rG hR hF hI c _ _ _ x _ ah.init _ rfl h hi).mono ?_)
   rintro e fr' σ' ⟨ρ',st',hi',_,hk⟩
   have key:(match uG E R st' fn.results.toList with
    |some [v]=>bif Vk v then zQ R τ v else none
    |_=>none)=some x→∃vs,fn.results.toList.mapM (iD E fr' σ')=some vs∧∃c:Cap,(match vs with| [v]=>v|vs=>V.bJ vs)=V.aj c (x.map (aD R τ))∧(c= .nil∨c= .full∨∃s,c= .own (dB R τ) s∧σ'.top s=(x.map (aD R τ)).length):=by
    intro hk
    split at hk
    ·rename_i tv Wp
     obtain⟨hb,hk⟩:=d9 hk
     obtain⟨vs,h1,h2⟩:=HZ hi' Wp
     obtain⟨v,l,rfl,h3,h4⟩:=h2.eO
     rw[h4.gK] at h1
     refine⟨[v],h1, ?_⟩
     unfold zQ at hk
     split at hk
     ·rename_i cp τ' l0 _
      obtain⟨e,e2⟩:=rz hk;subst e;cases e2
      obtain⟨c',rfl,hc'⟩:=h3.kQ
      refine⟨c',rfl, ?_⟩
      cases cp<;>simp only[Vk,Bool.false_eq_true] at hb
      ·exact .inr (.inl hc')
      ·rcases hc' with rfl|rfl| ⟨s,rfl,_,ht⟩
       ·exact .inl rfl
       ·exact .inr (.inl rfl)
       ·exact .inr (.inr ⟨s,rfl,by rw[List.length_map];exact ht⟩)
     ·cases hk
      exact⟨.nil,h3.o8,.inl rfl⟩
     ·cases hk
    ·cases hk
   cases e with
   |exit i=>cases hk
   |normal=>exact key hk
   |ret=>exact key hk
  obtain⟨m,v,σ1,hm,cp,rfl,hcp⟩:=himp
  have hpc:bf (x.map (aD R τ))=true:=by
   have:=Gz (ou hR τ) x
   simpa [aA] using this
  refine⟨⟨m, ?_⟩,.of hm hpc hcp⟩
  simp only[oI,hs,hm,Option.bind_some]
  exact uw _ _ (ou hR τ)
 ·cases h
end
end Aq
