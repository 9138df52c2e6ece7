/- Part of the proof of a law. -/
import Derived.Test.YteniejlbjfigdaaGreatDoorX12
set_option linter.all false
set_option linter.unusedSimpArgs false
set_option linter.unusedSectionVars false
namespace Aq
open Go
set_option linter.unusedSectionVars false
set_option linter.unusedVariables false
section
variable {R:iM} {E:Env} (hR:mX R)
include hR
def Rz (E:Env) (om:Bool) (c:Code) (body:{β:Type}→MS R.T→(Ex→MS R.T→Option β)→Option β):Prop:=
 ∀(β:Type) (st:MS R.T) (k:Ex→MS R.T→Option β) (x:β) (fr:Fr) (σ:ah) (ρ:aO),ρ.om=om→body st k=some x→aG ρ σ.next st fr σ→CW E c fr σ fun e fr' σ'=> ∃ρ' st',aG ρ' σ'.next st' fr' σ'∧Kp (dD c) (aI c) st fr σ ρ st' fr' σ' ρ'∧k e st'=some x
omit hR in
theorem RA:∀(ρ:aO) (σ:ah) (o:Nat) (x:Ob R.T),eX (R:=R) ρ σ o x→eX (R:=R) ρ σ o (.ro x):=fun _ _ _ _ h=>h
theorem Yz {om:Bool} {β:Type} {c:Code} {key:Nat} {sh:Shape} {outs:List (Ex×Shape)} {body:{β:Type}→MS R.T→(Ex→MS R.T→Option β)→Option β} (hb:Rz E om c body) {H B:MS R.T} {RB:Fr} {σ0:ah} {ρ0:aO} (bQ:ρ0.om=om)
 (hB:∀(st' S':MS R.T) (fr':Fr) (σ':ah) (ρ':aO) (b':Nat),aG ρ' b' st' fr' σ'→Kp (dD c) (aI c) H RB σ0 ρ0 S' fr' σ' ρ'→aG ρ' b' B fr' σ') (hro:∀o,RO B o):
 ∀(m:Nat) (p:nO R.T sh) (o:Out R.T outs) (fr:Fr) (σ:ah) (ρ:aO),dw key (aI c) B sh outs body m p=some o→aG ρ σ.next (unpack R sh p) fr σ→Kp (dD c) (aI c) H RB σ0 ρ0 (B.over (unpack R sh p)) fr σ ρ→
 CW E (.loop c) fr σ fun e fr' σ'=> ∃ρ' S' st',aG ρ' σ'.next st' fr' σ'∧Kp (dD c) (aI c) H RB σ0 ρ0 S' fr' σ' ρ'∧(∀o,aZ o (aI c)=false→RO H o→look st'.ob o=none)∧∀(k:Ex→MS R.T→Option β) (bs:MS R.T),rW R bs k outs o=k e (bs.over st')
 |0,p,o,fr,σ,ρ,h,_,_=>by cases h
 |m+1,p,o,fr,σ,ρ,h,hi,hkp=>by
  unfold dw at h
  have hbase:aG ρ σ.next B fr σ:=hB _ _ _ _ _ _ hi hkp
  refine CW.loop ((hb _ _ _ _ fr σ ρ (hkp.om.trans bQ) h (hbase.over hi)).mono ?_)
  rintro e fr' σ' ⟨ρ',st',hi',su,hk⟩
  have hall:=hkp.trans su
  cases e with
  |normal=>
   dsimp only at hk
   split at hk
   ·rename_i p' hp'
    obtain⟨ρ2,S2,h1,h2,_,h3⟩:=hi'.jW hR hp'
    have vP:=hall.trans h2
    refine Yz hb bQ hB hro m p' o fr' σ' ρ2 hk h1 ⟨vP.fr,fun q hq=>⟨(vP.ob q hq).ob,(vP.ob q hq).ln,(vP.ob q hq).om,(vP.ob q hq).nx,(vP.ob q hq).lp,(vP.ob q hq).dp,fun hr=>⟨?_,((vP.ob q hq).ro hr).2⟩⟩⟩
    exact Lx (hro q) fun x hx=>(by rw[h3 q hq ((hall.ob q hq).ro hr).1] at hx;cases hx)
   ·cases hk
  |exit i=>
   obtain⟨ρ2,S2,fT,h1,h2,_,h3,h4⟩:=AQ (β:=β) hR hi' hk
   exact⟨ρ2,S2,fT,h1,hall.trans h2,fun q hq hr=>h3 q hq ((hall.ob q hq).ro hr).1,h4⟩
  |ret=>
   obtain⟨ρ2,S2,fT,h1,h2,_,h3,h4⟩:=AQ (β:=β) hR hi' hk
   exact⟨ρ2,S2,fT,h1,hall.trans h2,fun q hq hr=>h3 q hq ((hall.ob q hq).ro hr).1,h4⟩
omit hR in
theorem YA {om:Bool} {c:Code} {body:{β:Type}→MS R.T→(Ex→MS R.T→Option β)→Option β} (hb:Rz E om c body) {β:Type}:∀(m:Nat) (st:MS R.T) (k:Ex→MS R.T→Option β) (x:β) (fr:Fr) (σ:ah) (ρ:aO),ρ.om=om→FQ (R:=R) (fun st k=>body st k) m st k=some x→aG ρ σ.next st fr σ→
 CW E (.loop c) fr σ fun e fr' σ'=> ∃ρ' st',aG ρ' σ'.next st' fr' σ'∧Kp (dD c) (aI c) st fr σ ρ st' fr' σ' ρ'∧k e st'=some x
 |0,st,k,x,fr,σ,ρ,_,h,_=>by cases h
 |m+1,st,k,x,fr,σ,ρ,bQ,h,hi=>by
  unfold FQ at h
  refine CW.loop ((hb _ _ _ _ fr σ ρ bQ h hi).mono ?_)
  rintro e fr' σ' ⟨ρ',st',hi',su,hk⟩
  cases e with
  |normal=>
   dsimp only at hk
   by_cases hW:True
   ·refine(YA hb m st' k x fr' σ' ρ' ?_ hk hi').mono ?_
    ·exact su.om.trans bQ
    ·rintro e vM kD ⟨nk,fT,h1,h2,h3⟩
     exact⟨nk,fT,h1,su.trans h2,h3⟩
   ·exact absurd trivial hW
  |exit i=>exact⟨ρ',st',hi',su,hk⟩
  |ret=>exact⟨ρ',st',hi',su,hk⟩
omit hR in
def RD {X:Type} (key:Nat) (W:List Nat) (b:MS R.T) (sh:Shape) (outs:List (Ex×Shape)) (body:{β:Type}→X→MS R.T→(Ex→MS R.T→Option β)→Option β) (xs:List X) (e:Ex) (st:MS R.T):Option (Out R.T outs):=match e with
    |.normal=>match jW R W st.obs sh with
     |some p=>FT key W b sh outs body xs p
     |none=>none
    |e=>pO R W e st.obs outs
omit hR in
def YB (r0:mG) (l:Nat) (σ3:ah) (x:Ex) (bb:Bool) (σ':ah):Prop:=match x with
 |.normal=>bb=true∧σ'=σ3.fA l {r0 with st:=0,pend:=none}
 |e=>bb=false∧σ'=σ3.fA l {r0 with st:=2,pend:=some e}
omit hR in
mutual
theorem Rl.top {ρ:aO} {t t':Nat→Nat} (ht:∀u s,ρ.tk u=some s→t' s=t s):∀(x:TV R.T) (v:V),Rl R ρ t x v→Rl R ρ t' x v
 |.ak c ty l,v,h=>by
  obtain⟨c',hv,hc⟩:=h
  refine⟨c',hv, ?_⟩
  cases c<;>first|exact hc|skip
  rcases hc with hc|hc| ⟨s,h1,h2,h3⟩
  ·exact .inl hc
  ·exact .inr (.inl hc)
  ·exact .inr (.inr ⟨s,h1,h2,(ht _ _ h2).trans h3⟩)
 |.agg cs,v,h=>by obtain⟨l,hv,hl⟩:=h;exact⟨l,hv,aA.top ht cs l hl⟩
 |.bP cs,v,h=>by obtain⟨l,hv,hl⟩:=h;exact⟨l,hv,aA.top ht cs l hl⟩
 |.aK cs off,v,h=>by obtain⟨l,hv,hl⟩:=h;exact⟨l,hv,aA.top ht cs l hl⟩
 |.fn f a b,v,h=>by obtain⟨a',b',hv,ha,hb⟩:=h;exact⟨a',b',hv,aA.top ht a a' ha,aA.top ht b b' hb⟩
 |.ref _ _,_,h=>h
 |.cK _,_,h=>h
 |.vw _ _,_,h=>h
 |.kg _ _ _ _,_,h=>h
 |.opt _ _ _,_,h=>h.elim
 |.int _ _,_,h=>h
 |.bool _,_,h=>h
 |.gU _,_,h=>h
 |.str _,_,h=>h
 |.fI,_,h=>h
 |.fu,_,h=>h
 |.eY,_,h=>h
 |.gN,_,h=>h
 |.dG,_,h=>h
 |.dx _ _ _,_,h=>h
 |.undef,_,h=>h
 |.sg _,_,h=>h
 |.sv _ _ _ _ _ _,_,h=>h
 |.sel _ _ _ _ _ _,_,h=>h
 |.pJ _ _ _ _,_,h=>h
 |.gone,_,h=>h
theorem aA.top {ρ:aO} {t t':Nat→Nat} (ht:∀u s,ρ.tk u=some s→t' s=t s):∀(x:List (TV R.T)) (v:List V),aA R ρ t x v→aA R ρ t' x v
 | [],_,h=>h
 |x::xs,_,⟨v,vs,e,h1,h2⟩=>⟨v,vs,e,Rl.top ht x v h1,aA.top ht xs vs h2⟩
end
omit hR in
theorem gX.top {fr:Fr} {ρ:aO} {t t':Nat→Nat} (ht:∀u s,ρ.tk u=some s→t' s=t s) {x:TV R.T} {v:V} (h:gX fr ρ t x v):gX fr ρ t' x v:=by
 cases x with
 |opt j w y=>exact⟨fun hc=>Rl.top ht y v (h.1 hc),h.2⟩
 |_=>exact .of (Rl.top ht _ v h)
omit hR in
theorem YC {ρ:aO} {σ σ':ah} {p:Nat} (hp:σ'.obj (1,p)=σ.obj (1,p)) (ht:∀u s,ρ.tk u=some s→σ'.top s=σ.top s):∀{x:Ob R.T},eX ρ σ p x→eX ρ σ' p x
 |.cells cs,h=>by
  obtain⟨s,l,h1,h2,h3⟩:=h
  exact⟨s,l,h1,by unfold ah.cu at h2⊢;rw[hp];exact h2,aA.top ht _ _ h3⟩
 |.map k e m,h=>by
  obtain⟨s,h1,h2⟩:=h
  exact⟨s,h1,by unfold ah.fH at h2⊢;rw[hp];exact h2⟩
 |.smap ks vs,h=>by
  obtain⟨s,k,l,h1,h2,h3,h4⟩:=h
  exact⟨s,k,l,h1,by unfold ah.fH at h2⊢;rw[hp];exact h2,aA.top ht _ _ h3,aA.top ht _ _ h4⟩
 |.arr t l,h=>by
  refine⟨h.1, ?_⟩
  rcases h.2 with h| ⟨s,cs,h1,h2,h3⟩
  ·exact .inl h
  ·exact .inr ⟨s,cs,h1,by unfold ah.cu at h2⊢;rw[hp];exact h2,vJ l cs h3⟩
 |.sg ss,h=>by
  obtain⟨s,h1,h2⟩:=h
  exact⟨s,h1,by unfold ah.cu at h2⊢;rw[hp];exact h2⟩
 |.gone,_=>trivial
 |.ro b,h=>YC hp ht (x:=b) h
omit hR in
theorem aG.shift {ρ:aO} {b:Nat} {st:MS R.T} {fr:Fr} {σ σ':ah} (h:aG ρ b st fr σ) (hp:∀p,σ'.obj (1,p)=σ.obj (1,p)) (ht:∀s,s<b→σ'.top s=σ.top s):aG ρ b st fr σ':={h with
 fr:=fun i v hv=>(h.fr i v hv).top fun u s hu=>ht s (h.lt u s hu)
 ob:=fun o x hx=>YC (hp o) (fun u s hu=>ht s (h.lt u s hu)) (h.ob o x hx)}
omit hR in
theorem aG.YD {ρ:aO} {b:Nat} {st:MS R.T} {fr fr':Fr} {σ:ah} (h:aG ρ b st fr σ) (he:st.fr=[]) (hd:fr'.d=1) (ho:fr'.om=ρ.om):aG ρ b st fr' σ:={h with
 d:=hd
 om:=ho
 fr:=fun i v hv=>by rw[he] at hv;cases hv}
omit hR in
theorem aG.obs {ρ:aO} {b:Nat} {st:MS R.T} {fr:Fr} {σ:ah} (h:aG ρ b st fr σ):aG ρ b st.obs fr σ:={h with
 fr:=fun i v hv=>by cases hv
 ob:=h.ob}
omit hR in
theorem bB.weak {nr:Bool} {o:Nat} {st st':MS R.T} {ρ ρ':aO} {σ σ':ah} (h:bB nr o st ρ σ st' ρ' σ'):bB false o st ρ σ st' ρ' σ':=⟨h.ob,h.ln,h.om,h.nx,h.lp,(fun e=>by cases e),h.ro⟩
omit hR in
theorem Kp.nr {nr RF:Bool} {W:List Nat} {st st':MS R.T} {fr fr':Fr} {ρ ρ':aO} {σ σ':ah} (hn:RF=true→nr=true) (h:Kp nr W st fr σ ρ st' fr' σ' ρ'):Kp RF W st fr σ ρ st' fr' σ' ρ':=⟨h.fr,fun o ho=>⟨(h.ob o ho).ob,(h.ob o ho).ln,(h.ob o ho).om,(h.ob o ho).nx,(h.ob o ho).lp,fun e=>(h.ob o ho).dp (hn e),(h.ob o ho).ro⟩⟩
omit hR in
theorem bB.shift {o:Nat} {st st':MS R.T} {ρ ρ':aO} {σ σ' kD:ah} (h:bB false o st ρ σ st' ρ' σ') (hp:∀p,kD.obj (1,p)=σ'.obj (1,p)) (hn:σ'.next≤kD.next) (hl:∀l,l<σ.next→kD.loops l=σ'.loops l):bB false o st ρ σ st' ρ' kD:=
 ⟨h.ob,h.ln,h.om,Nat.le_trans h.nx hn,fun l hl'=>(hl l hl').trans (h.lp l hl'),(fun e=>by cases e),fun hr=>⟨(h.ro hr).1,fun s=>by
   have:=(h.ro hr).2 s
   unfold ah.cu ah.fH at this⊢
   rw[hp];exact this⟩⟩
omit hR in
theorem YE {ρ:aO} {b:Nat} {σ:ah}:∀{ps:List Nat} {jl:List (TV R.T)} {vs:List V} {st st':MS R.T} {fr:Fr},Ar st ps jl=some st'→aA R ρ σ.top jl vs→aG ρ b st fr σ→ps.length=vs.length∧aG ρ b st' {fr with tm:=(ps.zip vs).foldl (fun tm (p,a)=>upd tm p a) fr.tm} σ∧st'.ob=st.ob
 | [],[],vs,st,st',fr,h,hr,hi=>by
   cases h;rw[hr.fP];exact⟨rfl,hi,rfl⟩
 | [],_::_,_,_,_,_,h,_,_=>by cases h
 |_::_,[],_,_,_,_,h,_,_=>by cases h
 |i::ps,t::jl,vs,st,st',fr,h,hr,hi=>by
  obtain⟨v,ws,rfl,h1,h2⟩:=hr.eD
  obtain⟨a1,a2,a3⟩:=YE (fr:=fr.set i v) (show Ar (st.put i t) ps jl=some st' from h) h2 (hi.put i (.of h1))
  exact⟨by simp[a1],a2,a3⟩
omit hR in
theorem YF {k:nN} {x:xk R.T k}:mQ (qE R k x)=false:=by cases k<;>rfl
omit hR in
theorem YG {o:Nat} {y:Ob R.T} {O:List Nat}:∀{l:List (Nat×nN)} {x:xq R.T l},xI O l=true→look (vo R l x) o=some y→aZ o O=false∧mQ y=false
 | [],x,_,h=>by cases h
 | [(i,k)],x,hd,h=>by
   unfold xI at hd
   rw[Bool.and_eq_true,Bool.not_eq_true'] at hd
   have h':look [(i,qE R k x)] o=some y:=h
   by_cases e:o=i
   ·subst e;rw[lM] at h';cases h';exact⟨hd.1,YF⟩
   ·rw[jq _ _ e] at h';cases h'
 | (i,k)::q::l,x,hd,h=>by
   unfold xI at hd
   rw[Bool.and_eq_true,Bool.not_eq_true'] at hd
   have h':look ((i,qE R k x.1)::vo R (q::l) x.2) o=some y:=h
   by_cases e:o=i
   ·subst e;rw[lM] at h';cases h';exact⟨hd.1,YF⟩
   ·rw[jq _ _ e] at h';exact YG hd.2 h'
omit hR in
theorem aiy {W K O:List Nat} {mark:Ob R.T→Ob R.T} {st:MS R.T} {s:Shape} {p:nO R.T s} {o:Nat} (hd:xI O s.ob=true) (h:RO ((base W K O mark st).over (unpack R s p)) o):look (unpack R s p).ob o=none:=by
 cases hu:look (unpack R s p).ob o with
 |none=>rfl
 |some y=>
  exfalso
  have hk:aZ o O=false∧mQ y=false:=by
   obtain⟨sl,ob⟩:=s
   cases ob with
   |nil=>cases hu
   |cons a as=>exact YG hd hu
  have hb:look (base W K O mark st).ob o=none:=by
   have:∀is:List Nat,aZ o is=false→look (lI (fun o b=> !(aZ o W)&& kY W b) mark st.ob is) o=none:=by
    intro is
    induction is with
    |nil=>intro _;rfl
    |cons j is ih=>
     intro h
     have h':(Nat.beq o j||aZ o is)=false:=h
     rw[Bool.or_eq_false_iff] at h'
     unfold lI
     split
     ·rename_i x hx
      cases (!(aZ j W)&& kY W x)
      ·exact ih h'.2
      ·rw[cond_true,jq _ _ (Ls h'.1)];exact ih h'.2
     ·exact ih h'.2
   exact this O hk.1
  have:=h y (by show look ((base W K O mark st).ob++(unpack R s p).ob) o=some y;rw[xP,hb];exact hu)
  rw[hk.2] at this;cases this
def vQ (E:Env) (I:Nat→List (FI R)):Prop:=∀g,∀i∈I g,E.imp g=true∧∀pa pb xs,i.F pa pb=some xs→Gi E g (au R i.a pa) (au R i.b pb) (xs.map (au R i.el))
theorem YH {σ:ah} {n:Nat}:∀cs:List V,aX cs=true→cs.mapM (aP (n+1) σ)=some cs:=by
 intro cs
 induction cs with
 |nil=>intro _;rfl
 |cons a l ih=>
  intro h
  simp only[aX,Bool.and_eq_true] at h
  rw[List.mapM_cons,jE h.1,ih h.2];rfl
theorem YI {I:Nat→List (FI R)} (hI:vQ E I) {g:Nat} {ρ:aO} {top:Nat→Nat} {u v:List (TV R.T)} {va vb:List V} (hu:nQ u=true) (hv:nQ v=true) (ha:aA R ρ top u va) (hb:aA R ρ top v vb):∀{l:List (FI R)} {el:List Sk} {o:Option (List (aj R.T el))},(∀i∈l,i∈I g)→FU u v l=some ⟨el,o⟩→
 E.imp g=true∧iN el=true∧∀xs,o=some xs→Gi E g va vb (xs.map (au R el))
 | [],el,o,_,h=>by cases h
 |i::l,el,o,hl,h=>by
  unfold FU at h
  split at h
  ·rename_i pa pb hpa hpb
   obtain⟨hc,h⟩:=dQ h
   simp only[Bool.and_eq_true] at hc
   obtain⟨⟨⟨⟨c1,c2⟩,c3⟩,c4⟩,c5⟩:=hc
   cases h
   obtain⟨h1,h2⟩:=hI g i (hl i (by simp))
   refine⟨h1,c3,fun xs hx=> ?_⟩
   have e1:=pY hR i.a pa u va c1 hpa ha 19 ah.init (by have:=Nat.le_of_ble_eq_true c4;omega)
   have e2:=pY hR i.b pb v vb c2 hpb hb 19 ah.init (by have:=Nat.le_of_ble_eq_true c5;omega)
   rw[YH hR va (vN hR u va hu ha)] at e1
   rw[YH hR vb (vN hR v vb hv hb)] at e2
   cases e1;cases e2
   exact h2 pa pb xs hx
  ·exact YI hI hu hv ha hb (fun x hx=>hl x (by simp[hx])) h
theorem p8 {n:Nat} {om:Bool} {F:Nat→List (FR R)} {I:Nat→List (FI R)} (hF:aS E F) (hI:vQ E I) {A:bH}:∀c:Code,Rz E om c fun st k=>bD E R n om F I A c st k
 |.skip=>fun _ st k x fr σ ρ _ h hi=>CW.skip ⟨ρ,st,hi,.refl,h⟩
 |.exit i=>fun _ st k x fr σ ρ _ h hi=>CW.exit ⟨ρ,st,hi,.refl,h⟩
 |.ret=>fun _ st k x fr σ ρ _ h hi=>CW.ret ⟨ρ,st,hi,.refl,h⟩
 |.region id ops dr=>fun β st k x fr σ ρ bQ h hi=>by
  have h':(bif dr then (bif nE ops.toList then qG E R om F (ou ops.toList) ops.toList ops.toList st [] (fun st=>k .normal st) else none) else vF E R om F ops.toList ops.toList st (fun st=>k .normal st))=some x:=h
  have YJ:∀{W:List Nat} {st':MS R.T} {fr':Fr} {σ':ah} {ρ':aO} {j:Nat},Kp true W st fr (σ.bump j) ρ st' fr' σ' ρ'→Kp true W st fr σ ρ st' fr' σ' ρ':=fun h=>⟨h.fr,fun o ho=>⟨(h.ob o ho).ob,(h.ob o ho).ln,(h.ob o ho).om,Nat.le_trans (Nat.le_add_right _ _) (h.ob o ho).nx,fun l hl=>(h.ob o ho).lp l (Nat.lt_of_lt_of_le hl (Nat.le_add_right _ _)),(h.ob o ho).dp,fun hr=>⟨((h.ob o ho).ro hr).1,((h.ob o ho).ro hr).2⟩⟩⟩
  cases dr with
  |true=>
   rw[cond_true] at h'
   obtain⟨he,h'⟩:=dQ h'
   refine CW.draw he (Ma hR hF _ σ.next ρ st fr _ [] bQ (hi.next _) h' ?_)
   intro ρ' st' fr' σ' hi' hn hkp hk
   exact⟨ρ',st',by rw[hn];exact hi',YJ hkp,hk⟩
  |false=>
   rw[cond_false] at h'
   refine CW.region (Gh hR hF _ σ.next ρ st fr _ bQ (hi.next _) h' ?_)
   intro ρ' st' fr' σ' hi' hn hkp hk
   exact⟨ρ',st',by rw[hn];exact hi',YJ hkp,hk⟩
 |.seq a b=>fun β st k x fr σ ρ bQ h hi=>by
  have h':(match look A.joins (lK b) with
   |none=>bD E R n om F I A a st fun e st=>match e with
    |.normal=>bD E R n om F I A b st k
    |e=>k e st
   |some q=>(bD E R n om F I A (β:=Out R.T q.outs) a ((base (aI a) q.K q.O .ro st).over st) fun e st=>pO R (aI a) e st q.outs).bind (rW R (base (aI a) q.K q.O (fun b=>b) st) (fun e st=>match e with
    |.normal=>bD E R n om F I A b st k
    |e=>k e st) q.outs))=some x:=h
  have hl:∀i,aZ i (aI (.seq a b))=false→aZ i (aI a)=false∧aZ i (aI b)=false:=fun i hi=>by
   have hi':aZ i (aI a++aI b)=false:=hi
   rw[F6,Bool.or_eq_false_iff] at hi';exact hi'
  have fin:∀(e:Ex) (st':MS R.T) (fr':Fr) (σ':ah) (ρ':aO),aG ρ' σ'.next st' fr' σ'→Kp (dD a) (aI a) st fr σ ρ st' fr' σ' ρ'→(match e with
   |.normal=>bD E R n om F I A b st' k
   |e=>k e st')=some x→dP E b (fun e fr' σ'=> ∃ρ' st',aG ρ' σ'.next st' fr' σ'∧Kp (dD (.seq a b)) (aI (.seq a b)) st fr σ ρ st' fr' σ' ρ'∧k e st'=some x) e fr' σ':=by
   intro e st' fr' σ' ρ' hi' hkp hk
   have RG:=(hkp.mono (W':=aI (.seq a b)) fun i hi=>(hl i hi).1).nr (RF:=dD (.seq a b)) (fun e=>by simp only[dD,Bool.and_eq_true] at e;exact e.1)
   cases e with
   |normal=>
    refine(p8 hF hI b _ st' k x fr' σ' ρ' (hkp.om.trans bQ) hk hi').mono ?_
    rintro e vM kD ⟨nk,fT,h1,h2,h3⟩
    exact⟨nk,fT,h1,RG.trans ((h2.mono fun i hi=>(hl i hi).2).nr (fun e=>by simp only[dD,Bool.and_eq_true] at e;exact e.2)),h3⟩
   |exit i=>exact⟨ρ',st',hi',RG,hk⟩
   |ret=>exact⟨ρ',st',hi',RG,hk⟩
  split at h'
  ·refine CW.seq ((p8 hF hI a _ st _ x fr σ ρ bQ h' hi).mono ?_)
   rintro e fr' σ' ⟨ρ',st',hi',hkp,hk⟩
   exact fin e st' fr' σ' ρ' hi' hkp hk
  ·rename_i q _
   obtain⟨o,ho,h'⟩:=Option.bind_eq_some_iff.1 h'
   have hro:∀o x,look st.ob o=some x→aZ o (aI a)=false→aZ o q.O=true→kY (aI a) x=true→RO ((base (aI a) q.K q.O .ro st).over st) o:=fun o x h1 h2 h3 h4=>QU h1 h2 h3 h4
   have hH:∀o,aZ o (aI a)=false→RO st o→RO ((base (aI a) q.K q.O .ro st).over st) o:=fun o _ h=>Lx (Xr (fun _ _=>rfl) h) h
   have hbase:aG ρ σ.next (base (aI a) q.K q.O .ro st) fr σ:=hi.base (st0:=(base (aI a) q.K q.O .ro st).over st) RA (Kp.refl (nr:=false)) hi hro
   refine CW.seq ((p8 hF hI a _ _ _ o fr σ ρ bQ ho (hbase.over hi)).mono ?_)
   rintro e fr' σ' ⟨ρ',st',hi',hkp,hk⟩
   obtain⟨ρ2,S2,fT,h1,g1,_,h3,h2⟩:=AQ (β:=β) hR hi' hk
   rw[h2] at h'
   obtain⟨f1,f2⟩:=finish (K:=q.K) hi hH hro (hkp.trans g1) h1 fun o ho hr=>h3 o ho ((hkp.ob o ho).ro hr).1
   exact fin e _ fr' σ' ρ2 f1 f2 h'
 |.cond c a b=>fun β st k x fr σ ρ bQ h hi=>by
  have h':(match bI [] st c with
   |some (.gU t)=>bif t then bD E R n om F I A a st k else bD E R n om F I A b st k
   |some (.bool t)=>bif t then bD E R n om F I A a (st.zP c true) k else bD E R n om F I A b (st.zP c false) k
   |_=>none)=some x:=h
  have hl:∀i,aZ i (aI (.cond c a b))=false→aZ i (aI a)=false∧aZ i (aI b)=false:=fun i hi=>by
   have hi':aZ i (aI a++aI b)=false:=hi
   rw[F6,Bool.or_eq_false_iff] at hi';exact hi'
  have ha:∀st':MS R.T,st'.ob=st.ob→aG ρ σ.next st' fr σ→bD E R n om F I A a st' k=some x→CW E a fr σ fun e fr' σ'=> ∃ρ' st',aG ρ' σ'.next st' fr' σ'∧Kp (dD (.cond c a b)) (aI (.cond c a b)) st fr σ ρ st' fr' σ' ρ'∧k e st'=some x:=fun st' hs hi' hk=>by
   refine(p8 hF hI a _ st' k x fr σ ρ bQ hk hi').mono ?_
   rintro e vM kD ⟨nk,fT,h1,h2,h3⟩
   exact⟨nk,fT,h1,((⟨h2.fr,fun o ho=>(h2.ob o ho).from hs⟩:Kp (dD a) (aI a) st fr σ ρ fT vM kD nk).mono fun i hi=>(hl i hi).1).nr (fun e=>by simp only[dD,Bool.and_eq_true] at e;exact e.1),h3⟩
  have hb:∀st':MS R.T,st'.ob=st.ob→aG ρ σ.next st' fr σ→bD E R n om F I A b st' k=some x→CW E b fr σ fun e fr' σ'=> ∃ρ' st',aG ρ' σ'.next st' fr' σ'∧Kp (dD (.cond c a b)) (aI (.cond c a b)) st fr σ ρ st' fr' σ' ρ'∧k e st'=some x:=fun st' hs hi' hk=>by
   refine(p8 hF hI b _ st' k x fr σ ρ bQ hk hi').mono ?_
   rintro e vM kD ⟨nk,fT,h1,h2,h3⟩
   exact⟨nk,fT,h1,((⟨h2.fr,fun o ho=>(h2.ob o ho).from hs⟩:Kp (dD b) (aI b) st fr σ ρ fT vM kD nk).mono fun i hi=>(hl i hi).2).nr (fun e=>by simp only[dD,Bool.and_eq_true] at e;exact e.2),h3⟩
  split at h'
  ·rename_i t hc
   refine CW.cond (bA (E:=E) hi .nil hc).qH (fun e=> ?_) (fun e=> ?_)
   ·subst e;exact ha st rfl hi h'
   ·subst e;exact hb st rfl hi h'
  ·rename_i t hc
   have hl:aG ρ σ.next (st.zP c t) fr σ∧(st.zP c t).ob=st.ob:=by
    cases c with
    |tmp j=>exact⟨hi.learn (show Rl R ρ σ.top (.bool t) (fr.tm j) from hi.fr _ _ (aiq hc)).oM,rfl⟩
    |_=>exact⟨hi,rfl⟩
   refine CW.cond (bA (E:=E) hi .nil hc).oM (fun e=> ?_) (fun e=> ?_)
   ·subst e;exact ha _ hl.2 hl.1 h'
   ·subst e;exact hb _ hl.2 hl.1 h'
  ·cases h'
 |.block id c=>fun β st k x fr σ ρ bQ h hi=>by
  have h':(bD E R n om F I A c st fun e st=>match e with
   |.exit i=>bif Nat.beq i id then k .normal st else k (.exit i) st
   |e=>k e st)=some x:=h
  refine CW.block ((p8 hF hI c _ st _ x fr σ ρ bQ h' hi).mono ?_)
  rintro e fr' σ' ⟨ρ',st',hi',hkp,hk⟩
  cases e with
  |normal=>exact⟨ρ',st',hi',hkp,hk⟩
  |ret=>exact⟨ρ',st',hi',hkp,hk⟩
  |exit i=>
   dsimp only at hk
   unfold nL
   dsimp only
   cases hb:Nat.beq i id
   ·rw[hb] at hk
    rw[if_neg (Ls hb)]
    exact⟨ρ',st',hi',hkp,hk⟩
   ·rw[hb] at hk
    rw[if_pos (dY hb)]
    exact⟨ρ',st',hi',hkp,hk⟩
 |.loop c=>fun β st k x fr σ ρ bQ h hi=>by
  have h':(match look A.loops (lK c) with
   |some q=>match jW R (aI c) st q.sh with
    |some p=>(dw (lK c) (aI c) (base (aI c) q.K q.O .ro st) q.sh q.outs (fun st k=>bD E R n om F I A c st k) n p).bind (rW R (base (aI c) q.K q.O (fun b=>b) st) k q.outs)
    |none=>none
   |none=>FQ (R:=R) (fun st k=>bD E R n om F I A c st k) 130 st k)=some x:=h
  split at h'
  ·rename_i q _
   split at h'
   ·rename_i p hp
    obtain⟨o,ho,h'⟩:=Option.bind_eq_some_iff.1 h'
    obtain⟨ρ1,S1,p1,p2,_,p3⟩:=hi.jW (nr:=dD c) hR hp
    have hro:∀o x,look st.ob o=some x→aZ o (aI c)=false→aZ o q.O=true→kY (aI c) x=true→RO ((base (aI c) q.K q.O .ro st).over (unpack R q.sh p)) o:=fun o x h1 h2 h3 h4=>QU h1 h2 h3 h4
    have hH:∀o,aZ o (aI c)=false→RO st o→RO ((base (aI c) q.K q.O .ro st).over (unpack R q.sh p)) o:=fun o ho h=>Xq (p3 o ho h)
    have hB:∀(st' S':MS R.T) (fr':Fr) (σ':ah) (ρ':aO) (b':Nat),aG ρ' b' st' fr' σ'→Kp (dD c) (aI c) ((base (aI c) q.K q.O .ro st).over (unpack R q.sh p)) fr σ ρ S' fr' σ' ρ'→aG ρ' b' (base (aI c) q.K q.O .ro st) fr' σ':=
     fun st' S' fr' σ' ρ' b' h1 h2=>hi.base RA h2 h1 hro
    have hk0:Kp (dD c) (aI c) ((base (aI c) q.K q.O .ro st).over (unpack R q.sh p)) fr σ ρ ((base (aI c) q.K q.O .ro st).over (unpack R q.sh p)) fr σ ρ1:=⟨fun _ _=>rfl,fun q hq=>⟨(p2.ob q hq).ob,(p2.ob q hq).ln,(p2.ob q hq).om,Nat.le_refl _,fun _ _=>rfl,fun _ _ _ _=>rfl,fun hr=>⟨hr,fun _=>⟨rfl,rfl⟩⟩⟩⟩
    refine(Yz (β:=β) hR (p8 hF hI c) bQ hB (fun o=>fun y hy=>by obtain⟨z,_,_,rfl⟩:=uo hy;rfl) n p o fr σ ρ1 ho p1 hk0).mono ?_
    rintro e fr' σ' ⟨ρ',S',st',hi',hkp,hn,hk⟩
    obtain⟨f1,f2⟩:=finish (K:=q.K) hi hH hro hkp hi' hn
    exact⟨ρ',_,f1,f2,by rw[←hk k];exact h'⟩
   ·cases h'
  ·exact YA (p8 hF hI c) 130 st k x fr σ ρ bQ h' hi
 |.rangeFunc f ps a c=>fun β st k x fr σ ρ bQ h hi=>by
  have h':(match look A.loops (lK c) with
   |some q=>match bI [] st f with
    |some (.fn g u v)=>bif nQ u&& nQ v&& xI q.O q.sh.ob&& dD a&& dD c then (match FU u v (I g) with
     |some ⟨el,xs⟩=>match jW R (ps.toList++aI a++aI c) st.obs q.sh with
      |some p=>(xs.bind fun xs=>FT (lK c) (ps.toList++aI a++aI c) (base (ps.toList++aI a++aI c) q.K q.O .ro st) q.sh q.outs (fun x st k=>match Ar st ps.toList (jV R .sh el x) with
        |some st=>bD E R n om F I A a st fun e st=>match e with
         |.normal=>bD E R n om F I A c st k
         |_=>none
        |none=>none) xs p).bind (rW R (base (ps.toList++aI a++aI c) q.K q.O (fun b=>b) st) k q.outs)
      |none=>none
     |none=>none) else none
    |_=>none
   |none=>none)=some x:=h
  split at h'
  ·rename_i q _
   split at h'
   ·rename_i g u v hf
    obtain⟨hst,h'⟩:=dQ h'
    simp only[Bool.and_eq_true] at hst
    obtain⟨⟨hst,hna⟩,hnc⟩:=hst
    split at h'
    ·rename_i el xs hfi
     split at h'
     ·rename_i p hp
      obtain⟨o,ho,h'⟩:=Option.bind_eq_some_iff.1 h'
      obtain⟨ys,hys,ho⟩:=Option.bind_eq_some_iff.1 ho
      obtain⟨va,vb,KE,hva,hvb⟩:=(bA (E:=E) hi .nil hf).mZ
      obtain⟨himp,hel,hit⟩:=YI hR hI hst.1.1 hst.1.2 hva hvb (fun _ h=>h) hfi
      have hit:=hit ys hys
      obtain⟨ρ1,S1,p1,p2,p0,p3⟩:=hi.obs.jW (nr:=false) hR hp
      generalize hW:ps.toList++aI a++aI c=W at*
      have hl:∀i,aZ i W=false→aZ i ps.toList=false∧aZ i (aI a)=false∧aZ i (aI c)=false:=fun i hi=>by
       rw[←hW,F6,F6,Bool.or_eq_false_iff,Bool.or_eq_false_iff] at hi;exact⟨hi.1.1,hi.1.2,hi.2⟩
      have hro:∀o x,look st.ob o=some x→aZ o W=false→aZ o q.O=true→kY W x=true→RO ((base W q.K q.O .ro st).over (unpack R q.sh p)) o:=fun o x h1 h2 h3 h4=>QU h1 h2 h3 h4
      have hH:∀o,aZ o W=false→RO st o→RO ((base W q.K q.O .ro st).over (unpack R q.sh p)) o:=fun o ho h=>Xq (p3 o ho h)
      generalize hHe:(base W q.K q.O .ro st).over (unpack R q.sh p)=H at*
      have hB:∀(st' S':MS R.T) (σ':ah) (ρ':aO) (b':Nat),aG ρ' b' st' fr σ'→Kp false W H fr σ ρ S' fr σ' ρ'→aG ρ' b' (base W q.K q.O .ro st) fr σ':=
       fun st' S' σ' ρ' b' h1 h2=>hi.base RA h2 h1 hro
      have aiA:∀o,RO (base W q.K q.O .ro st) o:=fun o=>fun y hy=>by obtain⟨z,_,_,rfl⟩:=uo hy;rfl
      let r0:mG:={st:=0,pend:=none,fr:=fr,ps:=ps.toList,dM:=a,body:=c}
      let body:{β:Type}→aj R.T el→MS R.T→(Ex→MS R.T→Option β)→Option β:=fun x st k=>match Ar st ps.toList (jV R .sh el x) with
          |some st=>bD E R n om F I A a st fun e st=>match e with
           |.normal=>bD E R n om F I A c st k
           |_=>none
          |none=>none
      let J:List (List V)→ah→Prop:=fun L σ'=> ∃(zs:List (aj R.T el)) (p':nO R.T q.sh) (ρ':aO),L=zs.map (au R el)∧FT (lK c) W (base W q.K q.O .ro st) q.sh q.outs body zs p'=some o∧aG ρ' σ'.next (unpack R q.sh p') fr σ'∧(unpack R q.sh p').fr=[]∧
       Kp false W H fr σ ρ ((base W q.K q.O .ro st).over (unpack R q.sh p')) fr σ' ρ'∧σ'.loops σ.next=some r0
      let Fin:Ex→ah→Prop:=fun e σ'=> ∃(ρ':aO) (S' st':MS R.T),aG ρ' σ'.next st' fr σ'∧Kp false W H fr σ ρ S' fr σ' ρ'∧(∀o,aZ o W=false→RO H o→look st'.ob o=none)∧∀(k:Ex→MS R.T→Option β) (bs:MS R.T),rW R bs k q.outs o=k e (bs.over st')
      let D:ah→Prop:=fun σ'=> ∃e,Fin e σ'∧σ'.loops σ.next=some {r0 with st:=2,pend:=some e}
      have shJ:∀L σ1 σ2,σ.next<σ1.next→J L σ1→Shift 1 σ1 σ2→J L σ2:=by
       rintro L σ1 σ2 hlt ⟨zs,p',ρ',e1,e2,e3,e4,e5,e6⟩ hs
       exact⟨zs,p',ρ',e1,e2,(e3.shift (fun p=>hs.obj 1 p (Nat.le_refl _)) hs.top).le hs.next,e4,⟨e5.fr,fun o ho=>(e5.ob o ho).shift (fun p=>hs.obj 1 p (Nat.le_refl _)) hs.next fun l hl=>hs.loops l (by omega)⟩,(hs.loops _ hlt).trans e6⟩
      have shD:∀σ1 σ2,σ.next<σ1.next→D σ1→Shift 1 σ1 σ2→D σ2:=by
       rintro σ1 σ2 hlt ⟨e,⟨ρ',S',st',e1,e2,e3,e4⟩,e5⟩ hs
       exact⟨e,⟨ρ',S',st',(e1.shift (fun p=>hs.obj 1 p (Nat.le_refl _)) hs.top).le hs.next,⟨e2.fr,fun o ho=>(e2.ob o ho).shift (fun p=>hs.obj 1 p (Nat.le_refl _)) hs.next fun l hl=>hs.loops l (by omega)⟩,e3,e4⟩,(hs.loops _ hlt).trans e5⟩
      have fin:∀(σ2:ah) (r:mG) (e:Ex),Fin e σ2→∃ρ' st',aG ρ' (σ2.kP σ.next).next st' fr (σ2.kP σ.next)∧Kp false (aI (.rangeFunc f ps a c)) st fr σ ρ st' fr (σ2.kP σ.next) ρ'∧k e st'=some x:=by
       rintro σ2 r e ⟨ρ',S',st',e1,e2,e3,e4⟩
       have e1':aG ρ' σ2.next st' fr (σ2.kP σ.next):=e1.shift (fun _=>rfl) (fun _ _=>rfl)
       have e2':Kp false W H fr σ ρ S' fr (σ2.kP σ.next) ρ':=⟨e2.fr,fun o ho=>(e2.ob o ho).shift (fun _=>rfl) (Nat.le_refl _) fun l hl=>by
        show upd σ2.loops σ.next none l=_
        unfold upd;rw[if_neg (by omega)]⟩
       obtain⟨f1,f2⟩:=finish (K:=q.K) hi hH hro e2' e1' e3
       refine⟨ρ',_,f1, ?_,by rw[←e4 k];exact h'⟩
       show Kp false (ps.toList++aI a++aI c) _ _ _ _ _ _ _ _
       rw[hW];exact f2
      refine CW.range KE himp ?_
      rw[hi.d]
      have hent:(σ.enter fr ps a c).next=σ.next+1:=rfl
      obtain⟨m,w,σ2,hm,hnx,hJD⟩:=hit 1 σ.next (σ.enter fr ps a c) J D shJ shD (by
       rintro y L σ1 hlt ⟨zs,p',ρ',e1,e2,e3,e4,e5,e6⟩
       cases zs with
       |nil=>cases e1
       |cons z zs=>
        simp only[List.map_cons,List.cons.injEq] at e1
        obtain⟨rfl,rfl⟩:=e1
        have hbase:=hB _ _ _ _ _ e3 e5
        have e2':body z ((base W q.K q.O .ro st).over (unpack R q.sh p')) (RD (lK c) W (base W q.K q.O .ro st) q.sh q.outs body zs)=some o:=e2
        show∃c' σ',uF E σ.next (au R el z) σ1 c' σ'∧_
        generalize hkk:RD (lK c) W (base W q.K q.O .ro st) q.sh q.outs body zs=kk at e2'
        dsimp only[body] at e2'
        split at e2'
        ·rename_i st1 wW
         obtain⟨hlen,i1,i2⟩:=YE wW (uD hR el z hel) (hbase.over e3)
         have Gf:ρ'.om=om:=e5.om.trans bQ
         obtain⟨m1,x1,bK,σ2,q1,ρ2,st2,q2,q3,q4⟩:=p8 hF hI a _ _ _ _ _ _ ρ' Gf e2' i1
         cases x1 with
         |exit i=>cases q4
         |ret=>cases q4
         |normal=>
          dsimp only at q4
          obtain⟨nb,hnb⟩:=AP (aI a)
          have lp2:σ2.loops σ.next=some r0:=((q3.ob nb (hnb nb (Nat.le_refl _))).lp _ hlt).trans e6
          have YK:=(q3.ob nb (hnb nb (Nat.le_refl _))).nx
          have q2':aG ρ2 σ2.next st2 bK (σ2.fA σ.next {r0 with st:=1}):=q2.shift (fun _=>rfl) (fun _ _=>rfl)
          obtain⟨m2,x2,fD,σ3,t1,ρ3,rQ,t2,t3,t4⟩:=p8 hF hI c _ _ _ _ bK (σ2.fA σ.next {r0 with st:=1}) ρ2 (q3.om.trans Gf) q4 q2'
          obtain⟨nc,hnb'⟩:=AP (aI c)
          have lp3:σ3.loops σ.next=some {r0 with st:=1}:=((t3.ob nc (hnb' nc (Nat.le_refl _))).lp _ (show σ.next<σ2.next by omega)).trans (by show upd σ2.loops σ.next _ σ.next=_;unfold upd;rw[if_pos rfl])
          have RH:σ2.next≤σ3.next:=(t3.ob nc (hnb' nc (Nat.le_refl _))).nx
          have keep:∀p,aZ p W=false→bB false p H ρ σ rQ ρ3 σ3:=fun p hp=>by
           have k1:=e5.ob p hp
           have k2:bB false p ((base W q.K q.O .ro st).over (unpack R q.sh p')) ρ' σ1 st2 ρ2 σ2:=(q3.ob p (hl p hp).2.1).weak.from i2
           have k3:=(t3.ob p (hl p hp).2.2).weak
           have k12:=k1.trans k2
           refine⟨k3.ob.trans k12.ob,k3.ln.trans k12.ln,k3.om.trans k12.om,Nat.le_trans k12.nx RH,fun l hl=> ?_,(fun e=>by cases e),fun hr=> ?_⟩
           ·refine(k3.lp l (show l<σ2.next by have:=k12.nx;omega)).trans (Eq.trans ?_ (k12.lp l hl))
            show upd σ2.loops σ.next _ l=_
            unfold upd;rw[if_neg (by omega)]
           ·have r1:=k12.ro hr
            have r2:=k3.ro r1.1
            exact⟨r2.1,fun s=>⟨(r2.2 s).1.trans (r1.2 s).1,(r2.2 s).2.trans (r1.2 s).2⟩⟩
          have fd:∀(r':mG),aG ρ3 σ3.next rQ.obs fD (σ3.fA σ.next r'):=fun r'=>t2.obs.shift (fun _=>rfl) (fun _ _=>rfl)
          have keep':∀(r':mG),∀p,aZ p W=false→bB false p H ρ σ rQ.obs ρ3 (σ3.fA σ.next r'):=fun r' p hp=>((keep p hp).congr (fT:=rQ.obs) rfl).shift (kD:=σ3.fA σ.next r') (fun _=>rfl) (Nat.le_refl _) fun l hl=>by
           show upd σ3.loops σ.next _ l=_
           unfold upd;rw[if_neg (by omega)]
          have YL:∀(r':mG),(σ3.fA σ.next r').loops σ.next=some r':=fun r'=>by show upd σ3.loops σ.next _ σ.next=_;unfold upd;rw[if_pos rfl]
          have deep:∀(r':mG) a o,1<a→(σ3.fA σ.next r').obj (a,o)=σ1.obj (a,o):=fun r' a o ha=>
           ((t3.ob nc (hnb' nc (Nat.le_refl _))).dp hnc a o ha).trans ((q3.ob nb (hnb nb (Nat.le_refl _))).dp hna a o ha)
          have loops:∀(r':mG) s,s<σ1.next→(σ3.fA σ.next r').loops s=σ1.loops s∨s=σ.next:=fun r' s hs=>by
           by_cases es:s=σ.next
           ·exact .inr es
           ·left
            have u1:(σ3.fA σ.next r').loops s=σ3.loops s:=by show upd σ3.loops σ.next _ s=_;unfold upd;rw[if_neg es]
            have u2:(σ2.fA σ.next {r0 with st:=1}).loops s=σ2.loops s:=by show upd σ2.loops σ.next _ s=_;unfold upd;rw[if_neg es]
            exact u1.trans (((t3.ob nc (hnb' nc (Nat.le_refl _))).lp s (show s<σ2.next by omega)).trans (u2.trans ((q3.ob nb (hnb nb (Nat.le_refl _))).lp s hs)))
          have YM:∀(bb:Bool) (σ':ah),YB r0 σ.next σ3 x2 bb σ'→uF E σ.next (au R el z) σ1 bb σ':=fun bb σ' hbb=>
           uF.of e6 rfl hlen ⟨m1,.normal,bK,σ2,q1,rfl,r0,lp2,rfl,m2,x2,fD,σ3,t1,_,lp3,rfl,by cases x2<;>exact hbb⟩
          have stop:∀e,YB r0 σ.next σ3 x2 false (σ3.fA σ.next {r0 with st:=2,pend:=some e})→pO R W e rQ.obs q.outs=some o→∃c' σ',uF E σ.next (au R el z) σ1 c' σ'∧σ1.next≤σ'.next∧(∀a o,1<a→σ'.obj (a,o)=σ1.obj (a,o))∧(∀s,s<σ1.next→σ'.loops s=σ1.loops s∨s=σ.next)∧(c'=true→J (zs.map (au R el)) σ')∧(c'=false→D σ'):=by
           intro e he hpk
           obtain⟨ρ4,S4,zK,g1,g2,g3,g4,g5⟩:=AQ (nr:=false) (β:=β) hR (fd {r0 with st:=2,pend:=some e}) hpk
           refine⟨false,σ3.fA σ.next {r0 with st:=2,pend:=some e},YM _ _ he,Nat.le_trans YK RH,deep _,loops _,(fun h=>by cases h),fun _=>⟨e,⟨ρ4,S4,zK,g1.YD (g3 rfl) hi.d (hi.om.trans ?_),⟨fun _ _=>rfl,fun p hp=>(keep' _ p hp).trans (g2.ob p hp)⟩,fun p hp hr=>g4 p hp ((keep p hp).ro hr).1,g5⟩,YL _⟩⟩
           obtain⟨nw,hnw⟩:=AP W
           have:=(keep nw (hnw nw (Nat.le_refl _))).om
           rw[g2.om,this]
          cases x2 with
          |normal=>
           rw[←hkk] at t4
           unfold RD at t4
           dsimp only at t4
           split at t4
           ·rename_i p4 hp4
            obtain⟨ρ4,S4,g1,g2,g3,g4⟩:=(fd {r0 with st:=0,pend:=none}).jW (nr:=false) hR hp4
            refine⟨true,σ3.fA σ.next {r0 with st:=0,pend:=none},YM _ _ ⟨rfl,rfl⟩,Nat.le_trans YK RH,deep _,loops _,fun _=>⟨zs,p4,ρ4,rfl,t4,g1.YD (g3 rfl) hi.d (hi.om.trans ?_),g3 rfl,⟨fun _ _=>rfl,fun p hp=> ?_⟩,YL _⟩,fun h=>by cases h⟩
            ·obtain⟨nw,hnw⟩:=AP W
             have:=(keep nw (hnw nw (Nat.le_refl _))).om
             rw[g2.om,this]
            ·have kk:=(keep' {r0 with st:=0,pend:=none} p hp).trans (g2.ob p hp)
             exact⟨kk.ob,kk.ln,kk.om,kk.nx,kk.lp,kk.dp,fun hr=>⟨Lx (aiA p) fun y hy=>(by rw[g4 p hp ((keep p hp).ro hr).1] at hy;cases hy),(kk.ro hr).2⟩⟩
           ·cases t4
          |exit i=>rw[←hkk] at t4;exact stop (.exit i) ⟨rfl,rfl⟩ t4
          |ret=>rw[←hkk] at t4;exact stop .ret ⟨rfl,rfl⟩ t4
        ·cases e2') (Nat.lt_succ_self _) (by
       refine⟨ys,p,ρ1,rfl,ho,(p1.shift (σ':=σ.enter fr ps a c) (fun _=>rfl) (fun _ _=>rfl)).le (Nat.le_succ _),p0 rfl,⟨fun _ _=>rfl,fun o ho=> ?_⟩, ?_⟩
       ·rw[hHe]
        exact⟨(p2.ob o ho).ob,(p2.ob o ho).ln,(p2.ob o ho).om,Nat.le_succ _,fun l hl=>(by show upd σ.loops σ.next _ l=_;unfold upd;rw[if_neg (by omega)]),(fun e=>by cases e),fun hr=>⟨hr,fun _=>⟨rfl,rfl⟩⟩⟩
       ·show upd σ.loops σ.next _ σ.next=_;unfold upd;rw[if_pos rfl])
      refine⟨m,w,σ2,hm, ?_⟩
      rcases hJD with ⟨zs,p',ρ',e1,e2,e3,e4,e5,e6⟩| ⟨e,hfin,e6⟩
      ·cases zs with
       |cons z zs=>cases e1
       |nil=>
        have e2':pO R W .normal (unpack R q.sh p').obs q.outs=some o:=e2
        obtain⟨ρ4,S4,zK,g1,g2,g3,g4,g5⟩:=AQ (nr:=false) (β:=β) hR e3.obs e2'
        have hno:∀p,aZ p W=false→RO H p→look (unpack R q.sh p').ob p=none:=fun p hp hr=>aiy hst.2 ((e5.ob p hp).ro hr).1
        have Mc:∀p,aZ p W=false→RO H p→RO (unpack R q.sh p').obs p:=fun p hp hr y hy=>by
         have:look (unpack R q.sh p').ob p=some y:=hy
         rw[hno p hp hr] at this;cases this
        exact⟨_,e6,(by show (0:Nat)≠1;omega),fin σ2 r0 .normal ⟨ρ4,S4,zK,g1,⟨fun _ _=>rfl,fun p hp=>by
         have a1:=e5.ob p hp
         have a2:=g2.ob p hp
         exact⟨a2.ob.trans a1.ob,a2.ln.trans a1.ln,a2.om.trans a1.om,Nat.le_trans a1.nx a2.nx,fun l hl=>(a2.lp l (Nat.lt_of_lt_of_le hl a1.nx)).trans (a1.lp l hl),(fun e=>by cases e),fun hr=>⟨(a2.ro (Mc p hp hr)).1,fun s=>⟨((a2.ro (Mc p hp hr)).2 s).1.trans ((a1.ro hr).2 s).1,((a2.ro (Mc p hp hr)).2 s).2.trans ((a1.ro hr).2 s).2⟩⟩⟩⟩,fun p hp hr=>g4 p hp (Mc p hp hr),g5⟩⟩
      ·exact⟨_,e6,(by show (2:Nat)≠1;omega),fin σ2 r0 e hfin⟩
     ·cases h'
    ·cases h'
   ·cases h'
  ·cases h'
 |.scope _=>fun _ st k x fr σ ρ _ h hi=>by cases h
 |.label _=>fun _ st k x fr σ ρ _ h hi=>by cases h
 |.goto _=>fun _ st k x fr σ ρ _ h hi=>by cases h
 |.refuse _=>fun _ st k x fr σ ρ _ h hi=>by cases h
omit hR in
theorem Gj {ρ:aO} {b:Nat} {st:MS R.T} {fr:Fr} {σ:ah} (hi:aG ρ b st fr σ):∀{rs:List ResultVar} {jl:List (TV R.T)},rY E R st rs=some jl→∃vs,rs.mapM (iD E fr σ)=some vs∧aA R ρ σ.top jl vs
 | [],jl,h=>by cases h;exact⟨[],rfl,rfl⟩
 |.tmp t::l,jl,h=>by
  unfold rY at h
  split at h
  ·rename_i v hv
   split at h
   ·rename_i vs hvs
    cases h
    obtain⟨ws,h1,h2⟩:=Gj hi hvs
    have:=bA (E:=E) hi .nil hv
    exact⟨fr.tm t::ws,by rw[List.mapM_cons];simp[iD,h1],.cons' this h2⟩
   ·cases h
  ·cases h
 |.cell a t::l,jl,h=>by
  unfold rY at h
  split at h
  ·rename_i o off hv
   split at h
   ·rename_i cs hl
    split at h
    ·rename_i v hld
     split at h
     ·rename_i vs hvs
      cases h
      obtain⟨ws,h1,h2⟩:=Gj hi hvs
      obtain⟨s,h3,h4⟩:=(bA (E:=E) hi .nil hv).mY
      rw[zL] at h4
      obtain⟨s',l',h5,h6,h7⟩:=hi.rd hl
      rw[h3] at h5;cases h5
      obtain⟨y,hy,hr⟩:=uw h7 hld
      exact⟨y::ws,by rw[List.mapM_cons];simp[iD,h4,h6,hy,h1],.cons' hr h2⟩
     ·cases h
    ·cases h
   ·rename_i ss hl
    split at h
    ·rename_i v hld
     split at h
     ·rename_i vs hvs
      cases h
      obtain⟨ws,h1,h2⟩:=Gj hi hvs
      obtain⟨s,h3,h4⟩:=(bA (E:=E) hi .nil hv).mY
      rw[zL] at h4
      obtain⟨s',h5,h6⟩:=hi.rd hl
      rw[h3] at h5;cases h5
      obtain⟨y,hy,hr⟩:=Yc (ρ:=ρ) (top:=σ.top) hld
      exact⟨y::ws,by rw[List.mapM_cons];simp[iD,h4,h6,hy,h1],.cons' hr h2⟩
     ·cases h
    ·cases h
   ·cases h
  ·cases h
omit hR in
theorem RI:∀(l:List (TV R.T)) (vs:List V) (i:Nat) (P:TV R.T→V→Prop),(∀j v,l[j]? =some v→P v (vs.getD j ay))→∀j v,look (xJ i l) j=some v→i≤j∧P v (vs.getD (j-i) ay)
 | [],vs,i,P,_,j,v,h=>by cases h
 |x::l,vs,i,P,hp,j,v,h=>by
  have h':look ((i,x)::xJ (i+1) l) j=some v:=h
  by_cases e:j=i
  ·subst e
   rw[lM] at h';cases h'
   exact⟨Nat.le_refl _,by simpa using hp 0 x rfl⟩
  ·rw[jq _ _ e] at h'
   obtain⟨h1,h2⟩:=RI l vs.tail (i+1) P (fun j v hj=>by
    have:=hp (j+1) v (by simpa using hj)
    cases vs<;>simpa using this) j v h'
   refine⟨by omega, ?_⟩
   have e2:j-i=(j-(i+1))+1:=by omega
   rw[e2]
   cases vs<;>simpa using h2
theorem bJ {n:Nat} {om:Bool} {F:Nat→List (FR R)} {I:Nat→List (FI R)} (hF:aS E F) (hI:vQ E I) {A:bH} {f:Nat} {fn:Func} {args res:List Sk} {p:aj R.T args} {x:aj R.T res} (h:bO E R n om F I A fn args res p=some x) (hf:E.P.funcs[f]? =some fn) (ha:iN args=true)
 (hlen:(au R args p).length=args.length) (bQ:E.om f=om) (hs:E.kJ f=none) (hok:(match fn.body with|some c=>decide (args.length≤fn.ntmps)&& fC fn.ntmps c|none=>false)=true):Pure E f (au R args p) (aV (au R res x)):=by
 unfold bO at h
 split at h
 ·rename_i c hc
  rw[hc] at hok;dsimp only at hok
  refine Pure.of' fn.results.toList hf hc (fun fr σ hd ho ht=> ?_) rfl (by rw[hlen];exact hok) hs
  have hi:aG ⟨fun _=>none,fun _=>none,fun _=>0,om⟩ σ.next (⟨xJ 0 (jV R .sh args p),[]⟩:MS R.T) fr σ:={
   d:=hd
   om:=by rw[ho,bQ]
   fr:=fun i v hv=>by
    obtain⟨_,h2⟩:=RI _ (au R args p) 0 (fun v w=>Rl R ⟨fun _=>none,fun _=>none,fun _=>0,om⟩ σ.top v w) (fun j v hj=>by
     obtain⟨w,h1,h2⟩:=(uD hR args p ha).get hj
     rw[List.getD_eq_getElem?_getD,h1];exact h2) i v hv
    rw[ht]
    exact .of (by simpa using h2)
   ob:=fun o x hx=>by cases hx
   inj:=fun t u s h=>by cases h
   lt:=fun t s h=>by cases h}
  refine(p8 hR hF hI c _ _ _ x fr σ _ rfl h hi).mono ?_
  rintro e fr' σ' ⟨ρ',st',hi',_,hk⟩
  have key:(match rY E R st' fn.results.toList with
   |some vs=>bif iN res&& Nat.ble (mU res) 16 then gD R res (l7 st' vs) else none
   |none=>none)=some x→∃vs,fn.results.toList.mapM (iD E fr' σ')=some vs∧aP 20 σ' (match vs with| [v]=>v|vs=>.bP vs)=some (aV (au R res x)):=by
   intro hk
   split at hk
   ·rename_i jl RJ
    obtain⟨hb,hk⟩:=dQ hk
    rw[Bool.and_eq_true] at hb
    obtain⟨vs,h1,h2⟩:=Gj hi' RJ
    refine⟨vs,h1, ?_⟩
    have apm:=Nat.le_of_ble_eq_true hb.2
    obtain⟨vs',v1,v2⟩:=F9 hR hi' h2
    have c1:=(v2 15).trans (pY hR res x (l7 st' jl) vs' hb.1 hk v1 19 σ' (by omega))
    have c2:=(v2 16).trans (pY hR res x (l7 st' jl) vs' hb.1 hk v1 20 σ' (by omega))
    clear v1 v2
    match vs,c1,c2 with
    | [],c1,c2=>
      have:au R res x=[]:=by simpa using c1.symm
      rw[this]
      show aP 20 σ' (.bP [])=some (.bP [])
      rw[Qc];rfl
    | [v],c1,c2=>
      rw[List.mapM_cons] at c2
      obtain⟨w,hw,c2⟩:=Option.bind_eq_some_iff.1 c2
      have:[w]=au R res x:=by simpa using c2
      rw[←this];exact hw
    |v::w::vs,c1,c2=>
     show aP 20 σ' (.bP (v::w::vs))=_
     rw[Qc,c1,Option.map_some]
     have hl:(au R res x).length=(v::w::vs).length:=by
      have:∀(l:List V) (m:List V),l.mapM (aP 19 σ')=some m→m.length=l.length:=by
       intro l
       induction l with
       |nil=>intro m h;cases h;rfl
       |cons a l ih=>
        intro m h
        rw[List.mapM_cons] at h
        obtain⟨b,hb,h⟩:=Option.bind_eq_some_iff.1 h
        obtain⟨c,hc,h⟩:=Option.bind_eq_some_iff.1 h
        cases h
        simp[ih c hc]
      exact this _ _ c1
     match au R res x,hl with
     |a::b::l,_=>rfl
   ·cases hk
  cases e with
  |exit i=>cases hk
  |normal=>exact key hk
  |ret=>exact key hk
 ·cases h
theorem RL {n:Nat} {om:Bool} {F:Nat→List (FR R)} {I:Nat→List (FI R)} (hF:aS E F) (hI:vQ E I) {A:bH} {f:Nat} {fn:Func} {args:List Sk} {τ:Ty} {p:aj R.T args} {x:List (Den R.T τ)} (h:FV E R n om F I A fn args τ p=some x) (hf:E.P.funcs[f]? =some fn) (ha:iN args=true)
 (hlen:(au R args p).length=args.length) (bQ:E.om f=om) (hs:E.kJ f=none) (hok:(match fn.body with|some c=>decide (args.length≤fn.ntmps)&& fC fn.ntmps c|none=>false)=true):
 Pure E f (au R args p) (.ak .sh (x.map (aF R τ)))∧lZ E f (au R args p) (cZ R τ) (x.map (aF R τ)):=by
 unfold FV at h
 split at h
 ·rename_i c hc
  rw[hc] at hok;dsimp only at hok
  have hi:aG ⟨fun _=>none,fun _=>none,fun _=>0,om⟩ ah.init.next (⟨xJ 0 (jV R .sh args p),[]⟩:MS R.T) ({d:=1,om:=E.om f,tm:=fun i=>(au R args p).getD i ay}:Fr) ah.init:={
   d:=rfl
   om:=bQ
   fr:=fun i v hv=>by
    obtain⟨_,h2⟩:=RI _ (au R args p) 0 (fun v w=>Rl R ⟨fun _=>none,fun _=>none,fun _=>0,om⟩ ah.init.top v w) (fun j v hj=>by
     obtain⟨w,h1,h2⟩:=(uD hR args p ha).get hj
     rw[List.getD_eq_getElem?_getD,h1];exact h2) i v hv
    exact .of (by simpa using h2)
   ob:=fun o x hx=>by cases hx
   inj:=fun t u s h=>by cases h
   lt:=fun t s h=>by cases h}
  have himp:kM E f (au R args p) 1 ah.init (fun v σ1=> ∃c,v= .ak c (x.map (aF R τ))∧(c= .nil∨c= .full∨∃s,c= .own (cZ R τ) s∧σ1.top s=(x.map (aF R τ)).length)):=by
   refine kM.of hf hc (by rw[hlen];exact hok) ((p8 hR hF hI c _ _ _ x _ ah.init _ rfl h hi).mono ?_)
   rintro e fr' σ' ⟨ρ',st',hi',_,hk⟩
   have key:(match rY E R st' fn.results.toList with
    |some [v]=>bif QD v then xw R τ v else none
    |_=>none)=some x→∃vs,fn.results.toList.mapM (iD E fr' σ')=some vs∧∃c:Cap,(match vs with| [v]=>v|vs=>V.bP vs)=V.ak c (x.map (aF R τ))∧(c= .nil∨c= .full∨∃s,c= .own (cZ R τ) s∧σ'.top s=(x.map (aF R τ)).length):=by
    intro hk
    split at hk
    ·rename_i tv RJ
     obtain⟨hb,hk⟩:=dQ hk
     obtain⟨vs,h1,h2⟩:=Gj hi' RJ
     obtain⟨v,l,rfl,h3,h4⟩:=h2.eD
     rw[h4.fP] at h1
     refine⟨[v],h1, ?_⟩
     unfold xw at hk
     split at hk
     ·rename_i cp τ' l0 _
      obtain⟨e,e2⟩:=pU hk;subst e;cases e2
      obtain⟨c',rfl,hc'⟩:=h3.jY
      refine⟨c',rfl, ?_⟩
      cases cp<;>simp only[QD,Bool.false_eq_true] at hb
      ·exact .inr (.inl hc')
      ·rcases hc' with rfl|rfl| ⟨s,rfl,_,ht⟩
       ·exact .inl rfl
       ·exact .inr (.inl rfl)
       ·exact .inr (.inr ⟨s,rfl,by rw[List.length_map];exact ht⟩)
     ·cases hk
      exact⟨.nil,h3.nT,.inl rfl⟩
     ·cases hk
    ·cases hk
   cases e with
   |exit i=>cases hk
   |normal=>exact key hk
   |ret=>exact key hk
  obtain⟨m,v,σ1,hm,cp,rfl,hcp⟩:=himp
  have hpc:aX (x.map (aF R τ))=true:=by
   have:=Fw (ng hR τ) x
   simpa [aC] using this
  refine⟨⟨m, ?_⟩,.of hm hpc hcp⟩
  simp only[nC,hs,hm,Option.bind_some]
  exact uY _ _ (ng hR τ)
 ·cases h
end
end Aq
