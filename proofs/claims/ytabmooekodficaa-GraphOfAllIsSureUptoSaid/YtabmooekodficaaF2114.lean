import Derived.Test.YtabmooekodficaaF2113
set_option linter.all false
section
namespace Aq
open Go
section
variable {R:Reg} {E:Env} (hR:RegOK R)
include hR
def yU (E:Env) (om:Bool) (c:Code) (body:{β:Type}->MS R.T->(Ex->MS R.T->Option β)->Option β):Prop:=
 ∀(β:Type) (st:MS R.T) (k:Ex->MS R.T->Option β) (x:β) (fr:Fr) (σ:Sig) (ρ:ak),ρ.om.om=om->body st k=some x->aj ρ σ.next st fr σ->CW E c fr σ fun e fr' σ'=>∃ρ' st',aj ρ' σ'.next st' fr' σ'/\Kp (quietC E c) (wrC E c) st fr σ ρ st' fr' σ' ρ'/\k e st'=some x
omit hR in
theorem yV:∀(ρ:ak) (σ:Sig) (o:Nat) (x:Ob R.T),aK (R:=R) ρ σ o x->aK (R:=R) ρ σ o (.ro x):=fun _ _ _ _ h=>h
theorem ET {om:Bool} {β:Type} {c:Code} {key:Nat} {sh:Shape} {outs:List (Ex×Shape)} {body:{β:Type}->MS R.T->(Ex->MS R.T->Option β)->Option β} (hb:yU E om c body) {H B:MS R.T} {yX:Fr} {σ0:Sig} {ρ0:ak} (hom:ρ0.om.om=om)
 (hB:∀(st' S':MS R.T) (fr':Fr) (σ':Sig) (ρ':ak) (b':Nat),aj ρ' b' st' fr' σ'->Kp (quietC E c) (wrC E c) H yX σ0 ρ0 S' fr' σ' ρ'->aj ρ' b' B fr' σ') (hro:∀o,RO B o):
 ∀(m:Nat) (p:Pay R.T sh) (o:Out R.T outs) (fr:Fr) (σ:Sig) (ρ:ak),loopF key (wrC E c) B sh outs body m p=some o->aj ρ σ.next (unpack R sh p) fr σ->Kp (quietC E c) (wrC E c) H yX σ0 ρ0 (B.over (unpack R sh p)) fr σ ρ->
 CW E (.loop c) fr σ fun e fr' σ'=>∃ρ' S' st',aj ρ' σ'.next st' fr' σ'/\Kp (quietC E c) (wrC E c) H yX σ0 ρ0 S' fr' σ' ρ'/\(∀o,memN o (wrC E c)=false->RO H o->look st'.ob o=none)/\∀(k:Ex->MS R.T->Option β) (bs:MS R.T),unpackOut R bs k outs o=k e (bs.over st')
 |0,p,o,fr,σ,ρ,h,_,_=>by cases h
 |m+1,p,o,fr,σ,ρ,h,hi,hkp=>by
  unfold loopF at h
  have hbase:aj ρ σ.next B fr σ:=hB _ _ _ _ _ _ hi hkp
  refine CW.loop ((hb _ _ _ _ fr σ ρ ((congrArg Cx.om hkp.om).trans hom) h (hbase.over hi)).mono ?_)
  rintro e fr' σ' ⟨ρ',st',hi',jv,hk⟩
  have hall:=hkp.trans jv
  cases e with
  |normal=>
   dsimp only at hk
   split at hk
   ·rename_i p' hp'
    obtain⟨ρ2,S2,h1,h2,_,h3⟩:=hi'.packW hR hp'
    have kM:=hall.trans h2
    refine ET hb hom hB hro m p' o fr' σ' ρ2 hk h1 ⟨kM.fr,fun q hq=>⟨(kM.ob q hq).ob,(kM.ob q hq).ln,(kM.ob q hq).om,(kM.ob q hq).nx,(kM.ob q hq).lp,(kM.ob q hq).dp,fun hr=>⟨?_,((kM.ob q hq).ro hr).2⟩⟩⟩
    exact pR (hro q) fun x hx=>(by rw[h3 q hq ((hall.ob q hq).ro hr).1] at hx;cases hx)
   ·cases hk
  |exit i=>
   obtain⟨ρ2,S2,bn,h1,h2,_,h3,h4⟩:=ny (β:=β) hR hi' hk
   exact⟨ρ2,S2,bn,h1,hall.trans h2,fun q hq hr=>h3 q hq ((hall.ob q hq).ro hr).1,h4⟩
  |ret=>
   obtain⟨ρ2,S2,bn,h1,h2,_,h3,h4⟩:=ny (β:=β) hR hi' hk
   exact⟨ρ2,S2,bn,h1,hall.trans h2,fun q hq hr=>h3 q hq ((hall.ob q hq).ro hr).1,h4⟩
omit hR in
theorem EU {om:Bool} {c:Code} {body:{β:Type}->MS R.T->(Ex->MS R.T->Option β)->Option β} (hb:yU E om c body) {β:Type}:∀(m:Nat) (st:MS R.T) (k:Ex->MS R.T->Option β) (x:β) (fr:Fr) (σ:Sig) (ρ:ak),ρ.om.om=om->unrF (R:=R) (fun st k=>body st k) m st k=some x->aj ρ σ.next st fr σ->
 CW E (.loop c) fr σ fun e fr' σ'=>∃ρ' st',aj ρ' σ'.next st' fr' σ'/\Kp (quietC E c) (wrC E c) st fr σ ρ st' fr' σ' ρ'/\k e st'=some x
 |0,st,k,x,fr,σ,ρ,_,h,_=>by cases h
 |m+1,st,k,x,fr,σ,ρ,hom,h,hi=>by
  unfold unrF at h
  refine CW.loop ((hb _ _ _ _ fr σ ρ hom h hi).mono ?_)
  rintro e fr' σ' ⟨ρ',st',hi',jv,hk⟩
  cases e with
  |normal=>
   dsimp only at hk
   by_cases hW:True
   ·refine(EU hb m st' k x fr' σ' ρ' ?_ hk hi').mono ?_
    ·exact(congrArg Cx.om jv.om).trans hom
    ·rintro e kE bL ⟨fO,bn,h1,h2,h3⟩
     exact⟨fO,bn,h1,jv.trans h2,h3⟩
   ·exact absurd trivial hW
  |exit i=>exact⟨ρ',st',hi',jv,hk⟩
  |ret=>exact⟨ρ',st',hi',jv,hk⟩
omit hR in
def yY {X:Type} (key:Nat) (W:List Nat) (b:MS R.T) (sh:Shape) (outs:List (Ex×Shape)) (body:{β:Type}->X->MS R.T->(Ex->MS R.T->Option β)->Option β) (xs:List X) (e:Ex) (st:MS R.T):Option (Out R.T outs):=match e with
    |.normal=>match packW R W st.obs sh with
     |some p=>foldF key W b sh outs body xs p
     |none=>none
    |e=>packOut R W e st.obs outs
omit hR in
def EW (r0:eT) (l:Nat) (σ3:Sig) (x:Ex) (bb:Bool) (σ':Sig):Prop:=match x with
 |.normal=>bb=true/\σ'=σ3.aY l {r0 with st:=0,pend:=none}
 |e=>bb=false/\σ'=σ3.aY l {r0 with st:=2,pend:=some e}
omit hR in
theorem aj.EX {ρ:ak} {b:Nat} {st:MS R.T} {fr fr':Fr} {σ:Sig} (h:aj ρ b st fr σ) (he:st.fr=[]) (hd:fr'.d=ρ.om.dp) (ho:fr'.om=ρ.om.om):aj ρ b st fr' σ:={h with
 d:=hd
 om:=ho
 fr:=fun i v hv=>by rw[he] at hv;cases hv}
omit hR in
theorem aj.obs {ρ:ak} {b:Nat} {st:MS R.T} {fr:Fr} {σ:Sig} (h:aj ρ b st fr σ):aj ρ b st.obs fr σ:={h with
 fr:=fun i v hv=>by cases hv
 ob:=h.ob}
omit hR in
theorem au.weak {nr:Bool} {o:Nat} {st st':MS R.T} {ρ ρ':ak} {σ σ':Sig} (h:au nr o st ρ σ st' ρ' σ'):au false o st ρ σ st' ρ' σ':=⟨h.ob,h.ln,h.om,h.nx,h.lp,fun L hL=>h.dp L (.inr (by rcases hL with e|e;cases e;exact e)),h.ro⟩
omit hR in
theorem au.shift {o:Nat} {st st':MS R.T} {ρ ρ':ak} {σ σ' bL:Sig} (h:au false o st ρ σ st' ρ' σ') (hp:∀L:Loc,L.1<=ρ.om.dp->bL.obj L=σ'.obj L) (hn:σ'.next<=bL.next) (hl:∀l,l<σ.next->bL.loops l=σ'.loops l) (ht:∀s,s<ρ.om.lo->bL.top s=σ'.top s):au false o st ρ σ st' ρ' bL:=
 ⟨h.ob,h.ln,h.om,Qw h.nx hn,⟨fun l hl'=>(hl l hl').trans (h.lp.1 l hl'),fun s hs=>(ht s hs).trans (h.lp.2 s hs)⟩,fun L hL ho=>(hp L (by rcases hL with e|e;cases e;exact e)).trans (h.dp L hL ho),fun hr=>⟨(h.ro hr).1,fun s=>by
   have:=(h.ro hr).2 s
   unfold Sig.cellsAt Sig.aV at this⊢
   rw[hp _ (ρ.om.gZ o)];exact this⟩⟩
omit hR in
theorem EY {c c':Cx} (h:c'=c) (p:Nat):(c'.lc p).1<=c.dp:=by rw[<-h];exact c'.gZ p
def iB (E:Env) (c:Code):Bool:=(wrC E c).all fun d=>Nat.blt d F0
omit hR in
theorem qB {c:Code} (h:iB E c=true):∀d,memN d (wrC E c)=true->d<F0:=fun d hd=>by
 unfold iB at h
 rw[QK] at h
 have:=h d (Er hd)
 unfold Nat.blt at this
 exact QJ this
omit hR in
theorem EZ {ρ:ak} {b:Nat} {σ:Sig}:∀{ps:List Nat} {tvs:List (TV R.T)} {vs:List V} {st st':MS R.T} {fr:Fr},putPs st ps tvs=some st'->RlL R ρ σ.top tvs vs->aj ρ b st fr σ->ps.length=vs.length/\aj ρ b st' {fr with tm:=(ps.zip vs).foldl (fun tm (p,a)=>upd tm p a) fr.tm} σ/\st'.ob=st.ob
 | [],[],vs,st,st',fr,h,hr,hi=>by
   cases h;rw[hr.inv_nil];exact⟨rfl,hi,rfl⟩
 | [],_::_,_,_,_,_,h,_,_=>by cases h
 |_::_,[],_,_,_,_,h,_,_=>by cases h
 |i::ps,t::tvs,vs,st,st',fr,h,hr,hi=>by
  obtain⟨v,ws,rfl,h1,h2⟩:=hr.inv_cons
  obtain⟨a1,a2,a3⟩:=EZ (fr:=fr.set i v) (show putPs (st.put i t) ps tvs=some st' from h) h2 (hi.put i (.of h1))
  exact⟨by simp[a1],a2,a3⟩
omit hR in
theorem E8 {k:ObSk} {x:PayO R.T k}:isRo (upO R k x)=false:=by cases k<;>rfl
omit hR in
theorem yZ {o:Nat} {y:Ob R.T} {O:List Nat}:∀{l:List (Nat×ObSk)} {x:PayOs R.T l},disjO O l=true->look (upOs R l x) o=some y->memN o O=false/\isRo y=false
 | [],x,_,h=>by cases h
 | [(i,k)],x,hd,h=>by
   unfold disjO at hd
   rw[iP,Q6] at hd
   have h':look [(i,upO R k x)] o=some y:=h
   by_cases e:o=i
   ·subst e;rw[bH] at h';cases h';exact⟨hd.1,E8⟩
   ·rw[aT _ _ e] at h';cases h'
 | (i,k)::q::l,x,hd,h=>by
   unfold disjO at hd
   rw[iP,Q6] at hd
   have h':look ((i,upO R k x.1)::upOs R (q::l) x.2) o=some y:=h
   by_cases e:o=i
   ·subst e;rw[bH] at h';cases h';exact⟨hd.1,E8⟩
   ·rw[aT _ _ e] at h';exact yZ hd.2 h'
omit hR in
theorem OQ {W K O:List Nat} {mark:Ob R.T->Ob R.T} {st:MS R.T} {s:Shape} {p:Pay R.T s} {o:Nat} (hd:disjO O s.ob=true) (h:RO ((base W K O mark st).over (unpack R s p)) o):look (unpack R s p).ob o=none:=by
 cases hu:look (unpack R s p).ob o with
 |none=>rfl
 |some y=>
  exfalso
  have hk:memN o O=false/\isRo y=false:=by
   obtain⟨sl,ob⟩:=s
   cases ob with
   |nil=>cases hu
   |cons a as=>exact yZ hd hu
  have hb:look (base W K O mark st).ob o=none:=by
   have:∀is:List Nat,memN o is=false->look (selF (fun o b=>!(memN o W)&& solidO W b) mark st.ob is) o=none:=by
    intro is
    induction is with
    |nil=>intro _;rfl
    |cons j is ih=>
     intro h
     have h':(Nat.beq o j||memN o is)=false:=h
     rw[QY] at h'
     unfold selF
     split
     ·rename_i x hx
      cases (!(memN j W)&& solidO W x)
      ·exact ih h'.2
      ·rw[cond_true,aT _ _ (lH h'.1)];exact ih h'.2
     ·exact ih h'.2
   exact this O hk.1
  have:=h y (by show look ((base W K O mark st).ob++(unpack R s p).ob) o=some y;rw[iZ,hb];exact hu)
  rw[hk.2] at this;cases this
def ItersOK (E:Env) (I:IR R):Prop:=(∀g,∀i∈I.it g,E.imp g=true/\∀pa pb xs,i.F pa pb=some xs->IterOK E g (encSL R i.a pa) (encSL R i.b pb) (xs.map (encSL R i.el)))/\tV E I.im/\
 ∀g,∀i∈I.io g,E.imp g=true/\∀pa pb pc xs,i.F pa pb pc=some xs->∀cs,(∃ρ top,RlL R ρ top (upL R .any i.cs pc) cs)->IterO E i.q g (encSL R i.a pa) (encSL R i.b pb) cs (xs.map (encSL R i.el))
theorem nN {σ:Sig} {n:Nat}:∀cs:List V,pcleanL cs=true->cs.mapM (closeV (n+1) σ)=some cs:=by
 intro cs
 induction cs with
 |nil=>intro _;rfl
 |cons a l ih=>
  intro h
  simp only[pcleanL,iP] at h
  rw[QH,closeV_clean h.1,ih h.2];rfl
theorem E9 {I:IR R} (hI:ItersOK E I) {g:Nat} {ρ:ak} {top:Nat->Nat} {u v:List (TV R.T)} {va vb:List V} (hu:stL u=true) (hv:stL v=true) (ha:RlL R ρ top u va) (hb:RlL R ρ top v vb):∀{l:List (FI R)} {el:List Sk} {o:Option (List (PayL R.T el))},(∀i∈l,i∈I.it g)->findI u v l=some ⟨el,o⟩->
 E.imp g=true/\cSkL el=true/\∀xs,o=some xs->IterOK E g va vb (xs.map (encSL R el))
 | [],el,o,_,h=>by cases h
 |i::l,el,o,hl,h=>by
  unfold findI at h
  split at h
  ·rename_i pa pb hpa hpb
   obtain⟨hc,h⟩:=aH h
   simp only[iP] at hc
   obtain⟨⟨⟨⟨c1,c2⟩,c3⟩,c4⟩,c5⟩:=hc
   cases h
   obtain⟨h1,h2⟩:=hI.1 g i (hl i (by simp))
   refine⟨h1,c3,fun xs hx=>?_⟩
   have e1:=fC hR i.a pa u va c1 hpa ha 19 Sig.init (by have:=QJ c4;omega)
   have e2:=fC hR i.b pb v vb c2 hpb hb 19 Sig.init (by have:=QJ c5;omega)
   rw[nN hR va (iK hR u va hu ha)] at e1
   rw[nN hR vb (iK hR v vb hv hb)] at e2
   cases e1;cases e2
   exact h2 pa pb xs hx
  ·exact E9 hI hu hv ha hb (fun x hx=>hl x (by simp[hx])) h
theorem Fa {I:IR R} (hI:ItersOK E I) {g:Nat} {ρ:ak} {top:Nat->Nat} {u v c:List (TV R.T)} {va vb vc:List V} (hu:stL u=true) (hv:stL v=true) (ha:RlL R ρ top u va) (hb:RlL R ρ top v vb) (hc:RlL R ρ top c vc):∀{l:List (FO R)} {el:List Sk} {o:Option (List (PayL R.T el))} {kq:Bool},(∀i∈l,i∈I.io g)->findIo u v c l=some ⟨el,o,kq⟩->
 E.imp g=true/\cSkL el=true/\∀xs,o=some xs->IterO E kq g va vb vc (xs.map (encSL R el))
 | [],el,o,_,_,h=>by cases h
 |i::l,el,o,kq,hl,h=>by
  unfold findIo at h
  split at h
  ·rename_i pa pb pc hpa hpb hpc
   obtain⟨hc',h⟩:=aH h
   simp only[iP] at hc'
   obtain⟨⟨⟨⟨⟨c1,c2⟩,c6⟩,c3⟩,c4⟩,c5⟩:=hc'
   cases h
   obtain⟨h1,h2⟩:=hI.2.2 g i (hl i (by simp))
   refine⟨h1,c3,fun xs hx=>?_⟩
   have e1:=fC hR i.a pa u va c1 hpa ha 19 Sig.init (by have:=QJ c4;omega)
   have e2:=fC hR i.b pb v vb c2 hpb hb 19 Sig.init (by have:=QJ c5;omega)
   rw[nN hR va (iK hR u va hu ha)] at e1
   rw[nN hR vb (iK hR v vb hv hb)] at e2
   cases e1;cases e2
   exact h2 pa pb pc xs hx vc ⟨ρ,top,jo hR i.cs pc _ _ hpc hc⟩
  ·exact Fa hI hu hv ha hb hc (fun x hx=>hl x (by simp[hx])) h
def kN (ρ:ak) (oo:Option Nat):Option Loc:=oo.map ρ.om.lc
theorem OT {I:IR R} (hI:ItersOK E I) {ρ:ak} {b:Nat} {st:MS R.T} {fr:Fr} {σ:Sig} (hi:aj ρ b st fr σ) {g:Nat} {u v:List (TV R.T)} {va vb:List V} (ha:RlL R ρ σ.top u va) (hb:RlL R ρ σ.top v vb) {el:List Sk} {o:Option (List (PayL R.T el))} {oo:Option Nat} {kq:Bool} (h:iterM st I g u v=some ⟨el,o,oo,kq⟩):
 E.imp g=true/\cSkL el=true/\(∀p,oo=some p->∃c,look st.ob p=some (.cells c))/\∀xs,o=some xs->∃pre:Sig->Prop,(∀σ':Sig,(∀loc,kN ρ oo=some loc->∀s,σ'.cellsAt loc s=σ.cellsAt loc s)->pre σ')/\yT E kq g va vb (kN ρ oo) pre (xs.map (encSL R el)):=by
 unfold iterM at h
 split at h
 ·rename_i p off v'
  obtain⟨hc,hm⟩:=aH h
  clear h
  simp only[iP] at hc
  have hoff:=aJ hc.2
  subst hoff
  split at hm
  ·rename_i c hl
   split at hm
   ·rename_i OU xs' hf
    cases hm
    obtain⟨w,ws,rfl,h1,h2⟩:=hb.inv_cons
    obtain⟨s,hs,rfl⟩:=h1.dY
    obtain⟨s',cs,hs',hcs,hr⟩:=hi.ob _ _ hl
    rw[hs] at hs';cases hs'
    obtain⟨g1,g2,g3⟩:=Fa hR hI hc.1.1 hc.1.2 ha h2 hr (fun _ h=>h) hf
    refine⟨g1,g2,fun q hq=>(by cases hq;exact⟨c,hl⟩),fun xs hx=>⟨fun σ'=>σ'.cellsAt (ρ.om.lc p) s=some cs,fun σ' h=>(h _ rfl s).trans hcs,?_⟩⟩
    exact g3 xs hx (ρ.om.lc p) s
   ·cases hm
  ·cases hm
 ·obtain⟨hc,h⟩:=aH h
  rw[iP] at hc
  split at h
  ·rename_i OU xs' hf
   cases h
   obtain⟨g1,g2,g3⟩:=E9 hR hI hc.1 hc.2 ha hb (fun _ h=>h) hf
   exact⟨g1,g2,fun q hq=>(by cases hq),fun xs hx=>⟨fun _=>True,fun _ _=>trivial,(g3 xs hx).G⟩⟩
  ·cases h
omit hR in
theorem aj.Fe {ρ:ak} {b:Nat} {st:MS R.T} {fr:Fr} {σ σ':Sig} (h:aj ρ b st fr σ) (hp:∀p x,look st.ob p=some x->σ'.obj (ρ.om.lc p)=σ.obj (ρ.om.lc p)) (ht:∀s,s<b->σ'.top s=σ.top s):aj ρ b st fr σ':={h with
 fr:=fun i v hv=>(h.fr i v hv).top fun u s hu=>ht s (h.lt u s hu)
 ob:=fun o x hx=>qp (hp o x hx) (fun u s hu=>ht s (h.lt u s hu)) (h.ob o x hx)}
omit hR in
theorem au.Fg {L0:Option Loc} {o:Nat} {st st':MS R.T} {ρ ρ':ak} {σ σ' bL:Sig} (h:au false o st ρ σ st' ρ' σ') (hp:∀L:Loc,L.1<=ρ.om.dp->L0≠some L->bL.obj L=σ'.obj L) (hout:∀L:Loc,ρ.om.out L->L0≠some L) (ho:L0≠some (ρ.om.lc o)) (hn:σ'.next<=bL.next) (hl:∀l,l<σ.next->bL.loops l=σ'.loops l) (ht:∀s,s<ρ.om.lo->bL.top s=σ'.top s):au false o st ρ σ st' ρ' bL:=
 ⟨h.ob,h.ln,h.om,Qw h.nx hn,⟨fun l hl'=>(hl l hl').trans (h.lp.1 l hl'),fun s hs=>(ht s hs).trans (h.lp.2 s hs)⟩,fun L hL ho'=>(hp L (by rcases hL with e|e;cases e;exact e) (hout L ho')).trans (h.dp L hL ho'),fun hr=>⟨(h.ro hr).1,fun s=>by
   have:=(h.ro hr).2 s
   unfold Sig.cellsAt Sig.aV at this⊢
   rw[hp _ (ρ.om.gZ o) ho];exact this⟩⟩
omit hR in
theorem OV {s:Shape} {o:Nat} (hd:disjO [o] s.ob=true) {p:Pay R.T s}:look (unpack R s p).ob o=none:=by
 cases hu:look (unpack R s p).ob o with
 |none=>rfl
 |some y=>
  exfalso
  obtain⟨sl,ob⟩:=s
  cases ob with
  |nil=>cases hu
  |cons a as=>
   have:=(yZ hd hu).1
   unfold memN at this
   rw[Rc] at this
   cases this
omit hR in
theorem OX {oo:Option Nat} {W:List Nat} {p:Nat} (h:memN p (addW oo W)=false):memN p W=false/\oo≠some p:=by
 cases oo with
 |none=>exact⟨h,by simp⟩
 |some o=>
  have h':(Nat.beq p o||memN p W)=false:=h
  rw[QY] at h'
  exact⟨h'.2,fun e=>by cases e;exact lH h'.1 rfl⟩
omit hR in
theorem OY {oo:Option Nat} {W:List Nat} {p:Nat} (h:memN p (addW oo W)=true) (hw:memN p W=false):oo=some p:=by
 cases oo with
 |none=>rw[show addW none W=W from rfl,hw] at h;cases h
 |some o=>
  have h':(Nat.beq p o||memN p W)=true:=h
  rw[hw,Bool.or_false] at h'
  rw[aJ h']
theorem gJ {n:Nat} {om:Bool} {F:Nat->List (FR R)} {I:IR R} (hF:RegsOK E F) (hI:ItersOK E I) {A:Ann}:∀c:Code,iB E c=true->yU E om c fun st k=>codeM E R n om F I A c st k
 |.skip=>fun hw _ st k x fr σ ρ _ h hi=>CW.skip ⟨ρ,st,hi,.refl,h⟩
 |.exit i=>fun hw _ st k x fr σ ρ _ h hi=>CW.exit ⟨ρ,st,hi,.refl,h⟩
 |.ret=>fun hw _ st k x fr σ ρ _ h hi=>CW.ret ⟨ρ,st,hi,.refl,h⟩
 |.region id ops dr=>fun hw β st k x fr σ ρ hom h hi=>by
  have h':(bif dr then (bif edgesOK ops.toList then opsDM E R om F I.im (preM ops.toList) ops.toList ops.toList st [] (fun st=>k .normal st) else none) else opsM E R om F I.im ops.toList ops.toList st (fun st=>k .normal st))=some x:=h
  have Fh:∀{nr:Bool} {W:List Nat} {st':MS R.T} {fr':Fr} {σ':Sig} {ρ':ak} {j:Nat},Kp nr W st fr (σ.bump j) ρ st' fr' σ' ρ'->Kp nr W st fr σ ρ st' fr' σ' ρ':=fun h=>⟨h.fr,fun o ho=>⟨(h.ob o ho).ob,(h.ob o ho).ln,(h.ob o ho).om,Qw (QM _ _) (h.ob o ho).nx,⟨fun l hl=>(h.ob o ho).lp.1 l (QF hl (QM _ _)),(h.ob o ho).lp.2⟩,(h.ob o ho).dp,fun hr=>⟨((h.ob o ho).ro hr).1,((h.ob o ho).ro hr).2⟩⟩⟩
  cases dr with
  |true=>
   rw[cond_true] at h'
   obtain⟨he,h'⟩:=aH h'
   refine CW.draw he (nM hR hF hI.2.1 _ σ.next ρ st fr _ [] (qB hw) hom (hi.next _) (Qt _) h' ?_)
   intro ρ' st' fr' σ' hi' hn hkp hk
   exact⟨ρ',st',hi'.le hn,Fh hkp,hk⟩
  |false=>
   rw[cond_false] at h'
   refine CW.region (kL hR hF hI.2.1 _ σ.next ρ st fr _ (qB hw) hom (hi.next _) (Qt _) h' ?_)
   intro ρ' st' fr' σ' hi' hn hkp hk
   exact⟨ρ',st',hi'.le hn,Fh hkp,hk⟩
 |.seq a b=>fun hw β st k x fr σ ρ hom h hi=>by
  have h':(match look A.joins (firstId' b) with
   |none=>codeM E R n om F I A a st fun e st=>match e with
    |.normal=>codeM E R n om F I A b st k
    |e=>k e st
   |some q=>(codeM E R n om F I A (β:=Out R.T q.outs) a ((base (wrC E a) q.K q.O .ro st).over st) fun e st=>packOut R (wrC E a) e st q.outs).bind (unpackOut R (base (wrC E a) q.K q.O (fun b=>b) st) (fun e st=>match e with
    |.normal=>codeM E R n om F I A b st k
    |e=>k e st) q.outs))=some x:=h
  have hw2:iB E a=true/\iB E b=true:=by
   have hw':((wrC E a++wrC E b).all fun d=>Nat.blt d F0)=true:=hw
   rw[List.all_append,iP] at hw';exact hw'
  have hl:∀i,memN i (wrC E (.seq a b))=false->memN i (wrC E a)=false/\memN i (wrC E b)=false:=fun i hi=>by
   have hi':memN i (wrC E a++wrC E b)=false:=hi
   rw[pQ,QY] at hi';exact hi'
  have fin:∀(e:Ex) (st':MS R.T) (fr':Fr) (σ':Sig) (ρ':ak),aj ρ' σ'.next st' fr' σ'->Kp (quietC E a) (wrC E a) st fr σ ρ st' fr' σ' ρ'->(match e with
   |.normal=>codeM E R n om F I A b st' k
   |e=>k e st')=some x->SeqQ E b (fun e fr' σ'=>∃ρ' st',aj ρ' σ'.next st' fr' σ'/\Kp (quietC E (.seq a b)) (wrC E (.seq a b)) st fr σ ρ st' fr' σ' ρ'/\k e st'=some x) e fr' σ':=by
   intro e st' fr' σ' ρ' hi' hkp hk
   have y5:=(hkp.mono (W':=wrC E (.seq a b)) fun i hi=>(hl i hi).1).nr (qA:=quietC E (.seq a b)) (fun e=>by simp only[quietC,iP] at e;exact e.1)
   cases e with
   |normal=>
    refine(gJ hF hI b hw2.2 _ st' k x fr' σ' ρ' ((congrArg Cx.om hkp.om).trans hom) hk hi').mono ?_
    rintro e kE bL ⟨fO,bn,h1,h2,h3⟩
    exact⟨fO,bn,h1,y5.trans ((h2.mono fun i hi=>(hl i hi).2).nr (fun e=>by simp only[quietC,iP] at e;exact e.2)),h3⟩
   |exit i=>exact⟨ρ',st',hi',y5,hk⟩
   |ret=>exact⟨ρ',st',hi',y5,hk⟩
  split at h'
  ·refine CW.seq ((gJ hF hI a hw2.1 _ st _ x fr σ ρ hom h' hi).mono ?_)
   rintro e fr' σ' ⟨ρ',st',hi',hkp,hk⟩
   exact fin e st' fr' σ' ρ' hi' hkp hk
  ·rename_i q _
   obtain⟨o,ho,h'⟩:=mF.1 h'
   have hro:∀o x,look st.ob o=some x->memN o (wrC E a)=false->memN o q.O=true->solidO (wrC E a) x=true->RO ((base (wrC E a) q.K q.O .ro st).over st) o:=fun o x h1 h2 h3 h4=>xq h1 h2 h3 h4
   have hH:∀o,memN o (wrC E a)=false->RO st o->RO ((base (wrC E a) q.K q.O .ro st).over st) o:=fun o _ h=>pR (CY (fun _ _=>rfl) h) h
   have hbase:aj ρ σ.next (base (wrC E a) q.K q.O .ro st) fr σ:=hi.base (st0:=(base (wrC E a) q.K q.O .ro st).over st) yV (Kp.refl (nr:=false)) hi hro
   refine CW.seq ((gJ hF hI a hw2.1 _ _ _ o fr σ ρ hom ho (hbase.over hi)).mono ?_)
   rintro e fr' σ' ⟨ρ',st',hi',hkp,hk⟩
   obtain⟨ρ2,S2,bn,h1,g1,_,h3,h2⟩:=ny (β:=β) hR hi' hk
   rw[h2] at h'
   obtain⟨f1,f2⟩:=finish (K:=q.K) hi hH hro (hkp.trans g1) h1 fun o ho hr=>h3 o ho ((hkp.ob o ho).ro hr).1
   exact fin e _ fr' σ' ρ2 f1 f2 h'
 |.cond c a b=>fun hw β st k x fr σ ρ hom h hi=>by
  have h':(match evM [] st c with
   |some (.blit t)=>bif t then codeM E R n om F I A a st k else codeM E R n om F I A b st k
   |some (.bool t)=>bif t then codeM E R n om F I A a (st.learnO c true) k else codeM E R n om F I A b (st.learnO c false) k
   |_=>none)=some x:=h
  have hw2:iB E a=true/\iB E b=true:=by
   have hw':((wrC E a++wrC E b).all fun d=>Nat.blt d F0)=true:=hw
   rw[List.all_append,iP] at hw';exact hw'
  have hl:∀i,memN i (wrC E (.cond c a b))=false->memN i (wrC E a)=false/\memN i (wrC E b)=false:=fun i hi=>by
   have hi':memN i (wrC E a++wrC E b)=false:=hi
   rw[pQ,QY] at hi';exact hi'
  have ha:∀st':MS R.T,st'.ob=st.ob->aj ρ σ.next st' fr σ->codeM E R n om F I A a st' k=some x->CW E a fr σ fun e fr' σ'=>∃ρ' st',aj ρ' σ'.next st' fr' σ'/\Kp (quietC E (.cond c a b)) (wrC E (.cond c a b)) st fr σ ρ st' fr' σ' ρ'/\k e st'=some x:=fun st' hs hi' hk=>by
   refine(gJ hF hI a hw2.1 _ st' k x fr σ ρ hom hk hi').mono ?_
   rintro e kE bL ⟨fO,bn,h1,h2,h3⟩
   exact⟨fO,bn,h1,((⟨h2.fr,fun o ho=>(h2.ob o ho).from hs⟩:Kp (quietC E a) (wrC E a) st fr σ ρ bn kE bL fO).mono fun i hi=>(hl i hi).1).nr (fun e=>by simp only[quietC,iP] at e;exact e.1),h3⟩
  have hb:∀st':MS R.T,st'.ob=st.ob->aj ρ σ.next st' fr σ->codeM E R n om F I A b st' k=some x->CW E b fr σ fun e fr' σ'=>∃ρ' st',aj ρ' σ'.next st' fr' σ'/\Kp (quietC E (.cond c a b)) (wrC E (.cond c a b)) st fr σ ρ st' fr' σ' ρ'/\k e st'=some x:=fun st' hs hi' hk=>by
   refine(gJ hF hI b hw2.2 _ st' k x fr σ ρ hom hk hi').mono ?_
   rintro e kE bL ⟨fO,bn,h1,h2,h3⟩
   exact⟨fO,bn,h1,((⟨h2.fr,fun o ho=>(h2.ob o ho).from hs⟩:Kp (quietC E b) (wrC E b) st fr σ ρ bn kE bL fO).mono fun i hi=>(hl i hi).2).nr (fun e=>by simp only[quietC,iP] at e;exact e.2),h3⟩
  split at h'
  ·rename_i t hc
   refine CW.cond (aC (E:=E) hi .nil hc).ig (fun e=>?_) (fun e=>?_)
   ·subst e;exact ha st rfl hi h'
   ·subst e;exact hb st rfl hi h'
  ·rename_i t hc
   have hl:aj ρ σ.next (st.learnO c t) fr σ/\(st.learnO c t).ob=st.ob:=by
    cases c with
    |tmp j=>exact⟨hi.learn (show Rl R ρ σ.top (.bool t) (fr.tm j) from hi.fr _ _ (Oz hc)).fA,rfl⟩
    |_=>exact⟨hi,rfl⟩
   refine CW.cond (aC (E:=E) hi .nil hc).fA (fun e=>?_) (fun e=>?_)
   ·subst e;exact ha _ hl.2 hl.1 h'
   ·subst e;exact hb _ hl.2 hl.1 h'
  ·cases h'
 |.block id c=>fun hw β st k x fr σ ρ hom h hi=>by
  have h':(codeM E R n om F I A c st fun e st=>match e with
   |.exit i=>bif Nat.beq i id then k .normal st else k (.exit i) st
   |e=>k e st)=some x:=h
  refine CW.block ((gJ hF hI c hw _ st _ x fr σ ρ hom h' hi).mono ?_)
  rintro e fr' σ' ⟨ρ',st',hi',hkp,hk⟩
  cases e with
  |normal=>exact⟨ρ',st',hi',hkp,hk⟩
  |ret=>exact⟨ρ',st',hi',hkp,hk⟩
  |exit i=>
   dsimp only at hk
   unfold BlkQ
   dsimp only
   cases hb:Nat.beq i id
   ·rw[hb] at hk
    rw[if_neg (lH hb)]
    exact⟨ρ',st',hi',hkp,hk⟩
   ·rw[hb] at hk
    rw[if_pos (aJ hb)]
    exact⟨ρ',st',hi',hkp,hk⟩
 |.loop c=>fun hw β st k x fr σ ρ hom h hi=>by
  have h':(match look A.loops (firstId' c) with
   |some q=>match packW R (wrC E c) st q.sh with
    |some p=>(loopF (firstId' c) (wrC E c) (base (wrC E c) q.K q.O .ro st) q.sh q.outs (fun st k=>codeM E R n om F I A c st k) n p).bind (unpackOut R (base (wrC E c) q.K q.O (fun b=>b) st) k q.outs)
    |none=>none
   |none=>unrF (R:=R) (fun st k=>codeM E R n om F I A c st k) 130 st k)=some x:=h
  split at h'
  ·rename_i q _
   split at h'
   ·rename_i p hp
    obtain⟨o,ho,h'⟩:=mF.1 h'
    obtain⟨ρ1,S1,p1,p2,_,p3⟩:=hi.packW (nr:=quietC E c) hR hp
    have hro:∀o x,look st.ob o=some x->memN o (wrC E c)=false->memN o q.O=true->solidO (wrC E c) x=true->RO ((base (wrC E c) q.K q.O .ro st).over (unpack R q.sh p)) o:=fun o x h1 h2 h3 h4=>xq h1 h2 h3 h4
    have hH:∀o,memN o (wrC E c)=false->RO st o->RO ((base (wrC E c) q.K q.O .ro st).over (unpack R q.sh p)) o:=fun o ho h=>CX (p3 o ho h)
    have hB:∀(st' S':MS R.T) (fr':Fr) (σ':Sig) (ρ':ak) (b':Nat),aj ρ' b' st' fr' σ'->Kp (quietC E c) (wrC E c) ((base (wrC E c) q.K q.O .ro st).over (unpack R q.sh p)) fr σ ρ S' fr' σ' ρ'->aj ρ' b' (base (wrC E c) q.K q.O .ro st) fr' σ':=
     fun st' S' fr' σ' ρ' b' h1 h2=>hi.base yV h2 h1 hro
    have hk0:Kp (quietC E c) (wrC E c) ((base (wrC E c) q.K q.O .ro st).over (unpack R q.sh p)) fr σ ρ ((base (wrC E c) q.K q.O .ro st).over (unpack R q.sh p)) fr σ ρ1:=⟨fun _ _=>rfl,fun q hq=>⟨(p2.ob q hq).ob,(p2.ob q hq).ln,(p2.ob q hq).om,Qt _,⟨fun _ _=>rfl,fun _ _=>rfl⟩,fun _ _ _=>rfl,fun hr=>⟨hr,fun _=>⟨rfl,rfl⟩⟩⟩⟩
    refine(ET (β:=β) hR (gJ hF hI c hw) hom hB (fun o=>fun y hy=>by obtain⟨z,_,_,rfl⟩:=jK hy;rfl) n p o fr σ ρ1 ho p1 hk0).mono ?_
    rintro e fr' σ' ⟨ρ',S',st',hi',hkp,hn,hk⟩
    obtain⟨f1,f2⟩:=finish (K:=q.K) hi hH hro hkp hi' hn
    exact⟨ρ',_,f1,f2,by rw[<-hk k];exact h'⟩
   ·cases h'
  ·exact EU (gJ hF hI c hw) 130 st k x fr σ ρ hom h' hi
 |.rangeFunc f ps a c=>fun hw β st k x fr σ ρ hom h hi=>by
  have h':(match look A.loops (firstId' c) with
  |some q=>match evM [] st f with
   |some (.fn g u v)=>bif disjO q.O q.sh.ob then (match iterM st I g u v with
    |some ⟨el,xs,oo,kq⟩=>bif okI oo (ps.toList++wrC E a++wrC E c) q.sh.ob&& (bif kq then quietC E a&& quietC E c else true) then (match packW R (ps.toList++wrC E a++wrC E c) st.obs q.sh with
     |some p=>(xs.bind fun xs=>foldF (firstId' c) (ps.toList++wrC E a++wrC E c) (base (addW oo (ps.toList++wrC E a++wrC E c)) q.K q.O .ro st) q.sh q.outs (fun x st k=>match putPs st ps.toList (upL R .sh el x) with
       |some st=>codeM E R n om F I A a st fun e st=>match e with
        |.normal=>codeM E R n om F I A c st k
        |_=>none
       |none=>none) xs p).bind (unpackOut R (base (addW oo (ps.toList++wrC E a++wrC E c)) q.K q.O (fun b=>b) st) k q.outs)
     |none=>none) else none
    |none=>none) else none
   |_=>none
  |none=>none)=some x:=h
  split at h'
  ·rename_i q _
   split at h'
   ·rename_i g u v hf
    obtain⟨hst,h'⟩:=aH h'
    have hdj:=hst
    split at h'
    ·rename_i el xs oo kq hfi
     obtain⟨Fj,h'⟩:=aH h'
     rw[iP] at Fj
     obtain⟨hok,hquiet⟩:=Fj
     split at h'
     ·rename_i p hp
      obtain⟨o,ho,h'⟩:=mF.1 h'
      obtain⟨ys,hys,ho⟩:=mF.1 ho
      obtain⟨va,vb,o7,hva,hvb⟩:=(aC (E:=E) hi .nil hf).dn
      obtain⟨himp,hel,hcell,hit⟩:=OT hR hI hi hva hvb hfi
      obtain⟨pre,hpre,hit⟩:=hit ys hys
      obtain⟨ρ1,S1,p1,p2,p0,p3⟩:=hi.obs.packW (nr:=false) hR hp
      have hw3:iB E a=true/\iB E c=true:=by
       have hw':((ps.toList++wrC E a++wrC E c).all fun d=>Nat.blt d F0)=true:=hw
       rw[List.all_append,List.all_append,iP,iP] at hw';exact⟨hw'.1.2,hw'.2⟩
      clear hw
      generalize hW:ps.toList++wrC E a++wrC E c=W at*
      have hl:∀i,memN i W=false->memN i ps.toList=false/\memN i (wrC E a)=false/\memN i (wrC E c)=false:=fun i hi=>by
       rw[<-hW,pQ,pQ,QY,QY] at hi;exact⟨hi.1.1,hi.1.2,hi.2⟩
      have hoo:∀p,oo=some p->memN p W=false/\∀p':Pay R.T q.sh,look (unpack R q.sh p').ob p=none:=by
       rintro p rfl
       have hok':(!(memN p W)&& disjO [p] q.sh.ob)=true:=hok
       rw[iP,Q6] at hok'
       exact⟨hok'.1,fun p'=>OV hok'.2⟩
      have hne:∀p,oo≠some p->kN ρ oo≠some (ρ.om.lc p):=fun p hp e=>by
       obtain⟨p',h1,h2⟩:=Qu.1 e
       rw[ρ.om.pI h2] at h1
       exact hp h1
      have hout:∀L:Loc,ρ.om.out L->kN ρ oo≠some L:=fun L hL e=>by
       obtain⟨p',h1,h2⟩:=Qu.1 e
       exact hL p' h2.symm
      generalize Fp:addW oo W=Wb at*
      have hsub:∀p,memN p Wb=false->memN p W=false/\oo≠some p:=fun p hp=>OX (by rw[Fp];exact hp)
      have hro:∀o x,look st.ob o=some x->memN o Wb=false->memN o q.O=true->solidO Wb x=true->RO ((base Wb q.K q.O .ro st).over (unpack R q.sh p)) o:=fun o x h1 h2 h3 h4=>xq h1 h2 h3 h4
      have hH:∀o,memN o Wb=false->RO st o->RO ((base Wb q.K q.O .ro st).over (unpack R q.sh p)) o:=fun o ho h=>CX (p3 o (hsub o ho).1 h)
      generalize OZ:(base Wb q.K q.O .ro st).over (unpack R q.sh p)=H at*
      have hB:∀(st' S':MS R.T) (σ':Sig) (ρ':ak) (b':Nat),aj ρ' b' st' fr σ'->Kp false Wb H fr σ ρ S' fr σ' ρ'->aj ρ' b' (base Wb q.K q.O .ro st) fr σ':=
       fun st' S' σ' ρ' b' h1 h2=>hi.base yV h2 h1 hro
      have Fq:∀o,RO (base Wb q.K q.O .ro st) o:=fun o=>fun y hy=>by obtain⟨z,_,_,rfl⟩:=jK hy;rfl
      let r0:eT:={st:=0,pend:=none,fr:=fr,ps:=ps.toList,aM:=a,body:=c}
      let body:{β:Type}->PayL R.T el->MS R.T->(Ex->MS R.T->Option β)->Option β:=fun x st k=>match putPs st ps.toList (upL R .sh el x) with
          |some st=>codeM E R n om F I A a st fun e st=>match e with
           |.normal=>codeM E R n om F I A c st k
           |_=>none
          |none=>none
      let KO:ak->Prop:=fun ρ'=>∀p,memN p W=false->ρ'.ob p=ρ.ob p/\ρ'.ln p=ρ.ln p
      let J:List (List V)->Sig->Prop:=fun L σ'=>∃(zs:List (PayL R.T el)) (p':Pay R.T q.sh) (ρ':ak),L=zs.map (encSL R el)/\foldF (firstId' c) W (base Wb q.K q.O .ro st) q.sh q.outs body zs p'=some o/\aj ρ' σ'.next (unpack R q.sh p') fr σ'/\(unpack R q.sh p').fr=[]/\
       Kp false Wb H fr σ ρ ((base Wb q.K q.O .ro st).over (unpack R q.sh p')) fr σ' ρ'/\σ'.loops σ.next=some r0/\KO ρ'
      let Fin:Ex->Sig->Prop:=fun e σ'=>∃(ρ':ak) (S' st':MS R.T),aj ρ' σ'.next st' fr σ'/\Kp false Wb H fr σ ρ S' fr σ' ρ'/\(∀o,memN o Wb=false->RO H o->look st'.ob o=none)/\(∀(k:Ex->MS R.T->Option β) (bs:MS R.T),unpackOut R bs k q.outs o=k e (bs.over st'))/\KO ρ'/\∀p,oo=some p->look st'.ob p=none
      let D:Sig->Prop:=fun σ'=>∃e,Fin e σ'/\σ'.loops σ.next=some {r0 with st:=2,pend:=some e}
      have O1:∀L σ1 σ2,σ.next<σ1.next->J L σ1->ShiftG ρ.om.dp (kN ρ oo) σ1 σ2->J L σ2:=by
       rintro L σ1 σ2 hlt ⟨zs,p',ρ',e1,e2,e3,e4,e5,e6,e7⟩ hs
       exact⟨zs,p',ρ',e1,e2,(e3.Fe (fun p x hx=>hs.obj _ (EY e5.om p) (by rw[e5.om];exact hne p fun e=>by rw[(hoo p e).2 p'] at hx;cases hx)) hs.top).le hs.next,e4,⟨e5.fr,fun o ho=>(e5.ob o ho).Fg (fun L hL hn=>hs.obj L hL hn) hout (hne o (hsub o ho).2) hs.next (fun l hl=>hs.loops l (by omega)) (fun s hs'=>hs.top s (by have:=hi.nx;omega))⟩,(hs.loops _ hlt).trans e6,e7⟩
      have O4:∀σ1 σ2,σ.next<σ1.next->D σ1->ShiftG ρ.om.dp (kN ρ oo) σ1 σ2->D σ2:=by
       rintro σ1 σ2 hlt ⟨e,⟨ρ',S',st',e1,e2,e3,e4,e7,e8⟩,e5⟩ hs
       exact⟨e,⟨ρ',S',st',(e1.Fe (fun p x hx=>hs.obj _ (EY e2.om p) (by rw[e2.om];exact hne p fun e=>by rw[e8 p e] at hx;cases hx)) hs.top).le hs.next,⟨e2.fr,fun o ho=>(e2.ob o ho).Fg (fun L hL hn=>hs.obj L hL hn) hout (hne o (hsub o ho).2) hs.next (fun l hl=>hs.loops l (by omega)) (fun s hs'=>hs.top s (by have:=hi.nx;omega))⟩,e3,e4,e7,e8⟩,(hs.loops _ hlt).trans e5⟩
      have fin:∀(σ2:Sig) (r:eT) (e:Ex),Fin e σ2->∃ρ' st',aj ρ' (σ2.dR σ.next).next st' fr (σ2.dR σ.next)/\Kp false (wrC E (.rangeFunc f ps a c)) st fr σ ρ st' fr (σ2.dR σ.next) ρ'/\k e st'=some x:=by
       rintro σ2 r e ⟨ρ',S',st',e1,e2,e3,e4,e7,e8⟩
       have yC:aj ρ' σ2.next st' fr (σ2.dR σ.next):=e1.shift (fun _=>rfl) (fun _ _=>rfl)
       have e2':Kp false Wb H fr σ ρ S' fr (σ2.dR σ.next) ρ':=⟨e2.fr,fun o ho=>(e2.ob o ho).shift (fun _ _=>rfl) (Qt _) (fun l hl=>by
        show upd σ2.loops σ.next none l=_
        unfold upd;rw[if_neg (by omega)]) (fun _ _=>rfl)⟩
       obtain⟨f1,f2⟩:=finish (K:=q.K) hi hH hro e2' yC e3
       refine⟨ρ',_,f1,?_,by rw[<-e4 k];exact h'⟩
       show Kp false (ps.toList++wrC E a++wrC E c) _ _ _ _ _ _ _ _
       rw[hW]
       refine⟨fun _ _=>rfl,fun p hp=>?_⟩
       cases hb:memN p Wb with
       |false=>exact f2.ob p hb
       |true=>
        obtain⟨cc,hc⟩:=hcell p (OY (by rw[Fp];exact hb) hp)
        obtain⟨nb,hnb⟩:=jL Wb
        have g:=f2.ob nb (hnb nb (Qt _))
        exact⟨(e7 p hp).1,(e7 p hp).2,g.om,g.nx,g.lp,g.dp,fun hr=>by have:=hr _ hc;cases this⟩
      refine CW.range o7 himp ?_
      rw[hi.d]
      have hent:(σ.enter fr ps a c).next=σ.next+1:=rfl
      obtain⟨m,w,σ2,hm,hnx,O5⟩:=hit ρ.om.dp σ.next (σ.enter fr ps a c) J D (fun loc hl=>by obtain⟨p',_,rfl⟩:=Qu.1 hl;exact ρ.om.gZ p') O1 O4 (by
       rintro y L σ1 hlt ⟨zs,p',ρ',e1,e2,e3,e4,e5,e6,e7⟩
       cases zs with
       |nil=>cases e1
       |cons z zs=>
        simp only[QA,Rb] at e1
        obtain⟨rfl,rfl⟩:=e1
        have hbase:=hB _ _ _ _ _ e3 e5
        have e2':body z ((base Wb q.K q.O .ro st).over (unpack R q.sh p')) (yY (firstId' c) W (base Wb q.K q.O .ro st) q.sh q.outs body zs)=some o:=e2
        show∃c' σ',jP E σ.next (encSL R el z) σ1 c' σ'/\_
        generalize hkk:yY (firstId' c) W (base Wb q.K q.O .ro st) q.sh q.outs body zs=kk at e2'
        dsimp only[body] at e2'
        split at e2'
        ·rename_i st1 j5
         obtain⟨hlen,i1,i2⟩:=EZ j5 (jq hR el z hel) (hbase.over e3)
         have qj:ρ'.om.om=om:=(congrArg Cx.om e5.om).trans hom
         obtain⟨m1,x1,aF,σ2,q1,ρ2,st2,q2,q3,q4⟩:=gJ hF hI a hw3.1 _ _ _ _ _ _ ρ' qj e2' i1
         cases x1 with
         |exit i=>cases q4
         |ret=>cases q4
         |normal=>
          dsimp only at q4
          obtain⟨nb,hnb⟩:=jL (wrC E a)
          have lp2:σ2.loops σ.next=some r0:=((q3.ob nb (hnb nb (Qt _))).lp.1 _ hlt).trans e6
          have Fu:=(q3.ob nb (hnb nb (Qt _))).nx
          have q2':aj ρ2 σ2.next st2 aF (σ2.aY σ.next {r0 with st:=1}):=q2.shift (fun _=>rfl) (fun _ _=>rfl)
          obtain⟨m2,x2,aZ,σ3,t1,ρ3,st3,t2,t3,t4⟩:=gJ hF hI c hw3.2 _ _ _ _ aF (σ2.aY σ.next {r0 with st:=1}) ρ2 ((congrArg Cx.om q3.om).trans qj) q4 q2'
          obtain⟨nc,hnb'⟩:=jL (wrC E c)
          have O6:σ3.loops σ.next=some {r0 with st:=1}:=((t3.ob nc (hnb' nc (Qt _))).lp.1 _ (show σ.next<σ2.next by omega)).trans (by show upd σ2.loops σ.next _ σ.next=_;unfold upd;rw[if_pos rfl])
          have y7:σ2.next<=σ3.next:=(t3.ob nc (hnb' nc (Qt _))).nx
          have keep:∀p,memN p Wb=false->au false p H ρ σ st3 ρ3 σ3:=fun p hpb=>by
           have hp:=(hsub p hpb).1
           have k1:=e5.ob p hpb
           have k2:au false p ((base Wb q.K q.O .ro st).over (unpack R q.sh p')) ρ' σ1 st2 ρ2 σ2:=(q3.ob p (hl p hp).2.1).weak.from i2
           have k3:=(t3.ob p (hl p hp).2.2).weak
           have k12:=k1.trans k2
           refine⟨k3.ob.trans k12.ob,k3.ln.trans k12.ln,k3.om.trans k12.om,Qw k12.nx y7,⟨fun l hl=>?_,fun s hs=>(k3.lp.2 s (by rw[k12.om];exact hs)).trans (k12.lp.2 s hs)⟩,fun L hn hL=>(k3.dp L (by rw[k12.om];exact hn) (by rw[k12.om];exact hL)).trans (k12.dp L hn hL),fun hr=>?_⟩
           ·refine(k3.lp.1 l (show l<σ2.next by have:=k12.nx;omega)).trans (Eq.trans ?_ (k12.lp.1 l hl))
            show upd σ2.loops σ.next _ l=_
            unfold upd;rw[if_neg (by omega)]
           ·have r1:=k12.ro hr
            have r2:=k3.ro r1.1
            rw[k12.om] at r2
            exact⟨r2.1,fun s=>⟨(r2.2 s).1.trans (r1.2 s).1,(r2.2 s).2.trans (r1.2 s).2⟩⟩
          have fd:∀(r':eT),aj ρ3 σ3.next st3.obs aZ (σ3.aY σ.next r'):=fun r'=>t2.obs.shift (fun _=>rfl) (fun _ _=>rfl)
          have keep':∀(r':eT),∀p,memN p Wb=false->au false p H ρ σ st3.obs ρ3 (σ3.aY σ.next r'):=fun r' p hp=>((keep p hp).congr (bn:=st3.obs) rfl).shift (bL:=σ3.aY σ.next r') (fun _ _=>rfl) (Qt _) (fun l hl=>by
           show upd σ3.loops σ.next _ l=_
           unfold upd;rw[if_neg (by omega)]) (fun _ _=>rfl)
          have Fv:∀(r':eT),(σ3.aY σ.next r').loops σ.next=some r':=fun r'=>by show upd σ3.loops σ.next _ σ.next=_;unfold upd;rw[if_pos rfl]
          have deep:∀(r':eT),kq=true->∀a o,ρ.om.dp<a->(σ3.aY σ.next r').obj (a,o)=σ1.obj (a,o):=fun r' hkq a o ha=>by
           subst hkq
           rw[cond_true,iP] at hquiet
           obtain⟨hna,hnc⟩:=hquiet
           exact
           ((t3.ob nc (hnb' nc (Qt _))).dp (a,o) (.inl hnc) (Cx.CU _ (by rw[q3.om,e5.om];exact ha))).trans ((q3.ob nb (hnb nb (Qt _))).dp (a,o) (.inl hna) (Cx.CU _ (by rw[e5.om];exact ha)))
          have loops:∀(r':eT) s,s<σ1.next->(σ3.aY σ.next r').loops s=σ1.loops s\/s=σ.next:=fun r' s hs=>by
           by_cases es:s=σ.next
           ·exact .inr es
           ·left
            have u1:(σ3.aY σ.next r').loops s=σ3.loops s:=by show upd σ3.loops σ.next _ s=_;unfold upd;rw[if_neg es]
            have u2:(σ2.aY σ.next {r0 with st:=1}).loops s=σ2.loops s:=by show upd σ2.loops σ.next _ s=_;unfold upd;rw[if_neg es]
            exact u1.trans (((t3.ob nc (hnb' nc (Qt _))).lp.1 s (show s<σ2.next by omega)).trans (u2.trans ((q3.ob nb (hnb nb (Qt _))).lp.1 s hs)))
          have keepR:KO ρ3:=fun p hp=>⟨((t3.ob p (hl p hp).2.2).ob.trans (q3.ob p (hl p hp).2.1).ob).trans (e7 p hp).1,((t3.ob p (hl p hp).2.2).ln.trans (q3.ob p (hl p hp).2.1).ln).trans (e7 p hp).2⟩
          have Fw:∀p,oo=some p->RO st3 p/\∀s,σ3.cellsAt (ρ.om.lc p) s=σ1.cellsAt (ρ.om.lc p) s:=fun p hp=>by
           obtain⟨Fx,hpn⟩:=hoo p hp
           have O7:RO st1 p:=fun y hy=>by
            rw[i2] at hy
            exact pR (Fq p) (fun y hy=>by rw[hpn p'] at hy;cases hy) y hy
           have r1:=(q3.ob p (hl p Fx).2.1).ro O7
           have r2:=(t3.ob p (hl p Fx).2.2).ro r1.1
           refine⟨r2.1,fun s=>?_⟩
           have a1:=(r1.2 s).1
           have a2:=(r2.2 s).1
           rw[e5.om] at a1
           rw[q3.om,e5.om] at a2
           exact a2.trans a1
          have own:∀(r':eT) loc,kN ρ oo=some loc->∀s,(σ3.aY σ.next r').cellsAt loc s=σ1.cellsAt loc s:=fun r' loc hl s=>by
           obtain⟨p',h1,rfl⟩:=Qu.1 hl
           exact(Fw p' h1).2 s
          have Fy:∀(bb:Bool) (σ':Sig),EW r0 σ.next σ3 x2 bb σ'->jP E σ.next (encSL R el z) σ1 bb σ':=fun bb σ' hbb=>
           jP.of e6 rfl hlen ⟨m1,.normal,aF,σ2,q1,rfl,r0,lp2,rfl,m2,x2,aZ,σ3,t1,_,O6,rfl,by cases x2<;>exact hbb⟩
          have stop:∀e,EW r0 σ.next σ3 x2 false (σ3.aY σ.next {r0 with st:=2,pend:=some e})->packOut R W e st3.obs q.outs=some o->∃c' σ',jP E σ.next (encSL R el z) σ1 c' σ'/\σ1.next<=σ'.next/\(kq=true->∀a o,ρ.om.dp<a->σ'.obj (a,o)=σ1.obj (a,o))/\(∀loc,kN ρ oo=some loc->∀s,σ'.cellsAt loc s=σ1.cellsAt loc s)/\(∀s,s<σ1.next->σ'.loops s=σ1.loops s\/s=σ.next)/\(c'=true->J (zs.map (encSL R el)) σ')/\(c'=false->D σ'):=by
           intro e he hpk
           obtain⟨ρ4,S4,mR,g1,g2,g3,g4,g5⟩:=ny (nr:=false) (β:=β) hR (fd {r0 with st:=2,pend:=some e}) hpk
           have qC:ρ4.om=ρ.om:=by
            obtain⟨nw,hnw⟩:=jL Wb
            exact g2.om.trans (keep nw (hnw nw (Qt _))).om
           refine⟨false,σ3.aY σ.next {r0 with st:=2,pend:=some e},Fy _ _ he,Qw Fu y7,deep _,own _,loops _,(fun h=>by cases h),fun _=>⟨e,⟨ρ4,S4,mR,g1.EX (g3 rfl) (by rw[qC];exact hi.d) (by rw[qC];exact hi.om),⟨fun _ _=>rfl,fun p hp=>(keep' _ p hp).trans (g2.ob p (hsub p hp).1)⟩,fun p hp hr=>g4 p (hsub p hp).1 ((keep p hp).ro hr).1,g5,fun p hp=>⟨(g2.ob p hp).ob.trans (keepR p hp).1,(g2.ob p hp).ln.trans (keepR p hp).2⟩,fun p hp=>g4 p (hoo p hp).1 (Fw p hp).1⟩,Fv _⟩⟩
          cases x2 with
          |normal=>
           rw[<-hkk] at t4
           unfold yY at t4
           dsimp only at t4
           split at t4
           ·rename_i p4 O8
            obtain⟨ρ4,S4,g1,g2,g3,g4⟩:=(fd {r0 with st:=0,pend:=none}).packW (nr:=false) hR O8
            have qC:ρ4.om=ρ.om:=by
             obtain⟨nw,hnw⟩:=jL Wb
             exact g2.om.trans (keep nw (hnw nw (Qt _))).om
            refine⟨true,σ3.aY σ.next {r0 with st:=0,pend:=none},Fy _ _ ⟨rfl,rfl⟩,Qw Fu y7,deep _,own _,loops _,fun _=>⟨zs,p4,ρ4,rfl,t4,g1.EX (g3 rfl) (by rw[qC];exact hi.d) (by rw[qC];exact hi.om),g3 rfl,⟨fun _ _=>rfl,fun p hp=>?_⟩,Fv _,fun p hp=>⟨(g2.ob p hp).ob.trans (keepR p hp).1,(g2.ob p hp).ln.trans (keepR p hp).2⟩⟩,fun h=>by cases h⟩
            ·have kk:=(keep' {r0 with st:=0,pend:=none} p hp).trans (g2.ob p (hsub p hp).1)
             exact⟨kk.ob,kk.ln,kk.om,kk.nx,kk.lp,kk.dp,fun hr=>⟨pR (Fq p) fun y hy=>(by rw[g4 p (hsub p hp).1 ((keep p hp).ro hr).1] at hy;cases hy),(kk.ro hr).2⟩⟩
           ·cases t4
          |exit i=>rw[<-hkk] at t4;exact stop (.exit i) ⟨rfl,rfl⟩ t4
          |ret=>rw[<-hkk] at t4;exact stop .ret ⟨rfl,rfl⟩ t4
        ·cases e2') (Ry _) (hpre _ fun _ _ _=>rfl) (by
       refine⟨ys,p,ρ1,rfl,ho,(p1.shift (σ':=σ.enter fr ps a c) (fun _=>rfl) (fun _ _=>rfl)).le (QD _),p0 rfl,⟨fun _ _=>rfl,fun o aX=>?_⟩,?_,fun p hp=>⟨(p2.ob p hp).ob,(p2.ob p hp).ln⟩⟩
       ·have ho:=(hsub o aX).1
        rw[OZ]
        exact⟨(p2.ob o ho).ob,(p2.ob o ho).ln,(p2.ob o ho).om,QD _,⟨fun l hl=>(by show upd σ.loops σ.next _ l=_;unfold upd;rw[if_neg (by omega)]),fun _ _=>rfl⟩,fun _ _ _=>rfl,fun hr=>⟨hr,fun _=>⟨rfl,rfl⟩⟩⟩
       ·show upd σ.loops σ.next _ σ.next=_;unfold upd;rw[if_pos rfl])
      refine⟨m,w,σ2,hm,?_⟩
      rcases O5 with ⟨zs,p',ρ',e1,e2,e3,e4,e5,e6,e7⟩| ⟨e,hfin,e6⟩
      ·cases zs with
       |cons z zs=>cases e1
       |nil=>
        have e2':packOut R W .normal (unpack R q.sh p').obs q.outs=some o:=e2
        obtain⟨ρ4,S4,mR,g1,g2,g3,g4,g5⟩:=ny (nr:=false) (β:=β) hR e3.obs e2'
        have hno:∀p,memN p Wb=false->RO H p->look (unpack R q.sh p').ob p=none:=fun p hp hr=>OQ hdj ((e5.ob p hp).ro hr).1
        have uq:∀p,memN p Wb=false->RO H p->RO (unpack R q.sh p').obs p:=fun p hp hr y hy=>by
         have:look (unpack R q.sh p').ob p=some y:=hy
         rw[hno p hp hr] at this;cases this
        exact⟨_,e6,(by show (0:Nat)≠1;omega),fin σ2 r0 .normal ⟨ρ4,S4,mR,g1,⟨fun _ _=>rfl,fun p hp=>by
         have a1:=e5.ob p hp
         have a2:=g2.ob p (hsub p hp).1
         have uy:=a2.ro
         rw[a1.om] at uy
         exact⟨a2.ob.trans a1.ob,a2.ln.trans a1.ln,a2.om.trans a1.om,Qw a1.nx a2.nx,⟨fun l hl=>(a2.lp.1 l (QF hl a1.nx)).trans (a1.lp.1 l hl),fun s hs=>(a2.lp.2 s (by rw[a1.om];exact hs)).trans (a1.lp.2 s hs)⟩,fun L hn hL=>(a2.dp L (by rw[a1.om];exact hn) (by rw[a1.om];exact hL)).trans (a1.dp L hn hL),fun hr=>⟨(uy (uq p hp hr)).1,fun s=>⟨((uy (uq p hp hr)).2 s).1.trans ((a1.ro hr).2 s).1,((uy (uq p hp hr)).2 s).2.trans ((a1.ro hr).2 s).2⟩⟩⟩⟩,fun p hp hr=>g4 p (hsub p hp).1 (uq p hp hr),g5,fun p hp=>⟨(g2.ob p hp).ob.trans (e7 p hp).1,(g2.ob p hp).ln.trans (e7 p hp).2⟩,fun p hp=>g4 p (hoo p hp).1 fun y hy=>by
         have hy':look (unpack R q.sh p').ob p=some y:=hy
         rw[(hoo p hp).2 p'] at hy';cases hy'⟩⟩
      ·exact⟨_,e6,(by show (2:Nat)≠1;omega),fin σ2 r0 e hfin⟩
     ·cases h'
    ·cases h'
   ·cases h'
  ·cases h'
 |.scope c=>fun hw β st k x fr σ ρ hom h hi=>CW.scope (gJ hF hI c hw _ st k x fr σ ρ hom h hi)
 |.label _=>fun hw _ st k x fr σ ρ _ h hi=>CW.label ⟨ρ,st,hi,.refl,h⟩
 |.goto _=>fun hw _ st k x fr σ ρ _ h hi=>by cases h
 |.refuse _=>fun hw _ st k x fr σ ρ _ h hi=>by cases h
omit hR in
theorem nO {ρ:ak} {b:Nat} {st:MS R.T} {fr:Fr} {σ:Sig} (hi:aj ρ b st fr σ):∀{rs:List ResultVar} {tvs:List (TV R.T)},resM E R st rs=some tvs->∃vs,rs.mapM (resV E fr σ)=some vs/\RlL R ρ σ.top tvs vs
 | [],tvs,h=>by cases h;exact⟨[],rfl,rfl⟩
 |.tmp t::l,tvs,h=>by
  unfold resM at h
  split at h
  ·rename_i v hv
   split at h
   ·rename_i vs hvs
    cases h
    obtain⟨ws,h1,h2⟩:=nO hi hvs
    have:=aC (E:=E) hi .nil hv
    exact⟨fr.tm t::ws,by rw[QH];simp[resV,h1],.cons' this h2⟩
   ·cases h
  ·cases h
 |.cell a t::l,tvs,h=>by
  unfold resM at h
  split at h
  ·rename_i o off hv
   split at h
   ·rename_i cs hl
    split at h
    ·rename_i v hld
     split at h
     ·rename_i vs hvs
      cases h
      obtain⟨ws,h1,h2⟩:=nO hi hvs
      obtain⟨s,h3,h4⟩:=(aC (E:=E) hi .nil hv).dY
      rw[mU] at h4
      obtain⟨s',l',h5,h6,h7⟩:=hi.rd hl
      rw[h3] at h5;cases h5
      obtain⟨y,hy,hr⟩:=jM h7 hld
      exact⟨y::ws,by rw[QH];simp[resV,h4,h6,hy,h1],.cons' hr h2⟩
     ·cases h
    ·cases h
   ·rename_i ss hl
    split at h
    ·rename_i v hld
     split at h
     ·rename_i vs hvs
      cases h
      obtain⟨ws,h1,h2⟩:=nO hi hvs
      obtain⟨s,h3,h4⟩:=(aC (E:=E) hi .nil hv).dY
      rw[mU] at h4
      obtain⟨s',h5,h6⟩:=hi.rd hl
      rw[h3] at h5;cases h5
      obtain⟨y,hy,hr⟩:=DZ (ρ:=ρ) (top:=σ.top) hld
      exact⟨y::ws,by rw[QH];simp[resV,h4,h6,hy,h1],.cons' hr h2⟩
     ·cases h
    ·cases h
   ·cases h
  ·cases h
omit hR in
theorem uz:∀(l:List (TV R.T)) (vs:List V) (i:Nat) (P:TV R.T->V->Prop),(∀j v,l[j]? =some v->P v (vs.getD j undefV))->∀j v,look (initF i l) j=some v->i<=j/\P v (vs.getD (j-i) undefV)
 | [],vs,i,P,_,j,v,h=>by cases h
 |x::l,vs,i,P,hp,j,v,h=>by
  have h':look ((i,x)::initF (i+1) l) j=some v:=h
  by_cases e:j=i
  ·subst e
   rw[bH] at h';cases h'
   exact⟨Qt _,by simpa using hp 0 x rfl⟩
  ·rw[aT _ _ e] at h'
   obtain⟨h1,h2⟩:=uz l vs.tail (i+1) P (fun j v hj=>by
    have:=hp (j+1) v (by simpa using hj)
    cases vs<;>simpa using this) j v h'
   refine⟨by omega,?_⟩
   have e2:j-i=(j-(i+1))+1:=by omega
   rw[e2]
   cases vs<;>simpa using h2
def Cx.main (om:Bool):Cx:=⟨om,1,0,fun _=>none,fun _ _ h=>(by cases h),fun _ _ _ h=>(by cases h)⟩
theorem funM_ok {n:Nat} {om:Bool} {F:Nat->List (FR R)} {I:IR R} (hF:RegsOK E F) (hI:ItersOK E I) {A:Ann} {f:Nat} {fn:Func} {args res:List Sk} {p:PayL R.T args} {x:PayL R.T res} (h:funM E R n om F I A fn args res p=some x) (hf:E.P.funcs[f]? =some fn) (ha:cSkL args=true)
 (hlen:(encSL R args p).length=args.length) (hom:E.om f=om) (hs:E.summ f=none) (hok:(match fn.body with|some c=>decide (args.length<=fn.ntmps)&& bN fn.ntmps c&& iB E c|none=>false)=true):Pure E f (encSL R args p) (retV (encSL R res x)):=by
 unfold funM at h
 split at h
 ·rename_i c hc
  rw[hc] at hok;dsimp only at hok
  rw[iP] at hok
  obtain⟨hok,hwk⟩:=hok
  refine Pure.of' fn.results.toList hf hc (fun fr σ hd ho ht=>?_) rfl (by rw[hlen];exact hok) hs
  have hi:aj ⟨fun _=>none,fun _=>none,fun _=>0,Cx.main om⟩ σ.next (⟨initF 0 (upL R .sh args p),[]⟩:MS R.T) fr σ:={
   d:=hd
   om:=by rw[ho,hom];rfl
   fr:=fun i v hv=>by
    obtain⟨_,h2⟩:=uz _ (encSL R args p) 0 (fun v w=>Rl R ⟨fun _=>none,fun _=>none,fun _=>0,Cx.main om⟩ σ.top v w) (fun j v hj=>by
     obtain⟨w,h1,h2⟩:=(jq hR args p ha).get hj
     rw[Q0,h1];exact h2) i v hv
    rw[ht]
    exact .of (by simpa using h2)
   ob:=fun o x hx=>by cases hx
   inj:=fun t u s h=>by cases h
   lt:=fun t s h=>by cases h
   ge:=fun t s h=>by cases h
   nx:=Rj _}
  refine(gJ hR hF hI c hwk _ _ _ x fr σ _ rfl h hi).mono ?_
  rintro e fr' σ' ⟨ρ',st',hi',_,hk⟩
  have key:(match resM E R st' fn.results.toList with
   |some vs=>bif cSkL res&& Nat.ble (depL res) 16 then pkL R res (cloMs st' vs) else none
   |none=>none)=some x->∃vs,fn.results.toList.mapM (resV E fr' σ')=some vs/\closeV 20 σ' (match vs with| [v]=>v|vs=>.tup vs)=some (retV (encSL R res x)):=by
   intro hk
   split at hk
   ·rename_i tvs qD
    obtain⟨hb,hk⟩:=aH hk
    rw[iP] at hb
    obtain⟨vs,h1,h2⟩:=nO hi' qD
    refine⟨vs,h1,?_⟩
    have Qq:=QJ hb.2
    obtain⟨vs',v1,v2⟩:=pY hR hi' h2
    have c1:=(v2 15).trans (fC hR res x (cloMs st' tvs) vs' hb.1 hk v1 19 σ' (by omega))
    have c2:=(v2 16).trans (fC hR res x (cloMs st' tvs) vs' hb.1 hk v1 20 σ' (by omega))
    clear v1 v2
    match vs,c1,c2 with
    | [],c1,c2=>
      have:encSL R res x=[]:=by simpa using c1.symm
      rw[this]
      show closeV 20 σ' (.tup [])=some (.tup [])
      rw[wP];rfl
    | [v],c1,c2=>
      rw[QH] at c2
      obtain⟨w,hw,c2⟩:=mF.1 c2
      have:[w]=encSL R res x:=by simpa using c2
      rw[<-this];exact hw
    |v::w::vs,c1,c2=>
     show closeV 20 σ' (.tup (v::w::vs))=_
     rw[wP,c1,Option.map_some]
     have hl:(encSL R res x).length=(v::w::vs).length:=by
      have:∀(l:List V) (m:List V),l.mapM (closeV 19 σ')=some m->m.length=l.length:=by
       intro l
       induction l with
       |nil=>intro m h;cases h;rfl
       |cons a l ih=>
        intro m h
        rw[QH] at h
        obtain⟨b,hb,h⟩:=mF.1 h
        obtain⟨c,hc,h⟩:=mF.1 h
        cases h
        simp[ih c hc]
      exact this _ _ c1
     match encSL R res x,hl with
     |a::b::l,_=>rfl
   ·cases hk
  cases e with
  |exit i=>cases hk
  |normal=>exact key hk
  |ret=>exact key hk
 ·cases h
omit hR in
theorem Fz {c:Cp}:∀{l:List Sk} {p:PayL R.T l},(upL R c l p).length=l.length
 | [],_=>rfl
 | [_],_=>rfl
 |_::k::l,p=>by show (upL R c (k::l) p.2).length+1=_;rw[Fz];rfl
omit hR in
theorem O9 {ρ ρ':ak} {top top':Nat->Nat} (hk:∀p,F0<=p->ρ'.ob p=ρ.ob p/\ρ'.ln p=ρ.ln p) (hx:ρ'.om=ρ.om):∀{l:List Sk} {y:PayL R.T l} {vs:List V},scS l=true->RlL R ρ' top (upL R .any l y) vs->RlL R ρ top' (upL R .any l y) vs:=by
 have one:∀(k:Sk) (l:List Sk) (y:PayS R.T k) (v:V),scS (k::l)=true->Rl R ρ' top (up R .any k y) v->Rl R ρ top' (up R .any k y) v:=fun k l y v hs h=>by
  cases k<;>first| (cases hs;done)|skip
  ·rename_i t
   cases t<;>first| (cases hs;done)|exact h
  ·rename_i p t
   have hs':(Nat.ble F0 p&& scS l)=true:=hs
   rw[iP] at hs'
   obtain⟨k1,k2⟩:=hk p (QJ hs'.1)
   obtain⟨g0,g1,g2,h⟩:=Rl.jI (R:=R) h
   show Rl R ρ top' (.sub p t y.1 y.2) v
   unfold Rl
   refine⟨g0,g1,by rw[<-k2];exact g2,?_⟩
   rcases h with ⟨s,cp,h1,h2,h3⟩|h
   ·exact .inl ⟨s,cp,by rw[<-k1];exact h1,h2,by rw[<-hx];exact h3⟩
   ·exact .inr h
 have tl:∀(k:Sk) (l:List Sk),scS (k::l)=true->scS l=true:=fun k l hs=>by
  cases k<;>first| (cases hs;done)|skip
  ·rename_i t
   cases t<;>first| (cases hs;done)|exact hs
  ·have hs':(_&& scS l)=true:=hs
   rw[iP] at hs'
   exact hs'.2
 intro l
 induction l with
 |nil=>intro y vs _ h;exact h
 |cons k l ih=>
  intro y vs hs h
  cases l with
  |nil=>
   obtain⟨v,ws,rfl,h1,h2⟩:=RlL.inv_cons (ts:=[]) h
   rw[h2.inv_nil]
   exact .cons' (one k [] y v hs h1) rfl
  |cons q l=>
   obtain⟨v,ws,rfl,h1,h2⟩:=RlL.inv_cons (ts:=upL R .any (q::l) y.2) h
   exact .cons' (one k _ y.1 v hs h1) (ih (tl _ _ hs) h2)
theorem FB {ρ:ak} {b:Nat} {st:MS R.T} {fr:Fr} {σ:Sig} (hi:aj ρ b st fr σ):∀{ks:List Sk} {tvs:List (TV R.T)} {vs:List V},RlL R ρ σ.top tvs vs->RlL R ρ σ.top (wvs st ks tvs) vs
 | [],_,_,h=>by cases ‹List (TV R.T)› <;>exact h
 |_::_,[],_,h=>h
 |k::ks,x::xs,_,h=>by
  obtain⟨v,ws,rfl,h1,h2⟩:=h.inv_cons
  refine .cons' ?_ (FB hi h2)
  unfold wv1
  split
  ·split
   ·rename_i o t a c hw
    exact xO hR hw h1 hi
   ·exact h1
  ·exact h1
def nP:List (Nat×ObSk)->Bool
 | []=>true
 | (i,_)::l=>Nat.ble F0 i&& nP l
omit hR in
theorem y8:∀{l:List (Nat×ObSk)} {x:PayOs R.T l},nP l=true->∀{i:Nat} {v:Ob R.T},look (upOs R l x) i=some v->F0<=i
 | [],x,_,i,v,hv=>by cases hv
 | [(j,k)],x,h,i,v,hv=>by
   unfold nP at h;rw[iP] at h
   have hv':look [(j,upO R k x)] i=some v:=hv
   by_cases e:i=j
   ·rw[e];exact QJ h.1
   ·rw[aT _ _ e] at hv';cases hv'
 | (j,k)::q::l,x,h,i,v,hv=>by
   unfold nP at h;rw[iP] at h
   have hv':look ((j,upO R k x.1)::upOs R (q::l) x.2) i=some v:=hv
   by_cases e:i=j
   ·rw[e];exact QJ h.1
   ·rw[aT _ _ e] at hv';exact y8 h.2 hv'
theorem funI_ok {n:Nat} {om:Bool} {F:Nat->List (FR R)} {I:IR R} (hF:RegsOK E F) (hI:ItersOK E I) {A:Ann} {f:Nat} {fn:Func} {args res:List Sk} {obs:List (Nat×ObSk)} {p:PayL R.T args} {q:PayOs R.T obs} {y:PayL R.T res} {q':PayOs R.T obs} (h:funI E R n om F I A fn args obs res p q=some (y,q')) (hf:E.P.funcs[f]? =some fn) (hom:E.om f=om)
 (hok:(match fn.body with|some c=>decide (args.length<=fn.ntmps)&& bN fn.ntmps c&& iB E c&& (scS res&& okOs obs&& nP obs)|none=>false)=true):
 ∀(ρ:ak) (vs:List V) (σ:Sig),ρ.om.om=E.om f->(∀t,ρ.tk t=none)->ρ.om.lo<=σ.next->
  RlL R ρ σ.top (upL R .any args p) vs->(∀o x,look (upOs R obs q) o=some x->aK ρ σ o x)->
  Imp E f vs ρ.om.dp σ fun v σ'=>(∃ws,v=retV ws/\RlL R ρ σ'.top (upL R .any res y) ws)/\(∀o x,look (upOs R obs q') o=some x->aK ρ σ' o x)/\σ.next<=σ'.next/\(∀l,l<σ.next->σ'.loops l=σ.loops l)/\(∀s,s<ρ.om.lo->σ'.top s=σ.top s)/\
   ∀L:Loc,L.1<=ρ.om.dp->ρ.om.out L->σ'.obj L=σ.obj L:=by
 intro ρ vs σ qE htk hlo hargs y9
 unfold funI at h
 split at h
 ·rename_i c hc
  rw[hc] at hok;dsimp only at hok
  simp only[iP] at hok
  obtain⟨⟨hok,hwk⟩,⟨hsc,za⟩,hbig⟩:=hok
  have hlen:vs.length=args.length:=by rw[hargs.length];exact Fz
  have hi:aj ρ σ.next (⟨initF 0 (upL R .any args p),upOs R obs q⟩:MS R.T) ({d:=ρ.om.dp,om:=E.om f,tm:=fun i=>vs.getD i undefV}:Fr) σ:={
   d:=rfl
   om:=qE.symm
   fr:=fun i v hv=>by
    obtain⟨_,h2⟩:=uz _ vs 0 (fun v w=>Rl R ρ σ.top v w) (fun j v hj=>by
     obtain⟨w,h1,h2⟩:=hargs.get hj
     rw[Q0,h1];exact h2) i v hv
    exact .of (by simpa using h2)
   ob:=y9
   inj:=fun t u s h=>by rw[htk t] at h;cases h
   lt:=fun t s h=>by rw[htk t] at h;cases h
   ge:=fun t s h=>by rw[htk t] at h;cases h
   nx:=hlo}
  refine Imp.of hf hc (by rw[hlen];simpa using hok) ((gJ hR hF hI c hwk _ _ _ (y,q') _ σ ρ (qE.trans hom) h hi).mono ?_)
  rintro e fr' σ' ⟨ρ',st',hi',hkp,hk⟩
  have key:(match resM E R st' fn.results.toList with
   |some vs=>match pkL R res (wvs st' res vs) with
    |some y=>match pkOs R st'.ob obs with
     |some q'=>some (y,q')
     |none=>none
    |none=>none
   |none=>none)=some (y,q')->∃ws,fn.results.toList.mapM (resV E fr' σ')=some ws/\(fun v σ'=>(∃ws,v=retV ws/\RlL R ρ σ'.top (upL R .any res y) ws)/\(∀o x,look (upOs R obs q') o=some x->aK ρ σ' o x)/\σ.next<=σ'.next/\(∀l,l<σ.next->σ'.loops l=σ.loops l)/\(∀s,s<ρ.om.lo->σ'.top s=σ.top s)/\
    ∀L:Loc,L.1<=ρ.om.dp->ρ.om.out L->σ'.obj L=σ.obj L) (match ws with| [v]=>v|vs=>V.tup vs) σ':=by
   intro hk
   split at hk
   ·rename_i tvs qD
    split at hk
    ·rename_i y' hy'
     split at hk
     ·rename_i q1 hq1
      cases hk
      obtain⟨ws,h1,h2⟩:=nO hi' qD
      have hws:=jo hR res y _ ws hy' (FB hR hi' h2)
      obtain⟨nb,hnb⟩:=jL (wrC E c)
      have hk0:=hkp.ob nb (hnb nb (Qt _))
      refine⟨ws,h1,?_,fun o x hx=>?_,hk0.nx,hk0.lp.1,hk0.lp.2,fun L hL ho=>hk0.dp L (.inr hL) ho⟩
      ·refine⟨ws,?_,O9 (ρ':=ρ') (fun p hp=>?_) hk0.om hsc hws⟩
       ·rcases ws with _| ⟨a,_| ⟨b,l⟩⟩<;>rfl
       ·have hm:memN p (wrC E c)=false:=by
         cases hm:memN p (wrC E c)
         ·rfl
         ·have:=qB hwk p hm;omega
        have hk1:=hkp.ob p hm
        exact⟨hk1.ob,hk1.ln⟩
      ·obtain⟨kk,yy,z,e1,e2,rfl,e4⟩:=nL obs q' hq1 o x hx
       have Pb:=y8 hbig hx
       have hm:memN o (wrC E c)=false:=by
        cases hm:memN o (wrC E c)
        ·rfl
        ·have:=qB hwk o hm;omega
       have hk1:=hkp.ob o hm
       exact qo (e4 za) hk1.ob.symm hk1.ln.symm (by rw[hk1.om]) (pO hR e2 (hi'.ob _ _ e1))
     ·cases hk
    ·cases hk
   ·cases hk
  cases e with
  |exit i=>cases hk
  |normal=>exact key hk
  |ret=>exact key hk
 ·cases h
omit hR in
theorem FC {σ:Sig} {L:Loc} {s:Nat} {cs:List V} (h:σ.cellsAt L s=some cs):σ.obj L=some (s,.cells cs):=by
 unfold Sig.cellsAt at h
 split at h
 ·rename_i s' cs' e
  split at h
  ·rename_i e2;subst e2;cases h;exact e
  ·cases h
 ·cases h
omit hR in
theorem FD {ρ:ak} {b:Nat} {st:MS R.T} {fr:Fr} {σ:Sig} (hi:aj ρ b st fr σ) {o:Nat} {x:Ob R.T} (h:rdOb st o=some x):aK ρ σ o x:=by
 unfold rdOb at h
 cases hb:look st.ob o with
 |none=>rw[hb] at h;cases h
 |some y=>rw[hb] at h;cases h;exact(hi.ob _ _ hb).strip
omit hR in
theorem Pd {ρ ρ':ak} {b:Nat} {st:MS R.T} {fr:Fr} {σ:Sig} (hi:aj ρ' b st fr σ) (hom:ρ'.om=ρ.om) {t t':Ty} {p:Nat} {w:V} {y:List (Den R.T t)} (h:(if t'=t then (bif Nat.blt p F0 then (match rdOb st p with
 |some (.arr _ l)=>castL R l
 |_=>none) else none) else none)=some y) (hv:Rl R ρ' σ.top (.vw p t':TV R.T) w):nK ρ σ (.arr t) y w:=by
 by_cases ht:t'=t
 ·rw[if_pos ht] at h
  obtain⟨hp,h⟩:=aH h
  cases hrd:rdOb st p with
  |none=>rw[hrd] at h;cases h
  |some ob=>
   have aX:=FD hi hrd
   rw[hrd] at h
   cases ob<;>try (cases h;done)
   rename_i t'' l
   have h':castL R (u:=t) l=some y:=h
   unfold castL at h'
   split at h'
   ·rename_i e;subst e ht
    cases h'
    have hpl:ρ.om.lc p=(ρ.om.dp,p):=Cx.lF _ (QJ hp)
    obtain⟨hln,ho⟩:=aX
    rcases Rl.jl hv with ⟨s,h1,h2⟩| ⟨h1,h2⟩
    ·rcases ho with ⟨_,ho⟩| ⟨s',cs,ho,hc,hr⟩
     ·rw[h1] at ho;cases ho
     ·rw[h1] at ho;cases ho
      rw[hom] at hc h2
      left
      refine⟨ρ.om.lc p,s,cs,by rw[hpl];exact Qt _,?_,FC hc,iw _ _ hr⟩
      rw[h2,hln]
    ·right
     rw[h1] at hln
     exact⟨List.length_eq_zero_iff.1 hln,h2⟩
   ·cases h'
 ·rw[if_neg ht] at h;cases h
theorem Pe {ρ ρ':ak} {b:Nat} {st:MS R.T} {fr:Fr} {σ:Sig} (hi:aj ρ' b st fr σ) (hom:ρ'.om=ρ.om) {nk:NK} {v:TV R.T} {w:V} {y:PayN R.T nk} (h:newOf R st nk v=some y) (hv:Rl R ρ' σ.top v w):nK ρ σ nk y w:=by
 cases nk with
 |no=>cases h
 |arr t=>
  by_cases hvw:∃p t',v= .vw p t'
  ·obtain⟨p,t',rfl⟩:=hvw
   exact Pd hi hom h hv
  ·have h':(bif isE v then some ([]:List (Den R.T t)) else none)=some y:=by
    cases v<;>first|exact h|exact absurd ⟨_,_,rfl⟩ hvw
   obtain⟨hE,h'⟩:=aH h'
   cases h'
   exact .inr ⟨rfl,pU (fr:=fr) hE (.of hv)⟩
 |fnc g a b cs=>
  by_cases hvf:∃g' a' p off b',v= .fn g' a' (.ref p off::b')
  ·obtain⟨g',a',p,off,b',rfl⟩:=hvf
   have h':(bif Nat.beq g' g&& (Nat.beq off 0&& (Nat.blt p F0&& (cSkL a&& (cSkL b&& dSk cs))))&& (stL a'&& stL b'&& Nat.ble (depL a) 18&& Nat.ble (depL b) 18) then (match rdOb st p with
    |some (.cells c)=>match pkL R a a',pkL R b b',pkL R cs c with
     |some x,some y,some z=>some (x,y,z)
     |_,_,_=>none
    |_=>none) else none)=some y:=h
   obtain⟨hb,hm⟩:=aH h'
   clear h'
   rw[iP,iP,iP,iP] at hb
   obtain⟨⟨hg,ho,hp,hds⟩,hst⟩:=hb
   simp only[iP] at hst
   obtain⟨⟨⟨hsa,hsb⟩,hda⟩,hdb⟩:=hst
   have hg:=aJ hg
   have ho:=aJ ho
   subst hg ho
   cases hrd:rdOb st p with
   |none=>rw[hrd] at hm;cases hm
   |some ob=>
    have aX:=FD hi hrd
    rw[hrd] at hm
    cases ob<;>try (cases hm;done)
    rename_i c
    cases hx:pkL R a a' with
    |none=>simp only[hx] at hm;cases hm
    |some x=>
    cases hy:pkL R b b' with
    |none=>simp only[hx,hy] at hm;cases hm
    |some y'=>
    cases hz:pkL R cs c with
    |none=>simp only[hx,hy,hz] at hm;cases hm
    |some z=>
     simp only[hx,hy,hz] at hm
     cases hm
     obtain⟨a'',b'',rfl,ha,hb'⟩:=hv.dn
     obtain⟨w1,ws,rfl,h1,h2⟩:=hb'.inv_cons
     obtain⟨s,hs,rfl⟩:=h1.dY
     obtain⟨s',l,hs',hc,hr⟩:=aX
     rw[hs] at hs';cases hs'
     have hpl:ρ.om.lc p=(ρ.om.dp,p):=Cx.lF _ (QJ hp)
     rw[hom] at hc⊢
     have hds':=hds
     rw[iP,iP] at hds
     have e1:=fC hR a x a' a'' hds.1 hx ha 19 Sig.init (by have:=QJ hda;omega)
     have e2:=fC hR b y' b' ws hds.2.1 hy h2 19 Sig.init (by have:=QJ hdb;omega)
     rw[nN hR a'' (iK hR a' a'' hsa ha)] at e1
     rw[nN hR ws (iK hR b' ws hsb h2)] at e2
     cases e1;cases e2
     exact⟨ρ.om.lc p,s,l,by rw[hpl];exact Qt _,rfl,FC hc,lS hds.2.2 (jo hR cs z _ _ hz hr),hds'⟩
  ·exfalso
   cases v<;>try (cases h;done)
   rename_i g' a' b'
   cases b' with
   |nil=>cases h
   |cons v0 b'=>cases v0<;>first| (cases h;done)|exact hvf ⟨_,_,_,_,_,rfl⟩
omit hR in
theorem FE:∀{l:List Sk} {p:PayL R.T l},(upFL R l p).length=l.length
 | [],_=>rfl
 | [k],_=>rfl
 |k::h::l,p=>by show (upFL R (h::l) p.2).length+1=_;rw[FE (l:=h::l)];rfl
theorem funN_ok' {n:Nat} {om:Bool} {F:Nat->List (FR R)} {I:IR R} (hF:RegsOK E F) (hI:ItersOK E I) {A:Ann} {f:Nat} {fn:Func} {args:List Sk} {obs:List (Nat×ObSk)} {nk:NK} {ob2:List (Nat×ObSk)} {p:PayL R.T args} {q:PayOs R.T obs} {y:PayN R.T nk} {q':PayOs R.T ob2} (h:funN E R n om F I A fn args obs nk ob2 p q=some (y,q')) (hf:E.P.funcs[f]? =some fn) (hom:E.om f=om)
 (hok:(match fn.body with|some c=>decide (args.length<=fn.ntmps)&& bN fn.ntmps c&& iB E c&& (okOs ob2&& nP ob2)|none=>false)=true):
 ∀(ρ:ak) (vs:List V) (σ:Sig),ρ.om.om=E.om f->(∀t,ρ.tk t=none)->ρ.om.lo<=σ.next->
  RlL R ρ σ.top (upFL R args p) vs->(∀o x,look (upOs R obs q) o=some x->aK ρ σ o x)->
  Imp E f vs ρ.om.dp σ fun v σ'=>nK ρ σ' nk y v/\(∀o x,look (upOs R ob2 q') o=some x->aK ρ σ' o x)/\σ.next<=σ'.next/\(∀l,l<σ.next->σ'.loops l=σ.loops l)/\(∀s,s<ρ.om.lo->σ'.top s=σ.top s)/\
   ∀L:Loc,L.1<=ρ.om.dp->ρ.om.out L->σ'.obj L=σ.obj L:=by
 intro ρ vs σ qE htk hlo hargs y9
 unfold funN at h
 split at h
 ·rename_i c hc
  rw[hc] at hok;dsimp only at hok
  simp only[iP] at hok
  obtain⟨⟨hok,hwk⟩,za,hbig⟩:=hok
  have hlen:vs.length=args.length:=by rw[hargs.length];exact FE
  have hi:aj ρ σ.next (⟨initF 0 (upFL R args p),upOs R obs q⟩:MS R.T) ({d:=ρ.om.dp,om:=E.om f,tm:=fun i=>vs.getD i undefV}:Fr) σ:={
   d:=rfl
   om:=qE.symm
   fr:=fun i v hv=>by
    obtain⟨_,h2⟩:=uz _ vs 0 (fun v w=>Rl R ρ σ.top v w) (fun j v hj=>by
     obtain⟨w,h1,h2⟩:=hargs.get hj
     rw[Q0,h1];exact h2) i v hv
    exact .of (by simpa using h2)
   ob:=y9
   inj:=fun t u s h=>by rw[htk t] at h;cases h
   lt:=fun t s h=>by rw[htk t] at h;cases h
   ge:=fun t s h=>by rw[htk t] at h;cases h
   nx:=hlo}
  refine Imp.of hf hc (by rw[hlen];simpa using hok) ((gJ hR hF hI c hwk _ _ _ (y,q') _ σ ρ (qE.trans hom) h hi).mono ?_)
  rintro e fr' σ' ⟨ρ',st',hi',hkp,hk⟩
  have key:(match resM E R st' fn.results.toList with
   |some [v]=>match newOf R st' nk v with
    |some y=>match pkOs R st'.ob ob2 with
     |some q'=>some (y,q')
     |none=>none
    |none=>none
   |_=>none)=some (y,q')->∃ws,fn.results.toList.mapM (resV E fr' σ')=some ws/\(fun v σ'=>nK ρ σ' nk y v/\(∀o x,look (upOs R ob2 q') o=some x->aK ρ σ' o x)/\σ.next<=σ'.next/\(∀l,l<σ.next->σ'.loops l=σ.loops l)/\(∀s,s<ρ.om.lo->σ'.top s=σ.top s)/\
    ∀L:Loc,L.1<=ρ.om.dp->ρ.om.out L->σ'.obj L=σ.obj L) (match ws with| [v]=>v|vs=>V.tup vs) σ':=by
   intro hk
   split at hk
   ·rename_i v qD
    split at hk
    ·rename_i y' hy'
     split at hk
     ·rename_i q1 hq1
      cases hk
      obtain⟨ws,h1,h2⟩:=nO hi' qD
      obtain⟨w,us,rfl,h3,h4⟩:=h2.inv_cons
      have Pf:=h4.inv_nil
      subst Pf
      obtain⟨nb,hnb⟩:=jL (wrC E c)
      have hk0:=hkp.ob nb (hnb nb (Qt _))
      refine⟨[w],h1,Pe hR hi' hk0.om hy' h3,fun o x hx=>?_,hk0.nx,hk0.lp.1,hk0.lp.2,fun L hL ho=>hk0.dp L (.inr hL) ho⟩
      obtain⟨kk,yy,z,e1,e2,rfl,e4⟩:=nL ob2 q' hq1 o x hx
      have Pb:=y8 hbig hx
      have hm:memN o (wrC E c)=false:=by
       cases hm:memN o (wrC E c)
       ·rfl
       ·have:=qB hwk o hm;omega
      have hk1:=hkp.ob o hm
      exact qo (e4 za) hk1.ob.symm hk1.ln.symm (by rw[hk1.om]) (pO hR e2 (hi'.ob _ _ e1))
     ·cases hk
    ·cases hk
   ·cases hk
  cases e with
  |exit i=>cases hk
  |normal=>exact key hk
  |ret=>exact key hk
 ·cases h
end
end Aq
end
section
namespace Aq
open Go
def bitAnd (k:IntKind) (x y:Int):Int:=k.wrap (BitVec.ofInt k.bits x&&& BitVec.ofInt k.bits y).toNat
def bitXor (k:IntKind) (x y:Int):Int:=k.wrap (BitVec.ofInt k.bits x^^^BitVec.ofInt k.bits y).toNat
def bitShl (k:IntKind) (x y:Int):Int:=k.wrap (x*2^min y.toNat k.bits)
def bitShr (k:IntKind) (x y:Int):Int:=x.fdiv (2^min y.toNat k.bits)
section
variable {R:Reg} {E:Env}
def addF (f:Nat) (r:FR R) (F:Nat->List (FR R)):Nat->List (FR R):=fun g=>bif Nat.beq g f then r::F g else F g
theorem addF_ok {f:Nat} {r:FR R} {F:Nat->List (FR R)} (hF:RegsOK E F) (h:∀p x,r.F p=some x->Pure E f (encSL R r.args p) (retV (encSL R r.res x))) (ho:r.own=false:=by rfl):RegsOK E (addF f r F):=by
 intro g q hq p x hx
 unfold addF at hq
 cases hb:Nat.beq g f
 ·rw[hb] at hq;exact hF g q hq p x hx
 ·rw[hb,cond_true] at hq
  rcases QN.1 hq with rfl|hq
  ·rw[aJ hb];exact⟨fun _=>h p x hx,fun e=>by rw[ho] at e;cases e⟩
  ·exact hF g q hq p x hx
def noF:Nat->List (FR R):=fun _=>[]
def noI:IR R:=⟨fun _=>[],fun _=>[],fun _=>[]⟩
theorem noI_ok:ItersOK E (noI (R:=R)):=⟨fun _ _ h=>(by cases h),fun _ _ h=>(by cases h),fun _ _ h=>(by cases h)⟩
def addI (g:Nat) (i:FI R) (I:IR R):IR R:=⟨fun f=>bif Nat.beq f g then i::I.it f else I.it f,I.im,I.io⟩
theorem addI_ok {g:Nat} {i:FI R} {I:IR R} (hI:ItersOK E I) (h:E.imp g=true/\∀pa pb xs,i.F pa pb=some xs->IterOK E g (encSL R i.a pa) (encSL R i.b pb) (xs.map (encSL R i.el))):ItersOK E (addI g i I):=by
 refine⟨fun f q hq=>?_,hI.2⟩
 have hq':q∈(bif Nat.beq f g then i::I.it f else I.it f):=hq
 cases hb:Nat.beq f g
 ·rw[hb] at hq';exact hI.1 f q hq'
 ·rw[hb,cond_true] at hq'
  rcases QN.1 hq' with rfl|hq'
  ·rw[aJ hb];exact h
  ·exact hI.1 f q hq'
def addM (g:Nat) (m:FM R) (I:IR R):IR R:=⟨I.it,fun f=>bif Nat.beq f g then m::I.im f else I.im f,I.io⟩
theorem addM_ok {g:Nat} {m:FM R} {I:IR R} (hI:ItersOK E I) (h:FMOK E g m) (hg:E.imp g=true:=by rfl):ItersOK E (addM g m I):=by
 refine⟨hI.1,fun f r hr=>?_,hI.2.2⟩
 have hr':r∈(bif Nat.beq f g then m::I.im f else I.im f):=hr
 cases hb:Nat.beq f g
 ·rw[hb] at hr';exact hI.2.1 f r hr'
 ·rw[hb,cond_true] at hr'
  rcases QN.1 hr' with rfl|hr'
  ·rw[aJ hb];exact⟨hg,h⟩
  ·exact hI.2.1 f r hr'
def addIo (g:Nat) (i:FO R) (I:IR R):IR R:=⟨I.it,I.im,fun f=>bif Nat.beq f g then i::I.io f else I.io f⟩
theorem addIo_ok {g:Nat} {i:FO R} {I:IR R} (hI:ItersOK E I) (h:E.imp g=true/\∀pa pb pc xs,i.F pa pb pc=some xs->∀cs,(∃ρ top,RlL R ρ top (upL R .any i.cs pc) cs)->IterO E i.q g (encSL R i.a pa) (encSL R i.b pb) cs (xs.map (encSL R i.el))):ItersOK E (addIo g i I):=by
 refine⟨hI.1,hI.2.1,fun f q hq=>?_⟩
 have hq':q∈(bif Nat.beq f g then i::I.io f else I.io f):=hq
 cases hb:Nat.beq f g
 ·rw[hb] at hq';exact hI.2.2 f q hq'
 ·rw[hb,cond_true] at hq'
  rcases QN.1 hq' with rfl|hq'
  ·rw[aJ hb];exact h
  ·exact hI.2.2 f q hq'
theorem noF_ok:RegsOK E (noF (R:=R)):=fun _ _ h=>by cases h
end
def rndM (E:Env) (R:Reg) (n:Nat) (om:Bool) (F:Nat->List (FR R)) (I:IR R) (A:Ann) (c:Option Code) (el:List Sk) {β:Type} (x:PayL R.T el) (st:MS R.T) (k:Ex->MS R.T->Option β):Option β:=match c with
 |some (.rangeFunc _ ps a c)=>match putPs st ps.toList (upL R .sh el x) with
  |some st=>codeM E R n om F I A a st fun e st=>match e with
   |.normal=>codeM E R n om F I A c st k
   |_=>none
  |none=>none
 |_=>none
def wrR (E:Env) (c:Option Code):List Nat:=match c with
 |some (.rangeFunc _ ps a c)=>ps.toList++wrC E a++wrC E c
 |_=>[]
def dflG1:(k:SgK)->PayG1 k
 |.i _=>(0:Int)
 |.a _ n=>Vec.rep n 0
def dflG:(l:List SgK)->PayG l
 | []=>()
 | [k]=>dflG1 k
 |k::h::l=>(dflG1 k,dflG (h::l))
section
variable (R:Reg)
mutual
def dflS:(k:Sk)->PayS R.T k
 |.d t=>dfl R t
 |.l _ t=>([]:List (Den R.T t))
 |.agg l=>dflL l
 |.ref _ _=>()
 |.cref l _=>dflL l
 |.mapr _=>()
 |.mapc k e=>([]:List (Den R.T k×Den R.T e))
 |.fn _ a b=>(dflL a,dflL b)
 |.nils=>()
 |.vw _ _=>()
 |.sub _ _=>((0:Int),(0:Int))
 |.sg l=>dflG l
 |.undef=>()
def dflL:(l:List Sk)->PayL R.T l
 | []=>()
 | [k]=>dflS k
 |k::h::l=>(dflS k,dflL (h::l))
end
end
end Aq
end
