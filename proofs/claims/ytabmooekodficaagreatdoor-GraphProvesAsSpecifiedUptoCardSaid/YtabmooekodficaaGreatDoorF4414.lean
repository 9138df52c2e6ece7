import Derived.ChangeShapes
import Derived.Test.YtabmooekodficaaGreatDoorF4413
import Derived.WideShapes
set_option linter.all false
section
namespace Aq
open Go
section
variable {R:Reg} {E:Env} (hR:RegOK R)
include hR
def Ih (E:Env) (om:Bool) (c:Code) (body:{β:Type}->MS R.T->(Ex->MS R.T->Option β)->Option β):Prop:=
 ∀(β:Type) (st:MS R.T) (k:Ex->MS R.T->Option β) (x:β) (fr:Fr) (σ:Sig) (ρ:au),ρ.om.om=om->body st k=some x->ak ρ σ.next st fr σ->CW E c fr σ fun e fr' σ'=>∃ρ' st',ak ρ' σ'.next st' fr' σ'/\Kp (quietC E c) (wrC E c) st fr σ ρ st' fr' σ' ρ'/\k e st'=some x
omit hR in
theorem Ii:∀(ρ:au) (σ:Sig) (o:Nat) (x:Ob R.T),aR (R:=R) ρ σ o x->aR (R:=R) ρ σ o (.ro x):=fun _ _ _ _ h=>h
theorem OL {om:Bool} {β:Type} {c:Code} {key:Nat} {sh:Shape} {outs:List (Ex×Shape)} {body:{β:Type}->MS R.T->(Ex->MS R.T->Option β)->Option β} (hb:Ih E om c body) {H B:MS R.T} {Ij:Fr} {σ0:Sig} {ρ0:au} (hom:ρ0.om.om=om)
 (hB:∀(st' S':MS R.T) (fr':Fr) (σ':Sig) (ρ':au) (b':Nat),ak ρ' b' st' fr' σ'->Kp (quietC E c) (wrC E c) H Ij σ0 ρ0 S' fr' σ' ρ'->ak ρ' b' B fr' σ') (hro:∀o,RO B o):
 ∀(m:Nat) (p:Pay R.T sh) (o:Out R.T outs) (fr:Fr) (σ:Sig) (ρ:au),loopF key (wrC E c) B sh outs body m p=some o->ak ρ σ.next (unpack R sh p) fr σ->Kp (quietC E c) (wrC E c) H Ij σ0 ρ0 (B.over (unpack R sh p)) fr σ ρ->
 CW E (.loop c) fr σ fun e fr' σ'=>∃ρ' S' st',ak ρ' σ'.next st' fr' σ'/\Kp (quietC E c) (wrC E c) H Ij σ0 ρ0 S' fr' σ' ρ'/\(∀o,memN o (wrC E c)=false->RO H o->look st'.ob o=none)/\∀(k:Ex->MS R.T->Option β) (bs:MS R.T),unpackOut R bs k outs o=k e (bs.over st')
 |0,p,o,fr,σ,ρ,h,_,_=>by cases h
 |m+1,p,o,fr,σ,ρ,h,hi,hkp=>by
  unfold loopF at h
  have hbase:ak ρ σ.next B fr σ:=hB _ _ _ _ _ _ hi hkp
  refine CW.loop ((hb _ _ _ _ fr σ ρ ((congrArg Cx.om hkp.om).trans hom) h (hbase.over hi)).mono ?_)
  rintro e fr' σ' ⟨ρ',st',hi',lq,hk⟩
  have hall:=hkp.trans lq
  cases e with
  |normal=>
   dsimp only at hk
   split at hk
   ·rename_i p' hp'
    obtain⟨ρ2,S2,h1,h2,_,h3⟩:=hi'.packW hR hp'
    have oF:=hall.trans h2
    refine OL hb hom hB hro m p' o fr' σ' ρ2 hk h1 ⟨oF.fr,fun q hq=>⟨(oF.ob q hq).ob,(oF.ob q hq).ln,(oF.ob q hq).om,(oF.ob q hq).nx,(oF.ob q hq).lp,(oF.ob q hq).dp,fun hr=>⟨?_,((oF.ob q hq).ro hr).2⟩⟩⟩
    exact xH (hro q) fun x hx=>(by rw[h3 q hq ((hall.ob q hq).ro hr).1] at hx;cases hx)
   ·cases hk
  |exit i=>
   obtain⟨ρ2,S2,bL,h1,h2,_,h3,h4⟩:=tK (β:=β) hR hi' hk
   exact⟨ρ2,S2,bL,h1,hall.trans h2,fun q hq hr=>h3 q hq ((hall.ob q hq).ro hr).1,h4⟩
  |ret=>
   obtain⟨ρ2,S2,bL,h1,h2,_,h3,h4⟩:=tK (β:=β) hR hi' hk
   exact⟨ρ2,S2,bL,h1,hall.trans h2,fun q hq hr=>h3 q hq ((hall.ob q hq).ro hr).1,h4⟩
omit hR in
theorem OM {om:Bool} {c:Code} {body:{β:Type}->MS R.T->(Ex->MS R.T->Option β)->Option β} (hb:Ih E om c body) {β:Type}:∀(m:Nat) (st:MS R.T) (k:Ex->MS R.T->Option β) (x:β) (fr:Fr) (σ:Sig) (ρ:au),ρ.om.om=om->unrF (R:=R) (fun st k=>body st k) m st k=some x->ak ρ σ.next st fr σ->
 CW E (.loop c) fr σ fun e fr' σ'=>∃ρ' st',ak ρ' σ'.next st' fr' σ'/\Kp (quietC E c) (wrC E c) st fr σ ρ st' fr' σ' ρ'/\k e st'=some x
 |0,st,k,x,fr,σ,ρ,_,h,_=>by cases h
 |m+1,st,k,x,fr,σ,ρ,hom,h,hi=>by
  unfold unrF at h
  refine CW.loop ((hb _ _ _ _ fr σ ρ hom h hi).mono ?_)
  rintro e fr' σ' ⟨ρ',st',hi',lq,hk⟩
  cases e with
  |normal=>
   dsimp only at hk
   by_cases hW:True
   ·refine(OM hb m st' k x fr' σ' ρ' ?_ hk hi').mono ?_
    ·exact(congrArg Cx.om lq.om).trans hom
    ·rintro e og cO ⟨ig,bL,h1,h2,h3⟩
     exact⟨ig,bL,h1,lq.trans h2,h3⟩
   ·exact absurd trivial hW
  |exit i=>exact⟨ρ',st',hi',lq,hk⟩
  |ret=>exact⟨ρ',st',hi',lq,hk⟩
omit hR in
def Ik {X:Type} (key:Nat) (W:List Nat) (b:MS R.T) (sh:Shape) (outs:List (Ex×Shape)) (body:{β:Type}->X->MS R.T->(Ex->MS R.T->Option β)->Option β) (xs:List X) (e:Ex) (st:MS R.T):Option (Out R.T outs):=match e with
    |.normal=>match packW R W st.obs sh with
     |some p=>foldF key W b sh outs body xs p
     |none=>none
    |e=>packOut R W e st.obs outs
omit hR in
def OO (r0:gq) (l:Nat) (σ3:Sig) (x:Ex) (bb:Bool) (σ':Sig):Prop:=match x with
 |.normal=>bb=true/\σ'=σ3.bC l {r0 with st:=0,pend:=none}
 |e=>bb=false/\σ'=σ3.bC l {r0 with st:=2,pend:=some e}
omit hR in
theorem ak.OP {ρ:au} {b:Nat} {st:MS R.T} {fr fr':Fr} {σ:Sig} (h:ak ρ b st fr σ) (he:st.fr=[]) (hd:fr'.d=ρ.om.dp) (ho:fr'.om=ρ.om.om):ak ρ b st fr' σ:={h with
 d:=hd
 om:=ho
 fr:=fun i v hv=>by rw[he] at hv;cases hv}
omit hR in
theorem ak.obs {ρ:au} {b:Nat} {st:MS R.T} {fr:Fr} {σ:Sig} (h:ak ρ b st fr σ):ak ρ b st.obs fr σ:={h with
 fr:=fun i v hv=>by cases hv
 ob:=h.ob}
omit hR in
theorem ay.weak {nr:Bool} {o:Nat} {st st':MS R.T} {ρ ρ':au} {σ σ':Sig} (h:ay nr o st ρ σ st' ρ' σ'):ay false o st ρ σ st' ρ' σ':=⟨h.ob,h.ln,h.om,h.nx,h.lp,fun L hL=>h.dp L (.inr (by rcases hL with e|e;cases e;exact e)),h.ro⟩
omit hR in
theorem ay.shift {o:Nat} {st st':MS R.T} {ρ ρ':au} {σ σ' cO:Sig} (h:ay false o st ρ σ st' ρ' σ') (hp:∀L:Loc,L.1<=ρ.om.dp->cO.obj L=σ'.obj L) (hn:σ'.next<=cO.next) (hl:∀l,l<σ.next->cO.loops l=σ'.loops l) (ht:∀s,s<ρ.om.lo->cO.top s=σ'.top s):ay false o st ρ σ st' ρ' cO:=
 ⟨h.ob,h.ln,h.om,aaI h.nx hn,⟨fun l hl'=>(hl l hl').trans (h.lp.1 l hl'),fun s hs=>(ht s hs).trans (h.lp.2 s hs)⟩,fun L hL ho=>(hp L (by rcases hL with e|e;cases e;exact e)).trans (h.dp L hL ho),fun hr=>⟨(h.ro hr).1,fun s=>by
   have:=(h.ro hr).2 s
   unfold Sig.cellsAt Sig.bg at this⊢
   rw[hp _ (ρ.om.jh o)];exact this⟩⟩
omit hR in
theorem OQ {c c':Cx} (h:c'=c) (p:Nat):(c'.lc p).1<=c.dp:=by rw[<-h];exact c'.jh p
def jN (E:Env) (c:Code):Bool:=(wrC E c).all fun d=>Nat.blt d F0
omit hR in
theorem OT {c:Code} (h:jN E c=true):∀d,memN d (wrC E c)=true->d<F0:=fun d hd=>by
 unfold jN at h
 rw[aeP] at h
 have:=h d (Oh hd)
 unfold Nat.blt at this
 exact ae2 this
omit hR in
theorem OU {ρ:au} {b:Nat} {σ:Sig}:∀{ps:List Nat} {tvs:List (TV R.T)} {vs:List V} {st st':MS R.T} {fr:Fr},putPs st ps tvs=some st'->RlL R ρ σ.top tvs vs->ak ρ b st fr σ->ps.length=vs.length/\ak ρ b st' {fr with tm:=(ps.zip vs).foldl (fun tm (p,a)=>upd tm p a) fr.tm} σ/\st'.ob=st.ob
 | [],[],vs,st,st',fr,h,hr,hi=>by
   cases h;rw[hr.inv_nil];exact⟨rfl,hi,rfl⟩
 | [],_::_,_,_,_,_,h,_,_=>by cases h
 |_::_,[],_,_,_,_,h,_,_=>by cases h
 |i::ps,t::tvs,vs,st,st',fr,h,hr,hi=>by
  obtain⟨v,ws,rfl,h1,h2⟩:=hr.inv_cons
  obtain⟨a1,a2,a3⟩:=OU (fr:=fr.set i v) (show putPs (st.put i t) ps tvs=some st' from h) h2 (hi.put i (.of h1))
  exact⟨by simp[a1],a2,a3⟩
omit hR in
theorem OV {k:ObSk} {x:PayO R.T k}:isRo (upO R k x)=false:=by cases k<;>rfl
omit hR in
theorem Il {o:Nat} {y:Ob R.T} {O:List Nat}:∀{l:List (Nat×ObSk)} {x:PayOs R.T l},disjO O l=true->look (upOs R l x) o=some y->memN o O=false/\isRo y=false
 | [],x,_,h=>by cases h
 | [(i,k)],x,hd,h=>by
   unfold disjO at hd
   rw[RS,aff] at hd
   have h':look [(i,upO R k x)] o=some y:=h
   by_cases e:o=i
   ·subst e;rw[bX] at h';cases h';exact⟨hd.1,OV⟩
   ·rw[bf _ _ e] at h';cases h'
 | (i,k)::q::l,x,hd,h=>by
   unfold disjO at hd
   rw[RS,aff] at hd
   have h':look ((i,upO R k x.1)::upOs R (q::l) x.2) o=some y:=h
   by_cases e:o=i
   ·subst e;rw[bX] at h';cases h';exact⟨hd.1,OV⟩
   ·rw[bf _ _ e] at h';exact Il hd.2 h'
omit hR in
theorem Zy {W K O:List Nat} {mark:Ob R.T->Ob R.T} {st:MS R.T} {s:Shape} {p:Pay R.T s} {o:Nat} (hd:disjO O s.ob=true) (h:RO ((base W K O mark st).over (unpack R s p)) o):look (unpack R s p).ob o=none:=by
 cases hu:look (unpack R s p).ob o with
 |none=>rfl
 |some y=>
  exfalso
  have hk:memN o O=false/\isRo y=false:=by
   obtain⟨sl,ob⟩:=s
   cases ob with
   |nil=>cases hu
   |cons a as=>exact Il hd hu
  have hb:look (base W K O mark st).ob o=none:=by
   have:∀is:List Nat,memN o is=false->look (selF (fun o b=>!(memN o W)&& solidO W b) mark st.ob is) o=none:=by
    intro is
    induction is with
    |nil=>intro _;rfl
    |cons j is ih=>
     intro h
     have h':(Nat.beq o j||memN o is)=false:=h
     rw[ae8] at h'
     unfold selF
     split
     ·rename_i x hx
      cases (!(memN j W)&& solidO W x)
      ·exact ih h'.2
      ·rw[cond_true,bf _ _ (qg h'.1)];exact ih h'.2
     ·exact ih h'.2
   exact this O hk.1
  have:=h y (by show look ((base W K O mark st).ob++(unpack R s p).ob) o=some y;rw[kC,hb];exact hu)
  rw[hk.2] at this;cases this
def ItersOK (E:Env) (I:IR R):Prop:=(∀g,∀i∈I.it g,E.imp g=true/\∀pa pb xs,i.F pa pb=some xs->IterOK E g (encSL R i.a pa) (encSL R i.b pb) (xs.map (encSL R i.el)))/\BP E I.im/\
 ∀g,∀i∈I.io g,E.imp g=true/\∀pa pb pc xs,i.F pa pb pc=some xs->∀cs,(∃ρ top,RlL R ρ top (upL R .any i.cs pc) cs)->IterO E i.q g (encSL R i.a pa) (encSL R i.b pb) cs (xs.map (encSL R i.el))
theorem Ce {σ:Sig} {n:Nat}:∀cs:List V,pcleanL cs=true->cs.mapM (closeV (n+1) σ)=some cs:=by
 intro cs
 induction cs with
 |nil=>intro _;rfl
 |cons a l ih=>
  intro h
  simp only[pcleanL,RS] at h
  rw[aew,closeV_clean h.1,ih h.2];rfl
theorem OX {I:IR R} (hI:ItersOK E I) {g:Nat} {ρ:au} {top:Nat->Nat} {u v:List (TV R.T)} {va vb:List V} (hu:stL u=true) (hv:stL v=true) (ha:RlL R ρ top u va) (hb:RlL R ρ top v vb):∀{l:List (FI R)} {el:List Sk} {o:Option (List (PayL R.T el))},(∀i∈l,i∈I.it g)->findI u v l=some ⟨el,o⟩->
 E.imp g=true/\cSkL el=true/\∀xs,o=some xs->IterOK E g va vb (xs.map (encSL R el))
 | [],el,o,_,h=>by cases h
 |i::l,el,o,hl,h=>by
  unfold findI at h
  split at h
  ·rename_i pa pb hpa hpb
   obtain⟨hc,h⟩:=aM h
   simp only[RS] at hc
   obtain⟨⟨⟨⟨c1,c2⟩,c3⟩,c4⟩,c5⟩:=hc
   cases h
   obtain⟨h1,h2⟩:=hI.1 g i (hl i (by simp))
   refine⟨h1,c3,fun xs hx=>?_⟩
   have e1:=iN hR i.a pa u va c1 hpa ha 19 Sig.init (by have:=ae2 c4;omega)
   have e2:=iN hR i.b pb v vb c2 hpb hb 19 Sig.init (by have:=ae2 c5;omega)
   rw[Ce hR va (kZ hR u va hu ha)] at e1
   rw[Ce hR vb (kZ hR v vb hv hb)] at e2
   cases e1;cases e2
   exact h2 pa pb xs hx
  ·exact OX hI hu hv ha hb (fun x hx=>hl x (by simp[hx])) h
theorem OY {I:IR R} (hI:ItersOK E I) {g:Nat} {ρ:au} {top:Nat->Nat} {u v c:List (TV R.T)} {va vb vc:List V} (hu:stL u=true) (hv:stL v=true) (ha:RlL R ρ top u va) (hb:RlL R ρ top v vb) (hc:RlL R ρ top c vc):∀{l:List (FO R)} {el:List Sk} {o:Option (List (PayL R.T el))} {kq:Bool},(∀i∈l,i∈I.io g)->findIo u v c l=some ⟨el,o,kq⟩->
 E.imp g=true/\cSkL el=true/\∀xs,o=some xs->IterO E kq g va vb vc (xs.map (encSL R el))
 | [],el,o,_,_,h=>by cases h
 |i::l,el,o,kq,hl,h=>by
  unfold findIo at h
  split at h
  ·rename_i pa pb pc hpa hpb hpc
   obtain⟨hc',h⟩:=aM h
   simp only[RS] at hc'
   obtain⟨⟨⟨⟨⟨c1,c2⟩,c6⟩,c3⟩,c4⟩,c5⟩:=hc'
   cases h
   obtain⟨h1,h2⟩:=hI.2.2 g i (hl i (by simp))
   refine⟨h1,c3,fun xs hx=>?_⟩
   have e1:=iN hR i.a pa u va c1 hpa ha 19 Sig.init (by have:=ae2 c4;omega)
   have e2:=iN hR i.b pb v vb c2 hpb hb 19 Sig.init (by have:=ae2 c5;omega)
   rw[Ce hR va (kZ hR u va hu ha)] at e1
   rw[Ce hR vb (kZ hR v vb hv hb)] at e2
   cases e1;cases e2
   exact h2 pa pb pc xs hx vc ⟨ρ,top,nZ hR i.cs pc _ _ hpc hc⟩
  ·exact OY hI hu hv ha hb hc (fun x hx=>hl x (by simp[hx])) h
def oG (ρ:au) (oo:Option Nat):Option Loc:=oo.map ρ.om.lc
theorem Zz {I:IR R} (hI:ItersOK E I) {ρ:au} {b:Nat} {st:MS R.T} {fr:Fr} {σ:Sig} (hi:ak ρ b st fr σ) {g:Nat} {u v:List (TV R.T)} {va vb:List V} (ha:RlL R ρ σ.top u va) (hb:RlL R ρ σ.top v vb) {el:List Sk} {o:Option (List (PayL R.T el))} {oo:Option Nat} {kq:Bool} (h:iterM st I g u v=some ⟨el,o,oo,kq⟩):
 E.imp g=true/\cSkL el=true/\(∀p,oo=some p->∃c,look st.ob p=some (.cells c))/\∀xs,o=some xs->∃pre:Sig->Prop,(∀σ':Sig,(∀loc,oG ρ oo=some loc->∀s,σ'.cellsAt loc s=σ.cellsAt loc s)->pre σ')/\Ig E kq g va vb (oG ρ oo) pre (xs.map (encSL R el)):=by
 unfold iterM at h
 split at h
 ·rename_i p off v'
  obtain⟨hc,hm⟩:=aM h
  clear h
  simp only[RS] at hc
  have hoff:=aP hc.2
  subst hoff
  split at hm
  ·rename_i c hl
   split at hm
   ·rename_i ZA xs' hf
    cases hm
    obtain⟨w,ws,rfl,h1,h2⟩:=hb.inv_cons
    obtain⟨s,hs,rfl⟩:=h1.fU
    obtain⟨s',cs,hs',hcs,hr⟩:=hi.ob _ _ hl
    rw[hs] at hs';cases hs'
    obtain⟨g1,g2,g3⟩:=OY hR hI hc.1.1 hc.1.2 ha h2 hr (fun _ h=>h) hf
    refine⟨g1,g2,fun q hq=>(by cases hq;exact⟨c,hl⟩),fun xs hx=>⟨fun σ'=>σ'.cellsAt (ρ.om.lc p) s=some cs,fun σ' h=>(h _ rfl s).trans hcs,?_⟩⟩
    exact g3 xs hx (ρ.om.lc p) s
   ·cases hm
  ·cases hm
 ·obtain⟨hc,h⟩:=aM h
  rw[RS] at hc
  split at h
  ·rename_i ZA xs' hf
   cases h
   obtain⟨g1,g2,g3⟩:=OX hR hI hc.1 hc.2 ha hb (fun _ h=>h) hf
   exact⟨g1,g2,fun q hq=>(by cases hq),fun xs hx=>⟨fun _=>True,fun _ _=>trivial,(g3 xs hx).G⟩⟩
  ·cases h
omit hR in
theorem ak.OZ {ρ:au} {b:Nat} {st:MS R.T} {fr:Fr} {σ σ':Sig} (h:ak ρ b st fr σ) (hp:∀p x,look st.ob p=some x->σ'.obj (ρ.om.lc p)=σ.obj (ρ.om.lc p)) (ht:∀s,s<b->σ'.top s=σ.top s):ak ρ b st fr σ':={h with
 fr:=fun i v hv=>(h.fr i v hv).top fun u s hu=>ht s (h.lt u s hu)
 ob:=fun o x hx=>yg (hp o x hx) (fun u s hu=>ht s (h.lt u s hu)) (h.ob o x hx)}
omit hR in
theorem ay.O1 {L0:Option Loc} {o:Nat} {st st':MS R.T} {ρ ρ':au} {σ σ' cO:Sig} (h:ay false o st ρ σ st' ρ' σ') (hp:∀L:Loc,L.1<=ρ.om.dp->L0≠some L->cO.obj L=σ'.obj L) (hout:∀L:Loc,ρ.om.out L->L0≠some L) (ho:L0≠some (ρ.om.lc o)) (hn:σ'.next<=cO.next) (hl:∀l,l<σ.next->cO.loops l=σ'.loops l) (ht:∀s,s<ρ.om.lo->cO.top s=σ'.top s):ay false o st ρ σ st' ρ' cO:=
 ⟨h.ob,h.ln,h.om,aaI h.nx hn,⟨fun l hl'=>(hl l hl').trans (h.lp.1 l hl'),fun s hs=>(ht s hs).trans (h.lp.2 s hs)⟩,fun L hL ho'=>(hp L (by rcases hL with e|e;cases e;exact e) (hout L ho')).trans (h.dp L hL ho'),fun hr=>⟨(h.ro hr).1,fun s=>by
   have:=(h.ro hr).2 s
   unfold Sig.cellsAt Sig.bg at this⊢
   rw[hp _ (ρ.om.jh o) ho];exact this⟩⟩
omit hR in
theorem ZB {s:Shape} {o:Nat} (hd:disjO [o] s.ob=true) {p:Pay R.T s}:look (unpack R s p).ob o=none:=by
 cases hu:look (unpack R s p).ob o with
 |none=>rfl
 |some y=>
  exfalso
  obtain⟨sl,ob⟩:=s
  cases ob with
  |nil=>cases hu
  |cons a as=>
   have:=(Il hd hu).1
   unfold memN at this
   rw[afi] at this
   cases this
omit hR in
theorem ZC {oo:Option Nat} {W:List Nat} {p:Nat} (h:memN p (addW oo W)=false):memN p W=false/\oo≠some p:=by
 cases oo with
 |none=>exact⟨h,by simp⟩
 |some o=>
  have h':(Nat.beq p o||memN p W)=false:=h
  rw[ae8] at h'
  exact⟨h'.2,fun e=>by cases e;exact qg h'.1 rfl⟩
omit hR in
theorem ZE {oo:Option Nat} {W:List Nat} {p:Nat} (h:memN p (addW oo W)=true) (hw:memN p W=false):oo=some p:=by
 cases oo with
 |none=>rw[show addW none W=W from rfl,hw] at h;cases h
 |some o=>
  have h':(Nat.beq p o||memN p W)=true:=h
  rw[hw,Bool.or_false] at h'
  rw[aP h']
theorem jm {n:Nat} {om:Bool} {F:Nat->List (FR R)} {I:IR R} (hF:RegsOK E F) (hI:ItersOK E I) {A:Ann}:∀c:Code,jN E c=true->Ih E om c fun st k=>codeM E R n om F I A c st k
 |.skip=>fun hw _ st k x fr σ ρ _ h hi=>CW.skip ⟨ρ,st,hi,.refl,h⟩
 |.exit i=>fun hw _ st k x fr σ ρ _ h hi=>CW.exit ⟨ρ,st,hi,.refl,h⟩
 |.ret=>fun hw _ st k x fr σ ρ _ h hi=>CW.ret ⟨ρ,st,hi,.refl,h⟩
 |.region id ops dr=>fun hw β st k x fr σ ρ hom h hi=>by
  have h':(bif dr then (bif edgesOK ops.toList then opsDM E R om F I.im (preM ops.toList) ops.toList ops.toList st [] (fun st=>k .normal st) else none) else opsM E R om F I.im ops.toList ops.toList st (fun st=>k .normal st))=some x:=h
  have O4:∀{nr:Bool} {W:List Nat} {st':MS R.T} {fr':Fr} {σ':Sig} {ρ':au} {j:Nat},Kp nr W st fr (σ.bump j) ρ st' fr' σ' ρ'->Kp nr W st fr σ ρ st' fr' σ' ρ':=fun h=>⟨h.fr,fun o ho=>⟨(h.ob o ho).ob,(h.ob o ho).ln,(h.ob o ho).om,aaI (aeG _ _) (h.ob o ho).nx,⟨fun l hl=>(h.ob o ho).lp.1 l (aeD hl (aeG _ _)),(h.ob o ho).lp.2⟩,(h.ob o ho).dp,fun hr=>⟨((h.ob o ho).ro hr).1,((h.ob o ho).ro hr).2⟩⟩⟩
  cases dr with
  |true=>
   rw[cond_true] at h'
   obtain⟨he,h'⟩:=aM h'
   refine CW.draw he (uh hR hF hI.2.1 _ σ.next ρ st fr _ [] (OT hw) hom (hi.next _) (iP _) h' ?_)
   intro ρ' st' fr' σ' hi' hn hkp hk
   exact⟨ρ',st',hi'.le hn,O4 hkp,hk⟩
  |false=>
   rw[cond_false] at h'
   refine CW.region (oD hR hF hI.2.1 _ σ.next ρ st fr _ (OT hw) hom (hi.next _) (iP _) h' ?_)
   intro ρ' st' fr' σ' hi' hn hkp hk
   exact⟨ρ',st',hi'.le hn,O4 hkp,hk⟩
 |.seq a b=>fun hw β st k x fr σ ρ hom h hi=>by
  have h':(match look A.joins (firstId' b) with
   |none=>codeM E R n om F I A a st fun e st=>match e with
    |.normal=>codeM E R n om F I A b st k
    |e=>k e st
   |some q=>(codeM E R n om F I A (β:=Out R.T q.outs) a ((base (wrC E a) q.K q.O .ro st).over st) fun e st=>packOut R (wrC E a) e st q.outs).bind (unpackOut R (base (wrC E a) q.K q.O (fun b=>b) st) (fun e st=>match e with
    |.normal=>codeM E R n om F I A b st k
    |e=>k e st) q.outs))=some x:=h
  have hw2:jN E a=true/\jN E b=true:=by
   have hw':((wrC E a++wrC E b).all fun d=>Nat.blt d F0)=true:=hw
   rw[List.all_append,RS] at hw';exact hw'
  have hl:∀i,memN i (wrC E (.seq a b))=false->memN i (wrC E a)=false/\memN i (wrC E b)=false:=fun i hi=>by
   have hi':memN i (wrC E a++wrC E b)=false:=hi
   rw[xG,ae8] at hi';exact hi'
  have fin:∀(e:Ex) (st':MS R.T) (fr':Fr) (σ':Sig) (ρ':au),ak ρ' σ'.next st' fr' σ'->Kp (quietC E a) (wrC E a) st fr σ ρ st' fr' σ' ρ'->(match e with
   |.normal=>codeM E R n om F I A b st' k
   |e=>k e st')=some x->SeqQ E b (fun e fr' σ'=>∃ρ' st',ak ρ' σ'.next st' fr' σ'/\Kp (quietC E (.seq a b)) (wrC E (.seq a b)) st fr σ ρ st' fr' σ' ρ'/\k e st'=some x) e fr' σ':=by
   intro e st' fr' σ' ρ' hi' hkp hk
   have Im:=(hkp.mono (W':=wrC E (.seq a b)) fun i hi=>(hl i hi).1).nr (yw:=quietC E (.seq a b)) (fun e=>by simp only[quietC,RS] at e;exact e.1)
   cases e with
   |normal=>
    refine(jm hF hI b hw2.2 _ st' k x fr' σ' ρ' ((congrArg Cx.om hkp.om).trans hom) hk hi').mono ?_
    rintro e og cO ⟨ig,bL,h1,h2,h3⟩
    exact⟨ig,bL,h1,Im.trans ((h2.mono fun i hi=>(hl i hi).2).nr (fun e=>by simp only[quietC,RS] at e;exact e.2)),h3⟩
   |exit i=>exact⟨ρ',st',hi',Im,hk⟩
   |ret=>exact⟨ρ',st',hi',Im,hk⟩
  split at h'
  ·refine CW.seq ((jm hF hI a hw2.1 _ st _ x fr σ ρ hom h' hi).mono ?_)
   rintro e fr' σ' ⟨ρ',st',hi',hkp,hk⟩
   exact fin e st' fr' σ' ρ' hi' hkp hk
  ·rename_i q _
   obtain⟨o,ho,h'⟩:=iR.1 h'
   have hro:∀o x,look st.ob o=some x->memN o (wrC E a)=false->memN o q.O=true->solidO (wrC E a) x=true->RO ((base (wrC E a) q.K q.O .ro st).over st) o:=fun o x h1 h2 h3 h4=>Gt h1 h2 h3 h4
   have hH:∀o,memN o (wrC E a)=false->RO st o->RO ((base (wrC E a) q.K q.O .ro st).over st) o:=fun o _ h=>xH (MO (fun _ _=>rfl) h) h
   have hbase:ak ρ σ.next (base (wrC E a) q.K q.O .ro st) fr σ:=hi.base (st0:=(base (wrC E a) q.K q.O .ro st).over st) Ii (Kp.refl (nr:=false)) hi hro
   refine CW.seq ((jm hF hI a hw2.1 _ _ _ o fr σ ρ hom ho (hbase.over hi)).mono ?_)
   rintro e fr' σ' ⟨ρ',st',hi',hkp,hk⟩
   obtain⟨ρ2,S2,bL,h1,g1,_,h3,h2⟩:=tK (β:=β) hR hi' hk
   rw[h2] at h'
   obtain⟨f1,f2⟩:=finish (K:=q.K) hi hH hro (hkp.trans g1) h1 fun o ho hr=>h3 o ho ((hkp.ob o ho).ro hr).1
   exact fin e _ fr' σ' ρ2 f1 f2 h'
 |.cond c a b=>fun hw β st k x fr σ ρ hom h hi=>by
  have h':(match evM [] st c with
   |some (.blit t)=>bif t then codeM E R n om F I A a st k else codeM E R n om F I A b st k
   |some (.bool t)=>bif t then codeM E R n om F I A a (st.learnO c true) k else codeM E R n om F I A b (st.learnO c false) k
   |_=>none)=some x:=h
  have hw2:jN E a=true/\jN E b=true:=by
   have hw':((wrC E a++wrC E b).all fun d=>Nat.blt d F0)=true:=hw
   rw[List.all_append,RS] at hw';exact hw'
  have hl:∀i,memN i (wrC E (.cond c a b))=false->memN i (wrC E a)=false/\memN i (wrC E b)=false:=fun i hi=>by
   have hi':memN i (wrC E a++wrC E b)=false:=hi
   rw[xG,ae8] at hi';exact hi'
  have ha:∀st':MS R.T,st'.ob=st.ob->ak ρ σ.next st' fr σ->codeM E R n om F I A a st' k=some x->CW E a fr σ fun e fr' σ'=>∃ρ' st',ak ρ' σ'.next st' fr' σ'/\Kp (quietC E (.cond c a b)) (wrC E (.cond c a b)) st fr σ ρ st' fr' σ' ρ'/\k e st'=some x:=fun st' hs hi' hk=>by
   refine(jm hF hI a hw2.1 _ st' k x fr σ ρ hom hk hi').mono ?_
   rintro e og cO ⟨ig,bL,h1,h2,h3⟩
   exact⟨ig,bL,h1,((⟨h2.fr,fun o ho=>(h2.ob o ho).from hs⟩:Kp (quietC E a) (wrC E a) st fr σ ρ bL og cO ig).mono fun i hi=>(hl i hi).1).nr (fun e=>by simp only[quietC,RS] at e;exact e.1),h3⟩
  have hb:∀st':MS R.T,st'.ob=st.ob->ak ρ σ.next st' fr σ->codeM E R n om F I A b st' k=some x->CW E b fr σ fun e fr' σ'=>∃ρ' st',ak ρ' σ'.next st' fr' σ'/\Kp (quietC E (.cond c a b)) (wrC E (.cond c a b)) st fr σ ρ st' fr' σ' ρ'/\k e st'=some x:=fun st' hs hi' hk=>by
   refine(jm hF hI b hw2.2 _ st' k x fr σ ρ hom hk hi').mono ?_
   rintro e og cO ⟨ig,bL,h1,h2,h3⟩
   exact⟨ig,bL,h1,((⟨h2.fr,fun o ho=>(h2.ob o ho).from hs⟩:Kp (quietC E b) (wrC E b) st fr σ ρ bL og cO ig).mono fun i hi=>(hl i hi).2).nr (fun e=>by simp only[quietC,RS] at e;exact e.2),h3⟩
  split at h'
  ·rename_i t hc
   refine CW.cond (aF (E:=E) hi .nil hc).ji (fun e=>?_) (fun e=>?_)
   ·subst e;exact ha st rfl hi h'
   ·subst e;exact hb st rfl hi h'
  ·rename_i t hc
   have hl:ak ρ σ.next (st.learnO c t) fr σ/\(st.learnO c t).ob=st.ob:=by
    cases c with
    |tmp j=>exact⟨hi.learn (show Rl R ρ σ.top (.bool t) (fr.tm j) from hi.fr _ _ (Zj hc)).gK,rfl⟩
    |_=>exact⟨hi,rfl⟩
   refine CW.cond (aF (E:=E) hi .nil hc).gK (fun e=>?_) (fun e=>?_)
   ·subst e;exact ha _ hl.2 hl.1 h'
   ·subst e;exact hb _ hl.2 hl.1 h'
  ·cases h'
 |.block id c=>fun hw β st k x fr σ ρ hom h hi=>by
  have h':(codeM E R n om F I A c st fun e st=>match e with
   |.exit i=>bif Nat.beq i id then k .normal st else k (.exit i) st
   |e=>k e st)=some x:=h
  refine CW.block ((jm hF hI c hw _ st _ x fr σ ρ hom h' hi).mono ?_)
  rintro e fr' σ' ⟨ρ',st',hi',hkp,hk⟩
  cases e with
  |normal=>exact⟨ρ',st',hi',hkp,hk⟩
  |ret=>exact⟨ρ',st',hi',hkp,hk⟩
  |exit i=>
   dsimp only at hk
   unfold BlkQ
   dsimp only
   cases hb:Nat.beq i id
   ·rw[hb] at hk
    rw[if_neg (qg hb)]
    exact⟨ρ',st',hi',hkp,hk⟩
   ·rw[hb] at hk
    rw[if_pos (aP hb)]
    exact⟨ρ',st',hi',hkp,hk⟩
 |.loop c=>fun hw β st k x fr σ ρ hom h hi=>by
  have h':(match look A.loops (firstId' c) with
   |some q=>match packW R (wrC E c) st q.sh with
    |some p=>(loopF (firstId' c) (wrC E c) (base (wrC E c) q.K q.O .ro st) q.sh q.outs (fun st k=>codeM E R n om F I A c st k) n p).bind (unpackOut R (base (wrC E c) q.K q.O (fun b=>b) st) k q.outs)
    |none=>none
   |none=>unrF (R:=R) (fun st k=>codeM E R n om F I A c st k) 130 st k)=some x:=h
  split at h'
  ·rename_i q _
   split at h'
   ·rename_i p hp
    obtain⟨o,ho,h'⟩:=iR.1 h'
    obtain⟨ρ1,S1,p1,p2,_,p3⟩:=hi.packW (nr:=quietC E c) hR hp
    have hro:∀o x,look st.ob o=some x->memN o (wrC E c)=false->memN o q.O=true->solidO (wrC E c) x=true->RO ((base (wrC E c) q.K q.O .ro st).over (unpack R q.sh p)) o:=fun o x h1 h2 h3 h4=>Gt h1 h2 h3 h4
    have hH:∀o,memN o (wrC E c)=false->RO st o->RO ((base (wrC E c) q.K q.O .ro st).over (unpack R q.sh p)) o:=fun o ho h=>MN (p3 o ho h)
    have hB:∀(st' S':MS R.T) (fr':Fr) (σ':Sig) (ρ':au) (b':Nat),ak ρ' b' st' fr' σ'->Kp (quietC E c) (wrC E c) ((base (wrC E c) q.K q.O .ro st).over (unpack R q.sh p)) fr σ ρ S' fr' σ' ρ'->ak ρ' b' (base (wrC E c) q.K q.O .ro st) fr' σ':=
     fun st' S' fr' σ' ρ' b' h1 h2=>hi.base Ii h2 h1 hro
    have hk0:Kp (quietC E c) (wrC E c) ((base (wrC E c) q.K q.O .ro st).over (unpack R q.sh p)) fr σ ρ ((base (wrC E c) q.K q.O .ro st).over (unpack R q.sh p)) fr σ ρ1:=⟨fun _ _=>rfl,fun q hq=>⟨(p2.ob q hq).ob,(p2.ob q hq).ln,(p2.ob q hq).om,iP _,⟨fun _ _=>rfl,fun _ _=>rfl⟩,fun _ _ _=>rfl,fun hr=>⟨hr,fun _=>⟨rfl,rfl⟩⟩⟩⟩
    refine(OL (β:=β) hR (jm hF hI c hw) hom hB (fun o=>fun y hy=>by obtain⟨z,_,_,rfl⟩:=mP hy;rfl) n p o fr σ ρ1 ho p1 hk0).mono ?_
    rintro e fr' σ' ⟨ρ',S',st',hi',hkp,hn,hk⟩
    obtain⟨f1,f2⟩:=finish (K:=q.K) hi hH hro hkp hi' hn
    exact⟨ρ',_,f1,f2,by rw[<-hk k];exact h'⟩
   ·cases h'
  ·exact OM (jm hF hI c hw) 130 st k x fr σ ρ hom h' hi
 |.rangeFunc f ps a c=>fun hw β st k x fr σ ρ hom h hi=>by
  have h':(match look A.loops (firstId' c) with
  |some q=>match evM [] st f with
   |some (.fn g u v)=>bif disjO q.O q.sh.ob then (match iterM st I g u v with
    |some ⟨el,xs,oo,kq⟩=>bif okI oo (ps.toList++wrC E a++wrC E c) q.sh.ob&& (bif kq then quietC E a&& quietC E c else true) then (match packW R (ps.toList++wrC E a++wrC E c) st.obs q.sh with
     |some p=>(xs.bind fun xs=>foldF (firstId' c) (ps.toList++wrC E a++wrC E c) (base (addW oo (ps.toList++wrC E a++wrC E c)) q.K q.O .ro st) q.sh q.outs (fun x st k=>match putPs st ps.toList (upL R .sh el x) with
       |some st=>codeM E R n om F I A a st fun e st=>match e with
        |.normal=>codeM E R n om F I A c st k
        |_=>none
       |none=>none) xs p).bind (unpackOut R (base (addW oo (ps.toList++wrC E a++wrC E c)) q.K q.O (fun b=>b) st) k q.outs)
     |none=>none) else none
    |none=>none) else none
   |_=>none
  |none=>none)=some x:=h
  split at h'
  ·rename_i q _
   split at h'
   ·rename_i g u v hf
    obtain⟨hst,h'⟩:=aM h'
    have hdj:=hst
    split at h'
    ·rename_i el xs oo kq hfi
     obtain⟨O5,h'⟩:=aM h'
     rw[RS] at O5
     obtain⟨hok,hquiet⟩:=O5
     split at h'
     ·rename_i p hp
      obtain⟨o,ho,h'⟩:=iR.1 h'
      obtain⟨ys,hys,ho⟩:=iR.1 ho
      obtain⟨va,vb,pX,hva,hvb⟩:=(aF (E:=E) hi .nil hf).eB
      obtain⟨himp,hel,hcell,hit⟩:=Zz hR hI hi hva hvb hfi
      obtain⟨pre,hpre,hit⟩:=hit ys hys
      obtain⟨ρ1,S1,p1,p2,p0,p3⟩:=hi.obs.packW (nr:=false) hR hp
      have hw3:jN E a=true/\jN E c=true:=by
       have hw':((ps.toList++wrC E a++wrC E c).all fun d=>Nat.blt d F0)=true:=hw
       rw[List.all_append,List.all_append,RS,RS] at hw';exact⟨hw'.1.2,hw'.2⟩
      clear hw
      generalize hW:ps.toList++wrC E a++wrC E c=W at*
      have hl:∀i,memN i W=false->memN i ps.toList=false/\memN i (wrC E a)=false/\memN i (wrC E c)=false:=fun i hi=>by
       rw[<-hW,xG,xG,ae8,ae8] at hi;exact⟨hi.1.1,hi.1.2,hi.2⟩
      have hoo:∀p,oo=some p->memN p W=false/\∀p':Pay R.T q.sh,look (unpack R q.sh p').ob p=none:=by
       rintro p rfl
       have hok':(!(memN p W)&& disjO [p] q.sh.ob)=true:=hok
       rw[RS,aff] at hok'
       exact⟨hok'.1,fun p'=>ZB hok'.2⟩
      have hne:∀p,oo≠some p->oG ρ oo≠some (ρ.om.lc p):=fun p hp e=>by
       obtain⟨p',h1,h2⟩:=aat.1 e
       rw[ρ.om.xC h2] at h1
       exact hp h1
      have hout:∀L:Loc,ρ.om.out L->oG ρ oo≠some L:=fun L hL e=>by
       obtain⟨p',h1,h2⟩:=aat.1 e
       exact hL p' h2.symm
      generalize O6:addW oo W=Wb at*
      have hsub:∀p,memN p Wb=false->memN p W=false/\oo≠some p:=fun p hp=>ZC (by rw[O6];exact hp)
      have hro:∀o x,look st.ob o=some x->memN o Wb=false->memN o q.O=true->solidO Wb x=true->RO ((base Wb q.K q.O .ro st).over (unpack R q.sh p)) o:=fun o x h1 h2 h3 h4=>Gt h1 h2 h3 h4
      have hH:∀o,memN o Wb=false->RO st o->RO ((base Wb q.K q.O .ro st).over (unpack R q.sh p)) o:=fun o ho h=>MN (p3 o (hsub o ho).1 h)
      generalize ZF:(base Wb q.K q.O .ro st).over (unpack R q.sh p)=H at*
      have hB:∀(st' S':MS R.T) (σ':Sig) (ρ':au) (b':Nat),ak ρ' b' st' fr σ'->Kp false Wb H fr σ ρ S' fr σ' ρ'->ak ρ' b' (base Wb q.K q.O .ro st) fr σ':=
       fun st' S' σ' ρ' b' h1 h2=>hi.base Ii h2 h1 hro
      have O7:∀o,RO (base Wb q.K q.O .ro st) o:=fun o=>fun y hy=>by obtain⟨z,_,_,rfl⟩:=mP hy;rfl
      let r0:gq:={st:=0,pend:=none,fr:=fr,ps:=ps.toList,aS:=a,body:=c}
      let body:{β:Type}->PayL R.T el->MS R.T->(Ex->MS R.T->Option β)->Option β:=fun x st k=>match putPs st ps.toList (upL R .sh el x) with
          |some st=>codeM E R n om F I A a st fun e st=>match e with
           |.normal=>codeM E R n om F I A c st k
           |_=>none
          |none=>none
      let KO:au->Prop:=fun ρ'=>∀p,memN p W=false->ρ'.ob p=ρ.ob p/\ρ'.ln p=ρ.ln p
      let J:List (List V)->Sig->Prop:=fun L σ'=>∃(zs:List (PayL R.T el)) (p':Pay R.T q.sh) (ρ':au),L=zs.map (encSL R el)/\foldF (firstId' c) W (base Wb q.K q.O .ro st) q.sh q.outs body zs p'=some o/\ak ρ' σ'.next (unpack R q.sh p') fr σ'/\(unpack R q.sh p').fr=[]/\
       Kp false Wb H fr σ ρ ((base Wb q.K q.O .ro st).over (unpack R q.sh p')) fr σ' ρ'/\σ'.loops σ.next=some r0/\KO ρ'
      let Fin:Ex->Sig->Prop:=fun e σ'=>∃(ρ':au) (S' st':MS R.T),ak ρ' σ'.next st' fr σ'/\Kp false Wb H fr σ ρ S' fr σ' ρ'/\(∀o,memN o Wb=false->RO H o->look st'.ob o=none)/\(∀(k:Ex->MS R.T->Option β) (bs:MS R.T),unpackOut R bs k q.outs o=k e (bs.over st'))/\KO ρ'/\∀p,oo=some p->look st'.ob p=none
      let D:Sig->Prop:=fun σ'=>∃e,Fin e σ'/\σ'.loops σ.next=some {r0 with st:=2,pend:=some e}
      have ZG:∀L σ1 σ2,σ.next<σ1.next->J L σ1->ShiftG ρ.om.dp (oG ρ oo) σ1 σ2->J L σ2:=by
       rintro L σ1 σ2 hlt ⟨zs,p',ρ',e1,e2,e3,e4,e5,e6,e7⟩ hs
       exact⟨zs,p',ρ',e1,e2,(e3.OZ (fun p x hx=>hs.obj _ (OQ e5.om p) (by rw[e5.om];exact hne p fun e=>by rw[(hoo p e).2 p'] at hx;cases hx)) hs.top).le hs.next,e4,⟨e5.fr,fun o ho=>(e5.ob o ho).O1 (fun L hL hn=>hs.obj L hL hn) hout (hne o (hsub o ho).2) hs.next (fun l hl=>hs.loops l (by omega)) (fun s hs'=>hs.top s (by have:=hi.nx;omega))⟩,(hs.loops _ hlt).trans e6,e7⟩
      have ZH:∀σ1 σ2,σ.next<σ1.next->D σ1->ShiftG ρ.om.dp (oG ρ oo) σ1 σ2->D σ2:=by
       rintro σ1 σ2 hlt ⟨e,⟨ρ',S',st',e1,e2,e3,e4,e7,e8⟩,e5⟩ hs
       exact⟨e,⟨ρ',S',st',(e1.OZ (fun p x hx=>hs.obj _ (OQ e2.om p) (by rw[e2.om];exact hne p fun e=>by rw[e8 p e] at hx;cases hx)) hs.top).le hs.next,⟨e2.fr,fun o ho=>(e2.ob o ho).O1 (fun L hL hn=>hs.obj L hL hn) hout (hne o (hsub o ho).2) hs.next (fun l hl=>hs.loops l (by omega)) (fun s hs'=>hs.top s (by have:=hi.nx;omega))⟩,e3,e4,e7,e8⟩,(hs.loops _ hlt).trans e5⟩
      have fin:∀(σ2:Sig) (r:gq) (e:Ex),Fin e σ2->∃ρ' st',ak ρ' (σ2.fA σ.next).next st' fr (σ2.fA σ.next)/\Kp false (wrC E (.rangeFunc f ps a c)) st fr σ ρ st' fr (σ2.fA σ.next) ρ'/\k e st'=some x:=by
       rintro σ2 r e ⟨ρ',S',st',e1,e2,e3,e4,e7,e8⟩
       have Ho:ak ρ' σ2.next st' fr (σ2.fA σ.next):=e1.shift (fun _=>rfl) (fun _ _=>rfl)
       have e2':Kp false Wb H fr σ ρ S' fr (σ2.fA σ.next) ρ':=⟨e2.fr,fun o ho=>(e2.ob o ho).shift (fun _ _=>rfl) (iP _) (fun l hl=>by
        show upd σ2.loops σ.next none l=_
        unfold upd;rw[if_neg (by omega)]) (fun _ _=>rfl)⟩
       obtain⟨f1,f2⟩:=finish (K:=q.K) hi hH hro e2' Ho e3
       refine⟨ρ',_,f1,?_,by rw[<-e4 k];exact h'⟩
       show Kp false (ps.toList++wrC E a++wrC E c) _ _ _ _ _ _ _ _
       rw[hW]
       refine⟨fun _ _=>rfl,fun p hp=>?_⟩
       cases hb:memN p Wb with
       |false=>exact f2.ob p hb
       |true=>
        obtain⟨cc,hc⟩:=hcell p (ZE (by rw[O6];exact hb) hp)
        obtain⟨nb,hnb⟩:=qo Wb
        have g:=f2.ob nb (hnb nb (iP _))
        exact⟨(e7 p hp).1,(e7 p hp).2,g.om,g.nx,g.lp,g.dp,fun hr=>by have:=hr _ hc;cases this⟩
      refine CW.range pX himp ?_
      rw[hi.d]
      have hent:(σ.enter fr ps a c).next=σ.next+1:=rfl
      obtain⟨m,w,σ2,hm,hnx,ZI⟩:=hit ρ.om.dp σ.next (σ.enter fr ps a c) J D (fun loc hl=>by obtain⟨p',_,rfl⟩:=aat.1 hl;exact ρ.om.jh p') ZG ZH (by
       rintro y L σ1 hlt ⟨zs,p',ρ',e1,e2,e3,e4,e5,e6,e7⟩
       cases zs with
       |nil=>cases e1
       |cons z zs=>
        simp only[aez,afg] at e1
        obtain⟨rfl,rfl⟩:=e1
        have hbase:=hB _ _ _ _ _ e3 e5
        have e2':body z ((base Wb q.K q.O .ro st).over (unpack R q.sh p')) (Ik (firstId' c) W (base Wb q.K q.O .ro st) q.sh q.outs body zs)=some o:=e2
        show∃c' σ',mV E σ.next (encSL R el z) σ1 c' σ'/\_
        generalize hkk:Ik (firstId' c) W (base Wb q.K q.O .ro st) q.sh q.outs body zs=kk at e2'
        dsimp only[body] at e2'
        split at e2'
        ·rename_i st1 nP
         obtain⟨hlen,i1,i2⟩:=OU nP (kG hR el z hel) (hbase.over e3)
         have xX:ρ'.om.om=om:=(congrArg Cx.om e5.om).trans hom
         obtain⟨m1,x1,aD,σ2,q1,ρ2,st2,q2,q3,q4⟩:=jm hF hI a hw3.1 _ _ _ _ _ _ ρ' xX e2' i1
         cases x1 with
         |exit i=>cases q4
         |ret=>cases q4
         |normal=>
          dsimp only at q4
          obtain⟨nb,hnb⟩:=qo (wrC E a)
          have lp2:σ2.loops σ.next=some r0:=((q3.ob nb (hnb nb (iP _))).lp.1 _ hlt).trans e6
          have O8:=(q3.ob nb (hnb nb (iP _))).nx
          have q2':ak ρ2 σ2.next st2 aD (σ2.bC σ.next {r0 with st:=1}):=q2.shift (fun _=>rfl) (fun _ _=>rfl)
          obtain⟨m2,x2,bA,σ3,t1,ρ3,st3,t2,t3,t4⟩:=jm hF hI c hw3.2 _ _ _ _ aD (σ2.bC σ.next {r0 with st:=1}) ρ2 ((congrArg Cx.om q3.om).trans xX) q4 q2'
          obtain⟨nc,hnb'⟩:=qo (wrC E c)
          have ZJ:σ3.loops σ.next=some {r0 with st:=1}:=((t3.ob nc (hnb' nc (iP _))).lp.1 _ (show σ.next<σ2.next by omega)).trans (by show upd σ2.loops σ.next _ σ.next=_;unfold upd;rw[if_pos rfl])
          have Io:σ2.next<=σ3.next:=(t3.ob nc (hnb' nc (iP _))).nx
          have keep:∀p,memN p Wb=false->ay false p H ρ σ st3 ρ3 σ3:=fun p hpb=>by
           have hp:=(hsub p hpb).1
           have k1:=e5.ob p hpb
           have k2:ay false p ((base Wb q.K q.O .ro st).over (unpack R q.sh p')) ρ' σ1 st2 ρ2 σ2:=(q3.ob p (hl p hp).2.1).weak.from i2
           have k3:=(t3.ob p (hl p hp).2.2).weak
           have k12:=k1.trans k2
           refine⟨k3.ob.trans k12.ob,k3.ln.trans k12.ln,k3.om.trans k12.om,aaI k12.nx Io,⟨fun l hl=>?_,fun s hs=>(k3.lp.2 s (by rw[k12.om];exact hs)).trans (k12.lp.2 s hs)⟩,fun L hn hL=>(k3.dp L (by rw[k12.om];exact hn) (by rw[k12.om];exact hL)).trans (k12.dp L hn hL),fun hr=>?_⟩
           ·refine(k3.lp.1 l (show l<σ2.next by have:=k12.nx;omega)).trans (Eq.trans ?_ (k12.lp.1 l hl))
            show upd σ2.loops σ.next _ l=_
            unfold upd;rw[if_neg (by omega)]
           ·have r1:=k12.ro hr
            have r2:=k3.ro r1.1
            rw[k12.om] at r2
            exact⟨r2.1,fun s=>⟨(r2.2 s).1.trans (r1.2 s).1,(r2.2 s).2.trans (r1.2 s).2⟩⟩
          have fd:∀(r':gq),ak ρ3 σ3.next st3.obs bA (σ3.bC σ.next r'):=fun r'=>t2.obs.shift (fun _=>rfl) (fun _ _=>rfl)
          have keep':∀(r':gq),∀p,memN p Wb=false->ay false p H ρ σ st3.obs ρ3 (σ3.bC σ.next r'):=fun r' p hp=>((keep p hp).congr (bL:=st3.obs) rfl).shift (cO:=σ3.bC σ.next r') (fun _ _=>rfl) (iP _) (fun l hl=>by
           show upd σ3.loops σ.next _ l=_
           unfold upd;rw[if_neg (by omega)]) (fun _ _=>rfl)
          have O9:∀(r':gq),(σ3.bC σ.next r').loops σ.next=some r':=fun r'=>by show upd σ3.loops σ.next _ σ.next=_;unfold upd;rw[if_pos rfl]
          have deep:∀(r':gq),kq=true->∀a o,ρ.om.dp<a->(σ3.bC σ.next r').obj (a,o)=σ1.obj (a,o):=fun r' hkq a o ha=>by
           subst hkq
           rw[cond_true,RS] at hquiet
           obtain⟨hna,hnc⟩:=hquiet
           exact
           ((t3.ob nc (hnb' nc (iP _))).dp (a,o) (.inl hnc) (Cx.MK _ (by rw[q3.om,e5.om];exact ha))).trans ((q3.ob nb (hnb nb (iP _))).dp (a,o) (.inl hna) (Cx.MK _ (by rw[e5.om];exact ha)))
          have loops:∀(r':gq) s,s<σ1.next->(σ3.bC σ.next r').loops s=σ1.loops s\/s=σ.next:=fun r' s hs=>by
           by_cases es:s=σ.next
           ·exact .inr es
           ·left
            have u1:(σ3.bC σ.next r').loops s=σ3.loops s:=by show upd σ3.loops σ.next _ s=_;unfold upd;rw[if_neg es]
            have u2:(σ2.bC σ.next {r0 with st:=1}).loops s=σ2.loops s:=by show upd σ2.loops σ.next _ s=_;unfold upd;rw[if_neg es]
            exact u1.trans (((t3.ob nc (hnb' nc (iP _))).lp.1 s (show s<σ2.next by omega)).trans (u2.trans ((q3.ob nb (hnb nb (iP _))).lp.1 s hs)))
          have keepR:KO ρ3:=fun p hp=>⟨((t3.ob p (hl p hp).2.2).ob.trans (q3.ob p (hl p hp).2.1).ob).trans (e7 p hp).1,((t3.ob p (hl p hp).2.2).ln.trans (q3.ob p (hl p hp).2.1).ln).trans (e7 p hp).2⟩
          have Pb:∀p,oo=some p->RO st3 p/\∀s,σ3.cellsAt (ρ.om.lc p) s=σ1.cellsAt (ρ.om.lc p) s:=fun p hp=>by
           obtain⟨Pd,hpn⟩:=hoo p hp
           have ZK:RO st1 p:=fun y hy=>by
            rw[i2] at hy
            exact xH (O7 p) (fun y hy=>by rw[hpn p'] at hy;cases hy) y hy
           have r1:=(q3.ob p (hl p Pd).2.1).ro ZK
           have r2:=(t3.ob p (hl p Pd).2.2).ro r1.1
           refine⟨r2.1,fun s=>?_⟩
           have a1:=(r1.2 s).1
           have a2:=(r2.2 s).1
           rw[e5.om] at a1
           rw[q3.om,e5.om] at a2
           exact a2.trans a1
          have own:∀(r':gq) loc,oG ρ oo=some loc->∀s,(σ3.bC σ.next r').cellsAt loc s=σ1.cellsAt loc s:=fun r' loc hl s=>by
           obtain⟨p',h1,rfl⟩:=aat.1 hl
           exact(Pb p' h1).2 s
          have Pe:∀(bb:Bool) (σ':Sig),OO r0 σ.next σ3 x2 bb σ'->mV E σ.next (encSL R el z) σ1 bb σ':=fun bb σ' hbb=>
           mV.of e6 rfl hlen ⟨m1,.normal,aD,σ2,q1,rfl,r0,lp2,rfl,m2,x2,bA,σ3,t1,_,ZJ,rfl,by cases x2<;>exact hbb⟩
          have stop:∀e,OO r0 σ.next σ3 x2 false (σ3.bC σ.next {r0 with st:=2,pend:=some e})->packOut R W e st3.obs q.outs=some o->∃c' σ',mV E σ.next (encSL R el z) σ1 c' σ'/\σ1.next<=σ'.next/\(kq=true->∀a o,ρ.om.dp<a->σ'.obj (a,o)=σ1.obj (a,o))/\(∀loc,oG ρ oo=some loc->∀s,σ'.cellsAt loc s=σ1.cellsAt loc s)/\(∀s,s<σ1.next->σ'.loops s=σ1.loops s\/s=σ.next)/\(c'=true->J (zs.map (encSL R el)) σ')/\(c'=false->D σ'):=by
           intro e he hpk
           obtain⟨ρ4,S4,sO,g1,g2,g3,g4,g5⟩:=tK (nr:=false) (β:=β) hR (fd {r0 with st:=2,pend:=some e}) hpk
           have yx:ρ4.om=ρ.om:=by
            obtain⟨nw,hnw⟩:=qo Wb
            exact g2.om.trans (keep nw (hnw nw (iP _))).om
           refine⟨false,σ3.bC σ.next {r0 with st:=2,pend:=some e},Pe _ _ he,aaI O8 Io,deep _,own _,loops _,(fun h=>by cases h),fun _=>⟨e,⟨ρ4,S4,sO,g1.OP (g3 rfl) (by rw[yx];exact hi.d) (by rw[yx];exact hi.om),⟨fun _ _=>rfl,fun p hp=>(keep' _ p hp).trans (g2.ob p (hsub p hp).1)⟩,fun p hp hr=>g4 p (hsub p hp).1 ((keep p hp).ro hr).1,g5,fun p hp=>⟨(g2.ob p hp).ob.trans (keepR p hp).1,(g2.ob p hp).ln.trans (keepR p hp).2⟩,fun p hp=>g4 p (hoo p hp).1 (Pb p hp).1⟩,O9 _⟩⟩
          cases x2 with
          |normal=>
           rw[<-hkk] at t4
           unfold Ik at t4
           dsimp only at t4
           split at t4
           ·rename_i p4 ZL
            obtain⟨ρ4,S4,g1,g2,g3,g4⟩:=(fd {r0 with st:=0,pend:=none}).packW (nr:=false) hR ZL
            have yx:ρ4.om=ρ.om:=by
             obtain⟨nw,hnw⟩:=qo Wb
             exact g2.om.trans (keep nw (hnw nw (iP _))).om
            refine⟨true,σ3.bC σ.next {r0 with st:=0,pend:=none},Pe _ _ ⟨rfl,rfl⟩,aaI O8 Io,deep _,own _,loops _,fun _=>⟨zs,p4,ρ4,rfl,t4,g1.OP (g3 rfl) (by rw[yx];exact hi.d) (by rw[yx];exact hi.om),g3 rfl,⟨fun _ _=>rfl,fun p hp=>?_⟩,O9 _,fun p hp=>⟨(g2.ob p hp).ob.trans (keepR p hp).1,(g2.ob p hp).ln.trans (keepR p hp).2⟩⟩,fun h=>by cases h⟩
            ·have kk:=(keep' {r0 with st:=0,pend:=none} p hp).trans (g2.ob p (hsub p hp).1)
             exact⟨kk.ob,kk.ln,kk.om,kk.nx,kk.lp,kk.dp,fun hr=>⟨xH (O7 p) fun y hy=>(by rw[g4 p (hsub p hp).1 ((keep p hp).ro hr).1] at hy;cases hy),(kk.ro hr).2⟩⟩
           ·cases t4
          |exit i=>rw[<-hkk] at t4;exact stop (.exit i) ⟨rfl,rfl⟩ t4
          |ret=>rw[<-hkk] at t4;exact stop .ret ⟨rfl,rfl⟩ t4
        ·cases e2') (afw _) (hpre _ fun _ _ _=>rfl) (by
       refine⟨ys,p,ρ1,rfl,ho,(p1.shift (σ':=σ.enter fr ps a c) (fun _=>rfl) (fun _ _=>rfl)).le (aeB _),p0 rfl,⟨fun _ _=>rfl,fun o bI=>?_⟩,?_,fun p hp=>⟨(p2.ob p hp).ob,(p2.ob p hp).ln⟩⟩
       ·have ho:=(hsub o bI).1
        rw[ZF]
        exact⟨(p2.ob o ho).ob,(p2.ob o ho).ln,(p2.ob o ho).om,aeB _,⟨fun l hl=>(by show upd σ.loops σ.next _ l=_;unfold upd;rw[if_neg (by omega)]),fun _ _=>rfl⟩,fun _ _ _=>rfl,fun hr=>⟨hr,fun _=>⟨rfl,rfl⟩⟩⟩
       ·show upd σ.loops σ.next _ σ.next=_;unfold upd;rw[if_pos rfl])
      refine⟨m,w,σ2,hm,?_⟩
      rcases ZI with ⟨zs,p',ρ',e1,e2,e3,e4,e5,e6,e7⟩| ⟨e,hfin,e6⟩
      ·cases zs with
       |cons z zs=>cases e1
       |nil=>
        have e2':packOut R W .normal (unpack R q.sh p').obs q.outs=some o:=e2
        obtain⟨ρ4,S4,sO,g1,g2,g3,g4,g5⟩:=tK (nr:=false) (β:=β) hR e3.obs e2'
        have hno:∀p,memN p Wb=false->RO H p->look (unpack R q.sh p').ob p=none:=fun p hp hr=>Zy hdj ((e5.ob p hp).ro hr).1
        have Cg:∀p,memN p Wb=false->RO H p->RO (unpack R q.sh p').obs p:=fun p hp hr y hy=>by
         have:look (unpack R q.sh p').ob p=some y:=hy
         rw[hno p hp hr] at this;cases this
        exact⟨_,e6,(by show (0:Nat)≠1;omega),fin σ2 r0 .normal ⟨ρ4,S4,sO,g1,⟨fun _ _=>rfl,fun p hp=>by
         have a1:=e5.ob p hp
         have a2:=g2.ob p (hsub p hp).1
         have Ch:=a2.ro
         rw[a1.om] at Ch
         exact⟨a2.ob.trans a1.ob,a2.ln.trans a1.ln,a2.om.trans a1.om,aaI a1.nx a2.nx,⟨fun l hl=>(a2.lp.1 l (aeD hl a1.nx)).trans (a1.lp.1 l hl),fun s hs=>(a2.lp.2 s (by rw[a1.om];exact hs)).trans (a1.lp.2 s hs)⟩,fun L hn hL=>(a2.dp L (by rw[a1.om];exact hn) (by rw[a1.om];exact hL)).trans (a1.dp L hn hL),fun hr=>⟨(Ch (Cg p hp hr)).1,fun s=>⟨((Ch (Cg p hp hr)).2 s).1.trans ((a1.ro hr).2 s).1,((Ch (Cg p hp hr)).2 s).2.trans ((a1.ro hr).2 s).2⟩⟩⟩⟩,fun p hp hr=>g4 p (hsub p hp).1 (Cg p hp hr),g5,fun p hp=>⟨(g2.ob p hp).ob.trans (e7 p hp).1,(g2.ob p hp).ln.trans (e7 p hp).2⟩,fun p hp=>g4 p (hoo p hp).1 fun y hy=>by
         have hy':look (unpack R q.sh p').ob p=some y:=hy
         rw[(hoo p hp).2 p'] at hy';cases hy'⟩⟩
      ·exact⟨_,e6,(by show (2:Nat)≠1;omega),fin σ2 r0 e hfin⟩
     ·cases h'
    ·cases h'
   ·cases h'
  ·cases h'
 |.scope c=>fun hw β st k x fr σ ρ hom h hi=>CW.scope (jm hF hI c hw _ st k x fr σ ρ hom h hi)
 |.label _=>fun hw _ st k x fr σ ρ _ h hi=>CW.label ⟨ρ,st,hi,.refl,h⟩
 |.goto _=>fun hw _ st k x fr σ ρ _ h hi=>by cases h
 |.refuse _=>fun hw _ st k x fr σ ρ _ h hi=>by cases h
omit hR in
theorem yC {ρ:au} {b:Nat} {st:MS R.T} {fr:Fr} {σ:Sig} (hi:ak ρ b st fr σ):∀{rs:List ResultVar} {tvs:List (TV R.T)},resM E R st rs=some tvs->∃vs,rs.mapM (resV E fr σ)=some vs/\RlL R ρ σ.top tvs vs
 | [],tvs,h=>by cases h;exact⟨[],rfl,rfl⟩
 |.tmp t::l,tvs,h=>by
  unfold resM at h
  split at h
  ·rename_i v hv
   split at h
   ·rename_i vs hvs
    cases h
    obtain⟨ws,h1,h2⟩:=yC hi hvs
    have:=aF (E:=E) hi .nil hv
    exact⟨fr.tm t::ws,by rw[aew];simp[resV,h1],.cons' this h2⟩
   ·cases h
  ·cases h
 |.cell a t::l,tvs,h=>by
  unfold resM at h
  split at h
  ·rename_i o off hv
   split at h
   ·rename_i cs hl
    split at h
    ·rename_i v hld
     split at h
     ·rename_i vs hvs
      cases h
      obtain⟨ws,h1,h2⟩:=yC hi hvs
      obtain⟨s,h3,h4⟩:=(aF (E:=E) hi .nil hv).fU
      rw[sS] at h4
      obtain⟨s',l',h5,h6,h7⟩:=hi.rd hl
      rw[h3] at h5;cases h5
      obtain⟨y,hy,hr⟩:=mQ h7 hld
      exact⟨y::ws,by rw[aew];simp[resV,h4,h6,hy,h1],.cons' hr h2⟩
     ·cases h
    ·cases h
   ·rename_i ss hl
    split at h
    ·rename_i v hld
     split at h
     ·rename_i vs hvs
      cases h
      obtain⟨ws,h1,h2⟩:=yC hi hvs
      obtain⟨s,h3,h4⟩:=(aF (E:=E) hi .nil hv).fU
      rw[sS] at h4
      obtain⟨s',h5,h6⟩:=hi.rd hl
      rw[h3] at h5;cases h5
      obtain⟨y,hy,hr⟩:=NH (ρ:=ρ) (top:=σ.top) hld
      exact⟨y::ws,by rw[aew];simp[resV,h4,h6,hy,h1],.cons' hr h2⟩
     ·cases h
    ·cases h
   ·cases h
  ·cases h
omit hR in
theorem Ip:∀(l:List (TV R.T)) (vs:List V) (i:Nat) (P:TV R.T->V->Prop),(∀j v,l[j]? =some v->P v (vs.getD j undefV))->∀j v,look (initF i l) j=some v->i<=j/\P v (vs.getD (j-i) undefV)
 | [],vs,i,P,_,j,v,h=>by cases h
 |x::l,vs,i,P,hp,j,v,h=>by
  have h':look ((i,x)::initF (i+1) l) j=some v:=h
  by_cases e:j=i
  ·subst e
   rw[bX] at h';cases h'
   exact⟨iP _,by simpa using hp 0 x rfl⟩
  ·rw[bf _ _ e] at h'
   obtain⟨h1,h2⟩:=Ip l vs.tail (i+1) P (fun j v hj=>by
    have:=hp (j+1) v (by simpa using hj)
    cases vs<;>simpa using this) j v h'
   refine⟨by omega,?_⟩
   have e2:j-i=(j-(i+1))+1:=by omega
   rw[e2]
   cases vs<;>simpa using h2
def Cx.main (om:Bool):Cx:=⟨om,1,0,fun _=>none,fun _ _ h=>(by cases h),fun _ _ _ h=>(by cases h)⟩
theorem funM_ok {n:Nat} {om:Bool} {F:Nat->List (FR R)} {I:IR R} (hF:RegsOK E F) (hI:ItersOK E I) {A:Ann} {f:Nat} {fn:Func} {args res:List Sk} {p:PayL R.T args} {x:PayL R.T res} (h:funM E R n om F I A fn args res p=some x) (hf:E.P.funcs[f]? =some fn) (ha:cSkL args=true)
 (hlen:(encSL R args p).length=args.length) (hom:E.om f=om) (hs:E.summ f=none) (hok:(match fn.body with|some c=>decide (args.length<=fn.ntmps)&& bE fn.ntmps c&& jN E c|none=>false)=true):Pure E f (encSL R args p) (retV (encSL R res x)):=by
 unfold funM at h
 split at h
 ·rename_i c hc
  rw[hc] at hok;dsimp only at hok
  rw[RS] at hok
  obtain⟨hok,hwk⟩:=hok
  refine Pure.of' fn.results.toList hf hc (fun fr σ hd ho ht=>?_) rfl (by rw[hlen];exact hok) hs
  have hi:ak ⟨fun _=>none,fun _=>none,fun _=>0,Cx.main om⟩ σ.next (⟨initF 0 (upL R .sh args p),[]⟩:MS R.T) fr σ:={
   d:=hd
   om:=by rw[ho,hom];rfl
   fr:=fun i v hv=>by
    obtain⟨_,h2⟩:=Ip _ (encSL R args p) 0 (fun v w=>Rl R ⟨fun _=>none,fun _=>none,fun _=>0,Cx.main om⟩ σ.top v w) (fun j v hj=>by
     obtain⟨w,h1,h2⟩:=(kG hR args p ha).get hj
     rw[ae5,h1];exact h2) i v hv
    rw[ht]
    exact .of (by simpa using h2)
   ob:=fun o x hx=>by cases hx
   inj:=fun t u s h=>by cases h
   lt:=fun t s h=>by cases h
   ge:=fun t s h=>by cases h
   nx:=afd _}
  refine(jm hR hF hI c hwk _ _ _ x fr σ _ rfl h hi).mono ?_
  rintro e fr' σ' ⟨ρ',st',hi',_,hk⟩
  have key:(match resM E R st' fn.results.toList with
   |some vs=>bif cSkL res&& Nat.ble (depL res) 16 then pkL R res (cloMs st' vs) else none
   |none=>none)=some x->∃vs,fn.results.toList.mapM (resV E fr' σ')=some vs/\closeV 20 σ' (match vs with| [v]=>v|vs=>.tup vs)=some (retV (encSL R res x)):=by
   intro hk
   split at hk
   ·rename_i tvs Iq
    obtain⟨hb,hk⟩:=aM hk
    rw[RS] at hb
    obtain⟨vs,h1,h2⟩:=yC hi' Iq
    refine⟨vs,h1,?_⟩
    have aeJ:=ae2 hb.2
    obtain⟨vs',v1,v2⟩:=xM hR hi' h2
    have c1:=(v2 15).trans (iN hR res x (cloMs st' tvs) vs' hb.1 hk v1 19 σ' (by omega))
    have c2:=(v2 16).trans (iN hR res x (cloMs st' tvs) vs' hb.1 hk v1 20 σ' (by omega))
    clear v1 v2
    match vs,c1,c2 with
    | [],c1,c2=>
      have:encSL R res x=[]:=by simpa using c1.symm
      rw[this]
      show closeV 20 σ' (.tup [])=some (.tup [])
      rw[Bg];rfl
    | [v],c1,c2=>
      rw[aew] at c2
      obtain⟨w,hw,c2⟩:=iR.1 c2
      have:[w]=encSL R res x:=by simpa using c2
      rw[<-this];exact hw
    |v::w::vs,c1,c2=>
     show closeV 20 σ' (.tup (v::w::vs))=_
     rw[Bg,c1,Option.map_some]
     have hl:(encSL R res x).length=(v::w::vs).length:=by
      have:∀(l:List V) (m:List V),l.mapM (closeV 19 σ')=some m->m.length=l.length:=by
       intro l
       induction l with
       |nil=>intro m h;cases h;rfl
       |cons a l ih=>
        intro m h
        rw[aew] at h
        obtain⟨b,hb,h⟩:=iR.1 h
        obtain⟨c,hc,h⟩:=iR.1 h
        cases h
        simp[ih c hc]
      exact this _ _ c1
     match encSL R res x,hl with
     |a::b::l,_=>rfl
   ·cases hk
  cases e with
  |exit i=>cases hk
  |normal=>exact key hk
  |ret=>exact key hk
 ·cases h
theorem yD {n:Nat} {om:Bool} {F:Nat->List (FR R)} {I:IR R} (hF:RegsOK E F) (hI:ItersOK E I) {A:Ann} {f:Nat} {fn:Func} {args:List Sk} {τ:Ty} {p:PayL R.T args} {x:List (Den R.T τ)} (h:funO E R n om F I A fn args τ p=some x) (hf:E.P.funcs[f]? =some fn) (ha:cSkL args=true)
 (hlen:(encSL R args p).length=args.length) (hom:E.om f=om) (hs:E.summ f=none) (hok:(match fn.body with|some c=>decide (args.length<=fn.ntmps)&& bE fn.ntmps c&& jN E c|none=>false)=true):
 Pure E f (encSL R args p) (.lst .sh (x.map (encD R τ)))/\gY E f (encSL R args p) (szD R τ) (x.map (encD R τ)):=by
 unfold funO at h
 split at h
 ·rename_i c hc
  rw[hc] at hok;dsimp only at hok
  rw[RS] at hok
  obtain⟨hok,hwk⟩:=hok
  have hi:ak ⟨fun _=>none,fun _=>none,fun _=>0,Cx.main om⟩ Sig.init.next (⟨initF 0 (upL R .sh args p),[]⟩:MS R.T) ({d:=1,om:=E.om f,tm:=fun i=>(encSL R args p).getD i undefV}:Fr) Sig.init:={
   d:=rfl
   om:=hom
   fr:=fun i v hv=>by
    obtain⟨_,h2⟩:=Ip _ (encSL R args p) 0 (fun v w=>Rl R ⟨fun _=>none,fun _=>none,fun _=>0,Cx.main om⟩ Sig.init.top v w) (fun j v hj=>by
     obtain⟨w,h1,h2⟩:=(kG hR args p ha).get hj
     rw[ae5,h1];exact h2) i v hv
    exact .of (by simpa using h2)
   ob:=fun o x hx=>by cases hx
   inj:=fun t u s h=>by cases h
   lt:=fun t s h=>by cases h
   ge:=fun t s h=>by cases h
   nx:=afd _}
  have himp:Imp E f (encSL R args p) 1 Sig.init (fun v σ1=>∃c,v= .lst c (x.map (encD R τ))/\(c= .nil\/c= .full\/∃s,c= .own (szD R τ) s/\σ1.top s=(x.map (encD R τ)).length)):=by
   refine Imp.of hf hc (by rw[hlen];exact hok) ((jm hR hF hI c hwk _ _ _ x _ Sig.init _ rfl h hi).mono ?_)
   rintro e fr' σ' ⟨ρ',st',hi',_,hk⟩
   have key:(match resM E R st' fn.results.toList with
    |some [v]=>bif ownTV v then unSl R τ v else none
    |_=>none)=some x->∃vs,fn.results.toList.mapM (resV E fr' σ')=some vs/\∃c:Cap,(match vs with| [v]=>v|vs=>V.tup vs)=V.lst c (x.map (encD R τ))/\(c= .nil\/c= .full\/∃s,c= .own (szD R τ) s/\σ'.top s=(x.map (encD R τ)).length):=by
    intro hk
    split at hk
    ·rename_i tv Iq
     obtain⟨hb,hk⟩:=aM hk
     obtain⟨vs,h1,h2⟩:=yC hi' Iq
     obtain⟨v,l,rfl,h3,h4⟩:=h2.inv_cons
     rw[h4.inv_nil] at h1
     refine⟨[v],h1,?_⟩
     unfold unSl at hk
     split at hk
     ·rename_i cp τ' l0 _
      obtain⟨e,e2⟩:=iJ hk;subst e;cases e2
      obtain⟨c',rfl,hc'⟩:=h3.dB
      refine⟨c',rfl,?_⟩
      cases cp<;>simp only[ownTV,aaB] at hb
      ·exact .inr (.inl hc')
      ·rcases hc' with rfl|rfl| ⟨s,rfl,_,ht⟩
       ·exact .inl rfl
       ·exact .inr (.inl rfl)
       ·exact .inr (.inr ⟨s,rfl,by rw[ab3];exact ht⟩)
     ·cases hk
      exact⟨.nil,h3.fF,.inl rfl⟩
     ·cases hk
    ·cases hk
   cases e with
   |exit i=>cases hk
   |normal=>exact key hk
   |ret=>exact key hk
  obtain⟨m,v,σ1,hm,cp,rfl,hcp⟩:=himp
  have hpc:pcleanL (x.map (encD R τ))=true:=by
   have:=xw (fV hR τ) x
   simpa [pclean] using this
  refine⟨⟨m,?_⟩,.of hm hpc hcp⟩
  simp only[callPure,hs,hm,Option.bind_some]
  exact ko _ _ (fV hR τ)
 ·cases h
end
end Aq
end
section
namespace Aq
open Go
def bitAnd (k:IntKind) (x y:Int):Int:=k.wrap (BitVec.ofInt k.bits x&&& BitVec.ofInt k.bits y).toNat
def bitOr (k:IntKind) (x y:Int):Int:=k.wrap (BitVec.ofInt k.bits x|||BitVec.ofInt k.bits y).toNat
def bitXor (k:IntKind) (x y:Int):Int:=k.wrap (BitVec.ofInt k.bits x^^^BitVec.ofInt k.bits y).toNat
def bitShl (k:IntKind) (x y:Int):Int:=k.wrap (x*2^min y.toNat k.bits)
def bitShr (k:IntKind) (x y:Int):Int:=x.fdiv (2^min y.toNat k.bits)
section
variable {R:Reg} {E:Env}
def addF (f:Nat) (r:FR R) (F:Nat->List (FR R)):Nat->List (FR R):=fun g=>bif Nat.beq g f then r::F g else F g
theorem addF_ok {f:Nat} {r:FR R} {F:Nat->List (FR R)} (hF:RegsOK E F) (h:∀p x,r.F p=some x->Pure E f (encSL R r.args p) (retV (encSL R r.res x))) (ho:r.own=false:=by rfl):RegsOK E (addF f r F):=by
 intro g q hq p x hx
 unfold addF at hq
 cases hb:Nat.beq g f
 ·rw[hb] at hq;exact hF g q hq p x hx
 ·rw[hb,cond_true] at hq
  rcases aeQ.1 hq with rfl|hq
  ·rw[aP hb];exact⟨fun _=>h p x hx,fun e=>by rw[ho] at e;cases e⟩
  ·exact hF g q hq p x hx
def noF:Nat->List (FR R):=fun _=>[]
def noI:IR R:=⟨fun _=>[],fun _=>[],fun _=>[]⟩
theorem noI_ok:ItersOK E (noI (R:=R)):=⟨fun _ _ h=>(by cases h),fun _ _ h=>(by cases h),fun _ _ h=>(by cases h)⟩
theorem noF_ok:RegsOK E (noF (R:=R)):=fun _ _ h=>by cases h
theorem yE {f:Nat} {args:List Sk} {τ:Ty} {G:PayL R.T args->Option (List (Den R.T τ))} {d:List (Den R.T τ)} {F:Nat->List (FR R)} (hF:RegsOK E F)
 (h:∀p x,G p=some x->Pure E f (encSL R args p) (.lst .sh (x.map (encD R τ)))/\gY E f (encSL R args p) (szD R τ) (x.map (encD R τ))) (hc:cSkL args=true:=by rfl) (hn:E.ownN f=false:=by rfl):RegsOK E (addF f ⟨args,[.d (.slice τ)],G,d,true⟩ F):=by
 intro g q hq p x hx
 unfold addF at hq
 cases hb:Nat.beq g f
 ·rw[hb] at hq;exact hF g q hq p x hx
 ·rw[hb,cond_true] at hq
  rcases aeQ.1 hq with rfl|hq
  ·rw[aP hb]
   obtain⟨h1,h2⟩:=h p x hx
   refine⟨fun _=>h1,fun _ τ' e l hl=>?_⟩
   cases e
   have hl':x=l:=hl
   subst hl'
   exact⟨fun _=>⟨hn,h2⟩,fun e=>(by rw[hc] at e;cases e)⟩
  ·exact hF g q hq p x hx
end
def dflG1:(k:SgK)->PayG1 k
 |.i _=>(0:Int)
 |.a _ n=>Vec.rep n 0
def dflG:(l:List SgK)->PayG l
 | []=>()
 | [k]=>dflG1 k
 |k::h::l=>(dflG1 k,dflG (h::l))
section
variable (R:Reg)
mutual
def dflS:(k:Sk)->PayS R.T k
 |.d t=>dfl R t
 |.l _ t=>([]:List (Den R.T t))
 |.agg l=>dflL l
 |.ref _ _=>()
 |.cref l _=>dflL l
 |.mapr _=>()
 |.mapc k e=>([]:List (Den R.T k×Den R.T e))
 |.fn _ a b=>(dflL a,dflL b)
 |.nils=>()
 |.vw _ _=>()
 |.sub _ _=>((0:Int),(0:Int))
 |.sg l=>dflG l
 |.undef=>()
def dflL:(l:List Sk)->PayL R.T l
 | []=>()
 | [k]=>dflS k
 |k::h::l=>(dflS k,dflL (h::l))
end
end
end Aq
end
section
namespace Aq
open Go Go.RowKit
mutual
def ZM:V->Nat
 |.str s=>s.length+1
 |.agg cs=>Ir cs
 |.lst _ l=>Ir l+1
 |_=>1
def Ir:List V->Nat
 | []=>0
 |v::l=>ZM v+Ir l
end
def badI (k:IntKind) (n:Int):Nat:=if (Lit.int k n).wf=true then 0 else 2^64
theorem ZN {k:IntKind} {n:Int} (h:(Lit.int k n).wf=true):badI k n=0:=if_pos h
theorem ZO {k:IntKind} {n:Int} (h:badI k n<2^64):k.min<=n/\n<=k.max:=by
 unfold badI at h
 split at h
 ·rename_i hw
  simp only[Lit.wf,RS,decide_eq_true_eq] at hw
  exact hw
 ·exact absurd h (Nat.lt_irrefl _)
mutual
def vsr:V->Nat
 |.str s=>s.length+1
 |.agg cs=>vsrL cs
 |.lst _ l=>vsrL l+1
 |.int k n=>1+badI k n
 |_=>1
def vsrL:List V->Nat
 | []=>0
 |v::l=>vsr v+vsrL l
end
structure Bulk (H:Type) (bk:DataW H->Nat) (bs:List (DataW H)->Nat):Prop where
 one:∀d,1<=bk d
 str:∀s,s.length+1<=bk (.lit (.string s))
 agg:∀l,bs l<=bk (.agg l)
 sl:∀l r,bs l+1<=bk (.slice l r)
 nil:bs []=0
 cons:∀d l,bs (d::l)=bk d+bs l
section
variable {H:Type} {bk:DataW H->Nat} {bs:List (DataW H)->Nat} (hb:Bulk H bk bs)
include hb
theorem Bulk.append (a b:List (DataW H)):bs (a++b)=bs a+bs b:=by
 induction a with
 |nil=>simp[hb.nil]
 |cons v a ih=>simp only[List.cons_append,hb.cons,ih];omega
end
def iQ {α β γ:Type} (Q:α->β->γ->Prop):List α->List β->List γ->Prop
 | [],[],[]=>True
 |t::ts,c::cs,d::ds=>Q t c d/\iQ Q ts cs ds
 |_,_,_=>False
theorem iQ.append {α β γ:Type} {Q:α->β->γ->Prop}:∀{a a':List α} {b b':List β} {c c':List γ},iQ Q a b c->iQ Q a' b' c'->iQ Q (a++a') (b++b') (c++c')
 | [],_,[],_,[],_,_,h=>h
 |_::_,_,_::_,_,_::_,_,h,h'=>⟨h.1,h.2.append h'⟩
 | [],_,_::_,_,_,_,h,_=>h.elim
 | [],_,[],_,_::_,_,h,_=>h.elim
 |_::_,_,[],_,_,_,h,_=>h.elim
 |_::_,_,_::_,_,[],_,h,_=>h.elim
theorem iQ.mono {α β γ:Type} {Q Q':α->β->γ->Prop} (hq:∀a b c,Q a b c->Q' a b c):∀{a:List α} {b:List β} {c:List γ},iQ Q a b c->iQ Q' a b c
 | [],[],[],_=>trivial
 |_::_,_::_,_::_,h=>⟨hq _ _ _ h.1,h.2.mono hq⟩
 | [],_::_,_,h=>h.elim
 | [],[],_::_,h=>h.elim
 |_::_,[],_,h=>h.elim
 |_::_,_::_,[],h=>h.elim
theorem iQ.len {α β γ:Type} {Q:α->β->γ->Prop}:∀{a:List α} {b:List β} {c:List γ},iQ Q a b c->a.length=b.length
 | [],[],[],_=>rfl
 |_::_,_::_,_::_,h=>by simp[h.2.len]
 | [],_::_,_,h=>h.elim
 | [],[],_::_,h=>h.elim
 |_::_,[],_,h=>h.elim
 |_::_,_::_,[],h=>h.elim
section
variable (P:Program)
def yF (t:TypeId):Option (List (Nat×TypeId)):=match P.underlying t with
 |some (.struct fs)=>some (fs.toList.map fun f=>(f.offset,f.type))
 |some (.array n e)=>some ((List.range n).map fun i=>(i*P.cellsOf e,e))
 |_=>none
def uj (t:TypeId):Bool:=match P.underlying t with
 |some .bool=>true
 |some (.int _)=>true
 |some .string=>true
 |some (.slice _)=>true
 |_=>false
def yG:List (Nat×TypeId)->Nat->Nat->Bool
 | [],off,tot=>off==tot
 | (o,u)::l,off,tot=>o==off&& yG l (off+P.cellsOf u) tot
def um:Nat->TypeId->Option (List TypeId)
 |0,_=>none
 |k+1,t=>match yF P t with
  |some ps=>if yG P ps 0 (P.cellsOf t)=true then (ps.mapM fun (p:Nat×TypeId)=>match um k p.2 with
    |some l=>if l.length=P.cellsOf p.2 then some l else none
    |none=>none).map List.flatten else none
  |none=>if uj P t=true/\P.cellsOf t=1 then some [t] else none
end
section
variable {P:Program} {w:World} {H:Type} {enc:TypeId×Value->H} {bk:DataW H->Nat} {bs:List (DataW H)->Nat}
abbrev dS (enc:TypeId×Value->H) (P:Program) (w:World) (f:Nat) (t:TypeId) (cs:List Value):Option (DataW H×List MemPlace):=DataW.trod enc P w 0 (fun _=>true) true f t cs
theorem ZP {fuel:Nat} {t:TypeId} {cs:List Value} {d:DataW H} {ps:List MemPlace} {pl:List (Nat×TypeId)} (hp:yF P t=some pl) (h:dS enc P w (fuel+1) t cs=some (d,ps)):
 cs.length=P.cellsOf t/\∃xs,pl.mapM (fun p=>dS enc P w fuel p.2 ((cs.drop p.1).take (P.cellsOf p.2)))=some xs/\d= .agg (xs.map (·.1)):=by
 unfold yF at hp
 split at hp
 ·rename_i fs hu
  simp only[iE] at hp
  subst hp
  simp only[dS,DataW.trod,hu] at h
  split at h
  ·rename_i hl
   simp only[aat,mF] at h
   obtain⟨xs,h1,rfl,rfl⟩:=h
   refine⟨hl,xs,?_,rfl⟩
   rw[List.mapM_map]
   exact h1
  ·cases h
 ·rename_i n e hu
  simp only[iE] at hp
  subst hp
  simp only[dS,DataW.trod,hu] at h
  split at h
  ·rename_i hl
   simp only[aat,mF] at h
   obtain⟨xs,h1,rfl,rfl⟩:=h
   refine⟨hl,xs,?_,rfl⟩
   rw[List.mapM_map]
   exact h1
  ·cases h
 ·cases hp
def Iu (enc:TypeId×Value->H) (P:Program) (w:World) (fuel:Nat) (u:TypeId) (c:Value) (d:DataW H):Prop:=∃f p,f<=fuel/\dS enc P w f u [c]=some (d,p)/\uj P u=true
theorem Pf {fuel:Nat} {t:TypeId} {cs:List Value} {x:DataW H×List MemPlace} (hl:uj P t=true) (h:dS enc P w fuel t cs=some x):∃c,cs=[c]:=by
 cases fuel with
 |zero=>simp[dS,DataW.trod] at h
 |succ f=>
  unfold uj at hl
  split at hl
  all_goals (rename_i hu;simp only[dS,DataW.trod,hu] at h;split at h<;>first|exact⟨_,rfl⟩|simp_all)
theorem ZQ (hb:Bulk H bk bs):∀(k fuel:Nat) (t:TypeId) (cs:List Value) (d:DataW H) (ps:List MemPlace) (ts:List TypeId),um P k t=some ts->dS enc P w fuel t cs=some (d,ps)->
 ∃ds,iQ (Iu enc P w fuel) ts cs ds/\bs ds<=bk d:=by
 intro k
 induction k with
 |zero=>intro fuel t cs d ps ts h;simp[um] at h
 |succ k ih=>
  intro fuel t cs d ps ts h ht
  simp only[um] at h
  split at h
  ·rename_i pl hp
   split at h
   ·rename_i hcon
    cases fuel with
    |zero=>simp[dS,DataW.trod] at ht
    |succ fuel=>
     obtain⟨hl,xs,hx,rfl⟩:=ZP hp ht
     simp only[aat] at h
     obtain⟨uo,ZR,rfl⟩:=h
     have key:∀(pl:List (Nat×TypeId)) (off:Nat) (xs:List (DataW H×List MemPlace)) (uo:List (List TypeId)),yG P pl off cs.length=true->
      pl.mapM (fun p=>dS enc P w fuel p.2 ((cs.drop p.1).take (P.cellsOf p.2)))=some xs->
      (pl.mapM fun p=>match um P k p.2 with
        |some l=>if l.length=P.cellsOf p.2 then some l else none
        |none=>none)=some uo->∃ds,iQ (Iu enc P w (fuel+1)) uo.flatten (cs.drop off) ds/\bs ds<=bs (xs.map (·.1)):=by
      intro pl
      induction pl with
      |nil=>
       intro off xs uo hc h1 h2
       simp only[List.mapM_nil,Option.pure_def,iE] at h1 h2
       subst h1;subst h2
       simp only[yG,beq_iff_eq] at hc
       rw[hc,List.drop_length]
       exact⟨[],trivial,iP _⟩
      |cons p pl ZT=>
       intro off xs uo hc h1 h2
       obtain⟨o,u⟩:=p
       simp only[yG,RS,beq_iff_eq] at hc
       obtain⟨rfl,hc⟩:=hc
       simp only[aew,Option.bind_eq_bind,iR,Option.pure_def,iE] at h1 h2
       obtain⟨⟨d1,p1⟩,g1,xs',g2,rfl⟩:=h1
       obtain⟨l1,g3,aeK,g4,rfl⟩:=h2
       split at g3
       ·rename_i l0 hl0
        split at g3
        ·cases g3
         obtain⟨ds1,a1,a2⟩:=ih _ _ _ _ _ _ hl0 g1
         obtain⟨ZU,a3,a4⟩:=ZT _ _ _ hc g2 g4
         refine⟨ds1++ZU,?_,?_⟩
         ·rw[List.flatten_cons]
          have e:cs.drop o=(cs.drop o).take (P.cellsOf u)++cs.drop (o+P.cellsOf u):=by
           rw[<-List.drop_drop,afF]
          rw[e]
          exact iQ.append (a1.mono fun _ _ _ ⟨f,q,h1,h2⟩=>⟨f,q,Nat.le_succ_of_le h1,h2⟩) a3
         ·rw[hb.append,aez,hb.cons];show _<=bk d1+_;omega
        ·cases g3
       ·cases g3
     have:=key pl 0 xs uo (by rw[hl];exact hcon) hx ZR
     obtain⟨ds,h1,h2⟩:=this
     exact⟨ds,by simpa using h1,aaI h2 (hb.agg _)⟩
   ·cases h
  ·split at h
   ·rename_i hlf
    simp only[iE] at h
    subst h
    obtain⟨c,rfl⟩:=Pf hlf.1 ht
    refine⟨[d],⟨⟨fuel,ps,iP _,ht,hlf.1⟩,trivial⟩,?_⟩
    rw[hb.cons,hb.nil];omega
   ·cases h
def iw (K:aB) (T:Nat->Nat) (w:World) (vs:List V) (cs:List Value):Prop:=vs.length=cs.length/\∀j,j<vs.length->Rel K T w (vs.getD j undefV) (cs.getD j undef)
theorem iw.cons {K:aB} {T:Nat->Nat} {v:V} {c:Value} {vs:List V} {cs:List Value} (h:Rel K T w v c) (hs:iw K T w vs cs):iw K T w (v::vs) (c::cs):=by
 refine⟨by simp[hs.1],fun j hj=>?_⟩
 cases j with
 |zero=>exact h
 |succ j=>simpa using hs.2 j (by simpa using hj)
variable (R:Reg)
def tyOK (P:Program) (t:TypeId):Ty->Bool
 |.int k=>match P.underlying t with
  |some (.int k')=>decide (k'=k)
  |_=>false
 |.bool=>match P.underlying t with
  |some .bool=>true
  |_=>false
 |.str=>match P.underlying t with
  |some .string=>true
  |_=>false
 |.slice τ=>match P.underlying t with
  |some (.slice e)=>decide (R.ty e=some τ)&& decide (0<P.cellsOf e)
  |_=>false
 |.st n=>match um P 10 t with
  |some ts=>decide (ts.map R.ty=(R.lf n).map some)&& (yF P t).isSome
  |none=>false
def allI (w:World) (b o:Nat):Prop:=∃v,w.cell? (at_ b o)=some v
abbrev KA (w:World):aB:=aB.lend (allI w) (fun b=>∃es aH,w.heap[b]? =some (.map es aH))
theorem Iw {α β:Type} {f:α->Option β}:∀{l:List α} {r:List β},l.mapM f=some r->r.length=l.length/\∀(i:Nat) (hi:i<l.length) (hr:i<r.length),f l[i]=some r[i]:=by
 intro l
 induction l with
 |nil=>intro r h;simp at h;subst h;exact⟨rfl,fun i hi=>absurd hi (ab2 i)⟩
 |cons a l ih=>
  intro r h
  simp only[aew,Option.bind_eq_bind,iR,Option.pure_def,iE] at h
  obtain⟨y,h1,ys,h2,rfl⟩:=h
  obtain⟨h3,h4⟩:=ih h2
  refine⟨by simp[h3],fun i hi hr=>?_⟩
  cases i with
  |zero=>exact h1
  |succ i=>exact h4 i (by simpa using hi) (by simpa using hr)
theorem Pg {base:Nat} {a:Addr} {n:Nat} {cs:List Value} (h:w.cells? base a n=some cs):cs.length=n/\∀j,j<n->w.cell? (a.add j)=some (cs.getD j undef):=by
 unfold World.cells? at h
 split at h
 ·obtain⟨h1,h2⟩:=Iw h
  rw[afN] at h1
  refine⟨h1,fun j hj=>?_⟩
  have:=h2 j (by simpa using hj) (by omega)
  simp only[afA] at this
  rw[this,ae5,afb (by omega)]
  rfl
 ·cases h
theorem plain_of_cell {a:Addr} {v:Value} (h:w.cell? a=some v):a=at_ a.block a.off:=by
 unfold World.cell? at h
 obtain⟨b,o,s⟩:=a
 cases s with
 |none=>rfl
 |some s=>dsimp only at h;split at h<;>simp at h
theorem Ph (hb:Bulk H bk bs) (hR:RegOK R) {T:Nat->Nat} {Q:TypeId->Value->DataW H->Prop} (hq:∀u c d τ,Q u c d->R.ty u=some τ->eX τ=true->∃x:Den R.T τ,Rel (KA w) T w (encD R τ x) c/\vsr (encD R τ x)<=bk d):
 ∀(l:List Ty) (ts:List TypeId) (cs:List Value) (ds:List (DataW H)),l.all eX=true->ts.map R.ty=l.map some->iQ Q ts cs ds->∃p:PayT R.T l,iw (KA w) T w (encs R l p) cs/\vsrL (encs R l p)<=bs ds
 | [],ts,cs,ds,_,hm,h=>by
   have:ts=[]:=by simpa using hm
   subst this
   cases cs with
   |nil=>cases ds with
    |nil=>exact⟨(),⟨rfl,fun j hj=>absurd hj (ab2 j)⟩,by rw[hb.nil];exact iP _⟩
    |cons=>exact h.elim
   |cons=>exact h.elim
 | [τ],ts,cs,ds,hl,hm,h=>by
   cases ts with
   |nil=>simp at hm
   |cons u ts=>
    simp only[aez,List.map_nil,afg,List.map_eq_nil_iff] at hm
    obtain⟨hu,rfl⟩:=hm
    cases cs with
    |nil=>exact h.elim
    |cons c cs=>cases ds with
     |nil=>exact h.elim
     |cons d ds=>
      obtain⟨h1,h2⟩:=h
      cases cs with
      |cons=>exact h2.elim
      |nil=>cases ds with
       |cons=>exact h2.elim
       |nil=>
        obtain⟨x,h3,h4⟩:=hq u c d τ h1 hu (by simpa using hl)
        refine⟨x,iw.cons h3 ⟨rfl,fun j hj=>absurd hj (ab2 j)⟩,?_⟩
        rw[hb.cons,hb.nil]
        show vsr _+0<=_
        omega
 |τ::τ'::l,ts,cs,ds,hl,hm,h=>by
  cases ts with
  |nil=>simp at hm
  |cons u ts=>
   rw[aez,aez] at hm
   injection hm with hu hm
   cases cs with
   |nil=>exact h.elim
   |cons c cs=>cases ds with
    |nil=>exact h.elim
    |cons d ds=>
     obtain⟨h1,h2⟩:=h
     rw[List.all_cons,RS] at hl
     obtain⟨x,h3,h4⟩:=hq u c d τ h1 hu hl.1
     obtain⟨p,h5,h6⟩:=Ph hb hR hq (τ'::l) ts cs ds hl.2 hm h2
     refine⟨(x,p),iw.cons h3 h5,?_⟩
     rw[hb.cons]
     show vsr (encD R τ x)+vsrL (encs R (τ'::l) p)<=_
     omega
theorem ZV (τ:Ty) (hl:eX τ=true) (x:Den R.T τ):(encD R τ x).cells=[encD R τ x]:=by
 cases τ with
 |st n=>simp[eX] at hl
 |_=>rfl
theorem ZW (hb:Bulk H bk bs) (hR:RegOK R) {T:Nat->Nat} (hty:∀t τ,R.ty t=some τ->tyOK R P t τ=true):∀(fuel:Nat) (t:TypeId) (cs:List Value) (d:DataW H) (ps:List MemPlace) (τ:Ty),R.ty t=some τ->dS enc P w fuel t cs=some (d,ps)->
 ∃x:Den R.T τ,iw (KA w) T w (encD R τ x).cells cs/\vsr (encD R τ x)<=bk d:=by
 intro fuel
 induction fuel using Nat.strongRecOn with
 |_ fuel ih=>
  have leaf:∀f,f<=fuel->∀u c d p τ,eX τ=true->R.ty u=some τ->dS enc P w f u [c]=some (d,p)->∃x:Den R.T τ,Rel (KA w) T w (encD R τ x) c/\vsr (encD R τ x)<=bk d:=by
   intro f hf u c d p τ hl hu h
   cases f with
   |zero=>simp[dS,DataW.trod] at h
   |succ f=>
    have ho:=hty u τ hu
    cases τ with
    |st n=>simp[eX] at hl
    |int k=>
     simp only[tyOK] at ho
     split at ho
     ·rename_i k' hk
      have:=of_decide_eq_true ho
      subst this
      cases c with
      |int k2 n=>
       simp only[dS,DataW.trod,hk] at h
       split at h
       ·rename_i hkk
        obtain⟨rfl,hwf⟩:=hkk
        simp only[iE,mF] at h
        obtain⟨rfl,rfl⟩:=h
        exact⟨(n:Int),.int _ _,by show 1+badI _ _<=_;rw[ZN hwf];exact hb.one _⟩
       ·cases h
      |_=>simp only[dS,DataW.trod,hk] at h;cases h
     ·cases ho
    |bool=>
     simp only[tyOK] at ho
     split at ho
     ·rename_i hk
      cases c with
      |bool b=>exact⟨(b:Bool),.bool _,hb.one _⟩
      |_=>simp only[dS,DataW.trod,hk] at h;cases h
     ·cases ho
    |str=>
     simp only[tyOK] at ho
     split at ho
     ·rename_i hk
      cases c with
      |string b=>
       simp only[dS,DataW.trod,hk] at h
       split at h
       ·simp only[iE,mF] at h
        obtain⟨rfl,rfl⟩:=h
        exact⟨b.data.toList,.str _ _ rfl,hb.str _⟩
       ·cases h
      |_=>simp only[dS,DataW.trod,hk] at h;cases h
     ·cases ho
    |slice τ=>
     simp only[tyOK] at ho
     split at ho
     ·rename_i e hk
      rw[RS] at ho
      have he:=of_decide_eq_true ho.1
      have hpos:=of_decide_eq_true ho.2
      cases c with
      |slice a len cap=>
       cases a with
       |none=>
        cases len with
        |succ n=>simp only[dS,DataW.trod,hk] at h;cases h
        |zero=>cases cap with
         |succ n=>simp only[dS,DataW.trod,hk] at h;cases h
         |zero=>exact⟨([]:List (Den R.T τ)),.aT .sh none (fun _=>rfl) trivial,hb.one _⟩
       |some a=>
        simp only[dS,DataW.trod,hk] at h
        split at h
        ·rename_i hc
         obtain⟨_,hlc,_⟩:=hc
         simp only[iR,if_true,aat,mF] at h
         obtain⟨elems,h1,rest,h2,rfl,rfl⟩:=h
         obtain⟨e1,e2⟩:=Iw h1
         obtain⟨r1,r2⟩:=Iw h2
         rw[afN] at e1 r1
         have hplain:0<cap->a=at_ a.block a.off:=fun hcap=>by
          have hread:∃i cs x,w.cells? 0 (a.add (i*P.cellsOf e)) (P.cellsOf e)=some cs/\dS enc P w f e cs=some x/\i=0:=by
           by_cases hl0:0<len
           ·have:=e2 0 (by simpa using hl0) (by omega)
            simp only[afA,iR] at this
            obtain⟨cs,g1,g2⟩:=this
            exact⟨0,cs,_,g1,g2,rfl⟩
           ·have:=r2 0 (by simp;omega) (by omega)
            simp only[afA,iR] at this
            obtain⟨cs,g1,g2⟩:=this
            exact⟨len+0,cs,_,g1,g2,by omega⟩
          obtain⟨i,cs,_,g1,_,rfl⟩:=hread
          have:=(Pg g1).2 0 hpos
          have ha:(a.add (0*P.cellsOf e)).add 0=a:=by simp[Addr.add]
          rw[ha] at this
          exact plain_of_cell this
         have hel:∀i,∃x:Den R.T τ,∃uq:List Value,∀hi:i<elems.length,(∀j,j<P.cellsOf e->w.cell? ((a.add (i*P.cellsOf e)).add j)=some (uq.getD j undef))/\uq.length=P.cellsOf e/\
          iw (KA w) T w (encD R τ x).cells uq/\vsr (encD R τ x)<=bk elems[i].1:=fun i=>by
          by_cases hi:i<elems.length
          ·have:=e2 i (by simpa using (by omega:i<len)) hi
           simp only[afA,iR] at this
           obtain⟨uq,g1,g2⟩:=this
           obtain⟨c1,c2⟩:=Pg g1
           obtain⟨x,x1,x2⟩:=ih f (by omega) e uq elems[i].1 elems[i].2 τ he g2
           exact⟨x,uq,fun _=>⟨c2,c1,x1,x2⟩⟩
          ·exact⟨dfl R τ,[],fun h=>absurd h hi⟩
         let xs:List (Den R.T τ):=(List.range elems.length).map fun i=>(hel i).choose
         have hxs:∀i (hi:i<xs.length) (hi':i<elems.length),(∀j,j<P.cellsOf e->w.cell? ((a.add (i*P.cellsOf e)).add j)=some ((hel i).choose_spec.choose.getD j undef))/\(hel i).choose_spec.choose.length=P.cellsOf e/\
          iw (KA w) T w (encD R τ xs[i]).cells (hel i).choose_spec.choose/\vsr (encD R τ xs[i])<=bk elems[i].1:=fun i hi hi'=>by
          have:=(hel i).choose_spec.choose_spec hi'
          have e:xs[i]=(hel i).choose:=by simp[xs]
          rw[e];exact this
         have hxl:xs.length=len:=by simp[xs,e1]
         refine⟨(xs:List (Den R.T τ)),?_,?_⟩
         ·show Rel _ _ _ (.lst .sh (xs.map (encD R τ))) (.slice (some a) len cap)
          by_cases hcap:0<cap
          ·obtain⟨b,o,s⟩:=a
           have hs:s=none:=by
            have:=hplain hcap
            simp only[at_,Addr.mk.injEq] at this
            exact this.2.2
           subst hs
           have key:Rel (KA w) T w (.lst .sh (xs.map (encD R τ))) (.slice (some (at_ b o)) (xs.map (encD R τ)).length cap):=by
            refine .lst .sh _ b o (P.cellsOf e) cap (fun i j=>if hi:i<elems.length then (hel i).choose_spec.choose.getD j undef else undef) (by rw[ab3,hxl];exact hlc) (fun i hi=>?_) (fun i j hi hj=>?_) (fun i j hi hj=>?_) trivial
            all_goals
             rw[ab3] at hi
             have hi':i<elems.length:=by omega
             obtain⟨y1,y2,y3,y4⟩:=hxs i hi hi'
             have hg:(xs.map (encD R τ)).getD i undefV=encD R τ xs[i]:=by simp[List.getD,hi]
            ·rw[hg];exact y3.1.trans y2
            ·rw[dif_pos hi']
             have hadd:at_ b (o+i*P.cellsOf e+j)=((⟨b,o,none⟩:Addr).add (i*P.cellsOf e)).add j:=by
              rw[show (⟨b,o,none⟩:Addr)=at_ b o from rfl,addr_add,addr_add]
             have this:=(congrArg w.cell? hadd).trans (y1 j hj)
             exact⟨this,_,this⟩
            ·rw[hg,dif_pos hi']
             exact y3.2 j (by rw[y3.1,y2];exact hj)
           rw[ab3,hxl] at key
           exact key
          ·have h0:len=0:=by omega
           have h0':cap=0:=by omega
           subst h0;subst h0'
           have:xs=[]:=afa hxl
           rw[this]
           exact .aT .sh (some a) (fun h=>by cases h) trivial
         ·show vsrL (xs.map (encD R τ))+1<=_
          refine aaI (Nat.succ_le_succ ?_) (hb.sl _ _)
          have ZX:∀(l:List (Den R.T τ)) (m:List (DataW H×List MemPlace)),l.length=m.length->(∀i (hi:i<l.length) (hi':i<m.length),vsr (encD R τ l[i])<=bk m[i].1)->vsrL (l.map (encD R τ))<=bs (m.map (·.1)):=by
           intro l
           induction l with
           |nil=>intro m _ _;exact afd _
           |cons x l ihl=>
            intro m hm hle
            cases m with
            |nil=>simp at hm
            |cons y m=>
             rw[aez,aez,hb.cons]
             have h0:=hle 0 (by simp) (by simp)
             have h1:=ihl m (by simpa using hm) (fun i hi hi'=>hle (i+1) (by simpa using hi) (by simpa using hi'))
             simp only[List.getElem_cons_zero] at h0
             show vsr _+vsrL _<=_
             omega
          exact ZX xs elems (by rw[hxl,e1]) fun i hi hi'=>(hxs i hi hi').2.2.2
        ·cases h
      |_=>simp only[dS,DataW.trod,hk] at h;cases h
     ·cases ho
  have ho:=hty
  intro t cs d ps τ ht h
  cases τ with
  |st n=>
   have ho:=hty t _ ht
   simp only[tyOK] at ho
   split at ho
   ·rename_i ts hts
    rw[RS] at ho
    have hm:=of_decide_eq_true ho.1
    obtain⟨ds,h1,h2⟩:=ZQ hb _ _ _ _ _ _ _ hts h
    obtain⟨p,h3,h4⟩:=Ph R hb hR (Q:=Iu enc P w fuel) (T:=T) (fun u c d τ hq hu hl=>by
     obtain⟨f,q,hf,hq,_⟩:=hq
     exact leaf f hf u c d q τ hl hu hq) (R.lf n) ts cs ds (hR.leaf n) hm h1
    refine⟨R.to n p,?_,?_⟩
    ·show iw _ _ _ (R.enc n (R.to n p)).cells cs
     rw[hR.enc,hR.of_to];exact h3
    ·show vsr (R.enc n (R.to n p))<=_
     rw[hR.enc,hR.of_to]
     exact aaI h4 h2
   ·cases ho
  |_=>
   have hl:uj P t=true:=by
    have ho:=hty t _ ht
    simp only[tyOK] at ho
    split at ho
    ·rename_i hu;simp[uj,hu]
    ·cases ho
   obtain⟨c,rfl⟩:=Pf hl h
   obtain⟨x,h1,h2⟩:=leaf fuel (iP _) t c d ps _ rfl ht h
   refine⟨x,?_,h2⟩
   rw[ZV R _ rfl]
   exact iw.cons h1 ⟨rfl,fun j hj=>absurd hj (ab2 j)⟩
end
end Aq
end
