import Derived.Test.YthadiihdjhakdaaGreatF2212
set_option linter.all false
section
namespace aR
open Go
section
variable {R:iI}{E:Env}(hR:qE R)
include hR
def aa6 (E:Env)(aj:Bool)(c:Code)(body:{β:Type}->aH R.T->(Ex->aH R.T->Option β)->Option β):Prop:=
 ∀(β:Type)(st:aH R.T)(k:Ex->aH R.T->Option β)(x:β)(fr:Fr)(σ:ak)(ρ:aV),ρ.aj.aj=aj->body st k=some x->aO ρ σ.next st fr σ->bH E c fr σ fun e fr' σ'=>∃ρ' st',aO ρ' σ'.next st' fr' σ'/\Kp (jW E c) (bJ E c) st fr σ ρ st' fr' σ' ρ'/\k e st'=some x
omit hR in
theorem aa7:∀(ρ:aV)(σ:ak)(o:Nat)(x:bA R.T),eZ (R:=R) ρ σ o x->eZ (R:=R) ρ σ o (.ro x):=fun _ _ _ _ h=>h
theorem ah2 {aj:Bool}{β:Type}{c:Code}{key:Nat}{sh:Shape}{outs:List (Ex×Shape)}{body:{β:Type}->aH R.T->(Ex->aH R.T->Option β)->Option β}(hb:aa6 E aj c body){H B:aH R.T}{uy:Fr}{iy:ak}{IY:aV}(bO:IY.aj.aj=aj)(hB:∀(st' S':aH R.T) (fr':Fr) (σ':ak) (ρ':aV) (b':Nat),aO ρ' b' st' fr' σ'->Kp (jW E c) (bJ E c) H uy iy IY S' fr' σ' ρ'->aO ρ' b' B fr' σ')(hro:∀o,jr B o):
 ∀(m:Nat)(p:qY R.T sh)(o:Out R.T outs)(fr:Fr)(σ:ak)(ρ:aV),yF key (bJ E c) B sh outs body m p=some o->aO ρ σ.next (unpack R sh p) fr σ->Kp (jW E c) (bJ E c) H uy iy IY (B.over (unpack R sh p)) fr σ ρ->
 bH E (.loop c) fr σ fun e fr' σ'=>∃ρ' S' st',aO ρ' σ'.next st' fr' σ'/\Kp (jW E c) (bJ E c) H uy iy IY S' fr' σ' ρ'/\(∀o,bg o (bJ E c)=false->jr H o->look st'.ob o=none)/\∀(k:Ex->aH R.T->Option β)(bs:aH R.T),zT R bs k outs o=k e (bs.over st')
 |0,p,o,fr,σ,ρ,h,_,_=>bL|m+1,p,o,fr,σ,ρ,h,hi,hkp=>by
  unfold yF at h;have hbase:aO ρ σ.next B fr σ:=hB _ _ _ _ _ _ hi hkp;refine bH.loop ((hb _ _ _ _ fr σ ρ ((congrArg cZ.aj hkp.aj).trans bO) h (hbase.over hi)).mono ?_);rintro e fr' σ' ⟨ρ',st',hi',Ab,hk⟩;have hall:=hkp.trans Ab;cases e with
  |normal=>
   dsimp only at hk;split at hk
   ·rename_i p' hp'
    obtain⟨uo,S2,h1,h2,_,h3⟩:=hi'.nP hR hp';have DI:=hall.trans h2;refine ah2 hb bO hB hro m p' o fr' σ' uo hk h1 ⟨DI.fr,fun q hq=>⟨(DI.ob q hq).ob,(DI.ob q hq).ln,(DI.ob q hq).aj,(DI.ob q hq).nx,(DI.ob q hq).lp,(DI.ob q hq).dp,fun hr=>⟨?_,((DI.ob q hq).ro hr).2⟩⟩⟩;exact OO (hro q) fun x hx=>(by rw[h3 q hq ((hall.ob q hq).ro hr).1] at hx;cases hx)
   ·cases hk
  |exit i=>obtain⟨uo,S2,jF,h1,h2,_,h3,h4⟩:=IZ (β:=β) hR hi' hk;exact⟨uo,S2,jF,h1,hall.trans h2,fun q hq hr=>h3 q hq ((hall.ob q hq).ro hr).1,h4⟩
  |ret=>obtain⟨uo,S2,jF,h1,h2,_,h3,h4⟩:=IZ (β:=β) hR hi' hk;exact⟨uo,S2,jF,h1,hall.trans h2,fun q hq hr=>h3 q hq ((hall.ob q hq).ro hr).1,h4⟩
omit hR in
theorem ah3 {aj:Bool}{c:Code}{body:{β:Type}->aH R.T->(Ex->aH R.T->Option β)->Option β}(hb:aa6 E aj c body){β:Type}:∀(m:Nat)(st:aH R.T)(k:Ex->aH R.T->Option β)(x:β)(fr:Fr)(σ:ak)(ρ:aV),ρ.aj.aj=aj->OE (R:=R) (fun st k=>body st k) m st k=some x->aO ρ σ.next st fr σ->
 bH E (.loop c) fr σ fun e fr' σ'=>∃ρ' st',aO ρ' σ'.next st' fr' σ'/\Kp (jW E c) (bJ E c) st fr σ ρ st' fr' σ' ρ'/\k e st'=some x
 |0,st,k,x,fr,σ,ρ,_,h,_=>bL|m+1,st,k,x,fr,σ,ρ,bO,h,hi=>by
  unfold OE at h;refine bH.loop ((hb _ _ _ _ fr σ ρ bO h hi).mono ?_);rintro e fr' σ' ⟨ρ',st',hi',Ab,hk⟩;cases e with
  |normal=>
   dsimp only at hk;by_cases hW:True
   ·refine(ah3 hb m st' k x fr' σ' ρ' ?_ hk hi').mono ?_
    ·exact(congrArg cZ.aj Ab.aj).trans bO
    ·rintro e Dw kg ⟨sI,jF,h1,h2,h3⟩
     exact⟨sI,jF,h1,Ab.trans h2,h3⟩
   ·exact absurd trivial hW
  |exit i=>exact⟨ρ',st',hi',Ab,hk⟩|ret=>exact⟨ρ',st',hi',Ab,hk⟩
omit hR in
def aa8 {X:Type}(key:Nat)(W:List Nat)(b:aH R.T)(sh:Shape)(outs:List (Ex×Shape))(body:{β:Type}->X->aH R.T->(Ex->aH R.T->Option β)->Option β)(xs:List X)(e:Ex)(st:aH R.T):Option (Out R.T outs):=match e with
    |.normal=>match nP R W st.obs sh with
     |some p=>Fg key W b sh outs body xs p|none=>none
    |e=>wS R W e st.obs outs
omit hR in
def ah4 (r0:qP)(l:Nat)(σ3:ak)(x:Ex)(bb:Bool)(σ':ak):Prop:=match x with
 |.normal=>bb=true/\σ'=σ3.jd l {r0 with st:=0,pend:=none}
 |e=>bb=false/\σ'=σ3.jd l {r0 with st:=2,pend:=some e}
omit hR in
theorem aO.ah5 {ρ:aV}{b:Nat}{st:aH R.T}{fr fr':Fr}{σ:ak}(h:aO ρ b st fr σ)(he:st.fr=[])(hd:fr'.d=ρ.aj.dp)(ho:fr'.aj=ρ.aj.aj):aO ρ b st fr' σ:={h with
 d:=hd
 aj:=ho
 fr:=fun i v hv=>by rw[he] at hv;cases hv}
omit hR in
theorem aO.obs {ρ:aV}{b:Nat}{st:aH R.T}{fr:Fr}{σ:ak}(h:aO ρ b st fr σ):aO ρ b st.obs fr σ:={h with
 fr:=fun i v hv=>Et
 ob:=h.ob}
omit hR in
theorem bF.weak {nr:Bool}{o:Nat}{st st':aH R.T}{ρ ρ':aV}{σ σ':ak}(h:bF nr o st ρ σ st' ρ' σ'):bF false o st ρ σ st' ρ' σ':=⟨h.ob,h.ln,h.aj,h.nx,h.lp,fun L hL=>h.dp L (.inr (by rcases hL with e|e;cases e;exact e)),h.ro⟩
omit hR in
theorem bF.shift {o:Nat}{st st':aH R.T}{ρ ρ':aV}{σ σ' kg:ak}(h:bF false o st ρ σ st' ρ' σ')(hp:∀L:Loc,L.1<=ρ.aj.dp->kg.obj L=σ'.obj L)(hn:σ'.next<=kg.next)(hl:∀l,l<σ.next->kg.loops l=σ'.loops l)(ht:∀s,s<ρ.aj.lo->kg.top s=σ'.top s):bF false o st ρ σ st' ρ' kg:=
 ⟨h.ob,h.ln,h.aj,dJ h.nx hn,⟨fun l hl'=>(hl l hl').trans (h.lp.1 l hl'),fun s hs=>(ht s hs).trans (h.lp.2 s hs)⟩,fun L hL ho=>(hp L (by rcases hL with e|e;cases e;exact e)).trans (h.dp L hL ho),fun hr=>⟨(h.ro hr).1,fun s=>by have:=(h.ro hr).2 s;unfold ak.bQ ak.gB at this⊢;rw[hp _ (ρ.aj.vo o)];exact this⟩⟩
omit hR in
theorem ah6 {c c':cZ}(h:c'=c)(p:Nat):(c'.lc p).1<=c.dp:=by rw[<-h];exact c'.vo p
def sN (E:Env)(c:Code):Bool:=(bJ E c).all fun d=>Nat.blt d F0
omit hR in
theorem Pj {c:Code}(h:sN E c=true):∀d,bg d (bJ E c)=true->d<F0:=fun d hd=>by
 unfold sN at h;rw[kG] at h;have:=h d (ahB hd);unfold Nat.blt at this;exact lN this
omit hR in
theorem ah7 {ρ:aV}{b:Nat}{σ:ak}:∀{ps:List Nat}{fJ:List (au R.T)}{vs:List V}{st st':aH R.T}{fr:Fr},Fh st ps fJ=some st'->aI R ρ σ.top fJ vs->aO ρ b st fr σ->ps.length=vs.length/\aO ρ b st' {fr with tm:=(ps.zip vs).foldl (fun tm (p,a)=>upd tm p a) fr.tm} σ/\st'.ob=st.ob
 | [],[],vs,st,st',fr,h,hr,hi=>by
   cases h;rw[hr.iq];exact⟨rfl,hi,rfl⟩
 | [],_::_,_,_,_,_,h,_,_=>bL|_::_,[],_,_,_,_,h,_,_=>bL|i::ps,t::fJ,vs,st,st',fr,h,hr,hi=>by obtain⟨v,ws,rfl,h1,h2⟩:=hr.dS;obtain⟨a1,a2,a3⟩:=ah7 (fr:=fr.set i v) (show Fh (st.put i t) ps fJ=some st' from h) h2 (hi.put i (.of h1));exact⟨by simp[a1],a2,a3⟩
omit hR in
theorem ah8 {k:fA}{x:Dj R.T k}:qZ (mG R k x)=false:=by cases k<;>rfl
omit hR in
theorem aa9 {o:Nat}{y:bA R.T}{O:List Nat}:∀{l:List (Nat×fA)}{x:eD R.T l},zY O l=true->look (iF R l x) o=some y->bg o O=false/\qZ y=false
 | [],x,_,h=>bL| [(i,k)],x,hd,h=>by
   unfold zY at hd;rw[aT,pE] at hd;have h':look [(i,mG R k x)] o=some y:=h;by_cases e:o=i
   ·subst e;rw[kZ] at h';cases h';exact⟨hd.1,ah8⟩
   ·rw[jh _ _ e] at h';cases h'
 | (i,k)::q::l,x,hd,h=>by
   unfold zY at hd;rw[aT,pE] at hd;have h':look ((i,mG R k x.1)::iF R (q::l) x.2) o=some y:=h;by_cases e:o=i
   ·subst e;rw[kZ] at h';cases h';exact⟨hd.1,ah8⟩
   ·rw[jh _ _ e] at h';exact aa9 hd.2 h'
omit hR in
theorem auQ {W K O:List Nat}{mark:bA R.T->bA R.T}{st:aH R.T}{s:Shape}{p:qY R.T s}{o:Nat}(hd:zY O s.ob=true)(h:jr ((base W K O mark st).over (unpack R s p)) o):look (unpack R s p).ob o=none:=by
 cases hu:look (unpack R s p).ob o with
 |none=>rfl|some y=>
  exfalso;have hk:bg o O=false/\qZ y=false:=by
   obtain⟨sl,ob⟩:=s;cases ob with
   |nil=>cases hu|cons a dz=>exact aa9 hd hu
  have hb:look (base W K O mark st).ob o=none:=by
   have:∀is:List Nat,bg o is=false->look (qB (fun o b=>!(bg o W)&& pX W b) mark st.ob is) o=none:=by
    intro is;induction is with
    |nil=>intro _;rfl|cons j is ih=>
     intro h;have h':(Nat.beq o j||bg o is)=false:=h;rw[rR] at h';unfold qB;split
     ·rename_i x hx
      cases (!(bg j W)&& pX W x)
      ·exact ih h'.2
      ·rw[cond_true,jh _ _ (Fq h'.1)];exact ih h'.2
     ·exact ih h'.2
   exact this O hk.1
  have:=h y (by show look ((base W K O mark st).ob++(unpack R s p).ob) o=some y;rw[yH,hb];exact hu);rw[hk.2] at this;cases this
def mK (E:Env)(I:IR R):Prop:=(∀g,∀i∈I.it g,E.imp g=true/\∀pa pb xs,i.F pa pb=some xs->FD E g (aF R i.a pa) (aF R i.b pb) (xs.map (aF R i.el)))/\OY E I.im/\
 ∀g,∀i∈I.io g,E.imp g=true/\∀pa pb pc xs,i.F pa pb pc=some xs->∀cs,(∃ρ top,aI R ρ top (eF R .any i.cs pc) cs)->ah1 E i.q g (aF R i.a pa) (aF R i.b pb) cs (xs.map (aF R i.el))
theorem Jd {σ:ak}{n:Nat}:∀cs:List V,cB cs=true->cs.mapM (bG (n+1) σ)=some cs:=by
 intro cs;induction cs with
 |nil=>intro _;rfl|cons a l ih=>intro h;simp only[cB,aT] at h;rw[j5,mY h.1,ih h.2];rfl
theorem ah9 {I:IR R}(hI:mK E I){g:Nat}{ρ:aV}{top:Nat->Nat}{u v:List (au R.T)}{va vb:List V}(hu:ni u=true)(hv:ni v=true)(ha:aI R ρ top u va)(hb:aI R ρ top v vb):∀{l:List (Ol R)}{el:List aC}{o:Option (List (av R.T el))},(∀i∈l,i∈I.it g)->VO u v l=some ⟨el,o⟩->
 E.imp g=true/\gP el=true/\∀xs,o=some xs->FD E g va vb (xs.map (aF R el))
 | [],el,o,_,h=>bL|i::l,el,o,hl,h=>by
  unfold VO at h;split at h
  ·rename_i pa pb hpa hpb
   obtain⟨hc,h⟩:=gH h;simp only[aT] at hc;obtain⟨⟨⟨⟨c1,c2⟩,c3⟩,c4⟩,c5⟩:=hc;cases h;obtain⟨h1,h2⟩:=hI.1 g i (hl i aD);refine⟨h1,c3,fun xs hx=>?_⟩;have e1:=qb hR i.a pa u va c1 hpa ha 19 ak.init (by have:=lN c4;omega);have e2:=qb hR i.b pb v vb c2 hpb hb 19 ak.init (by have:=lN c5;omega);rw[Jd hR va (xg hR u va hu ha)] at e1;rw[Jd hR vb (xg hR v vb hv hb)] at e2;cases e1;cases e2;exact h2 pa pb xs hx
  ·exact ah9 hI hu hv ha hb (fun x hx=>hl x zm) h
theorem aia {I:IR R}(hI:mK E I){g:Nat}{ρ:aV}{top:Nat->Nat}{u v c:List (au R.T)}{va vb vc:List V}(hu:ni u=true)(hv:ni v=true)(ha:aI R ρ top u va)(hb:aI R ρ top v vb)(hc:aI R ρ top c vc):∀{l:List (FO R)}{el:List aC}{o:Option (List (av R.T el))}{kq:Bool},(∀i∈l,i∈I.io g)->VP u v c l=some ⟨el,o,kq⟩->
 E.imp g=true/\gP el=true/\∀xs,o=some xs->ah1 E kq g va vb vc (xs.map (aF R el))
 | [],el,o,_,_,h=>bL|i::l,el,o,kq,hl,h=>by
  unfold VP at h;split at h
  ·rename_i pa pb pc hpa hpb hpc
   obtain⟨hc',h⟩:=gH h;simp only[aT] at hc';obtain⟨⟨⟨⟨⟨c1,c2⟩,c6⟩,c3⟩,c4⟩,c5⟩:=hc';cases h;obtain⟨h1,h2⟩:=hI.2.2 g i (hl i aD);refine⟨h1,c3,fun xs hx=>?_⟩;have e1:=qb hR i.a pa u va c1 hpa ha 19 ak.init (by have:=lN c4;omega);have e2:=qb hR i.b pb v vb c2 hpb hb 19 ak.init (by have:=lN c5;omega);rw[Jd hR va (xg hR u va hu ha)] at e1;rw[Jd hR vb (xg hR v vb hv hb)] at e2;cases e1;cases e2;exact h2 pa pb pc xs hx vc ⟨ρ,top,Aa hR i.cs pc _ _ hpc hc⟩
  ·exact aia hI hu hv ha hb hc (fun x hx=>hl x zm) h
def Ae (ρ:aV)(jf:Option Nat):Option Loc:=jf.map ρ.aj.lc
theorem auR {I:IR R}(hI:mK E I){ρ:aV}{b:Nat}{st:aH R.T}{fr:Fr}{σ:ak}(hi:aO ρ b st fr σ){g:Nat}{u v:List (au R.T)}{va vb:List V}(ha:aI R ρ σ.top u va)(hb:aI R ρ σ.top v vb){el:List aC}{o:Option (List (av R.T el))}{jf:Option Nat}{kq:Bool}(h:iterM st I g u v=some ⟨el,o,jf,kq⟩):
 E.imp g=true/\gP el=true/\(∀p,jf=some p->∃c,look st.ob p=some (.cells c))/\∀xs,o=some xs->∃pre:ak->Prop,(∀σ':ak,(∀loc,Ae ρ jf=some loc->∀s,σ'.bQ loc s=σ.bQ loc s)->pre σ')/\aa5 E kq g va vb (Ae ρ jf) pre (xs.map (aF R el)):=by
 unfold iterM at h;split at h
 ·rename_i p off v'
  obtain⟨hc,hm⟩:=gH h;clear h;simp only[aT] at hc;have hoff:=iK hc.2;subst hoff;split at hm
  ·rename_i c hl
   split at hm
   ·rename_i auS xs' hf
    cases hm;obtain⟨w,ws,rfl,h1,h2⟩:=hb.dS;obtain⟨s,hs,rfl⟩:=h1.uj;obtain⟨s',cs,hs',hcs,hr⟩:=hi.ob _ _ hl;rw[hs] at hs';cases hs';obtain⟨g1,g2,g3⟩:=aia hR hI hc.1.1 hc.1.2 ha h2 hr (fun _ h=>h) hf;refine⟨g1,g2,fun q hq=>(by cases hq;exact⟨c,hl⟩),fun xs hx=>⟨fun σ'=>σ'.bQ (ρ.aj.lc p) s=some cs,fun σ' h=>(h _ rfl s).trans hcs,?_⟩⟩;exact g3 xs hx (ρ.aj.lc p) s
   ·cases hm
  ·cases hm
 ·obtain⟨hc,h⟩:=gH h
  rw[aT] at hc;split at h
  ·rename_i auS xs' hf
   cases h;obtain⟨g1,g2,g3⟩:=ah9 hR hI hc.1 hc.2 ha hb (fun _ h=>h) hf;exact⟨g1,g2,fun q hq=>(by cases hq),fun xs hx=>⟨fun _=>True,fun _ _=>trivial,(g3 xs hx).G⟩⟩
  ·cases h
omit hR in
theorem aO.aib {ρ:aV}{b:Nat}{st:aH R.T}{fr:Fr}{σ σ':ak}(h:aO ρ b st fr σ)(hp:∀p x,look st.ob p=some x->σ'.obj (ρ.aj.lc p)=σ.obj (ρ.aj.lc p))(ht:∀s,s<b->σ'.top s=σ.top s):aO ρ b st fr σ':={h with
 fr:=fun i v hv=>(h.fr i v hv).top fun u s hu=>ht s (h.lt u s hu)
 ob:=fun o x hx=>O5 (hp o x hx) (fun u s hu=>ht s (h.lt u s hu)) (h.ob o x hx)}
omit hR in
theorem bF.aic {L0:Option Loc}{o:Nat}{st st':aH R.T}{ρ ρ':aV}{σ σ' kg:ak}(h:bF false o st ρ σ st' ρ' σ')(hp:∀L:Loc,L.1<=ρ.aj.dp->L0≠some L->kg.obj L=σ'.obj L)(hout:∀L:Loc,ρ.aj.out L->L0≠some L)(ho:L0≠some (ρ.aj.lc o))(hn:σ'.next<=kg.next)(hl:∀l,l<σ.next->kg.loops l=σ'.loops l)(ht:∀s,s<ρ.aj.lo->kg.top s=σ'.top s):bF false o st ρ σ st' ρ' kg:=
 ⟨h.ob,h.ln,h.aj,dJ h.nx hn,⟨fun l hl'=>(hl l hl').trans (h.lp.1 l hl'),fun s hs=>(ht s hs).trans (h.lp.2 s hs)⟩,fun L hL ho'=>(hp L (by rcases hL with e|e;cases e;exact e) (hout L ho')).trans (h.dp L hL ho'),fun hr=>⟨(h.ro hr).1,fun s=>by have:=(h.ro hr).2 s;unfold ak.bQ ak.gB at this⊢;rw[hp _ (ρ.aj.vo o) ho];exact this⟩⟩
omit hR in
theorem auT {s:Shape}{o:Nat}(hd:zY [o] s.ob=true){p:qY R.T s}:look (unpack R s p).ob o=none:=by
 cases hu:look (unpack R s p).ob o with
 |none=>rfl|some y=>
  exfalso;obtain⟨sl,ob⟩:=s;cases ob with
  |nil=>cases hu|cons a dz=>have:=(aa9 hd hu).1;unfold bg at this;rw[vS] at this;cases this
omit hR in
theorem auU {jf:Option Nat}{W:List Nat}{p:Nat}(h:bg p (Dt jf W)=false):bg p W=false/\jf≠some p:=by
 cases jf with
 |none=>exact⟨h,aD⟩|some o=>have h':(Nat.beq p o||bg p W)=false:=h;rw[rR] at h';exact⟨h'.2,fun e=>by cases e;exact Fq h'.1 rfl⟩
omit hR in
theorem auV {jf:Option Nat}{W:List Nat}{p:Nat}(h:bg p (Dt jf W)=true)(hw:bg p W=false):jf=some p:=by
 cases jf with
 |none=>rw[show Dt none W=W from rfl,hw] at h;cases h|some o=>have h':(Nat.beq p o||bg p W)=true:=h;rw[hw,Bool.or_false] at h';rw[iK h']
theorem ru {n:Nat}{aj:Bool}{F:Nat->List (fC R)}{I:IR R}(hF:aZ E F)(hI:mK E I){A:bC}:∀c:Code,sN E c=true->aa6 E aj c fun st k=>fK E R n aj F I A c st k
 |.skip=>fun hw _ st k x fr σ ρ _ h hi=>bH.skip ⟨ρ,st,hi,.refl,h⟩
 |.exit i=>fun hw _ st k x fr σ ρ _ h hi=>bH.exit ⟨ρ,st,hi,.refl,h⟩
 |.ret=>fun hw _ st k x fr σ ρ _ h hi=>bH.ret ⟨ρ,st,hi,.refl,h⟩
 |.region id ops dr=>fun hw β st k x fr σ ρ bO h hi=>by
  have h':(bif dr then (bif rZ ops.toList then oh E R aj F I.im (tH ops.toList) ops.toList ops.toList st [] (fun st=>k .normal st) else none) else yE E R aj F I.im ops.toList ops.toList st (fun st=>k .normal st))=some x:=h;have aie:∀{nr:Bool}{W:List Nat}{st':aH R.T}{fr':Fr}{σ':ak}{ρ':aV}{j:Nat},Kp nr W st fr (σ.bump j) ρ st' fr' σ' ρ'->Kp nr W st fr σ ρ st' fr' σ' ρ':=fun h=>⟨h.fr,fun o ho=>⟨(h.ob o ho).ob,(h.ob o ho).ln,(h.ob o ho).aj,dJ (gF _ _) (h.ob o ho).nx,⟨fun l hl=>(h.ob o ho).lp.1 l (gM hl (gF _ _)),(h.ob o ho).lp.2⟩,(h.ob o ho).dp,fun hr=>⟨((h.ob o ho).ro hr).1,((h.ob o ho).ro hr).2⟩⟩⟩;cases dr with
  |true=>rw[cond_true] at h';obtain⟨he,h'⟩:=gH h';refine bH.draw he (FC hR hF hI.2.1 _ σ.next ρ st fr _ [] [] DF.nil (Pj hw) bO (hi.next _) (iP _) h' ?_);intro ρ' st' fr' σ' hi' hn hkp hk;exact⟨ρ',st',hi'.le hn,aie hkp,hk⟩
  |false=>rw[cond_false] at h';refine bH.region (Dz hR hF hI.2.1 _ σ.next ρ st fr _ (Pj hw) bO (hi.next _) (iP _) h' ?_);intro ρ' st' fr' σ' hi' hn hkp hk;exact⟨ρ',st',hi'.le hn,aie hkp,hk⟩
 |.seq a b=>fun hw β st k x fr σ ρ bO h hi=>by
  have h':(match look A.joins (oW b) with
   |none=>fK E R n aj F I A a st fun e st=>match e with
    |.normal=>fK E R n aj F I A b st k|e=>k e st
   |some q=>(fK E R n aj F I A (β:=Out R.T q.outs) a ((base (bJ E a) q.K q.O .ro st).over st) fun e st=>wS R (bJ E a) e st q.outs).bind (zT R (base (bJ E a) q.K q.O (fun b=>b) st) (fun e st=>match e with
    |.normal=>fK E R n aj F I A b st k|e=>k e st) q.outs))=some x:=h
  have hw2:sN E a=true/\sN E b=true:=by have hw':((bJ E a++bJ E b).all fun d=>Nat.blt d F0)=true:=hw;rw[List.all_append,aT] at hw';exact hw'
  have hl:∀i,bg i (bJ E (.seq a b))=false->bg i (bJ E a)=false/\bg i (bJ E b)=false:=fun i hi=>by have hi':bg i (bJ E a++bJ E b)=false:=hi;rw[OM,rR] at hi';exact hi'
  have fin:∀(e:Ex)(st':aH R.T)(fr':Fr)(σ':ak)(ρ':aV),aO ρ' σ'.next st' fr' σ'->Kp (jW E a) (bJ E a) st fr σ ρ st' fr' σ' ρ'->(match e with
   |.normal=>fK E R n aj F I A b st' k|e=>k e st')=some x->kR E b (fun e fr' σ'=>∃ρ' st',aO ρ' σ'.next st' fr' σ'/\Kp (jW E (.seq a b)) (bJ E (.seq a b)) st fr σ ρ st' fr' σ' ρ'/\k e st'=some x) e fr' σ':=by
   intro e st' fr' σ' ρ' hi' hkp hk;have abb:=(hkp.mono (W':=bJ E (.seq a b)) fun i hi=>(hl i hi).1).nr (Pe:=jW E (.seq a b)) (fun e=>by simp only[jW,aT] at e;exact e.1);cases e with
   |normal=>refine(ru hF hI b hw2.2 _ st' k x fr' σ' ρ' ((congrArg cZ.aj hkp.aj).trans bO) hk hi').mono ?_;rintro e Dw kg ⟨sI,jF,h1,h2,h3⟩;exact⟨sI,jF,h1,abb.trans ((h2.mono fun i hi=>(hl i hi).2).nr (fun e=>by simp only[jW,aT] at e;exact e.2)),h3⟩
   |exit i=>exact⟨ρ',st',hi',abb,hk⟩|ret=>exact⟨ρ',st',hi',abb,hk⟩
  split at h'
  ·refine bH.seq ((ru hF hI a hw2.1 _ st _ x fr σ ρ bO h' hi).mono ?_)
   rintro e fr' σ' ⟨ρ',st',hi',hkp,hk⟩;exact fin e st' fr' σ' ρ' hi' hkp hk
  ·rename_i q _
   obtain⟨o,ho,h'⟩:=iR.1 h';have hro:∀o x,look st.ob o=some x->bg o (bJ E a)=false->bg o q.O=true->pX (bJ E a) x=true->jr ((base (bJ E a) q.K q.O .ro st).over st) o:=fun o x h1 h2 h3 h4=>aat h1 h2 h3 h4;have hH:∀o,bg o (bJ E a)=false->jr st o->jr ((base (bJ E a) q.K q.O .ro st).over st) o:=fun o _ h=>OO (agL (fun _ _=>rfl) h) h;have hbase:aO ρ σ.next (base (bJ E a) q.K q.O .ro st) fr σ:=hi.base (st0:=(base (bJ E a) q.K q.O .ro st).over st) aa7 (Kp.refl (nr:=false)) hi hro;refine bH.seq ((ru hF hI a hw2.1 _ _ _ o fr σ ρ bO ho (hbase.over hi)).mono ?_);rintro e fr' σ' ⟨ρ',st',hi',hkp,hk⟩;obtain⟨uo,S2,jF,h1,g1,_,h3,h2⟩:=IZ (β:=β) hR hi' hk;rw[h2] at h';obtain⟨f1,f2⟩:=finish (K:=q.K) hi hH hro (hkp.trans g1) h1 fun o ho hr=>h3 o ho ((hkp.ob o ho).ro hr).1;exact fin e _ fr' σ' uo f1 f2 h'
 |.cond c a b=>fun hw β st k x fr σ ρ bO h hi=>by
  have h':(match dF [] st c with
   |some (.jA t)=>bif t then fK E R n aj F I A a st k else fK E R n aj F I A b st k|some (.bool t)=>bif t then fK E R n aj F I A a (st.Ic c true) k else fK E R n aj F I A b (st.Ic c false) k|_=>none)=some x:=h
  have hw2:sN E a=true/\sN E b=true:=by have hw':((bJ E a++bJ E b).all fun d=>Nat.blt d F0)=true:=hw;rw[List.all_append,aT] at hw';exact hw'
  have hl:∀i,bg i (bJ E (.cond c a b))=false->bg i (bJ E a)=false/\bg i (bJ E b)=false:=fun i hi=>by have hi':bg i (bJ E a++bJ E b)=false:=hi;rw[OM,rR] at hi';exact hi'
  have ha:∀st':aH R.T,st'.ob=st.ob->aO ρ σ.next st' fr σ->fK E R n aj F I A a st' k=some x->bH E a fr σ fun e fr' σ'=>∃ρ' st',aO ρ' σ'.next st' fr' σ'/\Kp (jW E (.cond c a b)) (bJ E (.cond c a b)) st fr σ ρ st' fr' σ' ρ'/\k e st'=some x:=fun st' hs hi' hk=>by refine(ru hF hI a hw2.1 _ st' k x fr σ ρ bO hk hi').mono ?_;rintro e Dw kg ⟨sI,jF,h1,h2,h3⟩;exact⟨sI,jF,h1,((⟨h2.fr,fun o ho=>(h2.ob o ho).from hs⟩:Kp (jW E a) (bJ E a) st fr σ ρ jF Dw kg sI).mono fun i hi=>(hl i hi).1).nr (fun e=>by simp only[jW,aT] at e;exact e.1),h3⟩
  have hb:∀st':aH R.T,st'.ob=st.ob->aO ρ σ.next st' fr σ->fK E R n aj F I A b st' k=some x->bH E b fr σ fun e fr' σ'=>∃ρ' st',aO ρ' σ'.next st' fr' σ'/\Kp (jW E (.cond c a b)) (bJ E (.cond c a b)) st fr σ ρ st' fr' σ' ρ'/\k e st'=some x:=fun st' hs hi' hk=>by refine(ru hF hI b hw2.2 _ st' k x fr σ ρ bO hk hi').mono ?_;rintro e Dw kg ⟨sI,jF,h1,h2,h3⟩;exact⟨sI,jF,h1,((⟨h2.fr,fun o ho=>(h2.ob o ho).from hs⟩:Kp (jW E b) (bJ E b) st fr σ ρ jF Dw kg sI).mono fun i hi=>(hl i hi).2).nr (fun e=>by simp only[jW,aT] at e;exact e.2),h3⟩
  split at h'
  ·rename_i t hc
   refine bH.cond (dw (E:=E) hi .nil hc).vv (fun e=>?_) (fun e=>?_)
   ·subst e;exact ha st rfl hi h'
   ·subst e;exact hb st rfl hi h'
  ·rename_i t hc
   have hl:aO ρ σ.next (st.Ic c t) fr σ/\(st.Ic c t).ob=st.ob:=by
    cases c with
    |tmp j=>exact⟨hi.learn (show aB R ρ σ.top (.bool t) (fr.tm j) from hi.fr _ _ (auw hc)).q9,rfl⟩|_=>exact⟨hi,rfl⟩
   refine bH.cond (dw (E:=E) hi .nil hc).q9 (fun e=>?_) (fun e=>?_)
   ·subst e;exact ha _ hl.2 hl.1 h'
   ·subst e;exact hb _ hl.2 hl.1 h'
  ·cases h'
 |.block id c=>fun hw β st k x fr σ ρ bO h hi=>by
  have h':(fK E R n aj F I A c st fun e st=>match e with
   |.exit i=>bif Nat.beq i id then k .normal st else k (.exit i) st|e=>k e st)=some x:=h
  refine bH.block ((ru hF hI c hw _ st _ x fr σ ρ bO h' hi).mono ?_);rintro e fr' σ' ⟨ρ',st',hi',hkp,hk⟩;cases e with
  |normal=>exact⟨ρ',st',hi',hkp,hk⟩|ret=>exact⟨ρ',st',hi',hkp,hk⟩|exit i=>
   dsimp only at hk;unfold tT;dsimp only;cases hb:Nat.beq i id
   ·rw[hb] at hk
    rw[if_neg (Fq hb)];exact⟨ρ',st',hi',hkp,hk⟩
   ·rw[hb] at hk
    rw[if_pos (iK hb)];exact⟨ρ',st',hi',hkp,hk⟩
 |.loop c=>fun hw β st k x fr σ ρ bO h hi=>by
  have h':(match look A.loops (oW c) with
   |some q=>match nP R (bJ E c) st q.sh with
    |some p=>(yF (oW c) (bJ E c) (base (bJ E c) q.K q.O .ro st) q.sh q.outs (fun st k=>fK E R n aj F I A c st k) n p).bind (zT R (base (bJ E c) q.K q.O (fun b=>b) st) k q.outs)
    |none=>none
   |none=>OE (R:=R) (fun st k=>fK E R n aj F I A c st k) 130 st k)=some x:=h
  split at h'
  ·rename_i q _
   split at h'
   ·rename_i p hp
    obtain⟨o,ho,h'⟩:=iR.1 h';obtain⟨jl,S1,p1,p2,_,p3⟩:=hi.nP (nr:=jW E c) hR hp;have hro:∀o x,look st.ob o=some x->bg o (bJ E c)=false->bg o q.O=true->pX (bJ E c) x=true->jr ((base (bJ E c) q.K q.O .ro st).over (unpack R q.sh p)) o:=fun o x h1 h2 h3 h4=>aat h1 h2 h3 h4;have hH:∀o,bg o (bJ E c)=false->jr st o->jr ((base (bJ E c) q.K q.O .ro st).over (unpack R q.sh p)) o:=fun o ho h=>agK (p3 o ho h);have hB:∀(st' S':aH R.T)(fr':Fr)(σ':ak)(ρ':aV)(b':Nat),aO ρ' b' st' fr' σ'->Kp (jW E c) (bJ E c) ((base (bJ E c) q.K q.O .ro st).over (unpack R q.sh p)) fr σ ρ S' fr' σ' ρ'->aO ρ' b' (base (bJ E c) q.K q.O .ro st) fr' σ':=
     fun st' S' fr' σ' ρ' b' h1 h2=>hi.base aa7 h2 h1 hro
    have hk0:Kp (jW E c) (bJ E c) ((base (bJ E c) q.K q.O .ro st).over (unpack R q.sh p)) fr σ ρ ((base (bJ E c) q.K q.O .ro st).over (unpack R q.sh p)) fr σ jl:=⟨fun _ _=>rfl,fun q hq=>⟨(p2.ob q hq).ob,(p2.ob q hq).ln,(p2.ob q hq).aj,iP _,⟨fun _ _=>rfl,fun _ _=>rfl⟩,fun _ _ _=>rfl,fun hr=>⟨hr,fun _=>⟨rfl,rfl⟩⟩⟩⟩;refine(ah2 (β:=β) hR (ru hF hI c hw) bO hB (fun o=>fun y hy=>by obtain⟨z,_,_,rfl⟩:=BF hy;rfl) n p o fr σ jl ho p1 hk0).mono ?_;rintro e fr' σ' ⟨ρ',S',st',hi',hkp,hn,hk⟩;obtain⟨f1,f2⟩:=finish (K:=q.K) hi hH hro hkp hi' hn;exact⟨ρ',_,f1,f2,by rw[<-hk k];exact h'⟩
   ·cases h'
  ·exact ah3 (ru hF hI c hw) 130 st k x fr σ ρ bO h' hi
 |.rangeFunc f ps a c=>fun hw β st k x fr σ ρ bO h hi=>by
  have h':(match look A.loops (oW c) with
  |some q=>match dF [] st f with
   |some (.fn g u v)=>bif zY q.O q.sh.ob then (match iterM st I g u v with
    |some ⟨el,xs,jf,kq⟩=>bif agd jf (ps.toList++bJ E a++bJ E c) q.sh.ob&& (bif kq then jW E a&& jW E c else true) then (match nP R (ps.toList++bJ E a++bJ E c) st.obs q.sh with
     |some p=>(xs.bind fun xs=>Fg (oW c) (ps.toList++bJ E a++bJ E c) (base (Dt jf (ps.toList++bJ E a++bJ E c)) q.K q.O .ro st) q.sh q.outs (fun x st k=>match Fh st ps.toList (eF R .sh el x) with
       |some st=>fK E R n aj F I A a st fun e st=>match e with
        |.normal=>fK E R n aj F I A c st k|_=>none
       |none=>none) xs p).bind (zT R (base (Dt jf (ps.toList++bJ E a++bJ E c)) q.K q.O (fun b=>b) st) k q.outs)
     |none=>none) else none
    |none=>none) else none
   |_=>none
  |none=>none)=some x:=h
  split at h'
  ·rename_i q _
   split at h'
   ·rename_i g u v hf
    obtain⟨hst,h'⟩:=gH h';have hdj:=hst;split at h'
    ·rename_i el xs jf kq hfi
     obtain⟨aif,h'⟩:=gH h';rw[aT] at aif;obtain⟨hok,hquiet⟩:=aif;split at h'
     ·rename_i p hp
      obtain⟨o,ho,h'⟩:=iR.1 h';obtain⟨ys,hys,ho⟩:=iR.1 ho;obtain⟨va,vb,NW,hva,hvb⟩:=(dw (E:=E) hi .nil hf).lG;obtain⟨himp,hel,hcell,hit⟩:=auR hR hI hi hva hvb hfi;obtain⟨pre,hpre,hit⟩:=hit ys hys;obtain⟨jl,S1,p1,p2,p0,p3⟩:=hi.obs.nP (nr:=false) hR hp;have hw3:sN E a=true/\sN E c=true:=(by have hw':((ps.toList++bJ E a++bJ E c).all fun d=>Nat.blt d F0)=true:=hw;rw[List.all_append,List.all_append,aT,aT] at hw';exact⟨hw'.1.2,hw'.2⟩);clear hw;generalize hW:ps.toList++bJ E a++bJ E c=W at*;have hl:∀i,bg i W=false->bg i ps.toList=false/\bg i (bJ E a)=false/\bg i (bJ E c)=false:=fun i hi=>by rw[<-hW,OM,OM,rR,rR] at hi;exact⟨hi.1.1,hi.1.2,hi.2⟩
      have Pk:∀p,jf=some p->bg p W=false/\∀p':qY R.T q.sh,look (unpack R q.sh p').ob p=none:=(by rintro p rfl;have hok':(!(bg p W)&& zY [p] q.sh.ob)=true:=hok;rw[aT,pE] at hok';exact⟨hok'.1,fun p'=>auT hok'.2⟩);have hne:∀p,jf≠some p->Ae ρ jf≠some (ρ.aj.lc p):=fun p hp e=>by obtain⟨p',h1,h2⟩:=bf.1 e;rw[ρ.aj.OG h2] at h1;exact hp h1
      have hout:∀L:Loc,ρ.aj.out L->Ae ρ jf≠some L:=fun L hL e=>by obtain⟨p',h1,h2⟩:=bf.1 e;exact hL p' h2.symm
      generalize aii:Dt jf W=Wb at*;have hsub:∀p,bg p Wb=false->bg p W=false/\jf≠some p:=fun p hp=>auU (by rw[aii];exact hp);have hro:∀o x,look st.ob o=some x->bg o Wb=false->bg o q.O=true->pX Wb x=true->jr ((base Wb q.K q.O .ro st).over (unpack R q.sh p)) o:=fun o x h1 h2 h3 h4=>aat h1 h2 h3 h4;have hH:∀o,bg o Wb=false->jr st o->jr ((base Wb q.K q.O .ro st).over (unpack R q.sh p)) o:=fun o ho h=>agK (p3 o (hsub o ho).1 h);generalize auW:(base Wb q.K q.O .ro st).over (unpack R q.sh p)=H at*;have hB:∀(st' S':aH R.T)(σ':ak)(ρ':aV)(b':Nat),aO ρ' b' st' fr σ'->Kp false Wb H fr σ ρ S' fr σ' ρ'->aO ρ' b' (base Wb q.K q.O .ro st) fr σ':=
       fun st' S' σ' ρ' b' h1 h2=>hi.base aa7 h2 h1 hro
      have aij:∀o,jr (base Wb q.K q.O .ro st) o:=fun o=>fun y hy=>by obtain⟨z,_,_,rfl⟩:=BF hy;rfl
      let r0:qP:={st:=0,pend:=none,fr:=fr,ps:=ps.toList,fO:=a,body:=c}
      let body:{β:Type}->av R.T el->aH R.T->(Ex->aH R.T->Option β)->Option β:=fun x st k=>match Fh st ps.toList (eF R .sh el x) with
          |some st=>fK E R n aj F I A a st fun e st=>match e with
           |.normal=>fK E R n aj F I A c st k|_=>none
          |none=>none
      let abd:aV->Prop:=fun ρ'=>∀p,bg p W=false->ρ'.ob p=ρ.ob p/\ρ'.ln p=ρ.ln p
      let J:List (List V)->ak->Prop:=fun L σ'=>∃(zs:List (av R.T el)) (p':qY R.T q.sh) (ρ':aV),L=zs.map (aF R el)/\Fg (oW c) W (base Wb q.K q.O .ro st) q.sh q.outs body zs p'=some o/\aO ρ' σ'.next (unpack R q.sh p') fr σ'/\(unpack R q.sh p').fr=[]/\
       Kp false Wb H fr σ ρ ((base Wb q.K q.O .ro st).over (unpack R q.sh p')) fr σ' ρ'/\σ'.loops σ.next=some r0/\abd ρ'
      let Fin:Ex->ak->Prop:=fun e σ'=>∃(ρ':aV) (S' st':aH R.T),aO ρ' σ'.next st' fr σ'/\Kp false Wb H fr σ ρ S' fr σ' ρ'/\(∀o,bg o Wb=false->jr H o->look st'.ob o=none)/\(∀(k:Ex->aH R.T->Option β)(bs:aH R.T),zT R bs k q.outs o=k e (bs.over st'))/\abd ρ'/\∀p,jf=some p->look st'.ob p=none
      let D:ak->Prop:=fun σ'=>∃e,Fin e σ'/\σ'.loops σ.next=some {r0 with st:=2,pend:=some e}
      have auX:∀L σ1 σ2,σ.next<σ1.next->J L σ1->BL ρ.aj.dp (Ae ρ jf) σ1 σ2->J L σ2:=(by rintro L σ1 σ2 hlt ⟨zs,p',ρ',e1,e2,e3,e4,e5,e6,e7⟩ hs;exact⟨zs,p',ρ',e1,e2,(e3.aib (fun p x hx=>hs.obj _ (ah6 e5.aj p) (by rw[e5.aj];exact hne p fun e=>by rw[(Pk p e).2 p'] at hx;cases hx)) hs.top).le hs.next,e4,⟨e5.fr,fun o ho=>(e5.ob o ho).aic (fun L hL hn=>hs.obj L hL hn) hout (hne o (hsub o ho).2) hs.next (fun l hl=>hs.loops l ah) (fun s hs'=>hs.top s (by have:=hi.nx;omega))⟩,(hs.loops _ hlt).trans e6,e7⟩);have auY:∀σ1 σ2,σ.next<σ1.next->D σ1->BL ρ.aj.dp (Ae ρ jf) σ1 σ2->D σ2:=(by rintro σ1 σ2 hlt ⟨e,⟨ρ',S',st',e1,e2,e3,e4,e7,e8⟩,e5⟩ hs;exact⟨e,⟨ρ',S',st',(e1.aib (fun p x hx=>hs.obj _ (ah6 e2.aj p) (by rw[e2.aj];exact hne p fun e=>by rw[e8 p e] at hx;cases hx)) hs.top).le hs.next,⟨e2.fr,fun o ho=>(e2.ob o ho).aic (fun L hL hn=>hs.obj L hL hn) hout (hne o (hsub o ho).2) hs.next (fun l hl=>hs.loops l ah) (fun s hs'=>hs.top s (by have:=hi.nx;omega))⟩,e3,e4,e7,e8⟩,(hs.loops _ hlt).trans e5⟩);have fin:∀(σ2:ak)(r:qP)(e:Ex),Fin e σ2->∃ρ' st',aO ρ' (σ2.pG σ.next).next st' fr (σ2.pG σ.next)/\Kp false (bJ E (.rangeFunc f ps a c)) st fr σ ρ st' fr (σ2.pG σ.next) ρ'/\k e st'=some x:=by
       rintro σ2 r e ⟨ρ',S',st',e1,e2,e3,e4,e7,e8⟩;have auZ:aO ρ' σ2.next st' fr (σ2.pG σ.next):=e1.shift (fun _=>rfl) (fun _ _=>rfl);have e2':Kp false Wb H fr σ ρ S' fr (σ2.pG σ.next) ρ':=⟨e2.fr,fun o ho=>(e2.ob o ho).shift (fun _ _=>rfl) (iP _) (fun l hl=>by show upd σ2.loops σ.next none l=_;unfold upd;rw[if_neg ah]) (fun _ _=>rfl)⟩;obtain⟨f1,f2⟩:=finish (K:=q.K) hi hH hro e2' auZ e3;refine⟨ρ',_,f1,?_,by rw[<-e4 k];exact h'⟩;show Kp false (ps.toList++bJ E a++bJ E c) _ _ _ _ _ _ _ _;rw[hW];refine⟨fun _ _=>rfl,fun p hp=>?_⟩;cases hb:bg p Wb with
       |false=>exact f2.ob p hb|true=>obtain⟨cc,hc⟩:=hcell p (auV (by rw[aii];exact hb) hp);obtain⟨nb,hnb⟩:=BG Wb;have g:=f2.ob nb (hnb nb (iP _));exact⟨(e7 p hp).1,(e7 p hp).2,g.aj,g.nx,g.lp,g.dp,fun hr=>by have:=hr _ hc;cases this⟩
      refine bH.range NW himp ?_;rw[hi.d];have hent:(σ.enter fr ps a c).next=σ.next+1:=rfl;obtain⟨m,w,σ2,hm,hnx,au0⟩:=hit ρ.aj.dp σ.next (σ.enter fr ps a c) J D (fun loc hl=>by obtain⟨p',_,rfl⟩:=bf.1 hl;exact ρ.aj.vo p') auX auY (by
       rintro y L σ1 hlt ⟨zs,p',ρ',e1,e2,e3,e4,e5,e6,e7⟩;cases zs with
       |nil=>cases e1|cons z zs=>
        simp only[fQ,qO] at e1;obtain⟨rfl,rfl⟩:=e1;have hbase:=hB _ _ _ _ _ e3 e5;have e2':body z ((base Wb q.K q.O .ro st).over (unpack R q.sh p')) (aa8 (oW c) W (base Wb q.K q.O .ro st) q.sh q.outs body zs)=some o:=e2;show∃c' σ',Ad E σ.next (aF R el z) σ1 c' σ'/\_;generalize hkk:aa8 (oW c) W (base Wb q.K q.O .ro st) q.sh q.outs body zs=kk at e2';dsimp only[body] at e2';split at e2'
        ·rename_i st1 Db
         obtain⟨hlen,i1,i2⟩:=ah7 Db (xk hR el z hel) (hbase.over e3);have OX:ρ'.aj.aj=aj:=(congrArg cZ.aj e5.aj).trans bO;obtain⟨m1,x1,bM,σ2,q1,uo,st2,q2,q3,q4⟩:=ru hF hI a hw3.1 _ _ _ _ _ _ ρ' OX e2' i1;cases x1 with
         |exit i=>cases q4|ret=>cases q4|normal=>
          dsimp only at q4;obtain⟨nb,hnb⟩:=BG (bJ E a);have lp2:σ2.loops σ.next=some r0:=((q3.ob nb (hnb nb (iP _))).lp.1 _ hlt).trans e6;have aik:=(q3.ob nb (hnb nb (iP _))).nx;have q2':aO uo σ2.next st2 bM (σ2.jd σ.next {r0 with st:=1}):=q2.shift (fun _=>rfl) (fun _ _=>rfl);obtain⟨m2,x2,fI,σ3,t1,uz,mV,t2,t3,t4⟩:=ru hF hI c hw3.2 _ _ _ _ bM (σ2.jd σ.next {r0 with st:=1}) uo ((congrArg cZ.aj q3.aj).trans OX) q4 q2';obtain⟨nc,hnb'⟩:=BG (bJ E c);have au1:σ3.loops σ.next=some {r0 with st:=1}:=((t3.ob nc (hnb' nc (iP _))).lp.1 _ (show σ.next<σ2.next by omega)).trans (by show upd σ2.loops σ.next _ σ.next=_;unfold upd;rw[if_pos rfl]);have abe:σ2.next<=σ3.next:=(t3.ob nc (hnb' nc (iP _))).nx;have keep:∀p,bg p Wb=false->bF false p H ρ σ mV uz σ3:=fun p hpb=>by
           have hp:=(hsub p hpb).1;have k1:=e5.ob p hpb;have k2:bF false p ((base Wb q.K q.O .ro st).over (unpack R q.sh p')) ρ' σ1 st2 uo σ2:=(q3.ob p (hl p hp).2.1).weak.from i2;have k3:=(t3.ob p (hl p hp).2.2).weak;have k12:=k1.trans k2;refine⟨k3.ob.trans k12.ob,k3.ln.trans k12.ln,k3.aj.trans k12.aj,dJ k12.nx abe,⟨fun l hl=>?_,fun s hs=>(k3.lp.2 s (by rw[k12.aj];exact hs)).trans (k12.lp.2 s hs)⟩,fun L hn hL=>(k3.dp L (by rw[k12.aj];exact hn) (by rw[k12.aj];exact hL)).trans (k12.dp L hn hL),fun hr=>?_⟩
           ·refine(k3.lp.1 l (show l<σ2.next by have:=k12.nx;omega)).trans (Eq.trans ?_ (k12.lp.1 l hl))
            show upd σ2.loops σ.next _ l=_;unfold upd;rw[if_neg ah]
           ·have r1:=k12.ro hr
            have r2:=k3.ro r1.1;rw[k12.aj] at r2;exact⟨r2.1,fun s=>⟨(r2.2 s).1.trans (r1.2 s).1,(r2.2 s).2.trans (r1.2 s).2⟩⟩
          have fd:∀(r':qP),aO uz σ3.next mV.obs fI (σ3.jd σ.next r'):=fun r'=>t2.obs.shift (fun _=>rfl) (fun _ _=>rfl);have keep':∀(r':qP),∀p,bg p Wb=false->bF false p H ρ σ mV.obs uz (σ3.jd σ.next r'):=fun r' p hp=>((keep p hp).congr (jF:=mV.obs) rfl).shift (kg:=σ3.jd σ.next r') (fun _ _=>rfl) (iP _) (fun l hl=>by show upd σ3.loops σ.next _ l=_;unfold upd;rw[if_neg ah]) (fun _ _=>rfl);have ail:∀(r':qP),(σ3.jd σ.next r').loops σ.next=some r':=fun r'=>by show upd σ3.loops σ.next _ σ.next=_;unfold upd;rw[if_pos rfl]
          have deep:∀(r':qP),kq=true->∀a o,ρ.aj.dp<a->(σ3.jd σ.next r').obj (a,o)=σ1.obj (a,o):=fun r' hkq a o ha=>by
           subst hkq;rw[cond_true,aT] at hquiet;obtain⟨hna,hnc⟩:=hquiet;exact
           ((t3.ob nc (hnb' nc (iP _))).dp (a,o) (.inl hnc) (cZ.agI _ (by rw[q3.aj,e5.aj];exact ha))).trans ((q3.ob nb (hnb nb (iP _))).dp (a,o) (.inl hna) (cZ.agI _ (by rw[e5.aj];exact ha)))
          have loops:∀(r':qP) s,s<σ1.next->(σ3.jd σ.next r').loops s=σ1.loops s\/s=σ.next:=fun r' s hs=>by
           by_cases es:s=σ.next
           ·exact .inr es
           ·left
            have u1:(σ3.jd σ.next r').loops s=σ3.loops s:=(by show upd σ3.loops σ.next _ s=_;unfold upd;rw[if_neg es]);have u2:(σ2.jd σ.next {r0 with st:=1}).loops s=σ2.loops s:=(by show upd σ2.loops σ.next _ s=_;unfold upd;rw[if_neg es]);exact u1.trans (((t3.ob nc (hnb' nc (iP _))).lp.1 s (show s<σ2.next by omega)).trans (u2.trans ((q3.ob nb (hnb nb (iP _))).lp.1 s hs)))
          have keepR:abd uz:=fun p hp=>⟨((t3.ob p (hl p hp).2.2).ob.trans (q3.ob p (hl p hp).2.1).ob).trans (e7 p hp).1,((t3.ob p (hl p hp).2.2).ln.trans (q3.ob p (hl p hp).2.1).ln).trans (e7 p hp).2⟩;have ain:∀p,jf=some p->jr mV p/\∀s,σ3.bQ (ρ.aj.lc p) s=σ1.bQ (ρ.aj.lc p) s:=fun p hp=>by
           obtain⟨aio,hpn⟩:=Pk p hp;have au2:jr st1 p:=fun y hy=>by rw[i2] at hy;exact OO (aij p) (fun y hy=>by rw[hpn p'] at hy;cases hy) y hy
           have r1:=(q3.ob p (hl p aio).2.1).ro au2;have r2:=(t3.ob p (hl p aio).2.2).ro r1.1;refine⟨r2.1,fun s=>?_⟩;have a1:=(r1.2 s).1;have a2:=(r2.2 s).1;rw[e5.aj] at a1;rw[q3.aj,e5.aj] at a2;exact a2.trans a1
          have own:∀(r':qP) loc,Ae ρ jf=some loc->∀s,(σ3.jd σ.next r').bQ loc s=σ1.bQ loc s:=fun r' loc hl s=>by obtain⟨p',h1,rfl⟩:=bf.1 hl;exact(ain p' h1).2 s
          have aip:∀(bb:Bool)(σ':ak),ah4 r0 σ.next σ3 x2 bb σ'->Ad E σ.next (aF R el z) σ1 bb σ':=fun bb σ' hbb=>
           Ad.of e6 rfl hlen ⟨m1,.normal,bM,σ2,q1,rfl,r0,lp2,rfl,m2,x2,fI,σ3,t1,_,au1,rfl,by cases x2<;>exact hbb⟩
          have stop:∀e,ah4 r0 σ.next σ3 x2 false (σ3.jd σ.next {r0 with st:=2,pend:=some e})->wS R W e mV.obs q.outs=some o->∃c' σ',Ad E σ.next (aF R el z) σ1 c' σ'/\σ1.next<=σ'.next/\(kq=true->∀a o,ρ.aj.dp<a->σ'.obj (a,o)=σ1.obj (a,o))/\(∀loc,Ae ρ jf=some loc->∀s,σ'.bQ loc s=σ1.bQ loc s)/\(∀s,s<σ1.next->σ'.loops s=σ1.loops s\/s=σ.next)/\(c'=true->J (zs.map (aF R el)) σ')/\(c'=false->D σ'):=(by intro e he hpk;obtain⟨FE,S4,pQ,g1,g2,g3,g4,g5⟩:=IZ (nr:=false) (β:=β) hR (fd {r0 with st:=2,pend:=some e}) hpk;have Pm:FE.aj=ρ.aj:=(by obtain⟨nw,hnw⟩:=BG Wb;exact g2.aj.trans (keep nw (hnw nw (iP _))).aj);refine⟨false,σ3.jd σ.next {r0 with st:=2,pend:=some e},aip _ _ he,dJ aik abe,deep _,own _,loops _,(fun h=>bL),fun _=>⟨e,⟨FE,S4,pQ,g1.ah5 (g3 rfl) (by rw[Pm];exact hi.d) (by rw[Pm];exact hi.aj),⟨fun _ _=>rfl,fun p hp=>(keep' _ p hp).trans (g2.ob p (hsub p hp).1)⟩,fun p hp hr=>g4 p (hsub p hp).1 ((keep p hp).ro hr).1,g5,fun p hp=>⟨(g2.ob p hp).ob.trans (keepR p hp).1,(g2.ob p hp).ln.trans (keepR p hp).2⟩,fun p hp=>g4 p (Pk p hp).1 (ain p hp).1⟩,ail _⟩⟩);cases x2 with
          |normal=>
           rw[<-hkk] at t4;unfold aa8 at t4;dsimp only at t4;split at t4
           ·rename_i p4 au3
            obtain⟨FE,S4,g1,g2,g3,g4⟩:=(fd {r0 with st:=0,pend:=none}).nP (nr:=false) hR au3;have Pm:FE.aj=ρ.aj:=(by obtain⟨nw,hnw⟩:=BG Wb;exact g2.aj.trans (keep nw (hnw nw (iP _))).aj);refine⟨true,σ3.jd σ.next {r0 with st:=0,pend:=none},aip _ _ ⟨rfl,rfl⟩,dJ aik abe,deep _,own _,loops _,fun _=>⟨zs,p4,FE,rfl,t4,g1.ah5 (g3 rfl) (by rw[Pm];exact hi.d) (by rw[Pm];exact hi.aj),g3 rfl,⟨fun _ _=>rfl,fun p hp=>?_⟩,ail _,fun p hp=>⟨(g2.ob p hp).ob.trans (keepR p hp).1,(g2.ob p hp).ln.trans (keepR p hp).2⟩⟩,fun h=>bL⟩
            ·have kk:=(keep' {r0 with st:=0,pend:=none} p hp).trans (g2.ob p (hsub p hp).1)
             exact⟨kk.ob,kk.ln,kk.aj,kk.nx,kk.lp,kk.dp,fun hr=>⟨OO (aij p) fun y hy=>(by rw[g4 p (hsub p hp).1 ((keep p hp).ro hr).1] at hy;cases hy),(kk.ro hr).2⟩⟩
           ·cases t4
          |exit i=>rw[<-hkk] at t4;exact stop (.exit i) ⟨rfl,rfl⟩ t4|ret=>rw[<-hkk] at t4;exact stop .ret ⟨rfl,rfl⟩ t4
        ·cases e2') (Cz _) (hpre _ fun _ _ _=>rfl) (by
       refine⟨ys,p,jl,rfl,ho,(p1.shift (σ':=σ.enter fr ps a c) (fun _=>rfl) (fun _ _=>rfl)).le (j4 _),p0 rfl,⟨fun _ _=>rfl,fun o gU=>?_⟩,?_,fun p hp=>⟨(p2.ob p hp).ob,(p2.ob p hp).ln⟩⟩
       ·have ho:=(hsub o gU).1
        rw[auW];exact⟨(p2.ob o ho).ob,(p2.ob o ho).ln,(p2.ob o ho).aj,j4 _,⟨fun l hl=>(by show upd σ.loops σ.next _ l=_;unfold upd;rw[if_neg ah]),fun _ _=>rfl⟩,fun _ _ _=>rfl,fun hr=>⟨hr,fun _=>⟨rfl,rfl⟩⟩⟩
       ·show upd σ.loops σ.next _ σ.next=_;unfold upd;rw[if_pos rfl])
      refine⟨m,w,σ2,hm,?_⟩;rcases au0 with ⟨zs,p',ρ',e1,e2,e3,e4,e5,e6,e7⟩| ⟨e,hfin,e6⟩
      ·cases zs with
       |cons z zs=>cases e1|nil=>
        have e2':wS R W .normal (unpack R q.sh p').obs q.outs=some o:=e2;obtain⟨FE,S4,pQ,g1,g2,g3,g4,g5⟩:=IZ (nr:=false) (β:=β) hR e3.obs e2';have hno:∀p,bg p Wb=false->jr H p->look (unpack R q.sh p').ob p=none:=fun p hp hr=>auQ hdj ((e5.ob p hp).ro hr).1;have Wv:∀p,bg p Wb=false->jr H p->jr (unpack R q.sh p').obs p:=fun p hp hr y hy=>by have:look (unpack R q.sh p').ob p=some y:=hy;rw[hno p hp hr] at this;cases this
        exact⟨_,e6,(by show (0:Nat)≠1;omega),fin σ2 r0 .normal ⟨FE,S4,pQ,g1,⟨fun _ _=>rfl,fun p hp=>by
         have a1:=e5.ob p hp;have a2:=g2.ob p (hsub p hp).1;have Ww:=a2.ro;rw[a1.aj] at Ww;exact⟨a2.ob.trans a1.ob,a2.ln.trans a1.ln,a2.aj.trans a1.aj,dJ a1.nx a2.nx,⟨fun l hl=>(a2.lp.1 l (gM hl a1.nx)).trans (a1.lp.1 l hl),fun s hs=>(a2.lp.2 s (by rw[a1.aj];exact hs)).trans (a1.lp.2 s hs)⟩,fun L hn hL=>(a2.dp L (by rw[a1.aj];exact hn) (by rw[a1.aj];exact hL)).trans (a1.dp L hn hL),fun hr=>⟨(Ww (Wv p hp hr)).1,fun s=>⟨((Ww (Wv p hp hr)).2 s).1.trans ((a1.ro hr).2 s).1,((Ww (Wv p hp hr)).2 s).2.trans ((a1.ro hr).2 s).2⟩⟩⟩⟩,fun p hp hr=>g4 p (hsub p hp).1 (Wv p hp hr),g5,fun p hp=>⟨(g2.ob p hp).ob.trans (e7 p hp).1,(g2.ob p hp).ln.trans (e7 p hp).2⟩,fun p hp=>g4 p (Pk p hp).1 fun y hy=>by
         have hy':look (unpack R q.sh p').ob p=some y:=hy;rw[(Pk p hp).2 p'] at hy';cases hy'⟩⟩
      ·exact⟨_,e6,(by show (2:Nat)≠1;omega),fin σ2 r0 e hfin⟩
     ·cases h'
    ·cases h'
   ·cases h'
  ·cases h'
 |.scope c=>fun hw β st k x fr σ ρ bO h hi=>bH.scope (ru hF hI c hw _ st k x fr σ ρ bO h hi)
 |.label _=>fun hw _ st k x fr σ ρ _ h hi=>bH.label ⟨ρ,st,hi,.refl,h⟩
 |.goto _=>fun hw _ st k x fr σ ρ _ h hi=>bL
 |.refuse _=>fun hw _ st k x fr σ ρ _ h hi=>bL
omit hR in
theorem FH {ρ:aV}{b:Nat}{st:aH R.T}{fr:Fr}{σ:ak}(hi:aO ρ b st fr σ):∀{rs:List ResultVar}{fJ:List (au R.T)},sG E R st rs=some fJ->∃vs,rs.mapM (lu E fr σ)=some vs/\aI R ρ σ.top fJ vs
 | [],fJ,h=>by cases h;exact⟨[],rfl,rfl⟩|.tmp t::l,fJ,h=>by
  unfold sG at h;split at h
  ·rename_i v hv
   split at h
   ·rename_i vs hvs
    cases h;obtain⟨ws,h1,h2⟩:=FH hi hvs;have:=dw (E:=E) hi .nil hv;exact⟨fr.tm t::ws,by rw[j5];simp[lu,h1],.cons' this h2⟩
   ·cases h
  ·cases h
 |.cell a t::l,fJ,h=>by
  unfold sG at h;split at h
  ·rename_i o off hv
   split at h
   ·rename_i cs hl
    split at h
    ·rename_i v hld
     split at h
     ·rename_i vs hvs
      cases h;obtain⟨ws,h1,h2⟩:=FH hi hvs;obtain⟨s,h3,h4⟩:=(dw (E:=E) hi .nil hv).uj;rw[Od] at h4;obtain⟨s',l',h5,h6,h7⟩:=hi.rd hl;rw[h3] at h5;cases h5;obtain⟨y,hy,hr⟩:=BH h7 hld;exact⟨y::ws,by rw[j5];simp[lu,h4,h6,hy,h1],.cons' hr h2⟩
     ·cases h
    ·cases h
   ·cases h
  ·cases h
omit hR in
theorem Je:∀(l:List (au R.T))(vs:List V)(i:Nat)(P:au R.T->V->Prop),(∀j v,l[j]? =some v->P v (vs.getD j aL))->∀j v,look (vk i l) j=some v->i<=j/\P v (vs.getD (j-i) aL)
 | [],vs,i,P,_,j,v,h=>bL|x::l,vs,i,P,hp,j,v,h=>by
  have h':look ((i,x)::vk (i+1) l) j=some v:=h;by_cases e:j=i
  ·subst e
   rw[kZ] at h';cases h';exact⟨iP _,by simpa using hp 0 x rfl⟩
  ·rw[jh _ _ e] at h'
   obtain⟨h1,h2⟩:=Je l vs.tail (i+1) P (fun j v hj=>by have:=hp (j+1) v ql;cases vs<;>simpa using this) j v h';refine⟨ah,?_⟩;have e2:j-i=(j-(i+1))+1:=ah
   rw[e2];cases vs<;>simpa using h2
def cZ.main (aj:Bool):cZ:=⟨aj,1,0,fun _=>none,fun _ _ h=>bL,fun _ _ _ h=>bL⟩
theorem bR {n:Nat}{aj:Bool}{F:Nat->List (fC R)}{I:IR R}(hF:aZ E F)(hI:mK E I){A:bC}{f:Nat}{fn:Func}{args res:List aC}{p:av R.T args}{x:av R.T res}(h:bP E R n aj F I A fn args res p=some x)(hf:E.P.funcs[f]? =some fn)(ha:gP args=true)(hlen:(aF R args p).length=args.length)(bO:E.aj f=aj)(hs:E.rU f=none)(hok:(match fn.body with|some c=>decide (args.length<=fn.ntmps)&& jy fn.ntmps c&& sN E c|none=>false)=true)(hcl:E.cl f=none:=by rfl):Pure E f (aF R args p) (bq (aF R res x)):=by
 unfold bP at h;split at h
 ·rename_i c hc
  rw[hc] at hok;dsimp only at hok;rw[aT] at hok;obtain⟨hok,hwk⟩:=hok;refine Pure.of' fn.results.toList hf hc (fun fr σ hd ho ht=>?_) rfl (by rw[hlen];exact hok) hs (by unfold CV;rw[hcl];rfl);have hi:aO ⟨fun _=>none,fun _=>none,fun _=>0,cZ.main aj⟩ σ.next (⟨vk 0 (eF R .sh args p),[]⟩:aH R.T) fr σ:={
   d:=hd
   aj:=by rw[ho,bO];rfl
   fr:=fun i v hv=>by obtain⟨_,h2⟩:=Je _ (aF R args p) 0 (fun v w=>aB R ⟨fun _=>none,fun _=>none,fun _=>0,cZ.main aj⟩ σ.top v w) (fun j v hj=>by obtain⟨w,h1,h2⟩:=(xk hR args p ha).get hj;rw[rQ,h1];exact h2) i v hv;rw[ht];exact .of pq
   ob:=fun o x hx=>by cases hx
   inj:=fun t u s h=>bL
   lt:=fun t s h=>bL
   ge:=fun t s h=>bL
   nx:=nI _}
  refine(ru hR hF hI c hwk _ _ _ x fr σ _ rfl h hi).mono ?_;rintro e fr' σ' ⟨ρ',st',hi',_,hk⟩;have key:(match sG E R st' fn.results.toList with
   |some vs=>bif gP res&& Nat.ble (l8 res) 16 then dQ R res (ng st' vs) else none|none=>none)=some x->∃vs,fn.results.toList.mapM (lu E fr' σ')=some vs/\bG 20 σ' (match vs with| [v]=>v|vs=>.bB vs)=some (bq (aF R res x)):=by
   intro hk;split at hk
   ·rename_i fJ BM
    obtain⟨hb,hk⟩:=gH hk;rw[aT] at hb;obtain⟨vs,h1,h2⟩:=FH hi' BM;refine⟨vs,h1,?_⟩;have aEF:=lN hb.2;obtain⟨vs',v1,v2⟩:=I9 hR hi' h2;have c1:=(v2 15).trans (qb hR res x (ng st' fJ) vs' hb.1 hk v1 19 σ' ah);have c2:=(v2 16).trans (qb hR res x (ng st' fJ) vs' hb.1 hk v1 20 σ' ah);clear v1 v2
    match vs,c1,c2 with
    | [],c1,c2=>have:aF R res x=[]:=(by simpa using c1.symm);rw[this];show bG 20 σ' (.bB [])=some (.bB []);rw[ZB];rfl| [v],c1,c2=>rw[j5] at c2;obtain⟨w,hw,c2⟩:=iR.1 c2;have:[w]=aF R res x:=(by simpa using c2);rw[<-this];exact hw
    |v::w::vs,c1,c2=>
     show bG 20 σ' (.bB (v::w::vs))=_;rw[ZB,c1,Option.map_some];have hl:(aF R res x).length=(v::w::vs).length:=by
      have:∀(l:List V)(m:List V),l.mapM (bG 19 σ')=some m->m.length=l.length:=by
       intro l;induction l with
       |nil=>intro m h;cases h;rfl|cons a l ih=>intro m h;rw[j5] at h;obtain⟨b,hb,h⟩:=iR.1 h;obtain⟨c,hc,h⟩:=iR.1 h;cases h;simp[ih c hc]
      exact this _ _ c1
     match aF R res x,hl with
     |a::b::l,_=>rfl
   ·cases hk
  cases e with
  |exit i=>cases hk|normal=>exact key hk|ret=>exact key hk
 ·cases h
theorem aiq {n:Nat}{aj:Bool}{F:Nat->List (fC R)}{I:IR R}(hF:aZ E F)(hI:mK E I){A:bC}{f:Nat}{fn:Func}{args:List aC}{τ:Ty}{p:av R.T args}{x:List (Den R.T τ)}(h:VR E R n aj F I A fn args τ p=some x)(hf:E.P.funcs[f]? =some fn)(ha:gP args=true)(hlen:(aF R args p).length=args.length)(bO:E.aj f=aj)(hs:E.rU f=none)(hok:(match fn.body with|some c=>decide (args.length<=fn.ntmps)&& jy fn.ntmps c&& sN E c|none=>false)=true)(hcl:E.cl f=none:=by rfl):
 Pure E f (aF R args p) (.ay .sh (x.map (aP R τ)))/\wO E f (aF R args p) (dA R τ) (x.map (aP R τ)):=by
 unfold VR at h;split at h
 ·rename_i c hc
  rw[hc] at hok;dsimp only at hok;rw[aT] at hok;obtain⟨hok,hwk⟩:=hok;have hi:aO ⟨fun _=>none,fun _=>none,fun _=>0,cZ.main aj⟩ ak.init.next (⟨vk 0 (eF R .sh args p),[]⟩:aH R.T) ({d:=1,aj:=E.aj f,tm:=fun i=>(aF R args p).getD i aL}:Fr) ak.init:={
   d:=rfl
   aj:=bO
   fr:=fun i v hv=>by obtain⟨_,h2⟩:=Je _ (aF R args p) 0 (fun v w=>aB R ⟨fun _=>none,fun _=>none,fun _=>0,cZ.main aj⟩ ak.init.top v w) (fun j v hj=>by obtain⟨w,h1,h2⟩:=(xk hR args p ha).get hj;rw[rQ,h1];exact h2) i v hv;exact .of pq
   ob:=fun o x hx=>by cases hx
   inj:=fun t u s h=>bL
   lt:=fun t s h=>bL
   ge:=fun t s h=>bL
   nx:=nI _}
  have himp:mX E f (aF R args p) 1 ak.init (fun v σ1=>∃c,v= .ay c (x.map (aP R τ))/\(c= .nil\/c= .full\/∃s,c= .own (dA R τ) s/\σ1.top s=(x.map (aP R τ)).length)):=by
   refine mX.of (hcl:=by unfold CV;rw[hcl];rfl) hf hc (by rw[hlen];exact hok) ((ru hR hF hI c hwk _ _ _ x _ ak.init _ rfl h hi).mono ?_);rintro e fr' σ' ⟨ρ',st',hi',_,hk⟩;have key:(match sG E R st' fn.results.toList with
    |some [v]=>bif aac v then EP R τ v else none|_=>none)=some x->∃vs,fn.results.toList.mapM (lu E fr' σ')=some vs/\∃c:Cap,(match vs with| [v]=>v|vs=>V.bB vs)=V.ay c (x.map (aP R τ))/\(c= .nil\/c= .full\/∃s,c= .own (dA R τ) s/\σ'.top s=(x.map (aP R τ)).length):=by
    intro hk;split at hk
    ·rename_i tv BM
     obtain⟨hb,hk⟩:=gH hk;obtain⟨vs,h1,h2⟩:=FH hi' BM;obtain⟨v,l,rfl,h3,h4⟩:=h2.dS;rw[h4.iq] at h1;refine⟨[v],h1,?_⟩;unfold EP at hk;split at hk
     ·rename_i cp gq l0 _
      obtain⟨e,e2⟩:=vB hk;subst e;cases e2;obtain⟨c',rfl,hc'⟩:=h3.lU;refine⟨c',rfl,?_⟩;cases cp<;>simp only[aac,dL] at hb
      ·exact .inr (.inl hc')
      ·rcases hc' with rfl|rfl| ⟨s,rfl,_,ht⟩
       ·exact .inl rfl
       ·exact .inr (.inl rfl)
       ·exact .inr (.inr ⟨s,rfl,by rw[iG];exact ht⟩)
     ·cases hk
      exact⟨.nil,h3.p8,.inl rfl⟩
     ·cases hk
    ·cases hk
   cases e with
   |exit i=>cases hk|normal=>exact key hk|ret=>exact key hk
  obtain⟨m,v,σ1,hm,cp,rfl,hcp⟩:=himp;have hpc:cB (x.map (aP R τ))=true:=by have:=Og (qF hR τ) x;simpa [aW] using this
  refine⟨⟨m,?_⟩,.of hm hpc hcp⟩;simp only[wD,hs,hm,Option.bind_some];exact Bl _ _ (qF hR τ)
 ·cases h
omit hR in
theorem air {c:Cp}:∀{l:List aC}{p:av R.T l},(eF R c l p).length=l.length
 | [],_=>rfl| [_],_=>rfl|_::k::l,p=>by show (eF R c (k::l) p.2).length+1=_;rw[air];rfl
omit hR in
theorem au4 {ρ ρ':aV}{top top':Nat->Nat}(hk:∀p,F0<=p->ρ'.ob p=ρ.ob p/\ρ'.ln p=ρ.ln p)(hx:ρ'.aj=ρ.aj):∀{l:List aC}{y:av R.T l}{vs:List V},uh l=true->aI R ρ' top (eF R .any l y) vs->aI R ρ top' (eF R .any l y) vs:=by
 have one:∀(k:aC)(l:List aC)(y:qA R.T k)(v:V),uh (k::l)=true->aB R ρ' top (up R .any k y) v->aB R ρ top' (up R .any k y) v:=fun k l y v hs h=>by
  cases k<;>first| (cases hs;done)|skip
  ·rename_i t
   cases t<;>first| (cases hs;done)|exact h
  ·rename_i p t
   have hs':(Nat.ble F0 p&& uh l)=true:=hs;rw[aT] at hs';obtain⟨k1,k2⟩:=hk p (lN hs'.1);obtain⟨g0,g1,g2,h⟩:=aB.BA (R:=R) h;show aB R ρ top' (.sub p t y.1 y.2) v;unfold aB;refine⟨g0,g1,by rw[<-k2];exact g2,?_⟩;rcases h with ⟨s,cp,h1,h2,h3⟩|h
   ·exact .inl ⟨s,cp,by rw[<-k1];exact h1,h2,by rw[<-hx];exact h3⟩
   ·exact .inr h
 have tl:∀(k:aC)(l:List aC),uh (k::l)=true->uh l=true:=fun k l hs=>by
  cases k<;>first| (cases hs;done)|skip
  ·rename_i t
   cases t<;>first| (cases hs;done)|exact hs
  ·have hs':(_&& uh l)=true:=hs
   rw[aT] at hs';exact hs'.2
 intro l;induction l with
 |nil=>intro y vs _ h;exact h|cons k l ih=>
  intro y vs hs h;cases l with
  |nil=>obtain⟨v,ws,rfl,h1,h2⟩:=aI.dS (ts:=[]) h;rw[h2.iq];exact .cons' (one k [] y v hs h1) rfl
  |cons q l=>obtain⟨v,ws,rfl,h1,h2⟩:=aI.dS (ts:=eF R .any (q::l) y.2) h;exact .cons' (one k _ y.1 v hs h1) (ih (tl _ _ hs) h2)
theorem ais {ρ:aV}{b:Nat}{st:aH R.T}{fr:Fr}{σ:ak}(hi:aO ρ b st fr σ):∀{ks:List aC}{fJ:List (au R.T)}{vs:List V},aI R ρ σ.top fJ vs->aI R ρ σ.top (VQ st ks fJ) vs
 | [],_,_,h=>by cases ‹List (au R.T)› <;>exact h|_::_,[],_,h=>h|k::ks,x::xs,_,h=>by
  obtain⟨v,ws,rfl,h1,h2⟩:=h.dS;refine .cons' ?_ (ais hi h2);unfold wv1;split
  ·split
   ·rename_i o t a c hw
    exact ahb hR hw h1 hi
   ·exact h1
  ·exact h1
def Jf:List (Nat×fA)->Bool
 | []=>true| (i,_)::l=>Nat.ble F0 i&& Jf l
omit hR in
theorem abf:∀{l:List (Nat×fA)}{x:eD R.T l},Jf l=true->∀{i:Nat}{v:bA R.T},look (iF R l x) i=some v->F0<=i
 | [],x,_,i,v,hv=>Et| [(j,k)],x,h,i,v,hv=>by
   unfold Jf at h;rw[aT] at h;have hv':look [(j,mG R k x)] i=some v:=hv;by_cases e:i=j
   ·rw[e];exact lN h.1
   ·rw[jh _ _ e] at hv';cases hv'
 | (j,k)::q::l,x,h,i,v,hv=>by
   unfold Jf at h;rw[aT] at h;have hv':look ((j,mG R k x.1)::iF R (q::l) x.2) i=some v:=hv;by_cases e:i=j
   ·rw[e];exact lN h.1
   ·rw[jh _ _ e] at hv';exact abf h.2 hv'
theorem Jg {n:Nat}{aj:Bool}{F:Nat->List (fC R)}{I:IR R}(hF:aZ E F)(hI:mK E I){A:bC}{f:Nat}{fn:Func}{args res:List aC}{obs:List (Nat×fA)}{p:av R.T args}{q:eD R.T obs}{y:av R.T res}{q':eD R.T obs}(h:Bz E R n aj F I A fn args obs res p q=some (y,q'))(hf:E.P.funcs[f]? =some fn)(bO:E.aj f=aj)(hok:(match fn.body with|some c=>decide (args.length<=fn.ntmps)&& jy fn.ntmps c&& sN E c&& (uh res&& og obs&& Jf obs)|none=>false)=true)(hcl:E.cl f=none:=by rfl):
 ∀(ρ:aV)(vs:List V)(σ:ak),ρ.aj.aj=E.aj f->(∀t,ρ.tk t=none)->ρ.aj.lo<=σ.next->
  aI R ρ σ.top (eF R .any args p) vs->(∀o x,look (iF R obs q) o=some x->eZ ρ σ o x)->
  mX E f vs ρ.aj.dp σ fun v σ'=>(∃ws,v=bq ws/\aI R ρ σ'.top (eF R .any res y) ws)/\(∀o x,look (iF R obs q') o=some x->eZ ρ σ' o x)/\σ.next<=σ'.next/\(∀l,l<σ.next->σ'.loops l=σ.loops l)/\(∀s,s<ρ.aj.lo->σ'.top s=σ.top s)/\
   ∀L:Loc,L.1<=ρ.aj.dp->ρ.aj.out L->σ'.obj L=σ.obj L:=by
 intro ρ vs σ Pn htk hlo hargs abg;unfold Bz at h;split at h
 ·rename_i c hc
  rw[hc] at hok;dsimp only at hok;simp only[aT] at hok;obtain⟨⟨hok,hwk⟩,⟨hsc,abh⟩,hbig⟩:=hok;have hlen:vs.length=args.length:=by rw[hargs.length];exact air
  have hi:aO ρ σ.next (⟨vk 0 (eF R .any args p),iF R obs q⟩:aH R.T) ({d:=ρ.aj.dp,aj:=E.aj f,tm:=fun i=>vs.getD i aL}:Fr) σ:={
   d:=rfl
   aj:=Pn.symm
   fr:=fun i v hv=>by obtain⟨_,h2⟩:=Je _ vs 0 (fun v w=>aB R ρ σ.top v w) (fun j v hj=>by obtain⟨w,h1,h2⟩:=hargs.get hj;rw[rQ,h1];exact h2) i v hv;exact .of pq
   ob:=abg
   inj:=fun t u s h=>Gz
   lt:=fun t s h=>Gz
   ge:=fun t s h=>Gz
   nx:=hlo}
  refine mX.of (hcl:=by unfold CV;rw[hcl];rfl) hf hc (by rw[hlen];simpa using hok) ((ru hR hF hI c hwk _ _ _ (y,q') _ σ ρ (Pn.trans bO) h hi).mono ?_);rintro e fr' σ' ⟨ρ',st',hi',hkp,hk⟩;have key:(match sG E R st' fn.results.toList with
   |some vs=>match dQ R res (VQ st' res vs) with
    |some y=>match lF R st'.ob obs with
     |some q'=>some (y,q')|none=>none
    |none=>none
   |none=>none)=some (y,q')->∃ws,fn.results.toList.mapM (lu E fr' σ')=some ws/\(fun v σ'=>(∃ws,v=bq ws/\aI R ρ σ'.top (eF R .any res y) ws)/\(∀o x,look (iF R obs q') o=some x->eZ ρ σ' o x)/\σ.next<=σ'.next/\(∀l,l<σ.next->σ'.loops l=σ.loops l)/\(∀s,s<ρ.aj.lo->σ'.top s=σ.top s)/\
    ∀L:Loc,L.1<=ρ.aj.dp->ρ.aj.out L->σ'.obj L=σ.obj L) (match ws with| [v]=>v|vs=>V.bB vs) σ':=by
   intro hk;split at hk
   ·rename_i fJ BM
    split at hk
    ·rename_i y' hy'
     split at hk
     ·rename_i q1 hq1
      cases hk;obtain⟨ws,h1,h2⟩:=FH hi' BM;have hws:=Aa hR res y _ ws hy' (ais hR hi' h2);obtain⟨nb,hnb⟩:=BG (bJ E c);have hk0:=hkp.ob nb (hnb nb (iP _));refine⟨ws,h1,?_,fun o x hx=>?_,hk0.nx,hk0.lp.1,hk0.lp.2,fun L hL ho=>hk0.dp L (.inr hL) ho⟩
      ·refine⟨ws,?_,au4 (ρ':=ρ') (fun p hp=>?_) hk0.aj hsc hws⟩
       ·rcases ws with _| ⟨a,_| ⟨b,l⟩⟩<;>rfl
       ·have hm:bg p (bJ E c)=false:=by
         cases hm:bg p (bJ E c)
         ·rfl
         ·have:=Pj hwk p hm;omega
        have hk1:=hkp.ob p hm;exact⟨hk1.ob,hk1.ln⟩
      ·obtain⟨kk,yy,z,e1,e2,rfl,e4⟩:=Jc obs q' hq1 o x hx
       have au5:=abf hbig hx;have hm:bg o (bJ E c)=false:=by
        cases hm:bg o (bJ E c)
        ·rfl
        ·have:=Pj hwk o hm;omega
       have hk1:=hkp.ob o hm;exact O4 (e4 abh) hk1.ob.symm hk1.ln.symm (by rw[hk1.aj]) (OL hR e2 (hi'.ob _ _ e1))
     ·cases hk
    ·cases hk
   ·cases hk
  cases e with
  |exit i=>cases hk|normal=>exact key hk|ret=>exact key hk
 ·cases h
omit hR in
theorem Wx {σ:ak}{L:Loc}{s:Nat}{cs:List V}(h:σ.bQ L s=some cs):σ.obj L=some (s,.cells cs):=by
 unfold ak.bQ at h;split at h
 ·rename_i s' cs' e
  split at h
  ·rename_i e2;subst e2;cases h;exact e
  ·cases h
 ·cases h
omit hR in
theorem ait {ρ:aV}{b:Nat}{st:aH R.T}{fr:Fr}{σ:ak}(hi:aO ρ b st fr σ){o:Nat}{x:bA R.T}(h:mE st o=some x):eZ ρ σ o x:=by
 unfold mE at h;cases hb:look st.ob o with
 |none=>rw[hb] at h;cases h|some y=>rw[hb] at h;cases h;exact(hi.ob _ _ hb).strip
omit hR in
theorem au6 {ρ ρ':aV}{b:Nat}{st:aH R.T}{fr:Fr}{σ:ak}(hi:aO ρ' b st fr σ)(bO:ρ'.aj=ρ.aj){t t':Ty}{p:Nat}{w:V}{y:List (Den R.T t)}(h:(if t'=t then (bif Nat.blt p F0 then (match mE st p with
 |some (.arr _ l)=>pW R l|_=>none) else none) else none)=some y)(hv:aB R ρ' σ.top (.aM p t':au R.T) w):Jb ρ σ (.arr t) y w:=by
 by_cases ht:t'=t
 ·rw[if_pos ht] at h
  obtain⟨hp,h⟩:=gH h;cases hrd:mE st p with
  |none=>rw[hrd] at h;cases h|some ob=>
   have gU:=ait hi hrd;rw[hrd] at h;cases ob<;>try (cases h;done)
   rename_i t'' l;have h':pW R (u:=t) l=some y:=h;unfold pW at h';split at h'
   ·rename_i e;subst e ht
    cases h';have hpl:ρ.aj.lc p=(ρ.aj.dp,p):=cZ.Fj _ (lN hp);obtain⟨hln,ho⟩:=gU;rcases aB.z8 hv with ⟨s,h1,h2⟩| ⟨h1,h2⟩
    ·rcases ho with ⟨_,ho⟩| ⟨s',cs,ho,hc,hr⟩
     ·rw[h1] at ho;cases ho
     ·rw[h1] at ho;cases ho
      rw[bO] at hc h2;left;refine⟨ρ.aj.lc p,s,cs,by rw[hpl];exact iP _,?_,Wx hc,wY _ _ hr⟩;rw[h2,hln]
    ·right
     rw[h1] at hln;exact⟨List.length_eq_zero_iff.1 hln,h2⟩
   ·cases h'
 ·rw[if_neg ht] at h;cases h
theorem au7 {ρ ρ':aV}{b:Nat}{st:aH R.T}{fr:Fr}{σ:ak}(hi:aO ρ' b st fr σ)(bO:ρ'.aj=ρ.aj){jB:sw}{v:au R.T}{w:V}{y:tX R.T jB}(h:aad R st jB v=some y)(hv:aB R ρ' σ.top v w):Jb ρ σ jB y w:=by
 cases jB with
 |no=>cases h|arr t=>
  by_cases hvw:∃p t',v= .aM p t'
  ·obtain⟨p,t',rfl⟩:=hvw
   exact au6 hi bO h hv
  ·have h':(bif uf v then some ([]:List (Den R.T t)) else none)=some y:=by
    cases v<;>first|exact h|exact absurd ⟨_,_,rfl⟩ hvw
   obtain⟨hE,h'⟩:=gH h';cases h';exact .inr ⟨rfl,OP (fr:=fr) hE (.of hv)⟩
 |Ia g a b cs=>
  by_cases hvf:∃g' a' p off b',v= .fn g' a' (.ref p off::b')
  ·obtain⟨g',a',p,off,b',rfl⟩:=hvf
   have h':(bif Nat.beq g' g&& (Nat.beq off 0&& (Nat.blt p F0&& (gP a&& (gP b&& wW cs))))&& (ni a'&& ni b'&& Nat.ble (l8 a) 18&& Nat.ble (l8 b) 18) then (match mE st p with
    |some (.cells c)=>match dQ R a a',dQ R b b',dQ R cs c with
     |some x,some y,some z=>some (x,y,z)|_,_,_=>none
    |_=>none) else none)=some y:=h
   obtain⟨hb,hm⟩:=gH h';clear h';rw[aT,aT,aT,aT] at hb;obtain⟨⟨hg,ho,hp,hds⟩,hst⟩:=hb;simp only[aT] at hst;obtain⟨⟨⟨hsa,hsb⟩,hda⟩,hdb⟩:=hst;have hg:=iK hg;have ho:=iK ho;subst hg ho;cases hrd:mE st p with
   |none=>rw[hrd] at hm;cases hm|some ob=>
    have gU:=ait hi hrd;rw[hrd] at hm;cases ob<;>try (cases hm;done)
    rename_i c;cases hx:dQ R a a' with
    |none=>simp only[hx] at hm;cases hm|some x=>
    cases hy:dQ R b b' with
    |none=>simp only[hx,hy] at hm;cases hm|some y'=>
    cases hz:dQ R cs c with
    |none=>simp only[hx,hy,hz] at hm;cases hm|some z=>simp only[hx,hy,hz] at hm;cases hm;obtain⟨a'',b'',rfl,ha,hb'⟩:=hv.lG;obtain⟨w1,ws,rfl,h1,h2⟩:=hb'.dS;obtain⟨s,hs,rfl⟩:=h1.uj;obtain⟨s',l,hs',hc,hr⟩:=gU;rw[hs] at hs';cases hs';have hpl:ρ.aj.lc p=(ρ.aj.dp,p):=cZ.Fj _ (lN hp);rw[bO] at hc⊢;have hds':=hds;rw[aT,aT] at hds;have e1:=qb hR a x a' a'' hds.1 hx ha 19 ak.init (by have:=lN hda;omega);have e2:=qb hR b y' b' ws hds.2.1 hy h2 19 ak.init (by have:=lN hdb;omega);rw[Jd hR a'' (xg hR a' a'' hsa ha)] at e1;rw[Jd hR ws (xg hR b' ws hsb h2)] at e2;cases e1;cases e2;exact⟨ρ.aj.lc p,s,l,by rw[hpl];exact iP _,rfl,Wx hc,Fy hds.2.2 (Aa hR cs z _ _ hz hr),hds'⟩
  ·exfalso
   cases v<;>try (cases h;done)
   rename_i g' a' b';cases b' with
   |nil=>cases h|cons v0 b'=>cases v0<;>first| (cases h;done)|exact hvf ⟨_,_,_,_,_,rfl⟩
omit hR in
theorem aiu:∀{l:List aC}{p:av R.T l},(Dq R l p).length=l.length
 | [],_=>rfl| [k],_=>rfl|k::h::l,p=>by show (Dq R (h::l) p.2).length+1=_;rw[aiu (l:=h::l)];rfl
theorem au8 {n:Nat}{aj:Bool}{F:Nat->List (fC R)}{I:IR R}(hF:aZ E F)(hI:mK E I){A:bC}{f:Nat}{fn:Func}{args:List aC}{obs:List (Nat×fA)}{jB:sw}{gV:List (Nat×fA)}{p:av R.T args}{q:eD R.T obs}{y:tX R.T jB}{q':eD R.T gV}(h:aae E R n aj F I A fn args obs jB gV p q=some (y,q'))(hf:E.P.funcs[f]? =some fn)(bO:E.aj f=aj)(hok:(match fn.body with|some c=>decide (args.length<=fn.ntmps)&& jy fn.ntmps c&& sN E c&& (og gV&& Jf gV)|none=>false)=true)(hcl:E.cl f=none:=by rfl):
 ∀(ρ:aV)(vs:List V)(σ:ak),ρ.aj.aj=E.aj f->(∀t,ρ.tk t=none)->ρ.aj.lo<=σ.next->
  aI R ρ σ.top (Dq R args p) vs->(∀o x,look (iF R obs q) o=some x->eZ ρ σ o x)->
  mX E f vs ρ.aj.dp σ fun v σ'=>Jb ρ σ' jB y v/\(∀o x,look (iF R gV q') o=some x->eZ ρ σ' o x)/\σ.next<=σ'.next/\(∀l,l<σ.next->σ'.loops l=σ.loops l)/\(∀s,s<ρ.aj.lo->σ'.top s=σ.top s)/\
   ∀L:Loc,L.1<=ρ.aj.dp->ρ.aj.out L->σ'.obj L=σ.obj L:=by
 intro ρ vs σ Pn htk hlo hargs abg;unfold aae at h;split at h
 ·rename_i c hc
  rw[hc] at hok;dsimp only at hok;simp only[aT] at hok;obtain⟨⟨hok,hwk⟩,abh,hbig⟩:=hok;have hlen:vs.length=args.length:=by rw[hargs.length];exact aiu
  have hi:aO ρ σ.next (⟨vk 0 (Dq R args p),iF R obs q⟩:aH R.T) ({d:=ρ.aj.dp,aj:=E.aj f,tm:=fun i=>vs.getD i aL}:Fr) σ:={
   d:=rfl
   aj:=Pn.symm
   fr:=fun i v hv=>by obtain⟨_,h2⟩:=Je _ vs 0 (fun v w=>aB R ρ σ.top v w) (fun j v hj=>by obtain⟨w,h1,h2⟩:=hargs.get hj;rw[rQ,h1];exact h2) i v hv;exact .of pq
   ob:=abg
   inj:=fun t u s h=>Gz
   lt:=fun t s h=>Gz
   ge:=fun t s h=>Gz
   nx:=hlo}
  refine mX.of (hcl:=by unfold CV;rw[hcl];rfl) hf hc (by rw[hlen];simpa using hok) ((ru hR hF hI c hwk _ _ _ (y,q') _ σ ρ (Pn.trans bO) h hi).mono ?_);rintro e fr' σ' ⟨ρ',st',hi',hkp,hk⟩;have key:(match sG E R st' fn.results.toList with
   |some [v]=>match aad R st' jB v with
    |some y=>match lF R st'.ob gV with
     |some q'=>some (y,q')|none=>none
    |none=>none
   |_=>none)=some (y,q')->∃ws,fn.results.toList.mapM (lu E fr' σ')=some ws/\(fun v σ'=>Jb ρ σ' jB y v/\(∀o x,look (iF R gV q') o=some x->eZ ρ σ' o x)/\σ.next<=σ'.next/\(∀l,l<σ.next->σ'.loops l=σ.loops l)/\(∀s,s<ρ.aj.lo->σ'.top s=σ.top s)/\
    ∀L:Loc,L.1<=ρ.aj.dp->ρ.aj.out L->σ'.obj L=σ.obj L) (match ws with| [v]=>v|vs=>V.bB vs) σ':=by
   intro hk;split at hk
   ·rename_i v BM
    split at hk
    ·rename_i y' hy'
     split at hk
     ·rename_i q1 hq1
      cases hk;obtain⟨ws,h1,h2⟩:=FH hi' BM;obtain⟨w,us,rfl,h3,h4⟩:=h2.dS;have au9:=h4.iq;subst au9;obtain⟨nb,hnb⟩:=BG (bJ E c);have hk0:=hkp.ob nb (hnb nb (iP _));refine⟨[w],h1,au7 hR hi' hk0.aj hy' h3,fun o x hx=>?_,hk0.nx,hk0.lp.1,hk0.lp.2,fun L hL ho=>hk0.dp L (.inr hL) ho⟩;obtain⟨kk,yy,z,e1,e2,rfl,e4⟩:=Jc gV q' hq1 o x hx;have au5:=abf hbig hx;have hm:bg o (bJ E c)=false:=by
       cases hm:bg o (bJ E c)
       ·rfl
       ·have:=Pj hwk o hm;omega
      have hk1:=hkp.ob o hm;exact O4 (e4 abh) hk1.ob.symm hk1.ln.symm (by rw[hk1.aj]) (OL hR e2 (hi'.ob _ _ e1))
     ·cases hk
    ·cases hk
   ·cases hk
  cases e with
  |exit i=>cases hk|normal=>exact key hk|ret=>exact key hk
 ·cases h
end
def aQ (k:IntKind)(x y:Int):Int:=x.fdiv (2^min y.toNat k.bits)
section
variable {R:iI}{E:Env}
def bK (f:Nat)(r:fC R)(F:Nat->List (fC R)):Nat->List (fC R):=fun g=>bif Nat.beq g f then r::F g else F g
theorem bI {f:Nat}{r:fC R}{F:Nat->List (fC R)}(hF:aZ E F)(h:∀p x,r.F p=some x->Pure E f (aF R r.args p) (bq (aF R r.res x)))(ho:r.own=false:=by rfl):aZ E (bK f r F):=by
 intro g q hq p x hx;unfold bK at hq;cases hb:Nat.beq g f
 ·rw[hb] at hq;exact hF g q hq p x hx
 ·rw[hb,cond_true] at hq
  rcases fV.1 hq with rfl|hq
  ·rw[iK hb];exact⟨fun _=>h p x hx,fun e=>by rw[ho] at e;cases e⟩
  ·exact hF g q hq p x hx
def aiv:Nat->List (fC R):=fun _=>[]
def aiw:IR R:=⟨fun _=>[],fun _=>[],fun _=>[]⟩
theorem ava:mK E (aiw (R:=R)):=⟨fun _ _ h=>bL,fun _ _ h=>bL,fun _ _ h=>bL⟩
def GY (g:Nat)(i:Ol R)(I:IR R):IR R:=⟨fun f=>bif Nat.beq f g then i::I.it f else I.it f,I.im,I.io⟩
theorem avb {g:Nat}{i:Ol R}{I:IR R}(hI:mK E I)(h:E.imp g=true/\∀pa pb xs,i.F pa pb=some xs->FD E g (aF R i.a pa) (aF R i.b pb) (xs.map (aF R i.el))):mK E (GY g i I):=by
 refine⟨fun f q hq=>?_,hI.2⟩;have hq':q∈(bif Nat.beq f g then i::I.it f else I.it f):=hq;cases hb:Nat.beq f g
 ·rw[hb] at hq';exact hI.1 f q hq'
 ·rw[hb,cond_true] at hq'
  rcases fV.1 hq' with rfl|hq'
  ·rw[iK hb];exact h
  ·exact hI.1 f q hq'
def sO (g:Nat)(m:mD R)(I:IR R):IR R:=⟨I.it,fun f=>bif Nat.beq f g then m::I.im f else I.im f,I.io⟩
theorem DJ {g:Nat}{m:mD R}{I:IR R}(hI:mK E I)(h:uq E g m)(hg:E.imp g=true:=by rfl):mK E (sO g m I):=by
 refine⟨hI.1,fun f r hr=>?_,hI.2.2⟩;have hr':r∈(bif Nat.beq f g then m::I.im f else I.im f):=hr;cases hb:Nat.beq f g
 ·rw[hb] at hr';exact hI.2.1 f r hr'
 ·rw[hb,cond_true] at hr'
  rcases fV.1 hr' with rfl|hr'
  ·rw[iK hb];exact⟨hg,h⟩
  ·exact hI.2.1 f r hr'
theorem avc:aZ E (aiv (R:=R)):=fun _ _ h=>bL
theorem aix {f:Nat}{args:List aC}{τ:Ty}{G:av R.T args->Option (List (Den R.T τ))}{d:List (Den R.T τ)}{F:Nat->List (fC R)}(hF:aZ E F)(h:∀p x,G p=some x->Pure E f (aF R args p) (.ay .sh (x.map (aP R τ)))/\wO E f (aF R args p) (dA R τ) (x.map (aP R τ)))(hc:gP args=true:=by rfl)(hn:E.zC f=false:=by rfl):aZ E (bK f ⟨args,[.d (.slice τ)],G,d,true,false⟩ F):=by
 intro g q hq p x hx;unfold bK at hq;cases hb:Nat.beq g f
 ·rw[hb] at hq;exact hF g q hq p x hx
 ·rw[hb,cond_true] at hq
  rcases fV.1 hq with rfl|hq
  ·rw[iK hb]
   obtain⟨h1,h2⟩:=h p x hx;refine⟨fun _=>h1,fun _ gq e l hl=>?_⟩;cases e;have hl':x=l:=hl;subst hl';exact⟨fun _=>⟨hn,h2⟩,fun e=>(by rw[hc] at e;cases e)⟩
  ·exact hF g q hq p x hx
end
def aiy (E:Env)(R:iI)(n:Nat)(aj:Bool)(F:Nat->List (fC R))(I:IR R)(A:bC)(c:Option Code)(el:List aC){β:Type}(x:av R.T el)(st:aH R.T)(k:Ex->aH R.T->Option β):Option β:=match c with
 |some (.rangeFunc _ ps a c)=>match Fh st ps.toList (eF R .sh el x) with
  |some st=>fK E R n aj F I A a st fun e st=>match e with
   |.normal=>fK E R n aj F I A c st k|_=>none
  |none=>none
 |_=>none
def aiz (E:Env)(c:Option Code):List Nat:=match c with
 |some (.rangeFunc _ ps a c)=>ps.toList++bJ E a++bJ E c|_=>[]
def aiA:(k:wP)->H8 k
 |.i _=>(0:Int)|.a _ n=>Vec.rep n 0
def aiB:(l:List wP)->EN l
 | []=>()| [k]=>aiA k|k::h::l=>(aiA k,aiB (h::l))
section
variable (R:iI)
mutual
def aiC:(k:aC)->qA R.T k
 |.d t=>Ib R t|.l _ t=>([]:List (Den R.T t))|.agg l=>bn l|.ref _ _=>()|.aY l _=>bn l|.cu _=>()|.dV k e=>([]:List (Den R.T k×Den R.T e))|.fn _ a b=>(bn a,bn b)|.fF=>()|.aM _ _=>()|.sub _ _=>((0:Int),(0:Int))|.sg l=>aiB l|.undef=>()
def bn:(l:List aC)->av R.T l
 | []=>()| [k]=>aiC k|k::h::l=>(aiC k,bn (h::l))
end
end
end aR
end
