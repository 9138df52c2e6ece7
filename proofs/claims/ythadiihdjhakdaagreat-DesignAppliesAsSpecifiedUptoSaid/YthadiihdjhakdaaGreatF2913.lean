import Derived.Test.YthadiihdjhakdaaGreatF2912
set_option linter.all false
section
namespace aY
open Go
section
variable {R:gY}{E:Env}(hR:rE R)
include hR
def aan (E:Env)(aj:Bool)(c:Code)(body:{β:Type}->aD R.T->(Ex->aD R.T->Option β)->Option β):Prop:=
 ∀(β:Type)(st:aD R.T)(k:Ex->aD R.T->Option β)(x:β)(fr:Fr)(σ:au)(ρ:aT),ρ.aj.aj=aj->body st k=some x->aL ρ σ.next st fr σ->bM E c fr σ fun e fr' σ'=>∃ρ' st',aL ρ' σ'.next st' fr' σ'/\Kp (j5 E c) (bD E c) st fr σ ρ st' fr' σ' ρ'/\k e st'=some x
omit hR in
theorem aao:∀(ρ:aT)(σ:au)(o:Nat)(x:aG R.T),eT (R:=R) ρ σ o x->eT (R:=R) ρ σ o (.ro x):=fun _ _ _ _ h=>h
theorem ahI {aj:Bool}{β:Type}{c:Code}{key:Nat}{sh:Shape}{outs:List (Ex×Shape)}{body:{β:Type}->aD R.T->(Ex->aD R.T->Option β)->Option β}(hb:aan E aj c body){H B:aD R.T}{kH:Fr}{gZ:au}{Ji:aT}(bK:Ji.aj.aj=aj)(hB:∀(st' S':aD R.T) (fr':Fr) (σ':au) (ρ':aT) (b':Nat),aL ρ' b' st' fr' σ'->Kp (j5 E c) (bD E c) H kH gZ Ji S' fr' σ' ρ'->aL ρ' b' B fr' σ')(hro:∀o,jr B o):
 ∀(m:Nat)(p:rz R.T sh)(o:Out R.T outs)(fr:Fr)(σ:au)(ρ:aT),zq key (bD E c) B sh outs body m p=some o->aL ρ σ.next (unpack R sh p) fr σ->Kp (j5 E c) (bD E c) H kH gZ Ji (B.over (unpack R sh p)) fr σ ρ->
 bM E (.loop c) fr σ fun e fr' σ'=>∃ρ' S' st',aL ρ' σ'.next st' fr' σ'/\Kp (j5 E c) (bD E c) H kH gZ Ji S' fr' σ' ρ'/\(∀o,bf o (bD E c)=false->jr H o->look st'.ob o=none)/\∀(k:Ex->aD R.T->Option β)(bs:aD R.T),Az R bs k outs o=k e (bs.over st')
 |0,p,o,fr,σ,ρ,h,_,_=>bC|m+1,p,o,fr,σ,ρ,h,hi,hkp=>by
  unfold zq at h;have hbase:aL ρ σ.next B fr σ:=hB _ _ _ _ _ _ hi hkp;refine bM.loop ((hb _ _ _ _ fr σ ρ ((congrArg cu.aj hkp.aj).trans bK) h (hbase.over hi)).mono ?_);rintro e fr' σ' ⟨ρ',st',hi',AU,hk⟩;have hall:=hkp.trans AU;cases e with
  |normal=>
   dsimp only at hk;split at hk
   ·rename_i p' hp'
    obtain⟨wK,S2,h1,h2,_,h3⟩:=hi'.og hR hp';have DV:=hall.trans h2;refine ahI hb bK hB hro m p' o fr' σ' wK hk h1 ⟨DV.fr,fun q hq=>⟨(DV.ob q hq).ob,(DV.ob q hq).ln,(DV.ob q hq).aj,(DV.ob q hq).nx,(DV.ob q hq).lp,(DV.ob q hq).dp,fun hr=>⟨?_,((DV.ob q hq).ro hr).2⟩⟩⟩;exact Ng (hro q) fun x hx=>(by rw[h3 q hq ((hall.ob q hq).ro hr).1] at hx;cases hx)
   ·cases hk
  |exit i=>obtain⟨wK,S2,jF,h1,h2,_,h3,h4⟩:=Jj (β:=β) hR hi' hk;exact⟨wK,S2,jF,h1,hall.trans h2,fun q hq hr=>h3 q hq ((hall.ob q hq).ro hr).1,h4⟩
  |ret=>obtain⟨wK,S2,jF,h1,h2,_,h3,h4⟩:=Jj (β:=β) hR hi' hk;exact⟨wK,S2,jF,h1,hall.trans h2,fun q hq hr=>h3 q hq ((hall.ob q hq).ro hr).1,h4⟩
omit hR in
theorem ahJ {aj:Bool}{c:Code}{body:{β:Type}->aD R.T->(Ex->aD R.T->Option β)->Option β}(hb:aan E aj c body){β:Type}:∀(m:Nat)(st:aD R.T)(k:Ex->aD R.T->Option β)(x:β)(fr:Fr)(σ:au)(ρ:aT),ρ.aj.aj=aj->M7 (R:=R) (fun st k=>body st k) m st k=some x->aL ρ σ.next st fr σ->
 bM E (.loop c) fr σ fun e fr' σ'=>∃ρ' st',aL ρ' σ'.next st' fr' σ'/\Kp (j5 E c) (bD E c) st fr σ ρ st' fr' σ' ρ'/\k e st'=some x
 |0,st,k,x,fr,σ,ρ,_,h,_=>bC|m+1,st,k,x,fr,σ,ρ,bK,h,hi=>by
  unfold M7 at h;refine bM.loop ((hb _ _ _ _ fr σ ρ bK h hi).mono ?_);rintro e fr' σ' ⟨ρ',st',hi',AU,hk⟩;cases e with
  |normal=>
   dsimp only at hk;by_cases hW:True
   ·refine(ahJ hb m st' k x fr' σ' ρ' ?_ hk hi').mono ?_
    ·exact(congrArg cu.aj AU.aj).trans bK
    ·rintro e DI kr ⟨uq,jF,h1,h2,h3⟩
     exact⟨uq,jF,h1,AU.trans h2,h3⟩
   ·exact absurd trivial hW
  |exit i=>exact⟨ρ',st',hi',AU,hk⟩|ret=>exact⟨ρ',st',hi',AU,hk⟩
omit hR in
def aap {X:Type}(key:Nat)(W:List Nat)(b:aD R.T)(sh:Shape)(outs:List (Ex×Shape))(body:{β:Type}->X->aD R.T->(Ex->aD R.T->Option β)->Option β)(xs:List X)(e:Ex)(st:aD R.T):Option (Out R.T outs):=match e with
    |.normal=>match og R W st.obs sh with
     |some p=>qz key W b sh outs body xs p|none=>none
    |e=>yh R W e st.obs outs
omit hR in
def ahK (r0:rV)(l:Nat)(σ3:au)(x:Ex)(bb:Bool)(σ':au):Prop:=match x with
 |.normal=>bb=true/\σ'=σ3.iY l {r0 with st:=0,pend:=none}
 |e=>bb=false/\σ'=σ3.iY l {r0 with st:=2,pend:=some e}
omit hR in
theorem aL.ahL {ρ:aT}{b:Nat}{st:aD R.T}{fr fr':Fr}{σ:au}(h:aL ρ b st fr σ)(he:st.fr=[])(hd:fr'.d=ρ.aj.dp)(ho:fr'.aj=ρ.aj.aj):aL ρ b st fr' σ:={h with
 d:=hd
 aj:=ho
 fr:=fun i v hv=>by rw[he] at hv;cases hv}
omit hR in
theorem aL.obs {ρ:aT}{b:Nat}{st:aD R.T}{fr:Fr}{σ:au}(h:aL ρ b st fr σ):aL ρ b st.obs fr σ:={h with
 fr:=fun i v hv=>EC
 ob:=h.ob}
omit hR in
theorem bB.weak {nr:Bool}{o:Nat}{st st':aD R.T}{ρ ρ':aT}{σ σ':au}(h:bB nr o st ρ σ st' ρ' σ'):bB false o st ρ σ st' ρ' σ':=⟨h.ob,h.ln,h.aj,h.nx,h.lp,fun L hL=>h.dp L (.inr (by rcases hL with e|e;cases e;exact e)),h.ro⟩
omit hR in
theorem bB.shift {o:Nat}{st st':aD R.T}{ρ ρ':aT}{σ σ' kr:au}(h:bB false o st ρ σ st' ρ' σ')(hp:∀L:Loc,L.1<=ρ.aj.dp->kr.obj L=σ'.obj L)(hn:σ'.next<=kr.next)(hl:∀l,l<σ.next->kr.loops l=σ'.loops l)(ht:∀s,s<ρ.aj.lo->kr.top s=σ'.top s):bB false o st ρ σ st' ρ' kr:=
 ⟨h.ob,h.ln,h.aj,bZ h.nx hn,⟨fun l hl'=>(hl l hl').trans (h.lp.1 l hl'),fun s hs=>(ht s hs).trans (h.lp.2 s hs)⟩,fun L hL ho=>(hp L (by rcases hL with e|e;cases e;exact e)).trans (h.dp L hL ho),fun hr=>⟨(h.ro hr).1,fun s=>by have:=(h.ro hr).2 s;unfold au.dB au.jw at this⊢;rw[hp _ (ρ.aj.wJ o)];exact this⟩⟩
omit hR in
theorem ahM {c c':cu}(h:c'=c)(p:Nat):(c'.lc p).1<=c.dp:=by rw[<-h];exact c'.wJ p
def qG (E:Env)(c:Code):Bool:=(bD E c).all fun d=>Nat.blt d F0
omit hR in
theorem NI {c:Code}(h:qG E c=true):∀d,bf d (bD E c)=true->d<F0:=fun d hd=>by
 unfold qG at h;rw[kM] at h;have:=h d (ahf hd);unfold Nat.blt at this;exact kQ this
omit hR in
theorem ahN {ρ:aT}{b:Nat}{σ:au}:∀{ps:List Nat}{gq:List (ak R.T)}{vs:List V}{st st':aD R.T}{fr:Fr},Fz st ps gq=some st'->aF R ρ σ.top gq vs->aL ρ b st fr σ->ps.length=vs.length/\aL ρ b st' {fr with tm:=(ps.zip vs).foldl (fun tm (p,a)=>upd tm p a) fr.tm} σ/\st'.ob=st.ob
 | [],[],vs,st,st',fr,h,hr,hi=>by
   cases h;rw[hr.iJ];exact⟨rfl,hi,rfl⟩
 | [],_::_,_,_,_,_,h,_,_=>bC|_::_,[],_,_,_,_,h,_,_=>bC|i::ps,t::gq,vs,st,st',fr,h,hr,hi=>by obtain⟨v,ws,rfl,h1,h2⟩:=hr.dW;obtain⟨a1,a2,a3⟩:=ahN (fr:=fr.set i v) (show Fz (st.put i t) ps gq=some st' from h) h2 (hi.put i (.of h1));exact⟨by simp[a1],a2,a3⟩
omit hR in
theorem ahO {k:d9}{x:Dn R.T k}:su (mY R k x)=false:=by cases k<;>rfl
omit hR in
theorem aaq {o:Nat}{y:aG R.T}{O:List Nat}:∀{l:List (Nat×d9)}{x:cZ R.T l},AP O l=true->look (gF R l x) o=some y->bf o O=false/\su y=false
 | [],x,_,h=>bC| [(i,k)],x,hd,h=>by
   unfold AP at hd;rw[iP,rU] at hd;have h':look [(i,mY R k x)] o=some y:=h;by_cases e:o=i
   ·subst e;rw[lD] at h';cases h';exact⟨hd.1,ahO⟩
   ·rw[je _ _ e] at h';cases h'
 | (i,k)::q::l,x,hd,h=>by
   unfold AP at hd;rw[iP,rU] at hd;have h':look ((i,mY R k x.1)::gF R (q::l) x.2) o=some y:=h;by_cases e:o=i
   ·subst e;rw[lD] at h';cases h';exact⟨hd.1,ahO⟩
   ·rw[je _ _ e] at h';exact aaq hd.2 h'
omit hR in
theorem arY {W K O:List Nat}{mark:aG R.T->aG R.T}{st:aD R.T}{s:Shape}{p:rz R.T s}{o:Nat}(hd:AP O s.ob=true)(h:jr ((base W K O mark st).over (unpack R s p)) o):look (unpack R s p).ob o=none:=by
 cases hu:look (unpack R s p).ob o with
 |none=>rfl|some y=>
  exfalso;have hk:bf o O=false/\su y=false:=by
   obtain⟨sl,ob⟩:=s;cases ob with
   |nil=>cases hu|cons a bQ=>exact aaq hd hu
  have hb:look (base W K O mark st).ob o=none:=by
   have:∀is:List Nat,bf o is=false->look (rA (fun o b=>!(bf o W)&& qy W b) mark st.ob is) o=none:=by
    intro is;induction is with
    |nil=>intro _;rfl|cons j is ih=>
     intro h;have h':(Nat.beq o j||bf o is)=false:=h;rw[kP] at h';unfold rA;split
     ·rename_i x hx
      cases (!(bf j W)&& qy W x)
      ·exact ih h'.2
      ·rw[cond_true,je _ _ (FD h'.1)];exact ih h'.2
     ·exact ih h'.2
   exact this O hk.1
  have:=h y (by show look ((base W K O mark st).ob++(unpack R s p).ob) o=some y;rw[zy,hb];exact hu);rw[hk.2] at this;cases this
def kg (E:Env)(I:IR R):Prop:=(∀g,∀i∈I.it g,E.imp g=true/\∀pa pb xs,i.F pa pb=some xs->FQ E i.q g (bX R i.a pa) (bX R i.b pb) none (fun _=>True) (xs.map (bX R i.el)))/\Nq E I.im/\
 ∀g,∀i∈I.io g,E.imp g=true/\∀pa pb pc xs,i.F pa pb pc=some xs->∀cs,(∃ρ top,aF R ρ top (eY R .any i.cs pc) cs)->ahH E i.q g (bX R i.a pa) (bX R i.b pb) cs (xs.map (bX R i.el))
theorem Jt {σ:au}{n:Nat}:∀cs:List V,bN cs=true->cs.mapM (bn (n+1) σ)=some cs:=by
 intro cs;induction cs with
 |nil=>intro _;rfl|cons a l ih=>intro h;simp only[bN,iP] at h;rw[jL,l8 h.1,ih h.2];rfl
theorem ahP {I:IR R}(hI:kg E I){g:Nat}{ρ:aT}{top:Nat->Nat}{u v:List (ak R.T)}{va vb:List V}(hu:j4 u=true)(hv:j4 v=true)(ha:aF R ρ top u va)(hb:aF R ρ top v vb):∀{l:List (MK R)}{el:List aM}{o:Option (List (aW R.T el))}{kq:Bool},(∀i∈l,i∈I.it g)->TH u v l=some ⟨el,o,kq⟩->
 E.imp g=true/\gu el=true/\∀xs,o=some xs->FQ E kq g va vb none (fun _=>True) (xs.map (bX R el))
 | [],el,o,_,_,h=>bC|i::l,el,o,kq,hl,h=>by
  unfold TH at h;split at h
  ·rename_i pa pb hpa hpb
   obtain⟨hc,h⟩:=gH h;simp only[iP] at hc;obtain⟨⟨⟨⟨c1,c2⟩,c3⟩,c4⟩,c5⟩:=hc;cases h;obtain⟨h1,h2⟩:=hI.1 g i (hl i aC);refine⟨h1,c3,fun xs hx=>?_⟩;have e1:=qE hR i.a pa u va c1 hpa ha 19 au.init (by have:=kQ c4;omega);have e2:=qE hR i.b pb v vb c2 hpb hb 19 au.init (by have:=kQ c5;omega);rw[Jt hR va (yA hR u va hu ha)] at e1;rw[Jt hR vb (yA hR v vb hv hb)] at e2;cases e1;cases e2;exact h2 pa pb xs hx
  ·exact ahP hI hu hv ha hb (fun x hx=>hl x zZ) h
theorem ahQ {I:IR R}(hI:kg E I){g:Nat}{ρ:aT}{top:Nat->Nat}{u v c:List (ak R.T)}{va vb vc:List V}(hu:j4 u=true)(hv:j4 v=true)(ha:aF R ρ top u va)(hb:aF R ρ top v vb)(hc:aF R ρ top c vc):∀{l:List (FO R)}{el:List aM}{o:Option (List (aW R.T el))}{kq:Bool},(∀i∈l,i∈I.io g)->TI u v c l=some ⟨el,o,kq⟩->
 E.imp g=true/\gu el=true/\∀xs,o=some xs->ahH E kq g va vb vc (xs.map (bX R el))
 | [],el,o,_,_,h=>bC|i::l,el,o,kq,hl,h=>by
  unfold TI at h;split at h
  ·rename_i pa pb pc hpa hpb hpc
   obtain⟨hc',h⟩:=gH h;simp only[iP] at hc';obtain⟨⟨⟨⟨⟨c1,c2⟩,c6⟩,c3⟩,c4⟩,c5⟩:=hc';cases h;obtain⟨h1,h2⟩:=hI.2.2 g i (hl i aC);refine⟨h1,c3,fun xs hx=>?_⟩;have e1:=qE hR i.a pa u va c1 hpa ha 19 au.init (by have:=kQ c4;omega);have e2:=qE hR i.b pb v vb c2 hpb hb 19 au.init (by have:=kQ c5;omega);rw[Jt hR va (yA hR u va hu ha)] at e1;rw[Jt hR vb (yA hR v vb hv hb)] at e2;cases e1;cases e2;exact h2 pa pb pc xs hx vc ⟨ρ,top,zx hR i.cs pc _ _ hpc hc⟩
  ·exact ahQ hI hu hv ha hb hc (fun x hx=>hl x zZ) h
def AX (ρ:aT)(jc:Option Nat):Option Loc:=jc.map ρ.aj.lc
theorem arZ {I:IR R}(hI:kg E I){ρ:aT}{b:Nat}{st:aD R.T}{fr:Fr}{σ:au}(hi:aL ρ b st fr σ){g:Nat}{u v:List (ak R.T)}{va vb:List V}(ha:aF R ρ σ.top u va)(hb:aF R ρ σ.top v vb){el:List aM}{o:Option (List (aW R.T el))}{jc:Option Nat}{kq:Bool}(h:iterM st I g u v=some ⟨el,o,jc,kq⟩):
 E.imp g=true/\gu el=true/\(∀p,jc=some p->∃c,look st.ob p=some (.cells c))/\∀xs,o=some xs->∃pre:au->Prop,(∀σ':au,(∀loc,AX ρ jc=some loc->∀s,σ'.dB loc s=σ.dB loc s)->pre σ')/\FQ E kq g va vb (AX ρ jc) pre (xs.map (bX R el)):=by
 unfold iterM at h;split at h
 ·rename_i p off v'
  obtain⟨hc,hm⟩:=gH h;clear h;simp only[iP] at hc;have hoff:=gG hc.2;subst hoff;split at hm
  ·rename_i c hl
   split at hm
   ·rename_i ar0 xs' hf
    cases hm;obtain⟨w,ws,rfl,h1,h2⟩:=hb.dW;obtain⟨s,hs,rfl⟩:=h1.sF;obtain⟨s',cs,hs',hcs,hr⟩:=hi.ob _ _ hl;rw[hs] at hs';cases hs';obtain⟨g1,g2,g3⟩:=ahQ hR hI hc.1.1 hc.1.2 ha h2 hr (fun _ h=>h) hf;refine⟨g1,g2,fun q hq=>(by cases hq;exact⟨c,hl⟩),fun xs hx=>⟨fun σ'=>σ'.dB (ρ.aj.lc p) s=some cs,fun σ' h=>(h _ rfl s).trans hcs,?_⟩⟩;exact g3 xs hx (ρ.aj.lc p) s
   ·cases hm
  ·cases hm
 ·obtain⟨hc,h⟩:=gH h
  rw[iP] at hc;split at h
  ·rename_i ar0 xs' hf
   cases h;obtain⟨g1,g2,g3⟩:=ahP hR hI hc.1 hc.2 ha hb (fun _ h=>h) hf;exact⟨g1,g2,fun q hq=>(by cases hq),fun xs hx=>⟨fun _=>True,fun _ _=>trivial,g3 xs hx⟩⟩
  ·cases h
omit hR in
theorem aL.ahR {ρ:aT}{b:Nat}{st:aD R.T}{fr:Fr}{σ σ':au}(h:aL ρ b st fr σ)(hp:∀p x,look st.ob p=some x->σ'.obj (ρ.aj.lc p)=σ.obj (ρ.aj.lc p))(ht:∀s,s<b->σ'.top s=σ.top s):aL ρ b st fr σ':={h with
 fr:=fun i v hv=>(h.fr i v hv).top fun u s hu=>ht s (h.lt u s hu)
 ob:=fun o x hx=>Nu (hp o x hx) (fun u s hu=>ht s (h.lt u s hu)) (h.ob o x hx)}
omit hR in
theorem bB.ahS {L0:Option Loc}{o:Nat}{st st':aD R.T}{ρ ρ':aT}{σ σ' kr:au}(h:bB false o st ρ σ st' ρ' σ')(hp:∀L:Loc,L.1<=ρ.aj.dp->L0≠some L->kr.obj L=σ'.obj L)(hout:∀L:Loc,ρ.aj.out L->L0≠some L)(ho:L0≠some (ρ.aj.lc o))(hn:σ'.next<=kr.next)(hl:∀l,l<σ.next->kr.loops l=σ'.loops l)(ht:∀s,s<ρ.aj.lo->kr.top s=σ'.top s):bB false o st ρ σ st' ρ' kr:=
 ⟨h.ob,h.ln,h.aj,bZ h.nx hn,⟨fun l hl'=>(hl l hl').trans (h.lp.1 l hl'),fun s hs=>(ht s hs).trans (h.lp.2 s hs)⟩,fun L hL ho'=>(hp L (by rcases hL with e|e;cases e;exact e) (hout L ho')).trans (h.dp L hL ho'),fun hr=>⟨(h.ro hr).1,fun s=>by have:=(h.ro hr).2 s;unfold au.dB au.jw at this⊢;rw[hp _ (ρ.aj.wJ o) ho];exact this⟩⟩
omit hR in
theorem ar1 {s:Shape}{o:Nat}(hd:AP [o] s.ob=true){p:rz R.T s}:look (unpack R s p).ob o=none:=by
 cases hu:look (unpack R s p).ob o with
 |none=>rfl|some y=>
  exfalso;obtain⟨sl,ob⟩:=s;cases ob with
  |nil=>cases hu|cons a bQ=>have:=(aaq hd hu).1;unfold bf at this;rw[xA] at this;cases this
omit hR in
theorem ar2 {jc:Option Nat}{W:List Nat}{p:Nat}(h:bf p (Dy jc W)=false):bf p W=false/\jc≠some p:=by
 cases jc with
 |none=>exact⟨h,aC⟩|some o=>have h':(Nat.beq p o||bf p W)=false:=h;rw[kP] at h';exact⟨h'.2,fun e=>by cases e;exact FD h'.1 rfl⟩
omit hR in
theorem ar3 {jc:Option Nat}{W:List Nat}{p:Nat}(h:bf p (Dy jc W)=true)(hw:bf p W=false):jc=some p:=by
 cases jc with
 |none=>rw[show Dy none W=W from rfl,hw] at h;cases h|some o=>have h':(Nat.beq p o||bf p W)=true:=h;rw[hw,Bool.or_false] at h';rw[gG h']
theorem sJ {n:Nat}{aj:Bool}{F:Nat->List (fM R)}{I:IR R}(hF:bg E F)(hI:kg E I){A:fU}:∀c:Code,qG E c=true->aan E aj c fun st k=>gy E R n aj F I A c st k
 |.skip=>fun hw _ st k x fr σ ρ _ h hi=>bM.skip ⟨ρ,st,hi,.refl,h⟩
 |.exit i=>fun hw _ st k x fr σ ρ _ h hi=>bM.exit ⟨ρ,st,hi,.refl,h⟩
 |.ret=>fun hw _ st k x fr σ ρ _ h hi=>bM.ret ⟨ρ,st,hi,.refl,h⟩
 |.region id ops dr=>fun hw β st k x fr σ ρ bK h hi=>by
  have h':(bif dr then (bif tV ops.toList then oK E R aj F I.im (uU ops.toList) ops.toList ops.toList st [] (fun st=>k .normal st) else none) else zo E R aj F I.im ops.toList ops.toList st (fun st=>k .normal st))=some x:=h;have ahT:∀{nr:Bool}{W:List Nat}{st':aD R.T}{fr':Fr}{σ':au}{ρ':aT}{j:Nat},Kp nr W st fr (σ.bump j) ρ st' fr' σ' ρ'->Kp nr W st fr σ ρ st' fr' σ' ρ':=fun h=>⟨h.fr,fun o ho=>⟨(h.ob o ho).ob,(h.ob o ho).ln,(h.ob o ho).aj,bZ (gD _ _) (h.ob o ho).nx,⟨fun l hl=>(h.ob o ho).lp.1 l (iq hl (gD _ _)),(h.ob o ho).lp.2⟩,(h.ob o ho).dp,fun hr=>⟨((h.ob o ho).ro hr).1,((h.ob o ho).ro hr).2⟩⟩⟩;cases dr with
  |true=>rw[cond_true] at h';obtain⟨he,h'⟩:=gH h';refine bM.draw he (FP hR hF hI.2.1 _ σ.next ρ st fr _ [] [] DU.nil (NI hw) bK (hi.next _) (RS _) h' ?_);intro ρ' st' fr' σ' hi' hn hkp hk;exact⟨ρ',st',hi'.le hn,ahT hkp,hk⟩
  |false=>rw[cond_false] at h';refine bM.region (DR hR hF hI.2.1 _ σ.next ρ st fr _ (NI hw) bK (hi.next _) (RS _) h' ?_);intro ρ' st' fr' σ' hi' hn hkp hk;exact⟨ρ',st',hi'.le hn,ahT hkp,hk⟩
 |.seq a b=>fun hw β st k x fr σ ρ bK h hi=>by
  have h':(match look A.joins (qA b) with
   |none=>gy E R n aj F I A a st fun e st=>match e with
    |.normal=>gy E R n aj F I A b st k|e=>k e st
   |some q=>(gy E R n aj F I A (β:=Out R.T q.outs) a ((base (bD E a) q.K q.O .ro st).over st) fun e st=>yh R (bD E a) e st q.outs).bind (Az R (base (bD E a) q.K q.O (fun b=>b) st) (fun e st=>match e with
    |.normal=>gy E R n aj F I A b st k|e=>k e st) q.outs))=some x:=h
  have hw2:qG E a=true/\qG E b=true:=by have hw':((bD E a++bD E b).all fun d=>Nat.blt d F0)=true:=hw;rw[List.all_append,iP] at hw';exact hw'
  have hl:∀i,bf i (bD E (.seq a b))=false->bf i (bD E a)=false/\bf i (bD E b)=false:=fun i hi=>by have hi':bf i (bD E a++bD E b)=false:=hi;rw[Nf,kP] at hi';exact hi'
  have fin:∀(e:Ex)(st':aD R.T)(fr':Fr)(σ':au)(ρ':aT),aL ρ' σ'.next st' fr' σ'->Kp (j5 E a) (bD E a) st fr σ ρ st' fr' σ' ρ'->(match e with
   |.normal=>gy E R n aj F I A b st' k|e=>k e st')=some x->pF E b (fun e fr' σ'=>∃ρ' st',aL ρ' σ'.next st' fr' σ'/\Kp (j5 E (.seq a b)) (bD E (.seq a b)) st fr σ ρ st' fr' σ' ρ'/\k e st'=some x) e fr' σ':=by
   intro e st' fr' σ' ρ' hi' hkp hk;have aar:=(hkp.mono (W':=bD E (.seq a b)) fun i hi=>(hl i hi).1).nr (NC:=j5 E (.seq a b)) (fun e=>by simp only[j5,iP] at e;exact e.1);cases e with
   |normal=>refine(sJ hF hI b hw2.2 _ st' k x fr' σ' ρ' ((congrArg cu.aj hkp.aj).trans bK) hk hi').mono ?_;rintro e DI kr ⟨uq,jF,h1,h2,h3⟩;exact⟨uq,jF,h1,aar.trans ((h2.mono fun i hi=>(hl i hi).2).nr (fun e=>by simp only[j5,iP] at e;exact e.2)),h3⟩
   |exit i=>exact⟨ρ',st',hi',aar,hk⟩|ret=>exact⟨ρ',st',hi',aar,hk⟩
  split at h'
  ·refine bM.seq ((sJ hF hI a hw2.1 _ st _ x fr σ ρ bK h' hi).mono ?_)
   rintro e fr' σ' ⟨ρ',st',hi',hkp,hk⟩;exact fin e st' fr' σ' ρ' hi' hkp hk
  ·rename_i q _
   obtain⟨o,ho,h'⟩:=iR.1 h';have hro:∀o x,look st.ob o=some x->bf o (bD E a)=false->bf o q.O=true->qy (bD E a) x=true->jr ((base (bD E a) q.K q.O .ro st).over st) o:=fun o x h1 h2 h3 h4=>ZG h1 h2 h3 h4;have hH:∀o,bf o (bD E a)=false->jr st o->jr ((base (bD E a) q.K q.O .ro st).over st) o:=fun o _ h=>Ng (agp (fun _ _=>rfl) h) h;have hbase:aL ρ σ.next (base (bD E a) q.K q.O .ro st) fr σ:=hi.base (st0:=(base (bD E a) q.K q.O .ro st).over st) aao (Kp.refl (nr:=false)) hi hro;refine bM.seq ((sJ hF hI a hw2.1 _ _ _ o fr σ ρ bK ho (hbase.over hi)).mono ?_);rintro e fr' σ' ⟨ρ',st',hi',hkp,hk⟩;obtain⟨wK,S2,jF,h1,g1,_,h3,h2⟩:=Jj (β:=β) hR hi' hk;rw[h2] at h';obtain⟨f1,f2⟩:=finish (K:=q.K) hi hH hro (hkp.trans g1) h1 fun o ho hr=>h3 o ho ((hkp.ob o ho).ro hr).1;exact fin e _ fr' σ' wK f1 f2 h'
 |.cond c a b=>fun hw β st k x fr σ ρ bK h hi=>by
  have h':(match dK [] st c with
   |some (.ji t)=>bif t then gy E R n aj F I A a st k else gy E R n aj F I A b st k|some (.bool t)=>bif t then gy E R n aj F I A a (st.Ir c true) k else gy E R n aj F I A b (st.Ir c false) k|_=>none)=some x:=h
  have hw2:qG E a=true/\qG E b=true:=by have hw':((bD E a++bD E b).all fun d=>Nat.blt d F0)=true:=hw;rw[List.all_append,iP] at hw';exact hw'
  have hl:∀i,bf i (bD E (.cond c a b))=false->bf i (bD E a)=false/\bf i (bD E b)=false:=fun i hi=>by have hi':bf i (bD E a++bD E b)=false:=hi;rw[Nf,kP] at hi';exact hi'
  have ha:∀st':aD R.T,st'.ob=st.ob->aL ρ σ.next st' fr σ->gy E R n aj F I A a st' k=some x->bM E a fr σ fun e fr' σ'=>∃ρ' st',aL ρ' σ'.next st' fr' σ'/\Kp (j5 E (.cond c a b)) (bD E (.cond c a b)) st fr σ ρ st' fr' σ' ρ'/\k e st'=some x:=fun st' hs hi' hk=>by refine(sJ hF hI a hw2.1 _ st' k x fr σ ρ bK hk hi').mono ?_;rintro e DI kr ⟨uq,jF,h1,h2,h3⟩;exact⟨uq,jF,h1,((⟨h2.fr,fun o ho=>(h2.ob o ho).from hs⟩:Kp (j5 E a) (bD E a) st fr σ ρ jF DI kr uq).mono fun i hi=>(hl i hi).1).nr (fun e=>by simp only[j5,iP] at e;exact e.1),h3⟩
  have hb:∀st':aD R.T,st'.ob=st.ob->aL ρ σ.next st' fr σ->gy E R n aj F I A b st' k=some x->bM E b fr σ fun e fr' σ'=>∃ρ' st',aL ρ' σ'.next st' fr' σ'/\Kp (j5 E (.cond c a b)) (bD E (.cond c a b)) st fr σ ρ st' fr' σ' ρ'/\k e st'=some x:=fun st' hs hi' hk=>by refine(sJ hF hI b hw2.2 _ st' k x fr σ ρ bK hk hi').mono ?_;rintro e DI kr ⟨uq,jF,h1,h2,h3⟩;exact⟨uq,jF,h1,((⟨h2.fr,fun o ho=>(h2.ob o ho).from hs⟩:Kp (j5 E b) (bD E b) st fr σ ρ jF DI kr uq).mono fun i hi=>(hl i hi).2).nr (fun e=>by simp only[j5,iP] at e;exact e.2),h3⟩
  split at h'
  ·rename_i t hc
   refine bM.cond (dz (E:=E) hi .nil hc).vB (fun e=>?_) (fun e=>?_)
   ·subst e;exact ha st rfl hi h'
   ·subst e;exact hb st rfl hi h'
  ·rename_i t hc
   have hl:aL ρ σ.next (st.Ir c t) fr σ/\(st.Ir c t).ob=st.ob:=by
    cases c with
    |tmp j=>exact⟨hi.learn (show av R ρ σ.top (.bool t) (fr.tm j) from hi.fr _ _ (arE hc)).rF,rfl⟩|_=>exact⟨hi,rfl⟩
   refine bM.cond (dz (E:=E) hi .nil hc).rF (fun e=>?_) (fun e=>?_)
   ·subst e;exact ha _ hl.2 hl.1 h'
   ·subst e;exact hb _ hl.2 hl.1 h'
  ·cases h'
 |.block id c=>fun hw β st k x fr σ ρ bK h hi=>by
  have h':(gy E R n aj F I A c st fun e st=>match e with
   |.exit i=>bif Nat.beq i id then k .normal st else k (.exit i) st|e=>k e st)=some x:=h
  refine bM.block ((sJ hF hI c hw _ st _ x fr σ ρ bK h' hi).mono ?_);rintro e fr' σ' ⟨ρ',st',hi',hkp,hk⟩;cases e with
  |normal=>exact⟨ρ',st',hi',hkp,hk⟩|ret=>exact⟨ρ',st',hi',hkp,hk⟩|exit i=>
   dsimp only at hk;unfold u6;dsimp only;cases hb:Nat.beq i id
   ·rw[hb] at hk
    rw[if_neg (FD hb)];exact⟨ρ',st',hi',hkp,hk⟩
   ·rw[hb] at hk
    rw[if_pos (gG hb)];exact⟨ρ',st',hi',hkp,hk⟩
 |.loop c=>fun hw β st k x fr σ ρ bK h hi=>by
  have h':(match look A.loops (qA c) with
   |some q=>match og R (bD E c) st q.sh with
    |some p=>(zq (qA c) (bD E c) (base (bD E c) q.K q.O .ro st) q.sh q.outs (fun st k=>gy E R n aj F I A c st k) n p).bind (Az R (base (bD E c) q.K q.O (fun b=>b) st) k q.outs)
    |none=>none
   |none=>M7 (R:=R) (fun st k=>gy E R n aj F I A c st k) 130 st k)=some x:=h
  split at h'
  ·rename_i q _
   split at h'
   ·rename_i p hp
    obtain⟨o,ho,h'⟩:=iR.1 h';obtain⟨jv,S1,p1,p2,_,p3⟩:=hi.og (nr:=j5 E c) hR hp;have hro:∀o x,look st.ob o=some x->bf o (bD E c)=false->bf o q.O=true->qy (bD E c) x=true->jr ((base (bD E c) q.K q.O .ro st).over (unpack R q.sh p)) o:=fun o x h1 h2 h3 h4=>ZG h1 h2 h3 h4;have hH:∀o,bf o (bD E c)=false->jr st o->jr ((base (bD E c) q.K q.O .ro st).over (unpack R q.sh p)) o:=fun o ho h=>agn (p3 o ho h);have hB:∀(st' S':aD R.T)(fr':Fr)(σ':au)(ρ':aT)(b':Nat),aL ρ' b' st' fr' σ'->Kp (j5 E c) (bD E c) ((base (bD E c) q.K q.O .ro st).over (unpack R q.sh p)) fr σ ρ S' fr' σ' ρ'->aL ρ' b' (base (bD E c) q.K q.O .ro st) fr' σ':=
     fun st' S' fr' σ' ρ' b' h1 h2=>hi.base aao h2 h1 hro
    have hk0:Kp (j5 E c) (bD E c) ((base (bD E c) q.K q.O .ro st).over (unpack R q.sh p)) fr σ ρ ((base (bD E c) q.K q.O .ro st).over (unpack R q.sh p)) fr σ jv:=⟨fun _ _=>rfl,fun q hq=>⟨(p2.ob q hq).ob,(p2.ob q hq).ln,(p2.ob q hq).aj,RS _,⟨fun _ _=>rfl,fun _ _=>rfl⟩,fun _ _ _=>rfl,fun hr=>⟨hr,fun _=>⟨rfl,rfl⟩⟩⟩⟩;refine(ahI (β:=β) hR (sJ hF hI c hw) bK hB (fun o=>fun y hy=>by obtain⟨z,_,_,rfl⟩:=BZ hy;rfl) n p o fr σ jv ho p1 hk0).mono ?_;rintro e fr' σ' ⟨ρ',S',st',hi',hkp,hn,hk⟩;obtain⟨f1,f2⟩:=finish (K:=q.K) hi hH hro hkp hi' hn;exact⟨ρ',_,f1,f2,by rw[<-hk k];exact h'⟩
   ·cases h'
  ·exact ahJ (sJ hF hI c hw) 130 st k x fr σ ρ bK h' hi
 |.rangeFunc f ps a c=>fun hw β st k x fr σ ρ bK h hi=>by
  have h':(match look A.loops (qA c) with
  |some q=>match dK [] st f with
   |some (.fn g u v)=>bif AP q.O q.sh.ob then (match iterM st I g u v with
    |some ⟨el,xs,jc,kq⟩=>bif afL jc (ps.toList++bD E a++bD E c) q.sh.ob&& (bif kq then j5 E a&& j5 E c else true) then (match og R (ps.toList++bD E a++bD E c) st.obs q.sh with
     |some p=>(xs.bind fun xs=>qz (qA c) (ps.toList++bD E a++bD E c) (base (Dy jc (ps.toList++bD E a++bD E c)) q.K q.O .ro st) q.sh q.outs (fun x st k=>match Fz st ps.toList (eY R .sh el x) with
       |some st=>gy E R n aj F I A a st fun e st=>match e with
        |.normal=>gy E R n aj F I A c st k|_=>none
       |none=>none) xs p).bind (Az R (base (Dy jc (ps.toList++bD E a++bD E c)) q.K q.O (fun b=>b) st) k q.outs)
     |none=>none) else none
    |none=>none) else none
   |_=>none
  |none=>none)=some x:=h
  split at h'
  ·rename_i q _
   split at h'
   ·rename_i g u v hf
    obtain⟨hst,h'⟩:=gH h';have hdj:=hst;split at h'
    ·rename_i el xs jc kq hfi
     obtain⟨ahU,h'⟩:=gH h';rw[iP] at ahU;obtain⟨hok,hquiet⟩:=ahU;split at h'
     ·rename_i p hp
      obtain⟨o,ho,h'⟩:=iR.1 h';obtain⟨ys,hys,ho⟩:=iR.1 ho;obtain⟨va,vb,Dl,hva,hvb⟩:=(dz (E:=E) hi .nil hf).lg;obtain⟨himp,hel,hcell,hit⟩:=arZ hR hI hi hva hvb hfi;obtain⟨pre,hpre,hit⟩:=hit ys hys;obtain⟨jv,S1,p1,p2,p0,p3⟩:=hi.obs.og (nr:=false) hR hp;have hw3:qG E a=true/\qG E c=true:=(by have hw':((ps.toList++bD E a++bD E c).all fun d=>Nat.blt d F0)=true:=hw;rw[List.all_append,List.all_append,iP,iP] at hw';exact⟨hw'.1.2,hw'.2⟩);clear hw;generalize hW:ps.toList++bD E a++bD E c=W at*;have hl:∀i,bf i W=false->bf i ps.toList=false/\bf i (bD E a)=false/\bf i (bD E c)=false:=fun i hi=>by rw[<-hW,Nf,Nf,kP,kP] at hi;exact⟨hi.1.1,hi.1.2,hi.2⟩
      have NJ:∀p,jc=some p->bf p W=false/\∀p':rz R.T q.sh,look (unpack R q.sh p').ob p=none:=(by rintro p rfl;have hok':(!(bf p W)&& AP [p] q.sh.ob)=true:=hok;rw[iP,rU] at hok';exact⟨hok'.1,fun p'=>ar1 hok'.2⟩);have hne:∀p,jc≠some p->AX ρ jc≠some (ρ.aj.lc p):=fun p hp e=>by obtain⟨p',h1,h2⟩:=aZ.1 e;rw[ρ.aj.M8 h2] at h1;exact hp h1
      have hout:∀L:Loc,ρ.aj.out L->AX ρ jc≠some L:=fun L hL e=>by obtain⟨p',h1,h2⟩:=aZ.1 e;exact hL p' h2.symm
      generalize ahV:Dy jc W=Wb at*;have hsub:∀p,bf p Wb=false->bf p W=false/\jc≠some p:=fun p hp=>ar2 (by rw[ahV];exact hp);have hro:∀o x,look st.ob o=some x->bf o Wb=false->bf o q.O=true->qy Wb x=true->jr ((base Wb q.K q.O .ro st).over (unpack R q.sh p)) o:=fun o x h1 h2 h3 h4=>ZG h1 h2 h3 h4;have hH:∀o,bf o Wb=false->jr st o->jr ((base Wb q.K q.O .ro st).over (unpack R q.sh p)) o:=fun o ho h=>agn (p3 o (hsub o ho).1 h);generalize ar4:(base Wb q.K q.O .ro st).over (unpack R q.sh p)=H at*;have hB:∀(st' S':aD R.T)(σ':au)(ρ':aT)(b':Nat),aL ρ' b' st' fr σ'->Kp false Wb H fr σ ρ S' fr σ' ρ'->aL ρ' b' (base Wb q.K q.O .ro st) fr σ':=
       fun st' S' σ' ρ' b' h1 h2=>hi.base aao h2 h1 hro
      have ahW:∀o,jr (base Wb q.K q.O .ro st) o:=fun o=>fun y hy=>by obtain⟨z,_,_,rfl⟩:=BZ hy;rfl
      let r0:rV:={st:=0,pend:=none,fr:=fr,ps:=ps.toList,fQ:=a,body:=c}
      let body:{β:Type}->aW R.T el->aD R.T->(Ex->aD R.T->Option β)->Option β:=fun x st k=>match Fz st ps.toList (eY R .sh el x) with
          |some st=>gy E R n aj F I A a st fun e st=>match e with
           |.normal=>gy E R n aj F I A c st k|_=>none
          |none=>none
      let aas:aT->Prop:=fun ρ'=>∀p,bf p W=false->ρ'.ob p=ρ.ob p/\ρ'.ln p=ρ.ln p
      let J:List (List V)->au->Prop:=fun L σ'=>∃(zs:List (aW R.T el)) (p':rz R.T q.sh) (ρ':aT),L=zs.map (bX R el)/\qz (qA c) W (base Wb q.K q.O .ro st) q.sh q.outs body zs p'=some o/\aL ρ' σ'.next (unpack R q.sh p') fr σ'/\(unpack R q.sh p').fr=[]/\
       Kp false Wb H fr σ ρ ((base Wb q.K q.O .ro st).over (unpack R q.sh p')) fr σ' ρ'/\σ'.loops σ.next=some r0/\aas ρ'
      let Fin:Ex->au->Prop:=fun e σ'=>∃(ρ':aT) (S' st':aD R.T),aL ρ' σ'.next st' fr σ'/\Kp false Wb H fr σ ρ S' fr σ' ρ'/\(∀o,bf o Wb=false->jr H o->look st'.ob o=none)/\(∀(k:Ex->aD R.T->Option β)(bs:aD R.T),Az R bs k q.outs o=k e (bs.over st'))/\aas ρ'/\∀p,jc=some p->look st'.ob p=none
      let D:au->Prop:=fun σ'=>∃e,Fin e σ'/\σ'.loops σ.next=some {r0 with st:=2,pend:=some e}
      have ar5:∀L σ1 σ2,σ.next<σ1.next->J L σ1->wM ρ.aj.dp (AX ρ jc) σ1 σ2->J L σ2:=(by rintro L σ1 σ2 hlt ⟨zs,p',ρ',e1,e2,e3,e4,e5,e6,e7⟩ hs;exact⟨zs,p',ρ',e1,e2,(e3.ahR (fun p x hx=>hs.obj _ (ahM e5.aj p) (by rw[e5.aj];exact hne p fun e=>by rw[(NJ p e).2 p'] at hx;cases hx)) hs.top).le hs.next,e4,⟨e5.fr,fun o ho=>(e5.ob o ho).ahS (fun L hL hn=>hs.obj L hL hn) hout (hne o (hsub o ho).2) hs.next (fun l hl=>hs.loops l ah) (fun s hs'=>hs.top s (by have:=hi.nx;omega))⟩,(hs.loops _ hlt).trans e6,e7⟩);have ar6:∀σ1 σ2,σ.next<σ1.next->D σ1->wM ρ.aj.dp (AX ρ jc) σ1 σ2->D σ2:=(by rintro σ1 σ2 hlt ⟨e,⟨ρ',S',st',e1,e2,e3,e4,e7,e8⟩,e5⟩ hs;exact⟨e,⟨ρ',S',st',(e1.ahR (fun p x hx=>hs.obj _ (ahM e2.aj p) (by rw[e2.aj];exact hne p fun e=>by rw[e8 p e] at hx;cases hx)) hs.top).le hs.next,⟨e2.fr,fun o ho=>(e2.ob o ho).ahS (fun L hL hn=>hs.obj L hL hn) hout (hne o (hsub o ho).2) hs.next (fun l hl=>hs.loops l ah) (fun s hs'=>hs.top s (by have:=hi.nx;omega))⟩,e3,e4,e7,e8⟩,(hs.loops _ hlt).trans e5⟩);have fin:∀(σ2:au)(r:rV)(e:Ex),Fin e σ2->∃ρ' st',aL ρ' (σ2.qd σ.next).next st' fr (σ2.qd σ.next)/\Kp false (bD E (.rangeFunc f ps a c)) st fr σ ρ st' fr (σ2.qd σ.next) ρ'/\k e st'=some x:=by
       rintro σ2 r e ⟨ρ',S',st',e1,e2,e3,e4,e7,e8⟩;have ar7:aL ρ' σ2.next st' fr (σ2.qd σ.next):=e1.shift (fun _=>rfl) (fun _ _=>rfl);have e2':Kp false Wb H fr σ ρ S' fr (σ2.qd σ.next) ρ':=⟨e2.fr,fun o ho=>(e2.ob o ho).shift (fun _ _=>rfl) (RS _) (fun l hl=>by show upd σ2.loops σ.next none l=_;unfold upd;rw[if_neg ah]) (fun _ _=>rfl)⟩;obtain⟨f1,f2⟩:=finish (K:=q.K) hi hH hro e2' ar7 e3;refine⟨ρ',_,f1,?_,by rw[<-e4 k];exact h'⟩;show Kp false (ps.toList++bD E a++bD E c) _ _ _ _ _ _ _ _;rw[hW];refine⟨fun _ _=>rfl,fun p hp=>?_⟩;cases hb:bf p Wb with
       |false=>exact f2.ob p hb|true=>obtain⟨cc,hc⟩:=hcell p (ar3 (by rw[ahV];exact hb) hp);obtain⟨nb,hnb⟩:=Ca Wb;have g:=f2.ob nb (hnb nb (RS _));exact⟨(e7 p hp).1,(e7 p hp).2,g.aj,g.nx,g.lp,g.dp,fun hr=>by have:=hr _ hc;cases this⟩
      refine bM.range Dl himp ?_;rw[hi.d];have hent:(σ.enter fr ps a c).next=σ.next+1:=rfl;obtain⟨m,w,σ2,hm,hnx,ar8⟩:=hit ρ.aj.dp σ.next (σ.enter fr ps a c) J D (fun loc hl=>by obtain⟨p',_,rfl⟩:=aZ.1 hl;exact ρ.aj.wJ p') ar5 ar6 (by
       rintro y L σ1 hlt ⟨zs,p',ρ',e1,e2,e3,e4,e5,e6,e7⟩;cases zs with
       |nil=>cases e1|cons z zs=>
        simp only[fG,qb] at e1;obtain⟨rfl,rfl⟩:=e1;have hbase:=hB _ _ _ _ _ e3 e5;have e2':body z ((base Wb q.K q.O .ro st).over (unpack R q.sh p')) (aap (qA c) W (base Wb q.K q.O .ro st) q.sh q.outs body zs)=some o:=e2;show∃c' σ',wL E σ.next (bX R el z) σ1 c' σ'/\_;generalize hkk:aap (qA c) W (base Wb q.K q.O .ro st) q.sh q.outs body zs=kk at e2';dsimp only[body] at e2';split at e2'
        ·rename_i st1 Dh
         obtain⟨hlen,i1,i2⟩:=ahN Dh (yB hR el z hel) (hbase.over e3);have Np:ρ'.aj.aj=aj:=(congrArg cu.aj e5.aj).trans bK;obtain⟨m1,x1,bT,σ2,q1,wK,st2,q2,q3,q4⟩:=sJ hF hI a hw3.1 _ _ _ _ _ _ ρ' Np e2' i1;cases x1 with
         |exit i=>cases q4|ret=>cases q4|normal=>
          dsimp only at q4;obtain⟨nb,hnb⟩:=Ca (bD E a);have lp2:σ2.loops σ.next=some r0:=((q3.ob nb (hnb nb (RS _))).lp.1 _ hlt).trans e6;have ahX:=(q3.ob nb (hnb nb (RS _))).nx;have q2':aL wK σ2.next st2 bT (σ2.iY σ.next {r0 with st:=1}):=q2.shift (fun _=>rfl) (fun _ _=>rfl);obtain⟨m2,x2,fT,σ3,t1,Us,pz,t2,t3,t4⟩:=sJ hF hI c hw3.2 _ _ _ _ bT (σ2.iY σ.next {r0 with st:=1}) wK ((congrArg cu.aj q3.aj).trans Np) q4 q2';obtain⟨nc,hnb'⟩:=Ca (bD E c);have ar9:σ3.loops σ.next=some {r0 with st:=1}:=((t3.ob nc (hnb' nc (RS _))).lp.1 _ (show σ.next<σ2.next by omega)).trans (by show upd σ2.loops σ.next _ σ.next=_;unfold upd;rw[if_pos rfl]);have aat:σ2.next<=σ3.next:=(t3.ob nc (hnb' nc (RS _))).nx;have keep:∀p,bf p Wb=false->bB false p H ρ σ pz Us σ3:=fun p hpb=>by
           have hp:=(hsub p hpb).1;have k1:=e5.ob p hpb;have k2:bB false p ((base Wb q.K q.O .ro st).over (unpack R q.sh p')) ρ' σ1 st2 wK σ2:=(q3.ob p (hl p hp).2.1).weak.from i2;have k3:=(t3.ob p (hl p hp).2.2).weak;have k12:=k1.trans k2;refine⟨k3.ob.trans k12.ob,k3.ln.trans k12.ln,k3.aj.trans k12.aj,bZ k12.nx aat,⟨fun l hl=>?_,fun s hs=>(k3.lp.2 s (by rw[k12.aj];exact hs)).trans (k12.lp.2 s hs)⟩,fun L hn hL=>(k3.dp L (by rw[k12.aj];exact hn) (by rw[k12.aj];exact hL)).trans (k12.dp L hn hL),fun hr=>?_⟩
           ·refine(k3.lp.1 l (show l<σ2.next by have:=k12.nx;omega)).trans (Eq.trans ?_ (k12.lp.1 l hl))
            show upd σ2.loops σ.next _ l=_;unfold upd;rw[if_neg ah]
           ·have r1:=k12.ro hr
            have r2:=k3.ro r1.1;rw[k12.aj] at r2;exact⟨r2.1,fun s=>⟨(r2.2 s).1.trans (r1.2 s).1,(r2.2 s).2.trans (r1.2 s).2⟩⟩
          have fd:∀(r':rV),aL Us σ3.next pz.obs fT (σ3.iY σ.next r'):=fun r'=>t2.obs.shift (fun _=>rfl) (fun _ _=>rfl);have keep':∀(r':rV),∀p,bf p Wb=false->bB false p H ρ σ pz.obs Us (σ3.iY σ.next r'):=fun r' p hp=>((keep p hp).congr (jF:=pz.obs) rfl).shift (kr:=σ3.iY σ.next r') (fun _ _=>rfl) (RS _) (fun l hl=>by show upd σ3.loops σ.next _ l=_;unfold upd;rw[if_neg ah]) (fun _ _=>rfl);have ahY:∀(r':rV),(σ3.iY σ.next r').loops σ.next=some r':=fun r'=>by show upd σ3.loops σ.next _ σ.next=_;unfold upd;rw[if_pos rfl]
          have deep:∀(r':rV),kq=true->∀a o,ρ.aj.dp<a->(σ3.iY σ.next r').obj (a,o)=σ1.obj (a,o):=fun r' hkq a o ha=>by
           subst hkq;rw[cond_true,iP] at hquiet;obtain⟨hna,hnc⟩:=hquiet;exact
           ((t3.ob nc (hnb' nc (RS _))).dp (a,o) (.inl hnc) (cu.agl _ (by rw[q3.aj,e5.aj];exact ha))).trans ((q3.ob nb (hnb nb (RS _))).dp (a,o) (.inl hna) (cu.agl _ (by rw[e5.aj];exact ha)))
          have loops:∀(r':rV) s,s<σ1.next->(σ3.iY σ.next r').loops s=σ1.loops s\/s=σ.next:=fun r' s hs=>by
           by_cases es:s=σ.next
           ·exact .inr es
           ·left
            have u1:(σ3.iY σ.next r').loops s=σ3.loops s:=(by show upd σ3.loops σ.next _ s=_;unfold upd;rw[if_neg es]);have u2:(σ2.iY σ.next {r0 with st:=1}).loops s=σ2.loops s:=(by show upd σ2.loops σ.next _ s=_;unfold upd;rw[if_neg es]);exact u1.trans (((t3.ob nc (hnb' nc (RS _))).lp.1 s (show s<σ2.next by omega)).trans (u2.trans ((q3.ob nb (hnb nb (RS _))).lp.1 s hs)))
          have keepR:aas Us:=fun p hp=>⟨((t3.ob p (hl p hp).2.2).ob.trans (q3.ob p (hl p hp).2.1).ob).trans (e7 p hp).1,((t3.ob p (hl p hp).2.2).ln.trans (q3.ob p (hl p hp).2.1).ln).trans (e7 p hp).2⟩;have ahZ:∀p,jc=some p->jr pz p/\∀s,σ3.dB (ρ.aj.lc p) s=σ1.dB (ρ.aj.lc p) s:=fun p hp=>by
           obtain⟨ah0,hpn⟩:=NJ p hp;have asa:jr st1 p:=fun y hy=>by rw[i2] at hy;exact Ng (ahW p) (fun y hy=>by rw[hpn p'] at hy;cases hy) y hy
           have r1:=(q3.ob p (hl p ah0).2.1).ro asa;have r2:=(t3.ob p (hl p ah0).2.2).ro r1.1;refine⟨r2.1,fun s=>?_⟩;have a1:=(r1.2 s).1;have a2:=(r2.2 s).1;rw[e5.aj] at a1;rw[q3.aj,e5.aj] at a2;exact a2.trans a1
          have own:∀(r':rV) loc,AX ρ jc=some loc->∀s,(σ3.iY σ.next r').dB loc s=σ1.dB loc s:=fun r' loc hl s=>by obtain⟨p',h1,rfl⟩:=aZ.1 hl;exact(ahZ p' h1).2 s
          have ah1:∀(bb:Bool)(σ':au),ahK r0 σ.next σ3 x2 bb σ'->wL E σ.next (bX R el z) σ1 bb σ':=fun bb σ' hbb=>
           wL.of e6 rfl hlen ⟨m1,.normal,bT,σ2,q1,rfl,r0,lp2,rfl,m2,x2,fT,σ3,t1,_,ar9,rfl,by cases x2<;>exact hbb⟩
          have stop:∀e,ahK r0 σ.next σ3 x2 false (σ3.iY σ.next {r0 with st:=2,pend:=some e})->yh R W e pz.obs q.outs=some o->∃c' σ',wL E σ.next (bX R el z) σ1 c' σ'/\σ1.next<=σ'.next/\(kq=true->∀a o,ρ.aj.dp<a->σ'.obj (a,o)=σ1.obj (a,o))/\(∀loc,AX ρ jc=some loc->∀s,σ'.dB loc s=σ1.dB loc s)/\(∀s,s<σ1.next->σ'.loops s=σ1.loops s\/s=σ.next)/\(c'=true->J (zs.map (bX R el)) σ')/\(c'=false->D σ'):=(by intro e he hpk;obtain⟨FR,S4,nW,g1,g2,g3,g4,g5⟩:=Jj (nr:=false) (β:=β) hR (fd {r0 with st:=2,pend:=some e}) hpk;have NK:FR.aj=ρ.aj:=(by obtain⟨nw,hnw⟩:=Ca Wb;exact g2.aj.trans (keep nw (hnw nw (RS _))).aj);refine⟨false,σ3.iY σ.next {r0 with st:=2,pend:=some e},ah1 _ _ he,bZ ahX aat,deep _,own _,loops _,(fun h=>bC),fun _=>⟨e,⟨FR,S4,nW,g1.ahL (g3 rfl) (by rw[NK];exact hi.d) (by rw[NK];exact hi.aj),⟨fun _ _=>rfl,fun p hp=>(keep' _ p hp).trans (g2.ob p (hsub p hp).1)⟩,fun p hp hr=>g4 p (hsub p hp).1 ((keep p hp).ro hr).1,g5,fun p hp=>⟨(g2.ob p hp).ob.trans (keepR p hp).1,(g2.ob p hp).ln.trans (keepR p hp).2⟩,fun p hp=>g4 p (NJ p hp).1 (ahZ p hp).1⟩,ahY _⟩⟩);cases x2 with
          |normal=>
           rw[<-hkk] at t4;unfold aap at t4;dsimp only at t4;split at t4
           ·rename_i p4 asb
            obtain⟨FR,S4,g1,g2,g3,g4⟩:=(fd {r0 with st:=0,pend:=none}).og (nr:=false) hR asb;have NK:FR.aj=ρ.aj:=(by obtain⟨nw,hnw⟩:=Ca Wb;exact g2.aj.trans (keep nw (hnw nw (RS _))).aj);refine⟨true,σ3.iY σ.next {r0 with st:=0,pend:=none},ah1 _ _ ⟨rfl,rfl⟩,bZ ahX aat,deep _,own _,loops _,fun _=>⟨zs,p4,FR,rfl,t4,g1.ahL (g3 rfl) (by rw[NK];exact hi.d) (by rw[NK];exact hi.aj),g3 rfl,⟨fun _ _=>rfl,fun p hp=>?_⟩,ahY _,fun p hp=>⟨(g2.ob p hp).ob.trans (keepR p hp).1,(g2.ob p hp).ln.trans (keepR p hp).2⟩⟩,fun h=>bC⟩
            ·have kk:=(keep' {r0 with st:=0,pend:=none} p hp).trans (g2.ob p (hsub p hp).1)
             exact⟨kk.ob,kk.ln,kk.aj,kk.nx,kk.lp,kk.dp,fun hr=>⟨Ng (ahW p) fun y hy=>(by rw[g4 p (hsub p hp).1 ((keep p hp).ro hr).1] at hy;cases hy),(kk.ro hr).2⟩⟩
           ·cases t4
          |exit i=>rw[<-hkk] at t4;exact stop (.exit i) ⟨rfl,rfl⟩ t4|ret=>rw[<-hkk] at t4;exact stop .ret ⟨rfl,rfl⟩ t4
        ·cases e2') (CO _) (hpre _ fun _ _ _=>rfl) (by
       refine⟨ys,p,jv,rfl,ho,(p1.shift (σ':=σ.enter fr ps a c) (fun _=>rfl) (fun _ _=>rfl)).le (kD _),p0 rfl,⟨fun _ _=>rfl,fun o gX=>?_⟩,?_,fun p hp=>⟨(p2.ob p hp).ob,(p2.ob p hp).ln⟩⟩
       ·have ho:=(hsub o gX).1
        rw[ar4];exact⟨(p2.ob o ho).ob,(p2.ob o ho).ln,(p2.ob o ho).aj,kD _,⟨fun l hl=>(by show upd σ.loops σ.next _ l=_;unfold upd;rw[if_neg ah]),fun _ _=>rfl⟩,fun _ _ _=>rfl,fun hr=>⟨hr,fun _=>⟨rfl,rfl⟩⟩⟩
       ·show upd σ.loops σ.next _ σ.next=_;unfold upd;rw[if_pos rfl])
      refine⟨m,w,σ2,hm,?_⟩;rcases ar8 with ⟨zs,p',ρ',e1,e2,e3,e4,e5,e6,e7⟩| ⟨e,hfin,e6⟩
      ·cases zs with
       |cons z zs=>cases e1|nil=>
        have e2':yh R W .normal (unpack R q.sh p').obs q.outs=some o:=e2;obtain⟨FR,S4,nW,g1,g2,g3,g4,g5⟩:=Jj (nr:=false) (β:=β) hR e3.obs e2';have hno:∀p,bf p Wb=false->jr H p->look (unpack R q.sh p').ob p=none:=fun p hp hr=>arY hdj ((e5.ob p hp).ro hr).1;have Ut:∀p,bf p Wb=false->jr H p->jr (unpack R q.sh p').obs p:=fun p hp hr y hy=>by have:look (unpack R q.sh p').ob p=some y:=hy;rw[hno p hp hr] at this;cases this
        exact⟨_,e6,(by show (0:Nat)≠1;omega),fin σ2 r0 .normal ⟨FR,S4,nW,g1,⟨fun _ _=>rfl,fun p hp=>by
         have a1:=e5.ob p hp;have a2:=g2.ob p (hsub p hp).1;have Uu:=a2.ro;rw[a1.aj] at Uu;exact⟨a2.ob.trans a1.ob,a2.ln.trans a1.ln,a2.aj.trans a1.aj,bZ a1.nx a2.nx,⟨fun l hl=>(a2.lp.1 l (iq hl a1.nx)).trans (a1.lp.1 l hl),fun s hs=>(a2.lp.2 s (by rw[a1.aj];exact hs)).trans (a1.lp.2 s hs)⟩,fun L hn hL=>(a2.dp L (by rw[a1.aj];exact hn) (by rw[a1.aj];exact hL)).trans (a1.dp L hn hL),fun hr=>⟨(Uu (Ut p hp hr)).1,fun s=>⟨((Uu (Ut p hp hr)).2 s).1.trans ((a1.ro hr).2 s).1,((Uu (Ut p hp hr)).2 s).2.trans ((a1.ro hr).2 s).2⟩⟩⟩⟩,fun p hp hr=>g4 p (hsub p hp).1 (Ut p hp hr),g5,fun p hp=>⟨(g2.ob p hp).ob.trans (e7 p hp).1,(g2.ob p hp).ln.trans (e7 p hp).2⟩,fun p hp=>g4 p (NJ p hp).1 fun y hy=>by
         have hy':look (unpack R q.sh p').ob p=some y:=hy;rw[(NJ p hp).2 p'] at hy';cases hy'⟩⟩
      ·exact⟨_,e6,(by show (2:Nat)≠1;omega),fin σ2 r0 e hfin⟩
     ·cases h'
    ·cases h'
   ·cases h'
  ·cases h'
 |.scope c=>fun hw β st k x fr σ ρ bK h hi=>bM.scope (sJ hF hI c hw _ st k x fr σ ρ bK h hi)
 |.label _=>fun hw _ st k x fr σ ρ _ h hi=>bM.label ⟨ρ,st,hi,.refl,h⟩
 |.goto _=>fun hw _ st k x fr σ ρ _ h hi=>bC
 |.refuse _=>fun hw _ st k x fr σ ρ _ h hi=>bC
omit hR in
theorem Ju {ρ:aT}{b:Nat}{st:aD R.T}{fr:Fr}{σ:au}(hi:aL ρ b st fr σ):∀{rs:List ResultVar}{gq:List (ak R.T)},wI E R st rs=some gq->∃vs,rs.mapM (lJ E fr σ)=some vs/\aF R ρ σ.top gq vs
 | [],gq,h=>by cases h;exact⟨[],rfl,rfl⟩|.tmp t::l,gq,h=>by
  unfold wI at h;split at h
  ·rename_i v hv
   split at h
   ·rename_i vs hvs
    cases h;obtain⟨ws,h1,h2⟩:=Ju hi hvs;have:=dz (E:=E) hi .nil hv;exact⟨fr.tm t::ws,by rw[jL];simp[lJ,h1],.cons' this h2⟩
   ·cases h
  ·cases h
 |.cell a t::l,gq,h=>by
  unfold wI at h;split at h
  ·rename_i o off hv
   split at h
   ·rename_i cs hl
    split at h
    ·rename_i v hld
     split at h
     ·rename_i vs hvs
      cases h;obtain⟨ws,h1,h2⟩:=Ju hi hvs;obtain⟨s,h3,h4⟩:=(dz (E:=E) hi .nil hv).sF;rw[MF] at h4;obtain⟨s',l',h5,h6,h7⟩:=hi.rd hl;rw[h3] at h5;cases h5;obtain⟨y,hy,hr⟩:=Cb h7 hld;exact⟨y::ws,by rw[jL];simp[lJ,h4,h6,hy,h1],.cons' hr h2⟩
     ·cases h
    ·cases h
   ·cases h
  ·cases h
omit hR in
theorem NM:∀(l:List (ak R.T))(vs:List V)(i:Nat)(P:ak R.T->V->Prop),(∀j v,l[j]? =some v->P v (vs.getD j aK))->∀j v,look (zu i l) j=some v->i<=j/\P v (vs.getD (j-i) aK)
 | [],vs,i,P,_,j,v,h=>bC|x::l,vs,i,P,hp,j,v,h=>by
  have h':look ((i,x)::zu (i+1) l) j=some v:=h;by_cases e:j=i
  ·subst e
   rw[lD] at h';cases h';exact⟨RS _,by simpa using hp 0 x rfl⟩
  ·rw[je _ _ e] at h'
   obtain⟨h1,h2⟩:=NM l vs.tail (i+1) P (fun j v hj=>by have:=hp (j+1) v vO;cases vs<;>simpa using this) j v h';refine⟨ah,?_⟩;have e2:j-i=(j-(i+1))+1:=ah
   rw[e2];cases vs<;>simpa using h2
def cu.main (aj:Bool):cu:=⟨aj,1,0,fun _=>none,fun _ _ h=>bC,fun _ _ _ h=>bC⟩
theorem asc {n:Nat}{aj:Bool}{F:Nat->List (fM R)}{I:IR R}(hF:bg E F)(hI:kg E I){A:fU}{f:Nat}{fn:Func}{args res:List aM}{p:aW R.T args}{x:aW R.T res}(h:Jb E R n aj F I A fn args res p=some x)(hf:E.P.funcs[f]? =some fn)(ha:gu args=true)(hlen:(bX R args p).length=args.length)(bK:E.aj f=aj)(hs:E.qV f=none)(hok:(match fn.body with|some c=>decide (args.length<=fn.ntmps)&& jg fn.ntmps c&& qG E c|none=>false)=true)(hcl:E.cl f=none:=by rfl):Pure E f (bX R args p) (nZ (bX R res x)):=by
 unfold Jb at h;split at h
 ·rename_i c hc
  rw[hc] at hok;dsimp only at hok;rw[iP] at hok;obtain⟨hok,hwk⟩:=hok;refine Pure.of' fn.results.toList hf hc (fun fr σ hd ho ht=>?_) rfl (by rw[hlen];exact hok) hs (by unfold yV;rw[hcl];rfl);have hi:aL ⟨fun _=>none,fun _=>none,fun _=>0,cu.main aj⟩ σ.next (⟨zu 0 (eY R .sh args p),[]⟩:aD R.T) fr σ:={
   d:=hd
   aj:=by rw[ho,bK];rfl
   fr:=fun i v hv=>by obtain⟨_,h2⟩:=NM _ (bX R args p) 0 (fun v w=>av R ⟨fun _=>none,fun _=>none,fun _=>0,cu.main aj⟩ σ.top v w) (fun j v hj=>by obtain⟨w,h1,h2⟩:=(yB hR args p ha).get hj;rw[yP,h1];exact h2) i v hv;rw[ht];exact .of qN
   ob:=fun o x hx=>CJ
   inj:=fun t u s h=>bC
   lt:=fun t s h=>bC
   ge:=fun t s h=>bC
   nx:=kN _}
  refine(sJ hR hF hI c hwk _ _ _ x fr σ _ rfl h hi).mono ?_;rintro e fr' σ' ⟨ρ',st',hi',_,hk⟩;have key:(match wI E R st' fn.results.toList with
   |some vs=>bif gu res&& Nat.ble (kY res) 16 then dV R res (pK st' vs) else none|none=>none)=some x->∃vs,fn.results.toList.mapM (lJ E fr' σ')=some vs/\bn 20 σ' (match vs with| [v]=>v|vs=>.bq vs)=some (nZ (bX R res x)):=by
   intro hk;split at hk
   ·rename_i gq FT
    obtain⟨hb,hk⟩:=gH hk;rw[iP] at hb;obtain⟨vs,h1,h2⟩:=Ju hi' FT;refine⟨vs,h1,?_⟩;have aBt:=kQ hb.2;obtain⟨vs',v1,v2⟩:=Jp hR hi' h2;have c1:=(v2 13).trans (qE hR res x (pK st' gq) vs' hb.1 hk v1 19 σ' ah);have c2:=(v2 14).trans (qE hR res x (pK st' gq) vs' hb.1 hk v1 20 σ' ah);clear v1 v2
    match vs,c1,c2 with
    | [],c1,c2=>have:bX R res x=[]:=(by simpa using c1.symm);rw[this];show bn 20 σ' (.bq [])=some (.bq []);rw[Y0];rfl| [v],c1,c2=>rw[jL] at c2;obtain⟨w,hw,c2⟩:=iR.1 c2;have:[w]=bX R res x:=(by simpa using c2);rw[<-this];exact hw
    |v::w::vs,c1,c2=>
     show bn 20 σ' (.bq (v::w::vs))=_;rw[Y0,c1,Option.map_some];have hl:(bX R res x).length=(v::w::vs).length:=by
      have:∀(l:List V)(m:List V),l.mapM (bn 19 σ')=some m->m.length=l.length:=by
       intro l;induction l with
       |nil=>intro m h;cases h;rfl|cons a l ih=>intro m h;rw[jL] at h;obtain⟨b,hb,h⟩:=iR.1 h;obtain⟨c,hc,h⟩:=iR.1 h;cases h;simp[ih c hc]
      exact this _ _ c1
     match bX R res x,hl with
     |a::b::l,_=>rfl
   ·cases hk
  cases e with
  |exit i=>cases hk|normal=>exact key hk|ret=>exact key hk
 ·cases h
theorem ah2 {n:Nat}{aj:Bool}{F:Nat->List (fM R)}{I:IR R}(hF:bg E F)(hI:kg E I){A:fU}{f:Nat}{fn:Func}{args:List aM}{τ:Ty}{p:aW R.T args}{x:List (Den R.T τ)}(h:TL E R n aj F I A fn args τ p=some x)(hf:E.P.funcs[f]? =some fn)(ha:gu args=true)(hlen:(bX R args p).length=args.length)(bK:E.aj f=aj)(hs:E.qV f=none)(hok:(match fn.body with|some c=>decide (args.length<=fn.ntmps)&& jg fn.ntmps c&& qG E c|none=>false)=true)(hcl:E.cl f=none:=by rfl):
 Pure E f (bX R args p) (.ay .sh (x.map (aX R τ)))/\xY E f (bX R args p) (cK R τ) (x.map (aX R τ)):=by
 unfold TL at h;split at h
 ·rename_i c hc
  rw[hc] at hok;dsimp only at hok;rw[iP] at hok;obtain⟨hok,hwk⟩:=hok;have hi:aL ⟨fun _=>none,fun _=>none,fun _=>0,cu.main aj⟩ au.init.next (⟨zu 0 (eY R .sh args p),[]⟩:aD R.T) ({d:=1,aj:=E.aj f,tm:=fun i=>(bX R args p).getD i aK}:Fr) au.init:={
   d:=rfl
   aj:=bK
   fr:=fun i v hv=>by obtain⟨_,h2⟩:=NM _ (bX R args p) 0 (fun v w=>av R ⟨fun _=>none,fun _=>none,fun _=>0,cu.main aj⟩ au.init.top v w) (fun j v hj=>by obtain⟨w,h1,h2⟩:=(yB hR args p ha).get hj;rw[yP,h1];exact h2) i v hv;exact .of qN
   ob:=fun o x hx=>CJ
   inj:=fun t u s h=>bC
   lt:=fun t s h=>bC
   ge:=fun t s h=>bC
   nx:=kN _}
  have himp:oI E f (bX R args p) 1 au.init (fun v σ1=>∃c,v= .ay c (x.map (aX R τ))/\(c= .nil\/c= .full\/∃s,c= .own (cK R τ) s/\σ1.top s=(x.map (aX R τ)).length)):=by
   refine oI.of (hcl:=by unfold yV;rw[hcl];rfl) hf hc (by rw[hlen];exact hok) ((sJ hR hF hI c hwk _ _ _ x _ au.init _ rfl h hi).mono ?_);rintro e fr' σ' ⟨ρ',st',hi',_,hk⟩;have key:(match wI E R st' fn.results.toList with
    |some [v]=>bif Zu v then Fa R τ v else none|_=>none)=some x->∃vs,fn.results.toList.mapM (lJ E fr' σ')=some vs/\∃c:Cap,(match vs with| [v]=>v|vs=>V.bq vs)=V.ay c (x.map (aX R τ))/\(c= .nil\/c= .full\/∃s,c= .own (cK R τ) s/\σ'.top s=(x.map (aX R τ)).length):=by
    intro hk;split at hk
    ·rename_i tv FT
     obtain⟨hb,hk⟩:=gH hk;obtain⟨vs,h1,h2⟩:=Ju hi' FT;obtain⟨v,l,rfl,h3,h4⟩:=h2.dW;rw[h4.iJ] at h1;refine⟨[v],h1,?_⟩;unfold Fa at hk;split at hk
     ·rename_i cp fO l0 _
      obtain⟨e,e2⟩:=vC hk;subst e;cases e2;obtain⟨c',rfl,hc'⟩:=h3.lU;refine⟨c',rfl,?_⟩;cases cp<;>simp only[Zu,dO] at hb
      ·exact .inr (.inl hc')
      ·rcases hc' with rfl|rfl| ⟨s,rfl,_,ht⟩
       ·exact .inl rfl
       ·exact .inr (.inl rfl)
       ·exact .inr (.inr ⟨s,rfl,by rw[jS];exact ht⟩)
     ·cases hk
      exact⟨.nil,h3.qB,.inl rfl⟩
     ·cases hk
    ·cases hk
   cases e with
   |exit i=>cases hk|normal=>exact key hk|ret=>exact key hk
  obtain⟨m,v,σ1,hm,cp,rfl,hcp⟩:=himp;have hpc:bN (x.map (aX R τ))=true:=by have:=MH (qC hR τ) x;simpa [aU] using this
  refine⟨⟨m,?_⟩,.of hm hpc hcp⟩;simp only[xK,hs,hm,Option.bind_some];exact BK _ _ (qC hR τ)
 ·cases h
omit hR in
theorem ah3 {c:Cp}:∀{l:List aM}{p:aW R.T l},(eY R c l p).length=l.length
 | [],_=>rfl| [_],_=>rfl|_::k::l,p=>by show (eY R c (k::l) p.2).length+1=_;rw[ah3];rfl
omit hR in
theorem ase {ρ ρ':aT}{top top':Nat->Nat}(hk:∀p,F0<=p->ρ'.ob p=ρ.ob p/\ρ'.ln p=ρ.ln p)(hx:ρ'.aj=ρ.aj):∀{l:List aM}{y:aW R.T l}{vs:List V},vv l=true->aF R ρ' top (eY R .any l y) vs->aF R ρ top' (eY R .any l y) vs:=by
 have one:∀(k:aM)(l:List aM)(y:ru R.T k)(v:V),vv (k::l)=true->av R ρ' top (up R .any k y) v->av R ρ top' (up R .any k y) v:=fun k l y v hs h=>by
  cases k<;>first| (cases hs;done)|skip
  ·rename_i t
   cases t<;>first| (cases hs;done)|exact h
  ·rename_i p t
   have hs':(Nat.ble F0 p&& vv l)=true:=hs;rw[iP] at hs';obtain⟨k1,k2⟩:=hk p (kQ hs'.1);obtain⟨g0,g1,g2,h⟩:=av.BU (R:=R) h;show av R ρ top' (.sub p t y.1 y.2) v;unfold av;refine⟨g0,g1,by rw[<-k2];exact g2,?_⟩;rcases h with ⟨s,cp,h1,h2,h3⟩|h
   ·exact .inl ⟨s,cp,by rw[<-k1];exact h1,h2,by rw[<-hx];exact h3⟩
   ·exact .inr h
 have tl:∀(k:aM)(l:List aM),vv (k::l)=true->vv l=true:=fun k l hs=>by
  cases k<;>first| (cases hs;done)|skip
  ·rename_i t
   cases t<;>first| (cases hs;done)|exact hs
  ·have hs':(_&& vv l)=true:=hs
   rw[iP] at hs';exact hs'.2
 intro l;induction l with
 |nil=>intro y vs _ h;exact h|cons k l ih=>
  intro y vs hs h;cases l with
  |nil=>obtain⟨v,ws,rfl,h1,h2⟩:=aF.dW (ts:=[]) h;rw[h2.iJ];exact .cons' (one k [] y v hs h1) rfl
  |cons q l=>obtain⟨v,ws,rfl,h1,h2⟩:=aF.dW (ts:=eY R .any (q::l) y.2) h;exact .cons' (one k _ y.1 v hs h1) (ih (tl _ _ hs) h2)
theorem ah4 {ρ:aT}{b:Nat}{st:aD R.T}{fr:Fr}{σ:au}(hi:aL ρ b st fr σ):∀{ks:List aM}{gq:List (ak R.T)}{vs:List V},aF R ρ σ.top gq vs->aF R ρ σ.top (TJ st ks gq) vs
 | [],_,_,h=>by cases ‹List (ak R.T)› <;>exact h|_::_,[],_,h=>h|k::ks,x::xs,_,h=>by
  obtain⟨v,ws,rfl,h1,h2⟩:=h.dW;refine .cons' ?_ (ah4 hi h2);unfold wv1;split
  ·split
   ·rename_i o t a c hw
    exact agP hR hw h1 hi
   ·exact h1
  ·exact h1
def Jv:List (Nat×d9)->Bool
 | []=>true| (i,_)::l=>Nat.ble F0 i&& Jv l
omit hR in
theorem aau:∀{l:List (Nat×d9)}{x:cZ R.T l},Jv l=true->∀{i:Nat}{v:aG R.T},look (gF R l x) i=some v->F0<=i
 | [],x,_,i,v,hv=>EC| [(j,k)],x,h,i,v,hv=>by
   unfold Jv at h;rw[iP] at h;have hv':look [(j,mY R k x)] i=some v:=hv;by_cases e:i=j
   ·rw[e];exact kQ h.1
   ·rw[je _ _ e] at hv';cases hv'
 | (j,k)::q::l,x,h,i,v,hv=>by
   unfold Jv at h;rw[iP] at h;have hv':look ((j,mY R k x.1)::gF R (q::l) x.2) i=some v:=hv;by_cases e:i=j
   ·rw[e];exact kQ h.1
   ·rw[je _ _ e] at hv';exact aau h.2 hv'
theorem yC {n:Nat}{aj:Bool}{F:Nat->List (fM R)}{I:IR R}(hF:bg E F)(hI:kg E I){A:fU}{f:Nat}{fn:Func}{args res:List aM}{obs:List (Nat×d9)}{p:aW R.T args}{q:cZ R.T obs}{y:aW R.T res}{q':cZ R.T obs}(h:sD E R n aj F I A fn args obs res p q=some (y,q'))(hf:E.P.funcs[f]? =some fn)(bK:E.aj f=aj)(hok:(match fn.body with|some c=>decide (args.length<=fn.ntmps)&& jg fn.ntmps c&& qG E c&& (vv res&& oJ obs&& Jv obs)|none=>false)=true)(hcl:E.cl f=none:=by rfl):
 ∀(ρ:aT)(vs:List V)(σ:au),ρ.aj.aj=E.aj f->(∀t,ρ.tk t=none)->ρ.aj.lo<=σ.next->
  aF R ρ σ.top (eY R .any args p) vs->(∀o x,look (gF R obs q) o=some x->eT ρ σ o x)->
  oI E f vs ρ.aj.dp σ fun v σ'=>(∃ws,v=nZ ws/\aF R ρ σ'.top (eY R .any res y) ws)/\(∀o x,look (gF R obs q') o=some x->eT ρ σ' o x)/\σ.next<=σ'.next/\(∀l,l<σ.next->σ'.loops l=σ.loops l)/\(∀s,s<ρ.aj.lo->σ'.top s=σ.top s)/\
   ∀L:Loc,L.1<=ρ.aj.dp->ρ.aj.out L->σ'.obj L=σ.obj L:=by
 intro ρ vs σ NP htk hlo hargs aav;unfold sD at h;split at h
 ·rename_i c hc
  rw[hc] at hok;dsimp only at hok;simp only[iP] at hok;obtain⟨⟨hok,hwk⟩,⟨hsc,aaw⟩,hbig⟩:=hok;have hlen:vs.length=args.length:=by rw[hargs.length];exact ah3
  have hi:aL ρ σ.next (⟨zu 0 (eY R .any args p),gF R obs q⟩:aD R.T) ({d:=ρ.aj.dp,aj:=E.aj f,tm:=fun i=>vs.getD i aK}:Fr) σ:={
   d:=rfl
   aj:=NP.symm
   fr:=fun i v hv=>by obtain⟨_,h2⟩:=NM _ vs 0 (fun v w=>av R ρ σ.top v w) (fun j v hj=>by obtain⟨w,h1,h2⟩:=hargs.get hj;rw[yP,h1];exact h2) i v hv;exact .of qN
   ob:=aav
   inj:=fun t u s h=>GQ
   lt:=fun t s h=>GQ
   ge:=fun t s h=>GQ
   nx:=hlo}
  refine oI.of (hcl:=by unfold yV;rw[hcl];rfl) hf hc (by rw[hlen];simpa using hok) ((sJ hR hF hI c hwk _ _ _ (y,q') _ σ ρ (NP.trans bK) h hi).mono ?_);rintro e fr' σ' ⟨ρ',st',hi',hkp,hk⟩;have key:(match wI E R st' fn.results.toList with
   |some vs=>match dV R res (TJ st' res vs) with
    |some y=>match lQ R st'.ob obs with
     |some q'=>some (y,q')|none=>none
    |none=>none
   |none=>none)=some (y,q')->∃ws,fn.results.toList.mapM (lJ E fr' σ')=some ws/\(fun v σ'=>(∃ws,v=nZ ws/\aF R ρ σ'.top (eY R .any res y) ws)/\(∀o x,look (gF R obs q') o=some x->eT ρ σ' o x)/\σ.next<=σ'.next/\(∀l,l<σ.next->σ'.loops l=σ.loops l)/\(∀s,s<ρ.aj.lo->σ'.top s=σ.top s)/\
    ∀L:Loc,L.1<=ρ.aj.dp->ρ.aj.out L->σ'.obj L=σ.obj L) (match ws with| [v]=>v|vs=>V.bq vs) σ':=by
   intro hk;split at hk
   ·rename_i gq FT
    split at hk
    ·rename_i y' hy'
     split at hk
     ·rename_i q1 hq1
      cases hk;obtain⟨ws,h1,h2⟩:=Ju hi' FT;have hws:=zx hR res y _ ws hy' (ah4 hR hi' h2);obtain⟨nb,hnb⟩:=Ca (bD E c);have hk0:=hkp.ob nb (hnb nb (RS _));refine⟨ws,h1,?_,fun o x hx=>?_,hk0.nx,hk0.lp.1,hk0.lp.2,fun L hL ho=>hk0.dp L (.inr hL) ho⟩
      ·refine⟨ws,?_,ase (ρ':=ρ') (fun p hp=>?_) hk0.aj hsc hws⟩
       ·rcases ws with _| ⟨a,_| ⟨b,l⟩⟩<;>rfl
       ·have hm:bf p (bD E c)=false:=by
         cases hm:bf p (bD E c)
         ·rfl
         ·have:=NI hwk p hm;omega
        have hk1:=hkp.ob p hm;exact⟨hk1.ob,hk1.ln⟩
      ·obtain⟨kk,yy,z,e1,e2,rfl,e4⟩:=Jr obs q' hq1 o x hx
       have ah5:=aau hbig hx;have hm:bf o (bD E c)=false:=by
        cases hm:bf o (bD E c)
        ·rfl
        ·have:=NI hwk o hm;omega
       have hk1:=hkp.ob o hm;exact Nt (e4 aaw) hk1.ob.symm hk1.ln.symm (by rw[hk1.aj]) (Nc hR e2 (hi'.ob _ _ e1))
     ·cases hk
    ·cases hk
   ·cases hk
  cases e with
  |exit i=>cases hk|normal=>exact key hk|ret=>exact key hk
 ·cases h
omit hR in
theorem ah6 {σ:au}{L:Loc}{s:Nat}{cs:List V}(h:σ.dB L s=some cs):σ.obj L=some (s,.cells cs):=by
 unfold au.dB at h;split at h
 ·rename_i s' cs' e
  split at h
  ·rename_i e2;subst e2;cases h;exact e
  ·cases h
 ·cases h
omit hR in
theorem ah7 {ρ:aT}{b:Nat}{st:aD R.T}{fr:Fr}{σ:au}(hi:aL ρ b st fr σ){o:Nat}{x:aG R.T}(h:nG st o=some x):eT ρ σ o x:=by
 unfold nG at h;cases hb:look st.ob o with
 |none=>rw[hb] at h;cases h|some y=>rw[hb] at h;cases h;exact(hi.ob _ _ hb).strip
omit hR in
theorem asf {ρ ρ':aT}{b:Nat}{st:aD R.T}{fr:Fr}{σ:au}(hi:aL ρ' b st fr σ)(bK:ρ'.aj=ρ.aj){t t':Ty}{p:Nat}{w:V}{y:List (Den R.T t)}(h:(if t'=t then (bif Nat.blt p F0 then (match nG st p with
 |some (.arr _ l)=>pJ R l|_=>none) else none) else none)=some y)(hv:av R ρ' σ.top (.aJ p t':ak R.T) w):DK ρ σ (.arr t) y w:=by
 by_cases ht:t'=t
 ·rw[if_pos ht] at h
  obtain⟨hp,h⟩:=gH h;cases hrd:nG st p with
  |none=>rw[hrd] at h;cases h|some ob=>
   have gX:=ah7 hi hrd;rw[hrd] at h;cases ob<;>try (cases h;done)
   rename_i t'' l;have h':pJ R (u:=t) l=some y:=h;unfold pJ at h';split at h'
   ·rename_i e;subst e ht
    cases h';have hpl:ρ.aj.lc p=(ρ.aj.dp,p):=cu.Dz _ (kQ hp);obtain⟨hln,ho⟩:=gX;rcases av.zw hv with ⟨s,h1,h2⟩| ⟨h1,h2⟩
    ·rcases ho with ⟨_,ho⟩| ⟨s',cs,ho,hc,hr⟩
     ·rw[h1] at ho;cases ho
     ·rw[h1] at ho;cases ho
      rw[bK] at hc h2;left;refine⟨ρ.aj.lc p,s,cs,by rw[hpl];exact RS _,?_,ah6 hc,yw _ _ hr⟩;rw[h2,hln]
    ·right
     rw[h1] at hln;exact⟨List.length_eq_zero_iff.1 hln,h2⟩
   ·cases h'
 ·rw[if_neg ht] at h;cases h
theorem asg {ρ ρ':aT}{b:Nat}{st:aD R.T}{fr:Fr}{σ:au}(hi:aL ρ' b st fr σ)(bK:ρ'.aj=ρ.aj){jy:r9}{v:ak R.T}{w:V}{y:sj R.T jy}(h:Zv R st jy v=some y)(hv:av R ρ' σ.top v w):DK ρ σ jy y w:=by
 cases jy with
 |no=>cases h|arr t=>
  by_cases hvw:∃p t',v= .aJ p t'
  ·obtain⟨p,t',rfl⟩:=hvw
   exact asf hi bK h hv
  ·have h':(bif vk v then some ([]:List (Den R.T t)) else none)=some y:=by
    cases v<;>first|exact h|exact absurd ⟨_,_,rfl⟩ hvw
   obtain⟨hE,h'⟩:=gH h';cases h';exact .inr ⟨rfl,Nh (fr:=fr) hE (.of hv)⟩
 |Ip g a b cs=>
  by_cases hvf:∃g' a' p off b',v= .fn g' a' (.ref p off::b')
  ·obtain⟨g',a',p,off,b',rfl⟩:=hvf
   have h':(bif Nat.beq g' g&& (Nat.beq off 0&& (Nat.blt p F0&& (gu a&& (gu b&& yu cs))))&& (j4 a'&& j4 b'&& Nat.ble (kY a) 18&& Nat.ble (kY b) 18) then (match nG st p with
    |some (.cells c)=>match dV R a a',dV R b b',dV R cs c with
     |some x,some y,some z=>some (x,y,z)|_,_,_=>none
    |_=>none) else none)=some y:=h
   obtain⟨hb,hm⟩:=gH h';clear h';rw[iP,iP,iP,iP] at hb;obtain⟨⟨hg,ho,hp,hds⟩,hst⟩:=hb;simp only[iP] at hst;obtain⟨⟨⟨hsa,hsb⟩,hda⟩,hdb⟩:=hst;have hg:=gG hg;have ho:=gG ho;subst hg ho;cases hrd:nG st p with
   |none=>rw[hrd] at hm;cases hm|some ob=>
    have gX:=ah7 hi hrd;rw[hrd] at hm;cases ob<;>try (cases hm;done)
    rename_i c;cases hx:dV R a a' with
    |none=>simp only[hx] at hm;cases hm|some x=>
    cases hy:dV R b b' with
    |none=>simp only[hx,hy] at hm;cases hm|some y'=>
    cases hz:dV R cs c with
    |none=>simp only[hx,hy,hz] at hm;cases hm|some z=>simp only[hx,hy,hz] at hm;cases hm;obtain⟨a'',b'',rfl,ha,hb'⟩:=hv.lg;obtain⟨w1,ws,rfl,h1,h2⟩:=hb'.dW;obtain⟨s,hs,rfl⟩:=h1.sF;obtain⟨s',l,hs',hc,hr⟩:=gX;rw[hs] at hs';cases hs';have hpl:ρ.aj.lc p=(ρ.aj.dp,p):=cu.Dz _ (kQ hp);rw[bK] at hc⊢;have hds':=hds;rw[iP,iP] at hds;have e1:=qE hR a x a' a'' hds.1 hx ha 19 au.init (by have:=kQ hda;omega);have e2:=qE hR b y' b' ws hds.2.1 hy h2 19 au.init (by have:=kQ hdb;omega);rw[Jt hR a'' (yA hR a' a'' hsa ha)] at e1;rw[Jt hR ws (yA hR b' ws hsb h2)] at e2;cases e1;cases e2;exact⟨ρ.aj.lc p,s,l,by rw[hpl];exact RS _,rfl,ah6 hc,FM hds.2.2 (zx hR cs z _ _ hz hr),hds'⟩
  ·exfalso
   cases v<;>try (cases h;done)
   rename_i g' a' b';cases b' with
   |nil=>cases h|cons v0 b'=>cases v0<;>first| (cases h;done)|exact hvf ⟨_,_,_,_,_,rfl⟩
omit hR in
theorem ah8:∀{l:List aM}{p:aW R.T l},(vw R l p).length=l.length
 | [],_=>rfl| [k],_=>rfl|k::h::l,p=>by show (vw R (h::l) p.2).length+1=_;rw[ah8 (l:=h::l)];rfl
theorem ah9 {n:Nat}{aj:Bool}{F:Nat->List (fM R)}{I:IR R}(hF:bg E F)(hI:kg E I){A:fU}{f:Nat}{fn:Func}{args:List aM}{obs:List (Nat×d9)}{jy:r9}{gQ:List (Nat×d9)}{p:aW R.T args}{q:cZ R.T obs}{y:sj R.T jy}{q':cZ R.T gQ}(h:TK E R n aj F I A fn args obs jy gQ p q=some (y,q'))(hf:E.P.funcs[f]? =some fn)(bK:E.aj f=aj)(hok:(match fn.body with|some c=>decide (args.length<=fn.ntmps)&& jg fn.ntmps c&& qG E c&& (oJ gQ&& Jv gQ)|none=>false)=true)(hcl:∀(ρ:aT) (top:Nat->Nat) (vs:List V),aF R ρ top (vw R args p) vs->yV E f vs=none:=by intros;rfl):
 ∀(ρ:aT)(vs:List V)(σ:au),ρ.aj.aj=E.aj f->(∀t,ρ.tk t=none)->ρ.aj.lo<=σ.next->
  aF R ρ σ.top (vw R args p) vs->(∀o x,look (gF R obs q) o=some x->eT ρ σ o x)->
  oI E f vs ρ.aj.dp σ fun v σ'=>DK ρ σ' jy y v/\(∀o x,look (gF R gQ q') o=some x->eT ρ σ' o x)/\σ.next<=σ'.next/\(∀l,l<σ.next->σ'.loops l=σ.loops l)/\(∀s,s<ρ.aj.lo->σ'.top s=σ.top s)/\
   ∀L:Loc,L.1<=ρ.aj.dp->ρ.aj.out L->σ'.obj L=σ.obj L:=by
 intro ρ vs σ NP htk hlo hargs aav;unfold TK at h;split at h
 ·rename_i c hc
  rw[hc] at hok;dsimp only at hok;simp only[iP] at hok;obtain⟨⟨hok,hwk⟩,aaw,hbig⟩:=hok;have hlen:vs.length=args.length:=by rw[hargs.length];exact ah8
  have hi:aL ρ σ.next (⟨zu 0 (vw R args p),gF R obs q⟩:aD R.T) ({d:=ρ.aj.dp,aj:=E.aj f,tm:=fun i=>vs.getD i aK}:Fr) σ:={
   d:=rfl
   aj:=NP.symm
   fr:=fun i v hv=>by obtain⟨_,h2⟩:=NM _ vs 0 (fun v w=>av R ρ σ.top v w) (fun j v hj=>by obtain⟨w,h1,h2⟩:=hargs.get hj;rw[yP,h1];exact h2) i v hv;exact .of qN
   ob:=aav
   inj:=fun t u s h=>GQ
   lt:=fun t s h=>GQ
   ge:=fun t s h=>GQ
   nx:=hlo}
  refine oI.of (hcl:=hcl ρ σ.top vs hargs) hf hc (by rw[hlen];simpa using hok) ((sJ hR hF hI c hwk _ _ _ (y,q') _ σ ρ (NP.trans bK) h hi).mono ?_);rintro e fr' σ' ⟨ρ',st',hi',hkp,hk⟩;have key:(match wI E R st' fn.results.toList with
   |some [v]=>match Zv R st' jy v with
    |some y=>match lQ R st'.ob gQ with
     |some q'=>some (y,q')|none=>none
    |none=>none
   |_=>none)=some (y,q')->∃ws,fn.results.toList.mapM (lJ E fr' σ')=some ws/\(fun v σ'=>DK ρ σ' jy y v/\(∀o x,look (gF R gQ q') o=some x->eT ρ σ' o x)/\σ.next<=σ'.next/\(∀l,l<σ.next->σ'.loops l=σ.loops l)/\(∀s,s<ρ.aj.lo->σ'.top s=σ.top s)/\
    ∀L:Loc,L.1<=ρ.aj.dp->ρ.aj.out L->σ'.obj L=σ.obj L) (match ws with| [v]=>v|vs=>V.bq vs) σ':=by
   intro hk;split at hk
   ·rename_i v FT
    split at hk
    ·rename_i y' hy'
     split at hk
     ·rename_i q1 hq1
      cases hk;obtain⟨ws,h1,h2⟩:=Ju hi' FT;obtain⟨w,us,rfl,h3,h4⟩:=h2.dW;have ash:=h4.iJ;subst ash;obtain⟨nb,hnb⟩:=Ca (bD E c);have hk0:=hkp.ob nb (hnb nb (RS _));refine⟨[w],h1,asg hR hi' hk0.aj hy' h3,fun o x hx=>?_,hk0.nx,hk0.lp.1,hk0.lp.2,fun L hL ho=>hk0.dp L (.inr hL) ho⟩;obtain⟨kk,yy,z,e1,e2,rfl,e4⟩:=Jr gQ q' hq1 o x hx;have ah5:=aau hbig hx;have hm:bf o (bD E c)=false:=by
       cases hm:bf o (bD E c)
       ·rfl
       ·have:=NI hwk o hm;omega
      have hk1:=hkp.ob o hm;exact Nt (e4 aaw) hk1.ob.symm hk1.ln.symm (by rw[hk1.aj]) (Nc hR e2 (hi'.ob _ _ e1))
     ·cases hk
    ·cases hk
   ·cases hk
  cases e with
  |exit i=>cases hk|normal=>exact key hk|ret=>exact key hk
 ·cases h
end
def NQ (k:IntKind)(x y:Int):Int:=x.fdiv (2^min y.toNat k.bits)
section
variable {R:gY}{E:Env}
def zD (f:Nat)(r:fM R)(F:Nat->List (fM R)):Nat->List (fM R):=fun g=>bif Nat.beq g f then r::F g else F g
theorem aax {f:Nat}{r:fM R}{F:Nat->List (fM R)}(hF:bg E F)(h:∀p x,r.F p=some x->Pure E f (bX R r.args p) (nZ (bX R r.res x)))(ho:r.own=false:=by rfl):bg E (zD f r F):=by
 intro g q hq p x hx;unfold zD at hq;cases hb:Nat.beq g f
 ·rw[hb] at hq;exact hF g q hq p x hx
 ·rw[hb,cond_true] at hq
  rcases iC.1 hq with rfl|hq
  ·rw[gG hb];exact⟨fun _=>h p x hx,fun e=>by rw[ho] at e;cases e⟩
  ·exact hF g q hq p x hx
def Uv:Nat->List (fM R):=fun _=>[]
def Jw:IR R:=⟨fun _=>[],fun _=>[],fun _=>[]⟩
theorem NR:kg E (Jw (R:=R)):=⟨fun _ _ h=>bC,fun _ _ h=>bC,fun _ _ h=>bC⟩
def Hr (g:Nat)(i:MK R)(I:IR R):IR R:=⟨fun f=>bif Nat.beq f g then i::I.it f else I.it f,I.im,I.io⟩
theorem asi {g:Nat}{i:MK R}{I:IR R}(hI:kg E I)(h:E.imp g=true/\∀pa pb xs,i.F pa pb=some xs->FQ E i.q g (bX R i.a pa) (bX R i.b pb) none (fun _=>True) (xs.map (bX R i.el))):kg E (Hr g i I):=by
 refine⟨fun f q hq=>?_,hI.2⟩;have hq':q∈(bif Nat.beq f g then i::I.it f else I.it f):=hq;cases hb:Nat.beq f g
 ·rw[hb] at hq';exact hI.1 f q hq'
 ·rw[hb,cond_true] at hq'
  rcases iC.1 hq' with rfl|hq'
  ·rw[gG hb];exact h
  ·exact hI.1 f q hq'
def mO (g:Nat)(m:mg R)(I:IR R):IR R:=⟨I.it,fun f=>bif Nat.beq f g then m::I.im f else I.im f,I.io⟩
theorem sK {g:Nat}{m:mg R}{I:IR R}(hI:kg E I)(h:nK E g m)(hg:E.imp g=true:=by rfl):kg E (mO g m I):=by
 refine⟨hI.1,fun f r hr=>?_,hI.2.2⟩;have hr':r∈(bif Nat.beq f g then m::I.im f else I.im f):=hr;cases hb:Nat.beq f g
 ·rw[hb] at hr';exact hI.2.1 f r hr'
 ·rw[hb,cond_true] at hr'
  rcases iC.1 hr' with rfl|hr'
  ·rw[gG hb];exact⟨hg,h⟩
  ·exact hI.2.1 f r hr'
theorem Uw:bg E (Uv (R:=R)):=fun _ _ h=>bC
theorem aia {f:Nat}{args:List aM}{τ:Ty}{G:aW R.T args->Option (List (Den R.T τ))}{d:List (Den R.T τ)}{F:Nat->List (fM R)}(hF:bg E F)(h:∀p x,G p=some x->Pure E f (bX R args p) (.ay .sh (x.map (aX R τ)))/\xY E f (bX R args p) (cK R τ) (x.map (aX R τ)))(hc:gu args=true:=by rfl)(hn:E.vU f=false:=by rfl):bg E (zD f ⟨args,[.d (.slice τ)],G,d,true,false⟩ F):=by
 intro g q hq p x hx;unfold zD at hq;cases hb:Nat.beq g f
 ·rw[hb] at hq;exact hF g q hq p x hx
 ·rw[hb,cond_true] at hq
  rcases iC.1 hq with rfl|hq
  ·rw[gG hb]
   obtain⟨h1,h2⟩:=h p x hx;refine⟨fun _=>h1,fun _ fO e l hl=>?_⟩;cases e;have hl':x=l:=hl;subst hl';exact⟨fun _=>⟨hn,h2⟩,fun e=>(by rw[hc] at e;cases e)⟩
  ·exact hF g q hq p x hx
end
def wN (E:Env)(R:gY)(n:Nat)(aj:Bool)(F:Nat->List (fM R))(I:IR R)(A:fU)(c:Option Code)(el:List aM){β:Type}(x:aW R.T el)(st:aD R.T)(k:Ex->aD R.T->Option β):Option β:=match c with
 |some (.rangeFunc _ ps a c)=>match Fz st ps.toList (eY R .sh el x) with
  |some st=>gy E R n aj F I A a st fun e st=>match e with
   |.normal=>gy E R n aj F I A c st k|_=>none
  |none=>none
 |_=>none
def wO (E:Env)(c:Option Code):List Nat:=match c with
 |some (.rangeFunc _ ps a c)=>ps.toList++bD E a++bD E c|_=>[]
def aib:(k:xZ)->Im k
 |.i _=>(0:Int)|.a _ n=>Vec.rep n 0
def aic:(l:List xZ)->E8 l
 | []=>()| [k]=>aib k|k::h::l=>(aib k,aic (h::l))
section
variable (R:gY)
mutual
def aie:(k:aM)->ru R.T k
 |.d t=>Iq R t|.l _ t=>([]:List (Den R.T t))|.agg l=>wP l|.ref _ _=>()|.aI l _=>wP l|.kl l=>wP l|.dF=>()|.cB=>()|.dJ _=>()|.eU k e=>([]:List (Den R.T k×Den R.T e))|.fn _ a b=>(wP a,wP b)|.gT=>()|.aJ _ _=>()|.sub _ _=>((0:Int),(0:Int))|.sg l=>aic l|.undef=>()
def wP:(l:List aM)->aW R.T l
 | []=>()| [k]=>aie k|k::h::l=>(aie k,wP (h::l))
end
end
end aY
end
