import Derived.ChangeSame
import Derived.ChangeShapes
import Derived.ChangeStays
import Derived.RowKit
import Derived.Test.YtgdialomgeijcaaGreatF3610
import Derived.WideShapes
set_option linter.all false
section
namespace Aq
open Go
section
variable {R:Tx}{E:Env}(hR:VF R)
include hR
def yj (E:Env)(om:Bool)(c:Code)(body:{β:Type}->MS R.T->(Ex->MS R.T->Option β)->Option β):Prop:=
 ∀(β:Type)(st:MS R.T)(k:Ex->MS R.T->Option β)(x:β)(fr:Fr)(Y:qd)(Z:ak),Z.om.om=om->body st k=some x->aj Z Y.next st fr Y->CW E c fr Y fun e fr' Y'=>∃Z' st',aj Z' Y'.next st' fr' Y'/\Kp (T9 E c) (Ro E c) st fr Y Z st' fr' Y' Z'/\k e st'=some x
omit hR in
theorem yt:∀(Z:ak)(Y:qd)(o:Nat)(x:Ob R.T),aM (R:=R) Z Y o x->aM (R:=R) Z Y o (.ro x):=fun _ _ _ _ h=>h
theorem D7 {om:Bool}{β:Type}{c:Code}{key:Nat}{sh:Shape}{outs:List (Ex×Shape)}{body:{β:Type}->MS R.T->(Ex->MS R.T->Option β)->Option β}(hb:yj E om c body){H B:MS R.T}{fr0:Fr}{Y0:qd}{Z0:ak}(aC:Z0.om.om=om)(hB:∀(st' S':MS R.T) (fr':Fr) (Y':qd) (Z':ak) (b':Nat),aj Z' b' st' fr' Y'->Kp (T9 E c) (Ro E c) H fr0 Y0 Z0 S' fr' Y' Z'->aj Z' b' B fr' Y')(hro:∀o,RO B o):
 ∀(m:Nat)(p:VY R.T sh)(o:Out R.T outs)(fr:Fr)(Y:qd)(Z:ak),abF key (Ro E c) B sh outs body m p=some o->aj Z Y.next (unpack R sh p) fr Y->Kp (T9 E c) (Ro E c) H fr0 Y0 Z0 (B.over (unpack R sh p)) fr Y Z->
 CW E (.loop c) fr Y fun e fr' Y'=>∃Z' S' st',aj Z' Y'.next st' fr' Y'/\Kp (T9 E c) (Ro E c) H fr0 Y0 Z0 S' fr' Y' Z'/\(∀o,Rk o (Ro E c)=false->RO H o->look st'.ob o=none)/\∀(k:Ex->MS R.T->Option β)(bs:MS R.T),Yz R bs k outs o=k e (bs.over st')
 |0,p,o,fr,Y,Z,h,_,_=>by cases h|m+1,p,o,fr,Y,Z,h,hi,hkp=>by
  unfold abF at h;have hbase:aj Z Y.next B fr Y:=hB _ _ _ _ _ _ hi hkp;refine CW.loop ((hb _ _ _ _ fr Y Z ((congrArg Cx.om hkp.om).trans aC) h (hbase.over hi)).mono ?_);rintro e fr' Y' ⟨Z',st',hi',ji,hk⟩;have hall:=hkp.trans ji;cases e with
  |normal=>
   dsimp only at hk;split at hk
   .rename_i p' hp';obtain⟨Z2,S2,h1,h2,_,h3⟩:=hi'.UN hR hp';have kN:=hall.trans h2;refine D7 hb aC hB hro m p' o fr' Y' Z2 hk h1 ⟨kN.fr,fun q hq=>⟨(kN.ob q hq).ob,(kN.ob q hq).ln,(kN.ob q hq).om,(kN.ob q hq).nx,(kN.ob q hq).lp,(kN.ob q hq).dp,fun hr=>⟨?_,((kN.ob q hq).ro hr).2⟩⟩⟩;exact rU (hro q) fun x hx=>(by rw[h3 q hq ((hall.ob q hq).ro hr).1] at hx;cases hx)
   .cases hk
  |exit i=>obtain⟨Z2,S2,bA,h1,h2,_,h3,h4⟩:=nG (β:=β) hR hi' hk;exact⟨Z2,S2,bA,h1,hall.trans h2,fun q hq hr=>h3 q hq ((hall.ob q hq).ro hr).1,h4⟩
  |ret=>obtain⟨Z2,S2,bA,h1,h2,_,h3,h4⟩:=nG (β:=β) hR hi' hk;exact⟨Z2,S2,bA,h1,hall.trans h2,fun q hq hr=>h3 q hq ((hall.ob q hq).ro hr).1,h4⟩
omit hR in
theorem D8 {om:Bool}{c:Code}{body:{β:Type}->MS R.T->(Ex->MS R.T->Option β)->Option β}(hb:yj E om c body){β:Type}:∀(m:Nat)(st:MS R.T)(k:Ex->MS R.T->Option β)(x:β)(fr:Fr)(Y:qd)(Z:ak),Z.om.om=om->adk (R:=R) (fun st k=>body st k) m st k=some x->aj Z Y.next st fr Y->
 CW E (.loop c) fr Y fun e fr' Y'=>∃Z' st',aj Z' Y'.next st' fr' Y'/\Kp (T9 E c) (Ro E c) st fr Y Z st' fr' Y' Z'/\k e st'=some x
 |0,st,k,x,fr,Y,Z,_,h,_=>by cases h|m+1,st,k,x,fr,Y,Z,aC,h,hi=>by
  unfold adk at h;refine CW.loop ((hb _ _ _ _ fr Y Z aC h hi).mono ?_);rintro e fr' Y' ⟨Z',st',hi',ji,hk⟩;cases e with
  |normal=>
   dsimp only at hk;by_cases hW:True
   .refine(D8 hb m st' k x fr' Y' Z' ?_ hk hi').mono ?_
    .exact(congrArg Cx.om ji.om).trans aC
    .rintro e kG dA ⟨eY,bA,h1,h2,h3⟩;exact⟨eY,bA,h1,ji.trans h2,h3⟩
   .exact absurd trivial hW
  |exit i=>exact⟨Z',st',hi',ji,hk⟩|ret=>exact⟨Z',st',hi',ji,hk⟩
omit hR in
def yu {X:Type}(key:Nat)(W:List Nat)(b:MS R.T)(sh:Shape)(outs:List (Ex×Shape))(body:{β:Type}->X->MS R.T->(Ex->MS R.T->Option β)->Option β)(xs:List X)(e:Ex)(st:MS R.T):Option (Out R.T outs):=match e with
    |.normal=>match UN R W st.obs sh with
     |some p=>X8 key W b sh outs body xs p|none=>none
    |e=>XL R W e st.obs outs
omit hR in
def D9 (r0:Vg)(l:Nat)(Y3:qd)(x:Ex)(bb:Bool)(Y':qd):Prop:=match x with
 |.normal=>bb=true/\Y'=Y3.aO l {r0 with st:=0,pend:=none}
 |e=>bb=false/\Y'=Y3.aO l {r0 with st:=2,pend:=some e}
omit hR in
theorem aj.Ea {Z:ak}{b:Nat}{st:MS R.T}{fr fr':Fr}{Y:qd}(h:aj Z b st fr Y)(he:st.fr=[])(hd:fr'.d=Z.om.dp)(ho:fr'.om=Z.om.om):aj Z b st fr' Y:={h with
 d:=hd
 om:=ho
 fr:=fun i v hv=>by rw[he] at hv;cases hv}
omit hR in
theorem aj.obs {Z:ak}{b:Nat}{st:MS R.T}{fr:Fr}{Y:qd}(h:aj Z b st fr Y):aj Z b st.obs fr Y:={h with
 fr:=fun i v hv=>by cases hv
 ob:=h.ob}
omit hR in
theorem aA.weak {nr:Bool}{o:Nat}{st st':MS R.T}{Z Z':ak}{Y Y':qd}(h:aA nr o st Z Y st' Z' Y'):aA false o st Z Y st' Z' Y':=⟨h.ob,h.ln,h.om,h.nx,h.lp,fun L hL=>h.dp L (.inr (by rcases hL with e|e;cases e;exact e)),h.ro⟩
omit hR in
theorem aA.shift {o:Nat}{st st':MS R.T}{Z Z':ak}{Y Y' dA:qd}(h:aA false o st Z Y st' Z' Y')(hp:∀L:Loc,L.1<=Z.om.dp->dA.obj L=Y'.obj L)(hn:Y'.next<=dA.next)(hl:∀l,l<Y.next->dA.loops l=Y'.loops l)(ht:∀s,s<Z.om.lo->dA.top s=Y'.top s):aA false o st Z Y st' Z' dA:=
 ⟨h.ob,h.ln,h.om,PD h.nx hn,⟨fun l hl'=>(hl l hl').trans (h.lp.1 l hl'),fun s hs=>(ht s hs).trans (h.lp.2 s hs)⟩,fun L hL ho=>(hp L (by rcases hL with e|e;cases e;exact e)).trans (h.dp L hL ho),fun hr=>⟨(h.ro hr).1,fun s=>by have:=(h.ro hr).2 s;unfold qd.Rt qd.aV at this⊢;rw[hp _ (Z.om.ni o)];exact this⟩⟩
omit hR in
theorem Eb {c c':Cx}(h:c'=c)(p:Nat):(c'.lc p).1<=c.dp:=by rw[<-h];exact c'.ni p
omit hR in
theorem Shift.loc {d:Nat}{Y Y':qd}(h:Shift d Y Y'){L:Loc}(hL:L.1<=d):Y'.obj L=Y.obj L:=h.obj L.1 L.2 hL
def gX (E:Env)(c:Code):Bool:=(Ro E c).all fun d=>Nat.blt d F0
omit hR in
theorem sN {c:Code}(h:gX E c=true):∀d,Rk d (Ro E c)=true->d<F0:=fun d hd=>by
 unfold gX at h;rw[P6] at h;have:=h d (Dw hd);unfold Nat.blt at this;exact Qn this
omit hR in
theorem Ec {Z:ak}{b:Nat}{Y:qd}:∀{ps:List Nat}{TW:List (TV R.T)}{vs:List V}{st st':MS R.T}{fr:Fr},abH st ps TW=some st'->ah R Z Y.top TW vs->aj Z b st fr Y->ps.length=vs.length/\aj Z b st' {fr with tm:=(ps.zip vs).foldl (fun tm (p,a)=>upd tm p a) fr.tm} Y/\st'.ob=st.ob
 | [],[],vs,st,st',fr,h,hr,hi=>by
   cases h;rw[hr.bg];exact⟨rfl,hi,rfl⟩
 | [],_::_,_,_,_,_,h,_,_=>by cases h|_::_,[],_,_,_,_,h,_,_=>by cases h|i::ps,t::TW,vs,st,st',fr,h,hr,hi=>by obtain⟨v,ws,rfl,h1,h2⟩:=hr.aP;obtain⟨a1,a2,a3⟩:=Ec (fr:=fr.set i v) (show abH (st.put i t) ps TW=some st' from h) h2 (hi.put i (.of h1));exact⟨by simp[a1],a2,a3⟩
omit hR in
theorem Ed {k:SC}{x:aaQ R.T k}:Vm (Uy R k x)=false:=by cases k<;>rfl
omit hR in
theorem Ee {o:Nat}{y:Ob R.T}{O:List Nat}:∀{l:List (Nat×SC)}{x:Ud R.T l},abG O l=true->look (Ue R l x) o=some y->Rk o O=false/\Vm y=false
 | [],x,_,h=>by cases h| [(i,k)],x,hd,h=>by
   unfold abG at hd;rw[Pz,Qw] at hd;have h':look [(i,Uy R k x)] o=some y:=h;by_cases e:o=i
   .subst e;rw[bL] at h';cases h';exact⟨hd.1,Ed⟩
   .rw[aX _ _ e] at h';cases h'
 | (i,k)::q::l,x,hd,h=>by
   unfold abG at hd;rw[Pz,Qw] at hd;have h':look ((i,Uy R k x.1)::Ue R (q::l) x.2) o=some y:=h;by_cases e:o=i
   .subst e;rw[bL] at h';cases h';exact⟨hd.1,Ed⟩
   .rw[aX _ _ e] at h';exact Ee hd.2 h'
omit hR in
theorem Np {W K O:List Nat}{mark:Ob R.T->Ob R.T}{st:MS R.T}{s:Shape}{p:VY R.T s}{o:Nat}(hd:abG O s.ob=true)(h:RO ((base W K O mark st).over (unpack R s p)) o):look (unpack R s p).ob o=none:=by
 cases hu:look (unpack R s p).ob o with
 |none=>rfl|some y=>
  exfalso;have hk:Rk o O=false/\Vm y=false:=by
   obtain⟨sl,ob⟩:=s;cases ob with
   |nil=>cases hu|cons a az=>exact Ee hd hu
  have hb:look (base W K O mark st).ob o=none:=by
   have:∀is:List Nat,Rk o is=false->look (Vv (fun o b=>!(Rk o W)&& Vn W b) mark st.ob is) o=none:=by
    intro is;induction is with
    |nil=>intro _;rfl|cons j is ih=>
     intro h;have h':(Nat.beq o j||Rk o is)=false:=h;rw[Qr] at h';unfold Vv;split
     .rename_i x hx;cases (!(Rk j W)&& Vn W x)
      .exact ih h'.2
      .rw[cond_true,aX _ _ (rO h'.1)];exact ih h'.2
     .exact ih h'.2
   exact this O hk.1
  have:=h y (by show look ((base W K O mark st).ob++(unpack R s p).ob) o=some y;rw[jK,hb];exact hu);rw[hk.2] at this;cases this
def Ua (E:Env)(I:IR R):Prop:=(∀g,∀i∈I.it g,E.imp g=true/\∀pa pb xs,i.F pa pb=some xs->adp E g (Ri R i.a pa) (Ri R i.b pb) (xs.map (Ri R i.el)))/\sG E I.im
theorem Ef {Y:qd}{n:Nat}:∀cs:List V,Ry cs=true->cs.mapM (Rf (n+1) Y)=some cs:=by
 intro cs;induction cs with
 |nil=>intro _;rfl|cons a l ih=>intro h;simp only[Ry,Pz] at h;rw[PW,Ux h.1,ih h.2];rfl
theorem Eh {I:IR R}(hI:Ua E I){g:Nat}{Z:ak}{top:Nat->Nat}{u v:List (TV R.T)}{va vb:List V}(hu:VD u=true)(hv:VD v=true)(ha:ah R Z top u va)(hb:ah R Z top v vb):∀{l:List (FI R)}{el:List Sk}{o:Option (List (FN R.T el))},(∀i∈l,i∈I.it g)->adl u v l=some ⟨el,o⟩->
 E.imp g=true/\Uq el=true/\∀xs,o=some xs->adp E g va vb (xs.map (Ri R el))
 | [],el,o,_,h=>by cases h|i::l,el,o,hl,h=>by
  unfold adl at h;split at h
  .rename_i pa pb hpa hpb;obtain⟨hc,h⟩:=aY h;simp only[Pz] at hc;obtain⟨⟨⟨⟨c1,c2⟩,c3⟩,c4⟩,c5⟩:=hc;cases h;obtain⟨h1,h2⟩:=hI.1 g i (hl i (by simp));refine⟨h1,c3,fun xs hx=>?_⟩;have e1:=jg hR i.a pa u va c1 hpa ha 19 qd.init (by have:=Qn c4;omega);have e2:=jg hR i.b pb v vb c2 hpb hb 19 qd.init (by have:=Qn c5;omega);rw[Ef hR va (kJ hR u va hu ha)] at e1;rw[Ef hR vb (kJ hR v vb hv hb)] at e2;cases e1;cases e2;exact h2 pa pb xs hx
  .exact Eh hI hu hv ha hb (fun x hx=>hl x (by simp[hx])) h
theorem gJ {n:Nat}{om:Bool}{F:Nat->List (FR R)}{I:IR R}(hF:Rq E F)(hI:Ua E I){A:Rs}:∀c:Code,gX E c=true->yj E om c fun st k=>Tg E R n om F I A c st k
 |.skip=>fun hw _ st k x fr Y Z _ h hi=>CW.skip ⟨Z,st,hi,.refl,h⟩
 |.exit i=>fun hw _ st k x fr Y Z _ h hi=>CW.exit ⟨Z,st,hi,.refl,h⟩
 |.ret=>fun hw _ st k x fr Y Z _ h hi=>CW.ret ⟨Z,st,hi,.refl,h⟩
 |.region id ops dr=>fun hw β st k x fr Y Z aC h hi=>by
  have h':(bif dr then (bif Vt ops.toList then Vx E R om F I.im (Vj ops.toList) ops.toList ops.toList st [] (fun st=>k .normal st) else none) else X7 E R om F I.im ops.toList ops.toList st (fun st=>k .normal st))=some x:=h;have Ei:∀{nr:Bool}{W:List Nat}{st':MS R.T}{fr':Fr}{Y':qd}{Z':ak}{j:Nat},Kp nr W st fr (Y.bump j) Z st' fr' Y' Z'->Kp nr W st fr Y Z st' fr' Y' Z':=fun h=>⟨h.fr,fun o ho=>⟨(h.ob o ho).ob,(h.ob o ho).ln,(h.ob o ho).om,PD (PG _ _) (h.ob o ho).nx,⟨fun l hl=>(h.ob o ho).lp.1 l (PS hl (PG _ _)),(h.ob o ho).lp.2⟩,(h.ob o ho).dp,fun hr=>⟨((h.ob o ho).ro hr).1,((h.ob o ho).ro hr).2⟩⟩⟩;cases dr with
  |true=>rw[cond_true] at h';obtain⟨he,h'⟩:=aY h';refine CW.draw he (nO hR hF hI.2 _ Y.next Z st fr _ [] (sN hw) aC (hi.next _) (mF _) h' ?_);intro Z' st' fr' Y' hi' hn hkp hk;exact⟨Z',st',hi'.le hn,Ei hkp,hk⟩
  |false=>rw[cond_false] at h';refine CW.region (kL hR hF hI.2 _ Y.next Z st fr _ (sN hw) aC (hi.next _) (mF _) h' ?_);intro Z' st' fr' Y' hi' hn hkp hk;exact⟨Z',st',hi'.le hn,Ei hkp,hk⟩
 |.seq a b=>fun hw β st k x fr Y Z aC h hi=>by
  have h':(match look A.joins (Vp b) with
   |none=>Tg E R n om F I A a st fun e st=>match e with
    |.normal=>Tg E R n om F I A b st k|e=>k e st
   |some q=>(Tg E R n om F I A (β:=Out R.T q.outs) a ((base (Ro E a) q.K q.O .ro st).over st) fun e st=>XL R (Ro E a) e st q.outs).bind (Yz R (base (Ro E a) q.K q.O (fun b=>b) st) (fun e st=>match e with
    |.normal=>Tg E R n om F I A b st k|e=>k e st) q.outs))=some x:=h
  have hw2:gX E a=true/\gX E b=true:=by have hw':((Ro E a++Ro E b).all fun d=>Nat.blt d F0)=true:=hw;rw[List.all_append,Pz] at hw';exact hw'
  have hl:∀i,Rk i (Ro E (.seq a b))=false->Rk i (Ro E a)=false/\Rk i (Ro E b)=false:=fun i hi=>by have hi':Rk i (Ro E a++Ro E b)=false:=hi;rw[pR,Qr] at hi';exact hi'
  have fin:∀(e:Ex)(st':MS R.T)(fr':Fr)(Y':qd)(Z':ak),aj Z' Y'.next st' fr' Y'->Kp (T9 E a) (Ro E a) st fr Y Z st' fr' Y' Z'->(match e with
   |.normal=>Tg E R n om F I A b st' k|e=>k e st')=some x->SH E b (fun e fr' Y'=>∃Z' st',aj Z' Y'.next st' fr' Y'/\Kp (T9 E (.seq a b)) (Ro E (.seq a b)) st fr Y Z st' fr' Y' Z'/\k e st'=some x) e fr' Y':=by
   intro e st' fr' Y' Z' hi' hkp hk;have yw:=(hkp.mono (W':=Ro E (.seq a b)) fun i hi=>(hl i hi).1).nr (p9:=T9 E (.seq a b)) (fun e=>by simp only[T9,Pz] at e;exact e.1);cases e with
   |normal=>refine(gJ hF hI b hw2.2 _ st' k x fr' Y' Z' ((congrArg Cx.om hkp.om).trans aC) hk hi').mono ?_;rintro e kG dA ⟨eY,bA,h1,h2,h3⟩;exact⟨eY,bA,h1,yw.trans ((h2.mono fun i hi=>(hl i hi).2).nr (fun e=>by simp only[T9,Pz] at e;exact e.2)),h3⟩
   |exit i=>exact⟨Z',st',hi',yw,hk⟩|ret=>exact⟨Z',st',hi',yw,hk⟩
  split at h'
  .refine CW.seq ((gJ hF hI a hw2.1 _ st _ x fr Y Z aC h' hi).mono ?_);rintro e fr' Y' ⟨Z',st',hi',hkp,hk⟩;exact fin e st' fr' Y' Z' hi' hkp hk
  .rename_i q _;obtain⟨o,ho,h'⟩:=iP.1 h';have hro:∀o x,look st.ob o=some x->Rk o (Ro E a)=false->Rk o q.O=true->Vn (Ro E a) x=true->RO ((base (Ro E a) q.K q.O .ro st).over st) o:=fun o x h1 h2 h3 h4=>wU h1 h2 h3 h4;have hH:∀o,Rk o (Ro E a)=false->RO st o->RO ((base (Ro E a) q.K q.O .ro st).over st) o:=fun o _ h=>rU (Cb (fun _ _=>rfl) h) h;have hbase:aj Z Y.next (base (Ro E a) q.K q.O .ro st) fr Y:=hi.base (st0:=(base (Ro E a) q.K q.O .ro st).over st) yt (Kp.refl (nr:=false)) hi hro;refine CW.seq ((gJ hF hI a hw2.1 _ _ _ o fr Y Z aC ho (hbase.over hi)).mono ?_);rintro e fr' Y' ⟨Z',st',hi',hkp,hk⟩;obtain⟨Z2,S2,bA,h1,g1,_,h3,h2⟩:=nG (β:=β) hR hi' hk;rw[h2] at h';obtain⟨f1,f2⟩:=finish (K:=q.K) hi hH hro (hkp.trans g1) h1 fun o ho hr=>h3 o ho ((hkp.ob o ho).ro hr).1;exact fin e _ fr' Y' Z2 f1 f2 h'
 |.cond c a b=>fun hw β st k x fr Y Z aC h hi=>by
  have h':(match RI [] st c with
   |some (.Tw t)=>bif t then Tg E R n om F I A a st k else Tg E R n om F I A b st k|some (.bool t)=>bif t then Tg E R n om F I A a (st.ab5 c true) k else Tg E R n om F I A b (st.ab5 c false) k|_=>none)=some x:=h
  have hw2:gX E a=true/\gX E b=true:=by have hw':((Ro E a++Ro E b).all fun d=>Nat.blt d F0)=true:=hw;rw[List.all_append,Pz] at hw';exact hw'
  have hl:∀i,Rk i (Ro E (.cond c a b))=false->Rk i (Ro E a)=false/\Rk i (Ro E b)=false:=fun i hi=>by have hi':Rk i (Ro E a++Ro E b)=false:=hi;rw[pR,Qr] at hi';exact hi'
  have ha:∀st':MS R.T,st'.ob=st.ob->aj Z Y.next st' fr Y->Tg E R n om F I A a st' k=some x->CW E a fr Y fun e fr' Y'=>∃Z' st',aj Z' Y'.next st' fr' Y'/\Kp (T9 E (.cond c a b)) (Ro E (.cond c a b)) st fr Y Z st' fr' Y' Z'/\k e st'=some x:=fun st' hs hi' hk=>by refine(gJ hF hI a hw2.1 _ st' k x fr Y Z aC hk hi').mono ?_;rintro e kG dA ⟨eY,bA,h1,h2,h3⟩;exact⟨eY,bA,h1,((⟨h2.fr,fun o ho=>(h2.ob o ho).from hs⟩:Kp (T9 E a) (Ro E a) st fr Y Z bA kG dA eY).mono fun i hi=>(hl i hi).1).nr (fun e=>by simp only[T9,Pz] at e;exact e.1),h3⟩
  have hb:∀st':MS R.T,st'.ob=st.ob->aj Z Y.next st' fr Y->Tg E R n om F I A b st' k=some x->CW E b fr Y fun e fr' Y'=>∃Z' st',aj Z' Y'.next st' fr' Y'/\Kp (T9 E (.cond c a b)) (Ro E (.cond c a b)) st fr Y Z st' fr' Y' Z'/\k e st'=some x:=fun st' hs hi' hk=>by refine(gJ hF hI b hw2.2 _ st' k x fr Y Z aC hk hi').mono ?_;rintro e kG dA ⟨eY,bA,h1,h2,h3⟩;exact⟨eY,bA,h1,((⟨h2.fr,fun o ho=>(h2.ob o ho).from hs⟩:Kp (T9 E b) (Ro E b) st fr Y Z bA kG dA eY).mono fun i hi=>(hl i hi).2).nr (fun e=>by simp only[T9,Pz] at e;exact e.2),h3⟩
  split at h'
  .rename_i t hc;refine CW.cond (aI (E:=E) hi .nil hc).gB (fun e=>?_) (fun e=>?_)
   .subst e;exact ha st rfl hi h'
   .subst e;exact hb st rfl hi h'
  .rename_i t hc;have hl:aj Z Y.next (st.ab5 c t) fr Y/\(st.ab5 c t).ob=st.ob:=by
    cases c with
    |tmp j=>exact⟨hi.learn (show Rl R Z Y.top (.bool t) (fr.tm j) from hi.fr _ _ (M8 hc)).eO,rfl⟩|_=>exact⟨hi,rfl⟩
   refine CW.cond (aI (E:=E) hi .nil hc).eO (fun e=>?_) (fun e=>?_)
   .subst e;exact ha _ hl.2 hl.1 h'
   .subst e;exact hb _ hl.2 hl.1 h'
  .cases h'
 |.block id c=>fun hw β st k x fr Y Z aC h hi=>by
  have h':(Tg E R n om F I A c st fun e st=>match e with
   |.exit i=>bif Nat.beq i id then k .normal st else k (.exit i) st|e=>k e st)=some x:=h
  refine CW.block ((gJ hF hI c hw _ st _ x fr Y Z aC h' hi).mono ?_);rintro e fr' Y' ⟨Z',st',hi',hkp,hk⟩;cases e with
  |normal=>exact⟨Z',st',hi',hkp,hk⟩|ret=>exact⟨Z',st',hi',hkp,hk⟩|exit i=>
   dsimp only at hk;unfold UM;dsimp only;cases hb:Nat.beq i id
   .rw[hb] at hk;rw[if_neg (rO hb)];exact⟨Z',st',hi',hkp,hk⟩
   .rw[hb] at hk;rw[if_pos (bn hb)];exact⟨Z',st',hi',hkp,hk⟩
 |.loop c=>fun hw β st k x fr Y Z aC h hi=>by
  have h':(match look A.loops (Vp c) with
   |some q=>match UN R (Ro E c) st q.sh with
    |some p=>(abF (Vp c) (Ro E c) (base (Ro E c) q.K q.O .ro st) q.sh q.outs (fun st k=>Tg E R n om F I A c st k) n p).bind (Yz R (base (Ro E c) q.K q.O (fun b=>b) st) k q.outs)
    |none=>none
   |none=>adk (R:=R) (fun st k=>Tg E R n om F I A c st k) 130 st k)=some x:=h
  split at h'
  .rename_i q _;split at h'
   .rename_i p hp;obtain⟨o,ho,h'⟩:=iP.1 h';obtain⟨Z1,S1,p1,p2,_,p3⟩:=hi.UN (nr:=T9 E c) hR hp;have hro:∀o x,look st.ob o=some x->Rk o (Ro E c)=false->Rk o q.O=true->Vn (Ro E c) x=true->RO ((base (Ro E c) q.K q.O .ro st).over (unpack R q.sh p)) o:=fun o x h1 h2 h3 h4=>wU h1 h2 h3 h4;have hH:∀o,Rk o (Ro E c)=false->RO st o->RO ((base (Ro E c) q.K q.O .ro st).over (unpack R q.sh p)) o:=fun o ho h=>Ca (p3 o ho h);have hB:∀(st' S':MS R.T)(fr':Fr)(Y':qd)(Z':ak)(b':Nat),aj Z' b' st' fr' Y'->Kp (T9 E c) (Ro E c) ((base (Ro E c) q.K q.O .ro st).over (unpack R q.sh p)) fr Y Z S' fr' Y' Z'->aj Z' b' (base (Ro E c) q.K q.O .ro st) fr' Y':=
     fun st' S' fr' Y' Z' b' h1 h2=>hi.base yt h2 h1 hro
    have hk0:Kp (T9 E c) (Ro E c) ((base (Ro E c) q.K q.O .ro st).over (unpack R q.sh p)) fr Y Z ((base (Ro E c) q.K q.O .ro st).over (unpack R q.sh p)) fr Y Z1:=⟨fun _ _=>rfl,fun q hq=>⟨(p2.ob q hq).ob,(p2.ob q hq).ln,(p2.ob q hq).om,mF _,⟨fun _ _=>rfl,fun _ _=>rfl⟩,fun _ _ _=>rfl,fun hr=>⟨hr,fun _=>⟨rfl,rfl⟩⟩⟩⟩;refine(D7 (β:=β) hR (gJ hF hI c hw) aC hB (fun o=>fun y hy=>by obtain⟨z,_,_,rfl⟩:=jL hy;rfl) n p o fr Y Z1 ho p1 hk0).mono ?_;rintro e fr' Y' ⟨Z',S',st',hi',hkp,hn,hk⟩;obtain⟨f1,f2⟩:=finish (K:=q.K) hi hH hro hkp hi' hn;exact⟨Z',_,f1,f2,by rw[<-hk k];exact h'⟩
   .cases h'
  .exact D8 (gJ hF hI c hw) 130 st k x fr Y Z aC h' hi
 |.rangeFunc f ps a c=>fun hw β st k x fr Y Z aC h hi=>by
  have h':(match look A.loops (Vp c) with
   |some q=>match RI [] st f with
    |some (.fn g u v)=>bif VD u&& VD v&& abG q.O q.sh.ob&& T9 E a&& T9 E c then (match adl u v (I.it g) with
     |some ⟨el,xs⟩=>match UN R (ps.toList++Ro E a++Ro E c) st.obs q.sh with
      |some p=>(xs.bind fun xs=>X8 (Vp c) (ps.toList++Ro E a++Ro E c) (base (ps.toList++Ro E a++Ro E c) q.K q.O .ro st) q.sh q.outs (fun x st k=>match abH st ps.toList (Tn R .sh el x) with
        |some st=>Tg E R n om F I A a st fun e st=>match e with
         |.normal=>Tg E R n om F I A c st k|_=>none
        |none=>none) xs p).bind (Yz R (base (ps.toList++Ro E a++Ro E c) q.K q.O (fun b=>b) st) k q.outs)
      |none=>none
     |none=>none) else none
    |_=>none
   |none=>none)=some x:=h
  split at h'
  .rename_i q _;split at h'
   .rename_i g u v hf;obtain⟨hst,h'⟩:=aY h';simp only[Pz] at hst;obtain⟨⟨hst,hna⟩,hnc⟩:=hst;split at h'
    .rename_i el xs hfi;split at h'
     .rename_i p hp;obtain⟨o,ho,h'⟩:=iP.1 h';obtain⟨ys,hys,ho⟩:=iP.1 ho;obtain⟨va,vb,jc,hva,hvb⟩:=(aI (E:=E) hi .nil hf).dS;obtain⟨himp,hel,hit⟩:=Eh hR hI hst.1.1 hst.1.2 hva hvb (fun _ h=>h) hfi;have hit:=hit ys hys;obtain⟨Z1,S1,p1,p2,p0,p3⟩:=hi.obs.UN (nr:=false) hR hp;have hw3:gX E a=true/\gX E c=true:=(by have hw':((ps.toList++Ro E a++Ro E c).all fun d=>Nat.blt d F0)=true:=hw;rw[List.all_append,List.all_append,Pz,Pz] at hw';exact⟨hw'.1.2,hw'.2⟩);clear hw;generalize hW:ps.toList++Ro E a++Ro E c=W at*;have hl:∀i,Rk i W=false->Rk i ps.toList=false/\Rk i (Ro E a)=false/\Rk i (Ro E c)=false:=fun i hi=>by rw[<-hW,pR,pR,Qr,Qr] at hi;exact⟨hi.1.1,hi.1.2,hi.2⟩
      have hro:∀o x,look st.ob o=some x->Rk o W=false->Rk o q.O=true->Vn W x=true->RO ((base W q.K q.O .ro st).over (unpack R q.sh p)) o:=fun o x h1 h2 h3 h4=>wU h1 h2 h3 h4;have hH:∀o,Rk o W=false->RO st o->RO ((base W q.K q.O .ro st).over (unpack R q.sh p)) o:=fun o ho h=>Ca (p3 o ho h);generalize Nq:(base W q.K q.O .ro st).over (unpack R q.sh p)=H at*;have hB:∀(st' S':MS R.T)(Y':qd)(Z':ak)(b':Nat),aj Z' b' st' fr Y'->Kp false W H fr Y Z S' fr Y' Z'->aj Z' b' (base W q.K q.O .ro st) fr Y':=
       fun st' S' Y' Z' b' h1 h2=>hi.base yt h2 h1 hro
      have Nr:∀o,RO (base W q.K q.O .ro st) o:=fun o=>fun y hy=>by obtain⟨z,_,_,rfl⟩:=jL hy;rfl
      let r0:Vg:={st:=0,pend:=none,fr:=fr,ps:=ps.toList,aF:=a,body:=c}
      let body:{β:Type}->FN R.T el->MS R.T->(Ex->MS R.T->Option β)->Option β:=fun x st k=>match abH st ps.toList (Tn R .sh el x) with
          |some st=>Tg E R n om F I A a st fun e st=>match e with
           |.normal=>Tg E R n om F I A c st k|_=>none
          |none=>none
      let J:List (List V)->qd->Prop:=fun L Y'=>∃(zs:List (FN R.T el)) (p':VY R.T q.sh) (Z':ak),L=zs.map (Ri R el)/\X8 (Vp c) W (base W q.K q.O .ro st) q.sh q.outs body zs p'=some o/\aj Z' Y'.next (unpack R q.sh p') fr Y'/\(unpack R q.sh p').fr=[]/\
       Kp false W H fr Y Z ((base W q.K q.O .ro st).over (unpack R q.sh p')) fr Y' Z'/\Y'.loops Y.next=some r0
      let Fin:Ex->qd->Prop:=fun e Y'=>∃(Z':ak) (S' st':MS R.T),aj Z' Y'.next st' fr Y'/\Kp false W H fr Y Z S' fr Y' Z'/\(∀o,Rk o W=false->RO H o->look st'.ob o=none)/\∀(k:Ex->MS R.T->Option β)(bs:MS R.T),Yz R bs k q.outs o=k e (bs.over st')
      let D:qd->Prop:=fun Y'=>∃e,Fin e Y'/\Y'.loops Y.next=some {r0 with st:=2,pend:=some e}
      have Ns:∀L Y1 Y2,Y.next<Y1.next->J L Y1->Shift Z.om.dp Y1 Y2->J L Y2:=(by rintro L Y1 Y2 hlt ⟨zs,p',Z',e1,e2,e3,e4,e5,e6⟩ hs;exact⟨zs,p',Z',e1,e2,(e3.shift (fun p=>hs.loc (Eb e5.om p)) hs.top).le hs.next,e4,⟨e5.fr,fun o ho=>(e5.ob o ho).shift (fun L hL=>hs.loc hL) hs.next (fun l hl=>hs.loops l (by omega)) (fun s hs'=>hs.top s (by have:=hi.nx;omega))⟩,(hs.loops _ hlt).trans e6⟩);have Nt:∀Y1 Y2,Y.next<Y1.next->D Y1->Shift Z.om.dp Y1 Y2->D Y2:=(by rintro Y1 Y2 hlt ⟨e,⟨Z',S',st',e1,e2,e3,e4⟩,e5⟩ hs;exact⟨e,⟨Z',S',st',(e1.shift (fun p=>hs.loc (Eb e2.om p)) hs.top).le hs.next,⟨e2.fr,fun o ho=>(e2.ob o ho).shift (fun L hL=>hs.loc hL) hs.next (fun l hl=>hs.loops l (by omega)) (fun s hs'=>hs.top s (by have:=hi.nx;omega))⟩,e3,e4⟩,(hs.loops _ hlt).trans e5⟩);have fin:∀(Y2:qd)(r:Vg)(e:Ex),Fin e Y2->∃Z' st',aj Z' (Y2.dG Y.next).next st' fr (Y2.dG Y.next)/\Kp false (Ro E (.rangeFunc f ps a c)) st fr Y Z st' fr (Y2.dG Y.next) Z'/\k e st'=some x:=(by rintro Y2 r e ⟨Z',S',st',e1,e2,e3,e4⟩;have Nu:aj Z' Y2.next st' fr (Y2.dG Y.next):=e1.shift (fun _=>rfl) (fun _ _=>rfl);have e2':Kp false W H fr Y Z S' fr (Y2.dG Y.next) Z':=⟨e2.fr,fun o ho=>(e2.ob o ho).shift (fun _ _=>rfl) (mF _) (fun l hl=>by show upd Y2.loops Y.next none l=_;unfold upd;rw[if_neg (by omega)]) (fun _ _=>rfl)⟩;obtain⟨f1,f2⟩:=finish (K:=q.K) hi hH hro e2' Nu e3;refine⟨Z',_,f1,?_,by rw[<-e4 k];exact h'⟩;show Kp false (ps.toList++Ro E a++Ro E c) _ _ _ _ _ _ _ _;rw[hW];exact f2);refine CW.range jc himp ?_;rw[hi.d];have hent:(Y.enter fr ps a c).next=Y.next+1:=rfl;obtain⟨m,w,Y2,hm,hnx,Nv⟩:=hit Z.om.dp Y.next (Y.enter fr ps a c) J D Ns Nt (by
       rintro y L Y1 hlt ⟨zs,p',Z',e1,e2,e3,e4,e5,e6⟩;cases zs with
       |nil=>cases e1|cons z zs=>
        simp only[PU,Qb] at e1;obtain⟨rfl,rfl⟩:=e1;have hbase:=hB _ _ _ _ _ e3 e5;have e2':body z ((base W q.K q.O .ro st).over (unpack R q.sh p')) (yu (Vp c) W (base W q.K q.O .ro st) q.sh q.outs body zs)=some o:=e2;show∃c' Y',Rnd E Y.next (Ri R el z) Y1 c' Y'/\_;generalize hkk:yu (Vp c) W (base W q.K q.O .ro st) q.sh q.outs body zs=kk at e2';dsimp only[body] at e2';split at e2'
        .rename_i st1 iZ;obtain⟨hlen,i1,i2⟩:=Ec iZ (kK hR el z hel) (hbase.over e3);have pX:Z'.om.om=om:=(congrArg Cx.om e5.om).trans aC;obtain⟨m1,x1,Rb,Y2,q1,Z2,st2,q2,q3,q4⟩:=gJ hF hI a hw3.1 _ _ _ _ _ _ Z' pX e2' i1;cases x1 with
         |exit i=>cases q4|ret=>cases q4|normal=>
          dsimp only at q4;obtain⟨nb,hnb⟩:=lV (Ro E a);have lp2:Y2.loops Y.next=some r0:=((q3.ob nb (hnb nb (mF _))).lp.1 _ hlt).trans e6;have Ej:=(q3.ob nb (hnb nb (mF _))).nx;have q2':aj Z2 Y2.next st2 Rb (Y2.aO Y.next {r0 with st:=1}):=q2.shift (fun _=>rfl) (fun _ _=>rfl);obtain⟨m2,x2,RX,Y3,t1,Z3,dW,t2,t3,t4⟩:=gJ hF hI c hw3.2 _ _ _ _ Rb (Y2.aO Y.next {r0 with st:=1}) Z2 ((congrArg Cx.om q3.om).trans pX) q4 q2';obtain⟨nc,hnb'⟩:=lV (Ro E c);have Nw:Y3.loops Y.next=some {r0 with st:=1}:=((t3.ob nc (hnb' nc (mF _))).lp.1 _ (show Y.next<Y2.next by omega)).trans (by show upd Y2.loops Y.next _ Y.next=_;unfold upd;rw[if_pos rfl]);have yx:Y2.next<=Y3.next:=(t3.ob nc (hnb' nc (mF _))).nx;have keep:∀p,Rk p W=false->aA false p H Z Y dW Z3 Y3:=fun p hp=>by
           have k1:=e5.ob p hp;have k2:aA false p ((base W q.K q.O .ro st).over (unpack R q.sh p')) Z' Y1 st2 Z2 Y2:=(q3.ob p (hl p hp).2.1).weak.from i2;have k3:=(t3.ob p (hl p hp).2.2).weak;have k12:=k1.trans k2;refine⟨k3.ob.trans k12.ob,k3.ln.trans k12.ln,k3.om.trans k12.om,PD k12.nx yx,⟨fun l hl=>?_,fun s hs=>(k3.lp.2 s (by rw[k12.om];exact hs)).trans (k12.lp.2 s hs)⟩,fun L hn hL=>(k3.dp L (by rw[k12.om];exact hn) (by rw[k12.om];exact hL)).trans (k12.dp L hn hL),fun hr=>?_⟩
           .refine(k3.lp.1 l (show l<Y2.next by have:=k12.nx;omega)).trans (Eq.trans ?_ (k12.lp.1 l hl));show upd Y2.loops Y.next _ l=_;unfold upd;rw[if_neg (by omega)]
           .have r1:=k12.ro hr;have r2:=k3.ro r1.1;rw[k12.om] at r2;exact⟨r2.1,fun s=>⟨(r2.2 s).1.trans (r1.2 s).1,(r2.2 s).2.trans (r1.2 s).2⟩⟩
          have fd:∀(r':Vg),aj Z3 Y3.next dW.obs RX (Y3.aO Y.next r'):=fun r'=>t2.obs.shift (fun _=>rfl) (fun _ _=>rfl);have keep':∀(r':Vg),∀p,Rk p W=false->aA false p H Z Y dW.obs Z3 (Y3.aO Y.next r'):=fun r' p hp=>((keep p hp).congr (bA:=dW.obs) rfl).shift (dA:=Y3.aO Y.next r') (fun _ _=>rfl) (mF _) (fun l hl=>by show upd Y3.loops Y.next _ l=_;unfold upd;rw[if_neg (by omega)]) (fun _ _=>rfl);have El:∀(r':Vg),(Y3.aO Y.next r').loops Y.next=some r':=fun r'=>by show upd Y3.loops Y.next _ Y.next=_;unfold upd;rw[if_pos rfl]
          have deep:∀(r':Vg) a o,Z.om.dp<a->(Y3.aO Y.next r').obj (a,o)=Y1.obj (a,o):=fun r' a o ha=>((t3.ob nc (hnb' nc (mF _))).dp (a,o) (.inl hnc) (Cx.BU _ (by rw[q3.om,e5.om];exact ha))).trans ((q3.ob nb (hnb nb (mF _))).dp (a,o) (.inl hna) (Cx.BU _ (by rw[e5.om];exact ha)))
          have loops:∀(r':Vg) s,s<Y1.next->(Y3.aO Y.next r').loops s=Y1.loops s\/s=Y.next:=fun r' s hs=>by
           by_cases es:s=Y.next
           .exact .inr es
           .left;have u1:(Y3.aO Y.next r').loops s=Y3.loops s:=(by show upd Y3.loops Y.next _ s=_;unfold upd;rw[if_neg es]);have u2:(Y2.aO Y.next {r0 with st:=1}).loops s=Y2.loops s:=(by show upd Y2.loops Y.next _ s=_;unfold upd;rw[if_neg es]);exact u1.trans (((t3.ob nc (hnb' nc (mF _))).lp.1 s (show s<Y2.next by omega)).trans (u2.trans ((q3.ob nb (hnb nb (mF _))).lp.1 s hs)))
          have Em:∀(bb:Bool)(Y':qd),D9 r0 Y.next Y3 x2 bb Y'->Rnd E Y.next (Ri R el z) Y1 bb Y':=fun bb Y' hbb=>
           Rnd.of e6 rfl hlen ⟨m1,.normal,Rb,Y2,q1,rfl,r0,lp2,rfl,m2,x2,RX,Y3,t1,_,Nw,rfl,by cases x2<;>exact hbb⟩
          have stop:∀e,D9 r0 Y.next Y3 x2 false (Y3.aO Y.next {r0 with st:=2,pend:=some e})->XL R W e dW.obs q.outs=some o->∃c' Y',Rnd E Y.next (Ri R el z) Y1 c' Y'/\Y1.next<=Y'.next/\(∀a o,Z.om.dp<a->Y'.obj (a,o)=Y1.obj (a,o))/\(∀s,s<Y1.next->Y'.loops s=Y1.loops s\/s=Y.next)/\(c'=true->J (zs.map (Ri R el)) Y')/\(c'=false->D Y'):=(by intro e he hpk;obtain⟨Z4,S4,mZ,g1,g2,g3,g4,g5⟩:=nG (nr:=false) (β:=β) hR (fd {r0 with st:=2,pend:=some e}) hpk;have qb:Z4.om=Z.om:=(by obtain⟨nw,hnw⟩:=lV W;exact g2.om.trans (keep nw (hnw nw (mF _))).om);refine⟨false,Y3.aO Y.next {r0 with st:=2,pend:=some e},Em _ _ he,PD Ej yx,deep _,loops _,(fun h=>by cases h),fun _=>⟨e,⟨Z4,S4,mZ,g1.Ea (g3 rfl) (by rw[qb];exact hi.d) (by rw[qb];exact hi.om),⟨fun _ _=>rfl,fun p hp=>(keep' _ p hp).trans (g2.ob p hp)⟩,fun p hp hr=>g4 p hp ((keep p hp).ro hr).1,g5⟩,El _⟩⟩);cases x2 with
          |normal=>
           rw[<-hkk] at t4;unfold yu at t4;dsimp only at t4;split at t4
           .rename_i p4 Ny;obtain⟨Z4,S4,g1,g2,g3,g4⟩:=(fd {r0 with st:=0,pend:=none}).UN (nr:=false) hR Ny;have qb:Z4.om=Z.om:=(by obtain⟨nw,hnw⟩:=lV W;exact g2.om.trans (keep nw (hnw nw (mF _))).om);refine⟨true,Y3.aO Y.next {r0 with st:=0,pend:=none},Em _ _ ⟨rfl,rfl⟩,PD Ej yx,deep _,loops _,fun _=>⟨zs,p4,Z4,rfl,t4,g1.Ea (g3 rfl) (by rw[qb];exact hi.d) (by rw[qb];exact hi.om),g3 rfl,⟨fun _ _=>rfl,fun p hp=>?_⟩,El _⟩,fun h=>by cases h⟩
            .have kk:=(keep' {r0 with st:=0,pend:=none} p hp).trans (g2.ob p hp);exact⟨kk.ob,kk.ln,kk.om,kk.nx,kk.lp,kk.dp,fun hr=>⟨rU (Nr p) fun y hy=>(by rw[g4 p hp ((keep p hp).ro hr).1] at hy;cases hy),(kk.ro hr).2⟩⟩
           .cases t4
          |exit i=>rw[<-hkk] at t4;exact stop (.exit i) ⟨rfl,rfl⟩ t4|ret=>rw[<-hkk] at t4;exact stop .ret ⟨rfl,rfl⟩ t4
        .cases e2') (Nat.lt_succ_self _) (by
       refine⟨ys,p,Z1,rfl,ho,(p1.shift (Y':=Y.enter fr ps a c) (fun _=>rfl) (fun _ _=>rfl)).le (P7 _),p0 rfl,⟨fun _ _=>rfl,fun o ho=>?_⟩,?_⟩
       .rw[Nq];exact⟨(p2.ob o ho).ob,(p2.ob o ho).ln,(p2.ob o ho).om,P7 _,⟨fun l hl=>(by show upd Y.loops Y.next _ l=_;unfold upd;rw[if_neg (by omega)]),fun _ _=>rfl⟩,fun _ _ _=>rfl,fun hr=>⟨hr,fun _=>⟨rfl,rfl⟩⟩⟩
       .show upd Y.loops Y.next _ Y.next=_;unfold upd;rw[if_pos rfl])
      refine⟨m,w,Y2,hm,?_⟩;rcases Nv with ⟨zs,p',Z',e1,e2,e3,e4,e5,e6⟩| ⟨e,hfin,e6⟩
      .cases zs with
       |cons z zs=>cases e1|nil=>
        have e2':XL R W .normal (unpack R q.sh p').obs q.outs=some o:=e2;obtain⟨Z4,S4,mZ,g1,g2,g3,g4,g5⟩:=nG (nr:=false) (β:=β) hR e3.obs e2';have hno:∀p,Rk p W=false->RO H p->look (unpack R q.sh p').ob p=none:=fun p hp hr=>Np hst.2 ((e5.ob p hp).ro hr).1;have sO:∀p,Rk p W=false->RO H p->RO (unpack R q.sh p').obs p:=fun p hp hr y hy=>by have:look (unpack R q.sh p').ob p=some y:=hy;rw[hno p hp hr] at this;cases this
        exact⟨_,e6,(by show (0:Nat)≠1;omega),fin Y2 r0 .normal ⟨Z4,S4,mZ,g1,⟨fun _ _=>rfl,fun p hp=>by have a1:=e5.ob p hp;have a2:=g2.ob p hp;have sP:=a2.ro;rw[a1.om] at sP;exact⟨a2.ob.trans a1.ob,a2.ln.trans a1.ln,a2.om.trans a1.om,PD a1.nx a2.nx,⟨fun l hl=>(a2.lp.1 l (PS hl a1.nx)).trans (a1.lp.1 l hl),fun s hs=>(a2.lp.2 s (by rw[a1.om];exact hs)).trans (a1.lp.2 s hs)⟩,fun L hn hL=>(a2.dp L (by rw[a1.om];exact hn) (by rw[a1.om];exact hL)).trans (a1.dp L hn hL),fun hr=>⟨(sP (sO p hp hr)).1,fun s=>⟨((sP (sO p hp hr)).2 s).1.trans ((a1.ro hr).2 s).1,((sP (sO p hp hr)).2 s).2.trans ((a1.ro hr).2 s).2⟩⟩⟩⟩,fun p hp hr=>g4 p hp (sO p hp hr),g5⟩⟩
      .exact⟨_,e6,(by show (2:Nat)≠1;omega),fin Y2 r0 e hfin⟩
     .cases h'
    .cases h'
   .cases h'
  .cases h'
 |.scope c=>fun hw β st k x fr Y Z aC h hi=>CW.scope (gJ hF hI c hw _ st k x fr Y Z aC h hi)
 |.label _=>fun hw _ st k x fr Y Z _ h hi=>CW.label ⟨Z,st,hi,.refl,h⟩
 |.goto _=>fun hw _ st k x fr Y Z _ h hi=>by cases h
 |.refuse _=>fun hw _ st k x fr Y Z _ h hi=>by cases h
omit hR in
theorem sQ {Z:ak}{b:Nat}{st:MS R.T}{fr:Fr}{Y:qd}(hi:aj Z b st fr Y):∀{rs:List ResultVar}{TW:List (TV R.T)},aas E R st rs=some TW->∃vs,rs.mapM (TN E fr Y)=some vs/\ah R Z Y.top TW vs
 | [],TW,h=>by cases h;exact⟨[],rfl,rfl⟩|.tmp t::l,TW,h=>by
  unfold aas at h;split at h
  .rename_i v hv;split at h
   .rename_i vs hvs;cases h;obtain⟨ws,h1,h2⟩:=sQ hi hvs;have:=aI (E:=E) hi .nil hv;exact⟨fr.tm t::ws,by rw[PW];simp[TN,h1],.cons' this h2⟩
   .cases h
  .cases h
 |.cell a t::l,TW,h=>by
  unfold aas at h;split at h
  .rename_i o off hv;split at h
   .rename_i cs hl;split at h
    .rename_i v hld;split at h
     .rename_i vs hvs;cases h;obtain⟨ws,h1,h2⟩:=sQ hi hvs;obtain⟨s,h3,h4⟩:=(aI (E:=E) hi .nil hv).iM;rw[pK] at h4;obtain⟨s',l',h5,h6,h7⟩:=hi.rd hl;rw[h3] at h5;cases h5;obtain⟨y,hy,hr⟩:=jM h7 hld;exact⟨y::ws,by rw[PW];simp[TN,h4,h6,hy,h1],.cons' hr h2⟩
     .cases h
    .cases h
   .cases h
  .cases h
omit hR in
theorem yA:∀(l:List (TV R.T))(vs:List V)(i:Nat)(P:TV R.T->V->Prop),(∀j v,l[j]? =some v->P v (vs.getD j Lv))->∀j v,look (abI i l) j=some v->i<=j/\P v (vs.getD (j-i) Lv)
 | [],vs,i,P,_,j,v,h=>by cases h|x::l,vs,i,P,hp,j,v,h=>by
  have h':look ((i,x)::abI (i+1) l) j=some v:=h;by_cases e:j=i
  .subst e;rw[bL] at h';cases h';exact⟨mF _,by simpa using hp 0 x rfl⟩
  .rw[aX _ _ e] at h';obtain⟨h1,h2⟩:=yA l vs.tail (i+1) P (fun j v hj=>by have:=hp (j+1) v (by simpa using hj);cases vs<;>simpa using this) j v h';refine⟨by omega,?_⟩;have e2:j-i=(j-(i+1))+1:=by omega
   rw[e2];cases vs<;>simpa using h2
def Cx.main (om:Bool):Cx:=⟨om,1,0,fun _=>none,fun _ _ h=>(by cases h),fun _ _ _ h=>(by cases h)⟩
theorem Uz {n:Nat}{om:Bool}{F:Nat->List (FR R)}{I:IR R}(hF:Rq E F)(hI:Ua E I){A:Rs}{f:Nat}{fn:Func}{args res:List Sk}{p:FN R.T args}{x:FN R.T res}(h:Rz E R n om F I A fn args res p=some x)(hf:E.P.funcs[f]? =some fn)(ha:Uq args=true)(hlen:(Ri R args p).length=args.length)(aC:E.om f=om)(hs:E.Wi f=none)(hok:(match fn.body with|some c=>decide (args.length<=fn.ntmps)&& aK fn.ntmps c&& gX E c|none=>false)=true):Pure E f (Ri R args p) (Sy (Ri R res x)):=by
 unfold Rz at h;split at h
 .rename_i c hc;rw[hc] at hok;dsimp only at hok;rw[Pz] at hok;obtain⟨hok,hwk⟩:=hok;refine Pure.of' fn.results.toList hf hc (fun fr Y hd ho ht=>?_) rfl (by rw[hlen];exact hok) hs;have hi:aj ⟨fun _=>none,fun _=>none,fun _=>0,Cx.main om⟩ Y.next (⟨abI 0 (Tn R .sh args p),[]⟩:MS R.T) fr Y:={
   d:=hd
   om:=by rw[ho,aC];rfl
   fr:=fun i v hv=>by obtain⟨_,h2⟩:=yA _ (Ri R args p) 0 (fun v w=>Rl R ⟨fun _=>none,fun _=>none,fun _=>0,Cx.main om⟩ Y.top v w) (fun j v hj=>by obtain⟨w,h1,h2⟩:=(kK hR args p ha).get hj;rw[QK,h1];exact h2) i v hv;rw[ht];exact .of (by simpa using h2)
   ob:=fun o x hx=>by cases hx
   inj:=fun t u s h=>by cases h
   lt:=fun t s h=>by cases h
   ge:=fun t s h=>by cases h
   nx:=Ql _}
  refine(gJ hR hF hI c hwk _ _ _ x fr Y _ rfl h hi).mono ?_;rintro e fr' Y' ⟨Z',st',hi',_,hk⟩;have key:(match aas E R st' fn.results.toList with
   |some vs=>bif Uq res&& Nat.ble (WB res) 16 then TQ R res (aam st' vs) else none|none=>none)=some x->∃vs,fn.results.toList.mapM (TN E fr' Y')=some vs/\Rf 20 Y' (match vs with| [v]=>v|vs=>.Rn vs)=some (Sy (Ri R res x)):=by
   intro hk;split at hk
   .rename_i TW yB;obtain⟨hb,hk⟩:=aY hk;rw[Pz] at hb;obtain⟨vs,h1,h2⟩:=sQ hi' yB;refine⟨vs,h1,?_⟩;have Pt:=Qn hb.2;obtain⟨vs',v1,v2⟩:=xK hR hi' h2;have c1:=(v2 15).trans (jg hR res x (aam st' TW) vs' hb.1 hk v1 19 Y' (by omega));have c2:=(v2 16).trans (jg hR res x (aam st' TW) vs' hb.1 hk v1 20 Y' (by omega));clear v1 v2
    match vs,c1,c2 with
    | [],c1,c2=>have:Ri R res x=[]:=(by simpa using c1.symm);rw[this];show Rf 20 Y' (.Rn [])=some (.Rn []);rw[aeM];rfl| [v],c1,c2=>rw[PW] at c2;obtain⟨w,hw,c2⟩:=iP.1 c2;have:[w]=Ri R res x:=(by simpa using c2);rw[<-this];exact hw
    |v::w::vs,c1,c2=>
     show Rf 20 Y' (.Rn (v::w::vs))=_;rw[aeM,c1,Option.map_some];have hl:(Ri R res x).length=(v::w::vs).length:=by
      have:∀(l:List V)(m:List V),l.mapM (Rf 19 Y')=some m->m.length=l.length:=by
       intro l;induction l with
       |nil=>intro m h;cases h;rfl|cons a l ih=>intro m h;rw[PW] at h;obtain⟨b,hb,h⟩:=iP.1 h;obtain⟨c,hc,h⟩:=iP.1 h;cases h;simp[ih c hc]
      exact this _ _ c1
     match Ri R res x,hl with
     |a::b::l,_=>rfl
   .cases hk
  cases e with
  |exit i=>cases hk|normal=>exact key hk|ret=>exact key hk
 .cases h
omit hR in
theorem En {c:Cp}:∀{l:List Sk}{p:FN R.T l},(Tn R c l p).length=l.length
 | [],_=>rfl| [_],_=>rfl|_::k::l,p=>by show (Tn R c (k::l) p.2).length+1=_;rw[En];rfl
omit hR in
theorem Nz {Z Z':ak}{top top':Nat->Nat}(hk:∀p,F0<=p->Z'.ob p=Z.ob p/\Z'.ln p=Z.ln p)(hx:Z'.om=Z.om):∀{l:List Sk}{y:FN R.T l}{vs:List V},Wn l=true->ah R Z' top (Tn R .any l y) vs->ah R Z top' (Tn R .any l y) vs:=by
 have one:∀(k:Sk)(l:List Sk)(y:VX R.T k)(v:V),Wn (k::l)=true->Rl R Z' top (up R .any k y) v->Rl R Z top' (up R .any k y) v:=fun k l y v hs h=>by
  cases k<;>first| (cases hs;done)|skip
  .rename_i t;cases t<;>first| (cases hs;done)|exact h
  .rename_i p t;have hs':(Nat.ble F0 p&& Wn l)=true:=hs;rw[Pz] at hs';obtain⟨k1,k2⟩:=hk p (Qn hs'.1);obtain⟨g0,g1,g2,h⟩:=Rl.kC (R:=R) h;show Rl R Z top' (.sub p t y.1 y.2) v;unfold Rl;refine⟨g0,g1,by rw[<-k2];exact g2,?_⟩;rcases h with ⟨s,cp,h1,h2,h3⟩|h
   .exact .inl ⟨s,cp,by rw[<-k1];exact h1,h2,by rw[<-hx];exact h3⟩
   .exact .inr h
 have tl:∀(k:Sk)(l:List Sk),Wn (k::l)=true->Wn l=true:=fun k l hs=>by
  cases k<;>first| (cases hs;done)|skip
  .rename_i t;cases t<;>first| (cases hs;done)|exact hs
  .have hs':(_&& Wn l)=true:=hs;rw[Pz] at hs';exact hs'.2
 intro l;induction l with
 |nil=>intro y vs _ h;exact h|cons k l ih=>
  intro y vs hs h;cases l with
  |nil=>obtain⟨v,ws,rfl,h1,h2⟩:=ah.aP (ts:=[]) h;rw[h2.bg];exact .cons' (one k [] y v hs h1) rfl
  |cons q l=>obtain⟨v,ws,rfl,h1,h2⟩:=ah.aP (ts:=Tn R .any (q::l) y.2) h;exact .cons' (one k _ y.1 v hs h1) (ih (tl _ _ hs) h2)
theorem Eo {Z:ak}{b:Nat}{st:MS R.T}{fr:Fr}{Y:qd}(hi:aj Z b st fr Y):∀{ks:List Sk}{TW:List (TV R.T)}{vs:List V},ah R Z Y.top TW vs->ah R Z Y.top (wvs st ks TW) vs
 | [],_,_,h=>by cases ‹List (TV R.T)› <;>exact h|_::_,[],_,h=>h|k::ks,x::xs,_,h=>by
  obtain⟨v,ws,rfl,h1,h2⟩:=h.aP;refine .cons' ?_ (Eo hi h2);unfold wv1;split
  .split
   .rename_i o t a c hw;exact xB hR hw h1 hi
   .exact h1
  .exact h1
def qc:List (Nat×SC)->Bool
 | []=>true| (i,_)::l=>Nat.ble F0 i&& qc l
omit hR in
theorem Ep:∀{l:List (Nat×SC)}{x:Ud R.T l},qc l=true->∀{i:Nat}{v:Ob R.T},look (Ue R l x) i=some v->F0<=i
 | [],x,_,i,v,hv=>by cases hv| [(j,k)],x,h,i,v,hv=>by
   unfold qc at h;rw[Pz] at h;have hv':look [(j,Uy R k x)] i=some v:=hv;by_cases e:i=j
   .rw[e];exact Qn h.1
   .rw[aX _ _ e] at hv';cases hv'
 | (j,k)::q::l,x,h,i,v,hv=>by
   unfold qc at h;rw[Pz] at h;have hv':look ((j,Uy R k x.1)::Ue R (q::l) x.2) i=some v:=hv;by_cases e:i=j
   .rw[e];exact Qn h.1
   .rw[aX _ _ e] at hv';exact Ep h.2 hv'
theorem agF {n:Nat}{om:Bool}{F:Nat->List (FR R)}{I:IR R}(hF:Rq E F)(hI:Ua E I){A:Rs}{f:Nat}{fn:Func}{args res:List Sk}{obs:List (Nat×SC)}{p:FN R.T args}{q:Ud R.T obs}{y:FN R.T res}{q':Ud R.T obs}(h:UQ E R n om F I A fn args obs res p q=some (y,q'))(hf:E.P.funcs[f]? =some fn)(aC:E.om f=om)(hok:(match fn.body with|some c=>decide (args.length<=fn.ntmps)&& aK fn.ntmps c&& gX E c&& (Wn res&& XO obs&& qc obs)|none=>false)=true):
 ∀(Z:ak)(vs:List V)(Y:qd),Z.om.om=E.om f->(∀t,Z.tk t=none)->Z.om.lo<=Y.next->
  ah R Z Y.top (Tn R .any args p) vs->(∀o x,look (Ue R obs q) o=some x->aM Z Y o x)->
  U9 E f vs Z.om.dp Y fun v Y'=>(∃ws,v=Sy ws/\ah R Z Y'.top (Tn R .any res y) ws)/\(∀o x,look (Ue R obs q') o=some x->aM Z Y' o x)/\Y.next<=Y'.next/\(∀l,l<Y.next->Y'.loops l=Y.loops l)/\(∀s,s<Z.om.lo->Y'.top s=Y.top s)/\
   ∀L:Loc,L.1<=Z.om.dp->Z.om.out L->Y'.obj L=Y.obj L:=by
 intro Z vs Y Er htk hlo hargs NA;unfold UQ at h;split at h
 .rename_i c hc;rw[hc] at hok;dsimp only at hok;simp only[Pz] at hok;obtain⟨⟨hok,hwk⟩,⟨hsc,NC⟩,hbig⟩:=hok;have hlen:vs.length=args.length:=by rw[hargs.length];exact En
  have hi:aj Z Y.next (⟨abI 0 (Tn R .any args p),Ue R obs q⟩:MS R.T) ({d:=Z.om.dp,om:=E.om f,tm:=fun i=>vs.getD i Lv}:Fr) Y:={
   d:=rfl
   om:=Er.symm
   fr:=fun i v hv=>by obtain⟨_,h2⟩:=yA _ vs 0 (fun v w=>Rl R Z Y.top v w) (fun j v hj=>by obtain⟨w,h1,h2⟩:=hargs.get hj;rw[QK,h1];exact h2) i v hv;exact .of (by simpa using h2)
   ob:=NA
   inj:=fun t u s h=>by rw[htk t] at h;cases h
   lt:=fun t s h=>by rw[htk t] at h;cases h
   ge:=fun t s h=>by rw[htk t] at h;cases h
   nx:=hlo}
  refine U9.of hf hc (by rw[hlen];simpa using hok) ((gJ hR hF hI c hwk _ _ _ (y,q') _ Y Z (Er.trans aC) h hi).mono ?_);rintro e fr' Y' ⟨Z',st',hi',hkp,hk⟩;have key:(match aas E R st' fn.results.toList with
   |some vs=>match TQ R res (wvs st' res vs) with
    |some y=>match U2 R st'.ob obs with
     |some q'=>some (y,q')|none=>none
    |none=>none
   |none=>none)=some (y,q')->∃ws,fn.results.toList.mapM (TN E fr' Y')=some ws/\(fun v Y'=>(∃ws,v=Sy ws/\ah R Z Y'.top (Tn R .any res y) ws)/\(∀o x,look (Ue R obs q') o=some x->aM Z Y' o x)/\Y.next<=Y'.next/\(∀l,l<Y.next->Y'.loops l=Y.loops l)/\(∀s,s<Z.om.lo->Y'.top s=Y.top s)/\
    ∀L:Loc,L.1<=Z.om.dp->Z.om.out L->Y'.obj L=Y.obj L) (match ws with| [v]=>v|vs=>V.Rn vs) Y':=by
   intro hk;split at hk
   .rename_i TW yB;split at hk
    .rename_i y' hy';split at hk
     .rename_i q1 hq1;cases hk;obtain⟨ws,h1,h2⟩:=sQ hi' yB;have hws:=kF hR res y _ ws hy' (Eo hR hi' h2);obtain⟨nb,hnb⟩:=lV (Ro E c);have hk0:=hkp.ob nb (hnb nb (mF _));refine⟨ws,h1,?_,fun o x hx=>?_,hk0.nx,hk0.lp.1,hk0.lp.2,fun L hL ho=>hk0.dp L (.inr hL) ho⟩
      .refine⟨ws,?_,Nz (Z':=Z') (fun p hp=>?_) hk0.om hsc hws⟩
       .rcases ws with _| ⟨a,_| ⟨b,l⟩⟩<;>rfl
       .have hm:Rk p (Ro E c)=false:=by
         cases hm:Rk p (Ro E c)
         .rfl
         .have:=sN hwk p hm;omega
        have hk1:=hkp.ob p hm;exact⟨hk1.ob,hk1.ln⟩
      .obtain⟨kk,yy,z,e1,e2,rfl,e4⟩:=sI obs q' hq1 o x hx;have Pv:=Ep hbig hx;have hm:Rk o (Ro E c)=false:=by
        cases hm:Rk o (Ro E c)
        .rfl
        .have:=sN hwk o hm;omega
       have hk1:=hkp.ob o hm;exact xR (e4 NC) hk1.ob.symm hk1.ln.symm (by rw[hk1.om]) (rR hR e2 (hi'.ob _ _ e1))
     .cases hk
    .cases hk
   .cases hk
  cases e with
  |exit i=>cases hk|normal=>exact key hk|ret=>exact key hk
 .cases h
end
def abJ (k:IntKind)(x y:Int):Int:=k.wrap (BitVec.ofInt k.bits x&&& BitVec.ofInt k.bits y).toNat
def Wo (k:IntKind)(x y:Int):Int:=k.wrap (BitVec.ofInt k.bits x^^^BitVec.ofInt k.bits y).toNat
def Wp (k:IntKind)(x y:Int):Int:=k.wrap (x*2^min y.toNat k.bits)
def UA (k:IntKind)(x y:Int):Int:=x.fdiv (2^min y.toNat k.bits)
section
variable {R:Tx}{E:Env}
def Uh (f:Nat)(r:FR R)(F:Nat->List (FR R)):Nat->List (FR R):=fun g=>bif Nat.beq g f then r::F g else F g
theorem Tv {f:Nat}{r:FR R}{F:Nat->List (FR R)}(hF:Rq E F)(h:∀p x,r.F p=some x->Pure E f (Ri R r.args p) (Sy (Ri R r.res x)))(ho:r.own=false:=by rfl):Rq E (Uh f r F):=by
 intro g q hq p x hx;unfold Uh at hq;cases hb:Nat.beq g f
 .rw[hb] at hq;exact hF g q hq p x hx
 .rw[hb,cond_true] at hq;rcases PI.1 hq with rfl|hq
  .rw[bn hb];exact⟨fun _=>h p x hx,fun e=>by rw[ho] at e;cases e⟩
  .exact hF g q hq p x hx
def noF:Nat->List (FR R):=fun _=>[]
def noI:IR R:=⟨fun _=>[],fun _=>[]⟩
theorem apM:Ua E (noI (R:=R)):=⟨fun _ _ h=>(by cases h),fun _ _ h=>(by cases h)⟩
def ab0 (g:Nat)(i:FI R)(I:IR R):IR R:=⟨fun f=>bif Nat.beq f g then i::I.it f else I.it f,I.im⟩
theorem apN {g:Nat}{i:FI R}{I:IR R}(hI:Ua E I)(h:E.imp g=true/\∀pa pb xs,i.F pa pb=some xs->adp E g (Ri R i.a pa) (Ri R i.b pb) (xs.map (Ri R i.el))):Ua E (ab0 g i I):=by
 refine⟨fun f q hq=>?_,hI.2⟩;have hq':q∈(bif Nat.beq f g then i::I.it f else I.it f):=hq;cases hb:Nat.beq f g
 .rw[hb] at hq';exact hI.1 f q hq'
 .rw[hb,cond_true] at hq';rcases PI.1 hq' with rfl|hq'
  .rw[bn hb];exact h
  .exact hI.1 f q hq'
def abK (g:Nat)(m:FM R)(I:IR R):IR R:=⟨I.it,fun f=>bif Nat.beq f g then m::I.im f else I.im f⟩
theorem afk {g:Nat}{m:FM R}{I:IR R}(hI:Ua E I)(h:ado E g m)(hg:E.imp g=true:=by rfl):Ua E (abK g m I):=by
 refine⟨hI.1,fun f r hr=>?_⟩;have hr':r∈(bif Nat.beq f g then m::I.im f else I.im f):=hr;cases hb:Nat.beq f g
 .rw[hb] at hr';exact hI.2 f r hr'
 .rw[hb,cond_true] at hr';rcases PI.1 hr' with rfl|hr'
  .rw[bn hb];exact⟨hg,h⟩
  .exact hI.2 f r hr'
theorem apO:Rq E (noF (R:=R)):=fun _ _ h=>by cases h
end
def acz (E:Env)(R:Tx)(n:Nat)(om:Bool)(F:Nat->List (FR R))(I:IR R)(A:Rs)(c:Option Code)(el:List Sk){β:Type}(x:FN R.T el)(st:MS R.T)(k:Ex->MS R.T->Option β):Option β:=match c with
 |some (.rangeFunc _ ps a c)=>match abH st ps.toList (Tn R .sh el x) with
  |some st=>Tg E R n om F I A a st fun e st=>match e with
   |.normal=>Tg E R n om F I A c st k|_=>none
  |none=>none
 |_=>none
def wrR (E:Env)(c:Option Code):List Nat:=match c with
 |some (.rangeFunc _ ps a c)=>ps.toList++Ro E a++Ro E c|_=>[]
def alP:(k:XJ)->ab2 k
 |.i _=>(0:Int)|.a _ n=>Vec.rep n 0
def alQ:(l:List XJ)->abr l
 | []=>()| [k]=>alP k|k::h::l=>(alP k,alQ (h::l))
section
variable (R:Tx)
mutual
def alR:(k:Sk)->VX R.T k
 |.d t=>dfl R t|.l _ t=>([]:List (Den R.T t))|.agg l=>Sz l|.ref _ _=>()|.Q5 l _=>Sz l|.RB _=>()|.R3 k e=>([]:List (Den R.T k×Den R.T e))|.fn _ a b=>(Sz a,Sz b)|.TP=>()|.vw _ _=>()|.sub _ _=>((0:Int),(0:Int))|.sg l=>alQ l|.undef=>()
def Sz:(l:List Sk)->FN R.T l
 | []=>()| [k]=>alR k|k::h::l=>(alR k,Sz (h::l))
end
end
end Aq
end
section
namespace Aq
open Go Go.RowKit
mutual
def Ut:V->Nat
 |.str s=>s.length+1|.agg cs=>VG cs|.tX _ l=>VG l+1|_=>1
def VG:List V->Nat
 | []=>0|v::l=>Ut v+VG l
end
def yC (k:IntKind)(n:Int):Nat:=if (Lit.int k n).wf=true then 0 else 2^64
theorem NG {k:IntKind}{n:Int}(h:(Lit.int k n).wf=true):yC k n=0:=if_pos h
mutual
def Uu:V->Nat
 |.str s=>s.length+1|.agg cs=>Wq cs|.tX _ l=>Wq l+1|.int k n=>1+yC k n|_=>1
def Wq:List V->Nat
 | []=>0|v::l=>Uu v+Wq l
end
mutual
theorem agG:∀v:V,Ut v<=Uu v
 |.str s=>by simp[Ut,Uu]|.agg cs=>by simp only[Ut,Uu];exact yD cs|.tX _ l=>by simp only[Ut,Uu];exact Nat.add_le_add_right (yD l) 1|.int k n=>by simp[Ut,Uu]|.bool _|.Tf|.Ta|.SI|.SB|.Rn _|.vw .. |.ref .. |.RB .. |.Q5 .. |.fn .. |.R3 .. |.iface .. |.raw _=>by simp[Ut,Uu]
theorem yD:∀l:List V,VG l<=Wq l
 | []=>mF _|v::l=>by simp only[VG,Wq];exact Nat.add_le_add (agG v) (yD l)
end
structure Bulk (H:Type)(bk:DataW H->Nat)(bs:List (DataW H)->Nat):Prop where
 one:∀d,1<=bk d
 str:∀s,s.length+1<=bk (.lit (.string s))
 agg:∀l,bs l<=bk (.agg l)
 sl:∀l r,bs l+1<=bk (.slice l r)
 nil:bs []=0
 cons:∀d l,bs (d::l)=bk d+bs l
section
variable {H:Type}{bk:DataW H->Nat}{bs:List (DataW H)->Nat}(hb:Bulk H bk bs)
include hb
theorem Bulk.append (a b:List (DataW H)):bs (a++b)=bs a+bs b:=by
 induction a with
 |nil=>simp[hb.nil]|cons v a ih=>simp only[List.cons_append,hb.cons,ih];omega
end
def fK {U β γ:Type}(Q:U->β->γ->Prop):List U->List β->List γ->Prop
 | [],[],[]=>True|t::ts,c::cs,d::ds=>Q t c d/\fK Q ts cs ds|_,_,_=>False
theorem fK.append {U β γ:Type}{Q:U->β->γ->Prop}:∀{a a':List U}{b b':List β}{c c':List γ},fK Q a b c->fK Q a' b' c'->fK Q (a++a') (b++b') (c++c')
 | [],_,[],_,[],_,_,h=>h|_::_,_,_::_,_,_::_,_,h,h'=>⟨h.1,h.2.append h'⟩| [],_,_::_,_,_,_,h,_=>h.elim| [],_,[],_,_::_,_,h,_=>h.elim|_::_,_,[],_,_,_,h,_=>h.elim|_::_,_,_::_,_,[],_,h,_=>h.elim
theorem fK.mono {U β γ:Type}{Q Q':U->β->γ->Prop}(hq:∀a b c,Q a b c->Q' a b c):∀{a:List U}{b:List β}{c:List γ},fK Q a b c->fK Q' a b c
 | [],[],[],_=>trivial|_::_,_::_,_::_,h=>⟨hq _ _ _ h.1,h.2.mono hq⟩| [],_::_,_,h=>h.elim| [],[],_::_,h=>h.elim|_::_,[],_,h=>h.elim|_::_,_::_,[],h=>h.elim
theorem fK.len {U β γ:Type}{Q:U->β->γ->Prop}:∀{a:List U}{b:List β}{c:List γ},fK Q a b c->a.length=b.length
 | [],[],[],_=>rfl|_::_,_::_,_::_,h=>by simp[h.2.len]| [],_::_,_,h=>h.elim| [],[],_::_,h=>h.elim|_::_,[],_,h=>h.elim|_::_,_::_,[],h=>h.elim
section
variable (P:Program)
def qg (t:TypeId):Option (List (Nat×TypeId)):=match P.underlying t with
 |some (.struct fs)=>some (fs.toList.map fun f=>(f.offset,f.type))
 |some (.array n e)=>some ((List.range n).map fun i=>(i*P.cellsOf e,e))
 |_=>none
def nP (t:TypeId):Bool:=match P.underlying t with
 |some .bool=>true|some (.int _)=>true|some .string=>true|some (.slice _)=>true|_=>false
def qh:List (Nat×TypeId)->Nat->Nat->Bool
 | [],off,tot=>off==tot| (o,u)::l,off,tot=>o==off&& qh l (off+P.cellsOf u) tot
def nQ:Nat->TypeId->Option (List TypeId)
 |0,_=>none|k+1,t=>match qg P t with
  |some ps=>if qh P ps 0 (P.cellsOf t)=true then (ps.mapM fun (p:Nat×TypeId)=>match nQ k p.2 with
    |some l=>if l.length=P.cellsOf p.2 then some l else none|none=>none).map List.flatten else none
  |none=>if nP P t=true/\P.cellsOf t=1 then some [t] else none
end
section
variable {P:Program}{w:World}{H:Type}{enc:TypeId×Value->H}{bk:DataW H->Nat}{bs:List (DataW H)->Nat}
abbrev bY (enc:TypeId×Value->H)(P:Program)(w:World)(f:Nat)(t:TypeId)(cs:List Value):Option (DataW H×List MemPlace):=DataW.trod enc P w 0 (fun _=>true) true f t cs
theorem NH {fuel:Nat}{t:TypeId}{cs:List Value}{d:DataW H}{ps:List MemPlace}{pl:List (Nat×TypeId)}(hp:qg P t=some pl)(h:bY enc P w (fuel+1) t cs=some (d,ps)):
 cs.length=P.cellsOf t/\∃xs,pl.mapM (fun p=>bY enc P w fuel p.2 ((cs.drop p.1).take (P.cellsOf p.2)))=some xs/\d= .agg (xs.map (·.1)):=by
 unfold qg at hp;split at hp
 .rename_i fs hu;simp only[iE] at hp;subst hp;simp only[bY,DataW.trod,hu] at h;split at h
  .rename_i hl;simp only[Py,iR] at h;obtain⟨xs,h1,rfl,rfl⟩:=h;refine⟨hl,xs,?_,rfl⟩;rw[List.mapM_map];exact h1
  .cases h
 .rename_i n e hu;simp only[iE] at hp;subst hp;simp only[bY,DataW.trod,hu] at h;split at h
  .rename_i hl;simp only[Py,iR] at h;obtain⟨xs,h1,rfl,rfl⟩:=h;refine⟨hl,xs,?_,rfl⟩;rw[List.mapM_map];exact h1
  .cases h
 .cases hp
def yE (enc:TypeId×Value->H)(P:Program)(w:World)(fuel:Nat)(u:TypeId)(c:Value)(d:DataW H):Prop:=∃f p,f<=fuel/\bY enc P w f u [c]=some (d,p)/\nP P u=true
theorem Es {fuel:Nat}{t:TypeId}{cs:List Value}{x:DataW H×List MemPlace}(hl:nP P t=true)(h:bY enc P w fuel t cs=some x):∃c,cs=[c]:=by
 cases fuel with
 |zero=>simp[bY,DataW.trod] at h|succ f=>unfold nP at hl;split at hl;all_goals (rename_i hu;simp only[bY,DataW.trod,hu] at h;split at h<;>first|exact⟨_,rfl⟩|simp_all)
theorem NI (hb:Bulk H bk bs):∀(k fuel:Nat)(t:TypeId)(cs:List Value)(d:DataW H)(ps:List MemPlace)(ts:List TypeId),nQ P k t=some ts->bY enc P w fuel t cs=some (d,ps)->
 ∃ds,fK (yE enc P w fuel) ts cs ds/\bs ds<=bk d:=by
 intro k;induction k with
 |zero=>intro fuel t cs d ps ts h;simp[nQ] at h|succ k ih=>
  intro fuel t cs d ps ts h ht;simp only[nQ] at h;split at h
  .rename_i pl hp;split at h
   .rename_i hcon;cases fuel with
    |zero=>simp[bY,DataW.trod] at ht|succ fuel=>
     obtain⟨hl,xs,hx,rfl⟩:=NH hp ht;simp only[Py] at h;obtain⟨nR,NJ,rfl⟩:=h;have key:∀(pl:List (Nat×TypeId))(off:Nat)(xs:List (DataW H×List MemPlace))(nR:List (List TypeId)),qh P pl off cs.length=true->
      pl.mapM (fun p=>bY enc P w fuel p.2 ((cs.drop p.1).take (P.cellsOf p.2)))=some xs->
      (pl.mapM fun p=>match nQ P k p.2 with
        |some l=>if l.length=P.cellsOf p.2 then some l else none|none=>none)=some nR->∃ds,fK (yE enc P w (fuel+1)) nR.flatten (cs.drop off) ds/\bs ds<=bs (xs.map (·.1)):=by
      intro pl;induction pl with
      |nil=>intro off xs nR hc h1 h2;simp only[List.mapM_nil,Option.pure_def,iE] at h1 h2;subst h1;subst h2;simp only[qh,beq_iff_eq] at hc;rw[hc,List.drop_length];exact⟨[],trivial,mF _⟩|cons p pl NK=>
       intro off xs nR hc h1 h2;obtain⟨o,u⟩:=p;simp only[qh,Pz,beq_iff_eq] at hc;obtain⟨rfl,hc⟩:=hc;simp only[PW,Option.bind_eq_bind,iP,Option.pure_def,iE] at h1 h2;obtain⟨⟨d1,p1⟩,g1,xs',g2,rfl⟩:=h1;obtain⟨l1,g3,Pw,g4,rfl⟩:=h2;split at g3
       .rename_i l0 hl0;split at g3
        .cases g3;obtain⟨ds1,a1,a2⟩:=ih _ _ _ _ _ _ hl0 g1;obtain⟨NM,a3,a4⟩:=NK _ _ _ hc g2 g4;refine⟨ds1++NM,?_,?_⟩
         .rw[List.flatten_cons];have e:cs.drop o=(cs.drop o).take (P.cellsOf u)++cs.drop (o+P.cellsOf u):=(by rw[<-List.drop_drop,List.take_append_drop]);rw[e];exact fK.append (a1.mono fun _ _ _ ⟨f,q,h1,h2⟩=>⟨f,q,Nat.le_succ_of_le h1,h2⟩) a3
         .rw[hb.append,PU,hb.cons];show _<=bk d1+_;omega
        .cases g3
       .cases g3
     have:=key pl 0 xs nR (by rw[hl];exact hcon) hx NJ;obtain⟨ds,h1,h2⟩:=this;exact⟨ds,by simpa using h1,PD h2 (hb.agg _)⟩
   .cases h
  .split at h
   .rename_i hlf;simp only[iE] at h;subst h;obtain⟨c,rfl⟩:=Es hlf.1 ht;refine⟨[d],⟨⟨fuel,ps,mF _,ht,hlf.1⟩,trivial⟩,?_⟩;rw[hb.cons,hb.nil];omega
   .cases h
def eZ (K:Ra)(T:Nat->Nat)(w:World)(vs:List V)(cs:List Value):Prop:=vs.length=cs.length/\∀j,j<vs.length->Rel K T w (vs.getD j Lv) (cs.getD j undef)
theorem eZ.cons {K:Ra}{T:Nat->Nat}{v:V}{c:Value}{vs:List V}{cs:List Value}(h:Rel K T w v c)(hs:eZ K T w vs cs):eZ K T w (v::vs) (c::cs):=by
 refine⟨by simp[hs.1],fun j hj=>?_⟩;cases j with
 |zero=>exact h|succ j=>simpa using hs.2 j (by simpa using hj)
variable (R:Tx)
def Vy (P:Program)(t:TypeId):Ty->Bool
 |.int k=>match P.underlying t with
  |some (.int k')=>decide (k'=k)|_=>false
 |.bool=>match P.underlying t with
  |some .bool=>true|_=>false
 |.str=>match P.underlying t with
  |some .string=>true|_=>false
 |.slice τ=>match P.underlying t with
  |some (.slice e)=>decide (R.ty e=some τ)&& decide (0<P.cellsOf e)|_=>false
 |.st n=>match nQ P 10 t with
  |some ts=>decide (ts.map R.ty=(R.lf n).map some)&& (qg P t).isSome|none=>false
def allI (w:World)(b o:Nat):Prop:=∃v,w.cell? (at_ b o)=some v
abbrev KA (w:World):Ra:=Ra.lend (allI w) (fun b=>∃es aG,w.heap[b]? =some (.map es aG))
theorem yF {U β:Type}{f:U->Option β}:∀{l:List U}{r:List β},l.mapM f=some r->r.length=l.length/\∀(i:Nat)(hi:i<l.length)(hr:i<r.length),f l[i]=some r[i]:=by
 intro l;induction l with
 |nil=>intro r h;simp at h;subst h;exact⟨rfl,fun i hi=>absurd hi (PO i)⟩
 |cons a l ih=>
  intro r h;simp only[PW,Option.bind_eq_bind,iP,Option.pure_def,iE] at h;obtain⟨y,h1,ys,h2,rfl⟩:=h;obtain⟨h3,h4⟩:=ih h2;refine⟨by simp[h3],fun i hi hr=>?_⟩;cases i with
  |zero=>exact h1|succ i=>exact h4 i (by simpa using hi) (by simpa using hr)
theorem Et {base:Nat}{a:Addr}{n:Nat}{cs:List Value}(h:w.cells? base a n=some cs):cs.length=n/\∀j,j<n->w.cell? (a.add j)=some (cs.getD j undef):=by
 unfold World.cells? at h;split at h
 .obtain⟨h1,h2⟩:=yF h;rw[List.length_range] at h1;refine⟨h1,fun j hj=>?_⟩;have:=h2 j (by simpa using hj) (by omega);simp only[QX] at this;rw[this,QK,PX (by omega)];rfl
 .cases h
theorem plain_of_cell {a:Addr}{v:Value}(h:w.cell? a=some v):a=at_ a.block a.off:=by
 unfold World.cell? at h;obtain⟨b,o,s⟩:=a;cases s with
 |none=>rfl|some s=>dsimp only at h;split at h<;>simp at h
theorem Eu (hb:Bulk H bk bs)(hR:VF R){T:Nat->Nat}{Q:TypeId->Value->DataW H->Prop}(hq:∀u c d τ,Q u c d->R.ty u=some τ->dK τ=true->∃x:Den R.T τ,Rel (KA w) T w (Q8 R τ x) c/\Uu (Q8 R τ x)<=bk d):
 ∀(l:List Ty)(ts:List TypeId)(cs:List Value)(ds:List (DataW H)),l.all dK=true->ts.map R.ty=l.map some->fK Q ts cs ds->∃p:Vk R.T l,eZ (KA w) T w (encs R l p) cs/\Wq (encs R l p)<=bs ds
 | [],ts,cs,ds,_,hm,h=>by
   have:ts=[]:=by simpa using hm
   subst this;cases cs with
   |nil=>cases ds with
    |nil=>exact⟨(),⟨rfl,fun j hj=>absurd hj (PO j)⟩,by rw[hb.nil];exact mF _⟩
    |cons=>exact h.elim
   |cons=>exact h.elim
 | [τ],ts,cs,ds,hl,hm,h=>by
   cases ts with
   |nil=>simp at hm|cons u ts=>
    simp only[PU,List.map_nil,Qb,List.map_eq_nil_iff] at hm;obtain⟨hu,rfl⟩:=hm;cases cs with
    |nil=>exact h.elim|cons c cs=>cases ds with
     |nil=>exact h.elim|cons d ds=>
      obtain⟨h1,h2⟩:=h;cases cs with
      |cons=>exact h2.elim|nil=>cases ds with
       |cons=>exact h2.elim|nil=>obtain⟨x,h3,h4⟩:=hq u c d τ h1 hu (by simpa using hl);refine⟨x,eZ.cons h3 ⟨rfl,fun j hj=>absurd hj (PO j)⟩,?_⟩;rw[hb.cons,hb.nil];show Uu _+0<=_;omega
 |τ::τ'::l,ts,cs,ds,hl,hm,h=>by
  cases ts with
  |nil=>simp at hm|cons u ts=>
   rw[PU,PU] at hm;injection hm with hu hm
   cases cs with
   |nil=>exact h.elim|cons c cs=>cases ds with
    |nil=>exact h.elim|cons d ds=>obtain⟨h1,h2⟩:=h;rw[List.all_cons,Pz] at hl;obtain⟨x,h3,h4⟩:=hq u c d τ h1 hu hl.1;obtain⟨p,h5,h6⟩:=Eu hb hR hq (τ'::l) ts cs ds hl.2 hm h2;refine⟨(x,p),eZ.cons h3 h5,?_⟩;rw[hb.cons];show Uu (Q8 R τ x)+Wq (encs R (τ'::l) p)<=_;omega
theorem NP (τ:Ty)(hl:dK τ=true)(x:Den R.T τ):(Q8 R τ x).cells=[Q8 R τ x]:=by
 cases τ with
 |st n=>simp[dK] at hl|_=>rfl
theorem NR (hb:Bulk H bk bs)(hR:VF R){T:Nat->Nat}(hty:∀t τ,R.ty t=some τ->Vy R P t τ=true):∀(fuel:Nat)(t:TypeId)(cs:List Value)(d:DataW H)(ps:List MemPlace)(τ:Ty),R.ty t=some τ->bY enc P w fuel t cs=some (d,ps)->
 ∃x:Den R.T τ,eZ (KA w) T w (Q8 R τ x).cells cs/\Uu (Q8 R τ x)<=bk d:=by
 intro fuel;induction fuel using Nat.strongRecOn with
 |_ fuel ih=>
  have leaf:∀f,f<=fuel->∀u c d p τ,dK τ=true->R.ty u=some τ->bY enc P w f u [c]=some (d,p)->∃x:Den R.T τ,Rel (KA w) T w (Q8 R τ x) c/\Uu (Q8 R τ x)<=bk d:=by
   intro f hf u c d p τ hl hu h;cases f with
   |zero=>simp[bY,DataW.trod] at h|succ f=>
    have ho:=hty u τ hu;cases τ with
    |st n=>simp[dK] at hl|int k=>
     simp only[Vy] at ho;split at ho
     .rename_i k' hk;have:=of_decide_eq_true ho;subst this;cases c with
      |int k2 n=>
       simp only[bY,DataW.trod,hk] at h;split at h
       .rename_i hkk;obtain⟨rfl,hwf⟩:=hkk;simp only[iE,iR] at h;obtain⟨rfl,rfl⟩:=h;exact⟨(n:Int),.int _ _,by show 1+yC _ _<=_;rw[NG hwf];exact hb.one _⟩
       .cases h
      |_=>simp only[bY,DataW.trod,hk] at h;cases h
     .cases ho
    |bool=>
     simp only[Vy] at ho;split at ho
     .rename_i hk;cases c with
      |bool b=>exact⟨(b:Bool),.bool _,hb.one _⟩|_=>simp only[bY,DataW.trod,hk] at h;cases h
     .cases ho
    |str=>
     simp only[Vy] at ho;split at ho
     .rename_i hk;cases c with
      |string b=>
       simp only[bY,DataW.trod,hk] at h;split at h
       .simp only[iE,iR] at h;obtain⟨rfl,rfl⟩:=h;exact⟨b.data.toList,.str _ _ rfl,hb.str _⟩
       .cases h
      |_=>simp only[bY,DataW.trod,hk] at h;cases h
     .cases ho
    |slice τ=>
     simp only[Vy] at ho;split at ho
     .rename_i e hk;rw[Pz] at ho;have he:=of_decide_eq_true ho.1;have hpos:=of_decide_eq_true ho.2;cases c with
      |slice a len cap=>
       cases a with
       |none=>
        cases len with
        |succ n=>simp only[bY,DataW.trod,hk] at h;cases h|zero=>cases cap with
         |succ n=>simp only[bY,DataW.trod,hk] at h;cases h|zero=>exact⟨([]:List (Den R.T τ)),.aW .sh none (fun _=>rfl) trivial,hb.one _⟩
       |some a=>
        simp only[bY,DataW.trod,hk] at h;split at h
        .rename_i hc;obtain⟨_,hlc,_⟩:=hc;simp only[iP,if_true,Py,iR] at h;obtain⟨elems,h1,rest,h2,rfl,rfl⟩:=h;obtain⟨e1,e2⟩:=yF h1;obtain⟨r1,r2⟩:=yF h2;rw[List.length_range] at e1 r1;have hplain:0<cap->a=at_ a.block a.off:=fun hcap=>by
          have hread:∃i cs x,w.cells? 0 (a.add (i*P.cellsOf e)) (P.cellsOf e)=some cs/\bY enc P w f e cs=some x/\i=0:=by
           by_cases hl0:0<len
           .have:=e2 0 (by simpa using hl0) (by omega);simp only[QX,iP] at this;obtain⟨cs,g1,g2⟩:=this;exact⟨0,cs,_,g1,g2,rfl⟩
           .have:=r2 0 (by simp;omega) (by omega);simp only[QX,iP] at this;obtain⟨cs,g1,g2⟩:=this;exact⟨len+0,cs,_,g1,g2,by omega⟩
          obtain⟨i,cs,_,g1,_,rfl⟩:=hread;have:=(Et g1).2 0 hpos;have ha:(a.add (0*P.cellsOf e)).add 0=a:=(by simp[Addr.add]);rw[ha] at this;exact plain_of_cell this
         have hel:∀i,∃x:Den R.T τ,∃nS:List Value,∀hi:i<elems.length,(∀j,j<P.cellsOf e->w.cell? ((a.add (i*P.cellsOf e)).add j)=some (nS.getD j undef))/\nS.length=P.cellsOf e/\
          eZ (KA w) T w (Q8 R τ x).cells nS/\Uu (Q8 R τ x)<=bk elems[i].1:=fun i=>by
          by_cases hi:i<elems.length
          .have:=e2 i (by simpa using (by omega:i<len)) hi;simp only[QX,iP] at this;obtain⟨nS,g1,g2⟩:=this;obtain⟨c1,c2⟩:=Et g1;obtain⟨x,x1,x2⟩:=ih f (by omega) e nS elems[i].1 elems[i].2 τ he g2;exact⟨x,nS,fun _=>⟨c2,c1,x1,x2⟩⟩
          .exact⟨dfl R τ,[],fun h=>absurd h hi⟩
         let xs:List (Den R.T τ):=(List.range elems.length).map fun i=>(hel i).choose
         have hxs:∀i (hi:i<xs.length) (hi':i<elems.length),(∀j,j<P.cellsOf e->w.cell? ((a.add (i*P.cellsOf e)).add j)=some ((hel i).choose_spec.choose.getD j undef))/\(hel i).choose_spec.choose.length=P.cellsOf e/\
          eZ (KA w) T w (Q8 R τ xs[i]).cells (hel i).choose_spec.choose/\Uu (Q8 R τ xs[i])<=bk elems[i].1:=fun i hi hi'=>by
          have:=(hel i).choose_spec.choose_spec hi';have e:xs[i]=(hel i).choose:=(by simp[xs]);rw[e];exact this
         have hxl:xs.length=len:=(by simp[xs,e1]);refine⟨(xs:List (Den R.T τ)),?_,?_⟩
         .show Rel _ _ _ (.tX .sh (xs.map (Q8 R τ))) (.slice (some a) len cap);by_cases hcap:0<cap
          .obtain⟨b,o,s⟩:=a;have hs:s=none:=(by have:=hplain hcap;simp only[at_,Addr.mk.injEq] at this;exact this.2.2);subst hs;have key:Rel (KA w) T w (.tX .sh (xs.map (Q8 R τ))) (.slice (some (at_ b o)) (xs.map (Q8 R τ)).length cap):=by
            refine .tX .sh _ b o (P.cellsOf e) cap (fun i j=>if hi:i<elems.length then (hel i).choose_spec.choose.getD j undef else undef) (by rw[PY,hxl];exact hlc) (fun i hi=>?_) (fun i j hi hj=>?_) (fun i j hi hj=>?_) trivial;all_goals
             rw[PY] at hi;have hi':i<elems.length:=(by omega);obtain⟨y1,y2,y3,y4⟩:=hxs i hi hi';have hg:(xs.map (Q8 R τ)).getD i Lv=Q8 R τ xs[i]:=by simp[List.getD,hi]
            .rw[hg];exact y3.1.trans y2
            .rw[dif_pos hi'];have hadd:at_ b (o+i*P.cellsOf e+j)=((⟨b,o,none⟩:Addr).add (i*P.cellsOf e)).add j:=(by rw[show (⟨b,o,none⟩:Addr)=at_ b o from rfl,addr_add,addr_add]);have this:=(congrArg w.cell? hadd).trans (y1 j hj);exact⟨this,_,this⟩
            .rw[hg,dif_pos hi'];exact y3.2 j (by rw[y3.1,y2];exact hj)
           rw[PY,hxl] at key;exact key
          .have h0:len=0:=(by omega);have h0':cap=0:=(by omega);subst h0;subst h0';have:xs=[]:=Qm hxl;rw[this];exact .aW .sh (some a) (fun h=>by cases h) trivial
         .show Wq (xs.map (Q8 R τ))+1<=_;refine PD (Nat.succ_le_succ ?_) (hb.sl _ _);have NS:∀(l:List (Den R.T τ))(m:List (DataW H×List MemPlace)),l.length=m.length->(∀i (hi:i<l.length) (hi':i<m.length),Uu (Q8 R τ l[i])<=bk m[i].1)->Wq (l.map (Q8 R τ))<=bs (m.map (·.1)):=by
           intro l;induction l with
           |nil=>intro m _ _;exact Ql _|cons x l ihl=>
            intro m hm hle;cases m with
            |nil=>simp at hm|cons y m=>rw[PU,PU,hb.cons];have h0:=hle 0 (by simp) (by simp);have h1:=ihl m (by simpa using hm) (fun i hi hi'=>hle (i+1) (by simpa using hi) (by simpa using hi'));simp only[List.getElem_cons_zero] at h0;show Uu _+Wq _<=_;omega
          exact NS xs elems (by rw[hxl,e1]) fun i hi hi'=>(hxs i hi hi').2.2.2
        .cases h
      |_=>simp only[bY,DataW.trod,hk] at h;cases h
     .cases ho
  have ho:=hty;intro t cs d ps τ ht h;cases τ with
  |st n=>
   have ho:=hty t _ ht;simp only[Vy] at ho;split at ho
   .rename_i ts hts;rw[Pz] at ho;have hm:=of_decide_eq_true ho.1;obtain⟨ds,h1,h2⟩:=NI hb _ _ _ _ _ _ _ hts h;obtain⟨p,h3,h4⟩:=Eu R hb hR (Q:=yE enc P w fuel) (T:=T) (fun u c d τ hq hu hl=>by obtain⟨f,q,hf,hq,_⟩:=hq;exact leaf f hf u c d q τ hl hu hq) (R.lf n) ts cs ds (hR.leaf n) hm h1;refine⟨R.to n p,?_,?_⟩
    .show eZ _ _ _ (R.enc n (R.to n p)).cells cs;rw[hR.enc,hR.adn];exact h3
    .show Uu (R.enc n (R.to n p))<=_;rw[hR.enc,hR.adn];exact PD h4 h2
   .cases ho
  |_=>
   have hl:nP P t=true:=by
    have ho:=hty t _ ht;simp only[Vy] at ho;split at ho
    .rename_i hu;simp[nP,hu]
    .cases ho
   obtain⟨c,rfl⟩:=Es hl h;obtain⟨x,h1,h2⟩:=leaf fuel (mF _) t c d ps _ rfl ht h;refine⟨x,?_,h2⟩;rw[NP R _ rfl];exact eZ.cons h1 ⟨rfl,fun j hj=>absurd hj (PO j)⟩
end
end Aq
end
section
namespace Aq
open Go Go.RowKit Go.ChangeShapes Go.WideShapes
section
variable {P:Program}{w:World}{H:Type}{enc:TypeId×Value->H}{bk:DataW H->Nat}{bs:List (DataW H)->Nat}(R:Tx)
theorem Ev (hb:Bulk H bk bs)(hR:VF R){T:Nat->Nat}(hty:∀t τ,R.ty t=some τ->Vy R P t τ=true){t:TypeId}{v:Value}{d:DataW H}{ps:List MemPlace}{τ:Ty}(ht:R.ty t=some τ){r:Reach}{base:Nat}(hok:Value.okWide P w r base t v)(h:DataW.Trod enc P w 0 (fun _=>true) true t v d ps):∃x:Den R.T τ,Rel (KA w) T w (Q8 R τ x) v/\Uu (Q8 R τ x)<=bk d:=by
 obtain⟨fuel,h⟩:=h;obtain⟨x,h1,h2⟩:=NR R hb hR (T:=T) hty fuel t _ d ps τ ht h;refine⟨x,?_,h2⟩;have ho:=hty t τ ht;have one:∀c,v=c->c.cells= #[c]->(Q8 R τ x).cells=[Q8 R τ x]->Rel (KA w) T w (Q8 R τ x) v:=by intro c hv hc he;subst hv;rw[hc,he] at h1;exact h1.2 0 (by simp)
 cases τ with
 |int k=>
  simp only[Vy] at ho;split at ho
  .rename_i k' hu;obtain⟨n,rfl⟩:=okWide_int hu hok;exact one _ rfl rfl rfl
  .cases ho
 |bool=>
  simp only[Vy] at ho;split at ho
  .rename_i hu;obtain⟨n,rfl⟩:=okWide_bool hu hok;exact one _ rfl rfl rfl
  .cases ho
 |str=>
  simp only[Vy] at ho;split at ho
  .rename_i hu;obtain⟨n,rfl⟩:=okWide_string hu hok;exact one _ rfl rfl rfl
  .cases ho
 |slice τ=>
  simp only[Vy] at ho;split at ho
  .rename_i e hu;obtain⟨a,l,c,rfl⟩:=okWide_slice hu hok;exact one _ rfl rfl rfl
  .cases ho
 |st n=>
  simp only[Vy] at ho;split at ho
  .rename_i ts hts;rw[Pz] at ho;have hagg:∃cs,v= .agg cs:=by
    have hs:=ho.2;unfold qg at hs;unfold Value.okWide at hok;split at hs
    .rename_i fs hu;rw[hu] at hok;exact⟨_,hok.choose_spec.1⟩
    .rename_i m e hu;rw[hu] at hok;exact⟨_,hok.choose_spec.1⟩
    .cases hs
   obtain⟨cs,rfl⟩:=hagg;have he:Q8 R (.st n) x= .agg (encs R (R.lf n) (R.of n x)):=hR.enc n x;rw[he] at h1⊢;obtain⟨h3,h4⟩:=h1;have h3':(encs R (R.lf n) (R.of n x)).length=cs.toList.length:=h3;refine .agg _ cs (by simpa using h3') (fun i hi=>?_);have h5:Rel (KA w) T w ((encs R (R.lf n) (R.of n x)).getD i Lv) (cs.toList.getD i undef):=h4 i hi;simpa [QK,Qz] using h5
  .cases ho
theorem Ew (hb:Bulk H bk bs)(hR:VF R){T:Nat->Nat}(hty:∀t τ,R.ty t=some τ->Vy R P t τ=true){r:Reach}{base:Nat}:∀(l:List Ty)(ts:List TypeId)(vs:List Value)(ds:List (DataW H))(ps:List MemPlace),ts.map R.ty=l.map some->(∀(j:Nat) t v,ts[j]? =some t->vs[j]? =some v->Value.okWide P w r base t v)->DataW.TrodAll enc P w 0 (fun _=>true) true ts vs ds ps->
 ∃p:FN R.T (l.map Sk.d),eZ (KA w) T w (Ri R (l.map Sk.d) p) vs/\Wq (Ri R (l.map Sk.d) p)<=bs ds
 | [],ts,vs,ds,ps,hm,hok,h=>by
   have:ts=[]:=by simpa using hm
   subst this;obtain⟨rfl,rfl,rfl⟩:=trodAll_nil h;exact⟨(),⟨rfl,fun j hj=>absurd hj (PO j)⟩,by rw[hb.nil];exact mF _⟩
 | [τ],ts,vs,ds,ps,hm,hok,h=>by
   cases ts with
   |nil=>simp at hm|cons u ts=>simp only[PU,List.map_nil,Qb,List.map_eq_nil_iff] at hm;obtain⟨hu,rfl⟩:=hm;obtain⟨v0,vs0,d0,ds0,p0,q0,rfl,rfl,rfl,h0,r0⟩:=trodAll_cons h;obtain⟨rfl,rfl,rfl⟩:=trodAll_nil r0;obtain⟨x,h3,h4⟩:=Ev R hb hR (T:=T) hty hu (hok 0 u v0 rfl rfl) h0;refine⟨x,eZ.cons h3 ⟨rfl,fun j hj=>absurd hj (PO j)⟩,?_⟩;rw[hb.cons,hb.nil];show Uu (Q8 R τ x)+0<=_;omega
 |τ::τ'::l,ts,vs,ds,ps,hm,hok,h=>by
  cases ts with
  |nil=>simp at hm|cons u ts=>
   rw[PU,PU] at hm;injection hm with hu hm
   obtain⟨v0,vs0,d0,ds0,p0,q0,rfl,rfl,rfl,h0,r0⟩:=trodAll_cons h;obtain⟨x,h3,h4⟩:=Ev R hb hR (T:=T) hty hu (hok 0 u v0 rfl rfl) h0;obtain⟨p,h5,h6⟩:=Ew hb hR hty (τ'::l) ts vs0 ds0 q0 hm (fun j t v h1 h2=>hok (j+1) t v h1 h2) r0;refine⟨(x,p),eZ.cons h3 h5,?_⟩;rw[hb.cons];show Uu (Q8 R τ x)+Wq (Ri R ((τ'::l).map Sk.d) p)<=_;omega
theorem NT {K:Ra}{T:Nat->Nat}{vs:List V}{args:Array Value}(h:eZ K T w vs args.toList):RelA K T w vs args:=by refine⟨by simpa using h.1,fun i hi=>?_⟩;have:=h.2 i hi;simpa [QK,Qz] using this
end
section
variable {P:Program}{H:Type}{enc:TypeId×Value->H}
theorem Ey {Tp:TypeId->Prop}(K:Kids P Tp)(hsz:∀{t e:TypeId},Tp t->P.underlying t=some (.slice e)->0<P.cellsOf e){W W':World}(hbel:Below W.heap.size W W'){sp:Nat->Bool}:
 ∀{ts:List TypeId}{vs:List Value}{ds:List (DataW H)}{ps:List MemPlace},(∀t∈ts,Tp t)->DataW.TrodAll enc P W 0 (fun _=>true) true ts vs ds ps->(∀p∈ps,p.block<W.heap.size)->(∀p∈ps,sp p.block=true)->DataW.TrodAll enc P W' 0 sp true ts vs ds ps
 | [],[],[],_,_,h,_,_=>h|_::_,_::_,_::_,_,hT,⟨p,q,⟨n,h1⟩,h2,e⟩,hlt,hs=>by subst e;refine⟨p,q,⟨n,?_⟩,Ey K hsz hbel (fun t ht=>hT t (PV _ ht)) h2 (fun x hx=>hlt x (QN _ hx)) (fun x hx=>hs x (QN _ hx)),rfl⟩;exact DataW.trod_stays K hsz (fun h=>by cases h) (hT _ (by simp)) h1 (fun x hx=>hbel.same (hlt x (QM _ hx))) (fun x hx=>hs x (QM _ hx))
 | [],_::_,_,_,_,h,_,_=>h.elim| [],[],_::_,_,_,h,_,_=>h.elim|_::_,[],_,_,_,h,_,_=>h.elim|_::_,_::_,[],_,_,h,_,_=>h.elim
theorem NU {f:Func}{s:ChangeSpec}{apart fresh handsOn again:Bool}{W W':World}{args:Array Value}{v:Value}{ds gs:List (DataW H)}{before pa pv:List MemPlace}(hW:DataW.Whole enc P f.params.toList s.vars apart W args.toList ds gs before)(hres:∀(b:Nat) (sp:Nat->Bool) (hd:Bool),DataW.TrodAll enc P W' b sp hd f.resultTypes.toList (v.resultList f.resultTypes.size) (s.fn H (ds++gs)).results [])(hargs:∀sp:Nat->Bool,(∀p∈before,sp p.block=true)->DataW.TrodAll enc P W' 0 sp true f.params.toList args.toList (s.fn H (ds++gs)).args pa)(hvars:∀sp:Nat->Bool,(∀p∈before,sp p.block=true)->DataW.TrodVars enc P W' sp s.vars (s.fn H (ds++gs)).vars pv)(hps:before=pa++pv)(hbel:Below W.heap.size W W')(hok:∀(j:Nat) (t:TypeId) (r:Value),f.resultTypes[j]? =some t->(v.resultList f.resultTypes.size)[j]? =some r->Value.okWide P W' .any 0 t r):
 s.post enc P f apart fresh handsOn again W args v W':=by
 have hlt:∀p∈before,p.block<W.heap.size:=hW.lt;have hold:∀p∈before,(fun b=>decide (b<W.heap.size)) p.block=true:=fun p hp=>by simpa using hlt p hp
 refine⟨ds,gs,before,[],pa,pv,hW,hres _ _ _,hargs _ hold,hvars _ hold,World.keptBut_mono (fun p hp=>⟨hp,?_⟩) (hbel.frame (· ∈before)),fun _=>?_⟩
 .rw[hps,List.mem_append] at hp;exact Or.inr hp
 .obtain⟨_,_,_,_,_,hz,hn⟩:=hW;refine⟨hok,_,_,([]++pa)++pv,⟨[]++pa,pv,trodAll_append (hargs _ (fun _ _=>rfl)) (hres _ _ _),hvars _ (fun _ _=>rfl),rfl,?_,?_⟩,?_⟩
  .intro b off hp;have hp':MemPlace.cell b off∈before:=by rw[hps];simpa using hp
   rw[hbel.frozen (p:=⟨b,off,none⟩) (hlt _ hp')];exact hz b off hp'
  .intro ha;have:=hn ha;rw[hps] at this;simpa using this
  .intro p hp _;rw[hps];simpa using hp
end
theorem apP {E:Env}{R:Tx}{H:Type}{enc:TypeId×Value->H}{bk:DataW H->Nat}{bs:List (DataW H)->Nat}(hb:Bulk H bk bs)(hR:VF R)(hty:∀t τ,R.ty t=some τ->Vy R E.P t τ=true){Tp:TypeId->Prop}(K:Kids E.P Tp)(hsz:∀{t e:TypeId},Tp t->E.P.underlying t=some (.slice e)->0<E.P.cellsOf e){f:FuncId}{fn:Func}{s:ChangeSpec}{apart fresh handsOn again:Bool}{W:World}{base:Nat}{args:Array Value}{ds gs:List (DataW H)}{before:List MemPlace}{l:List Ty}(hl:fn.params.toList.map R.ty=l.map some)(hT:∀t∈fn.params.toList,Tp t)(hvars:s.vars=[])(hspec:s.fn H ds={results:=[.lit (.bool true)],args:=ds}){tb:TypeId}(hres:fn.resultTypes= #[tb])(yG:E.P.underlying tb=some .bool)(hval:∀(j:Nat) t v,fn.params[j]? =some t->args[j]? =some v->Value.okWide E.P W .any base t v)(hW:DataW.Whole enc E.P fn.params.toList s.vars apart W args.toList ds gs before)(NV:∀g cs,E.glob g=some cs->Rel (KA W) (fun _=>0) W (.Q5 cs 0) (.pointer (some (at_ g 0))))(NW:∀p:FN R.T (l.map Sk.d),Wq (Ri R (l.map Sk.d) p)<=bs ds->Um E f (Ri R (l.map Sk.d) p) (.bool true)):
 Calls E.P f args W fun e W'=>∃v,e= .returned v/\s.post enc E.P fn apart fresh handsOn again W args v W':=by
 have hW':=hW;obtain⟨p,q,hA,hV,hpq,_,_⟩:=hW;rw[hvars] at hV;obtain⟨rfl,rfl⟩:=trodVars_none hV;rw[Qu] at hpq;subst hpq;obtain⟨x,h1,h2⟩:=Ew R hb hR (T:=fun _=>0) hty (r:=.any) (base:=base) l fn.params.toList args.toList ds _ hl (fun j t v h1 h2=>hval j t v (by simpa using h1) (by simpa using h2)) hA;obtain⟨_,hcall⟩:=NW x h2;have hc:=callsIn_wide.1 (hcall (allI W) _ W args ⟨fun b o h=>h,fun b h=>h,NV⟩ (NT h1));refine hc.mono fun e W' he=>?_;cases e with
 |returned c=>
  obtain⟨hbel,hrel⟩:=he;cases hrel;have hlt:∀p∈before,p.block<W.heap.size:=hW'.lt;refine⟨_,rfl,NU (pa:=before) (pv:=[]) hW' (fun b sp hd=>?_) (fun sp hs=>?_) (fun sp hs=>?_) (by simp) hbel ?_⟩
  .rw[Qu,hspec,hres];exact trodAll_mk1 ⟨1,by simp[DataW.trod,yG,Value.cells]⟩
  .rw[Qu,hspec];exact Ey K hsz hbel hT hA hlt hs
  .rw[Qu,hspec,hvars];exact rfl
  .exact ok_one hres rfl (by unfold Value.okWide;rw[yG];simp[Cell.okWide,Cell.ok,yG])
 |panicked ch=>exact he.elim|outgrown=>exact he.elim
end Aq
end
