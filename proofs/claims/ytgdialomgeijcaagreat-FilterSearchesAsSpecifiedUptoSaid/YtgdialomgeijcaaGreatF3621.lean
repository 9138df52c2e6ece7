import Derived.Test.YtgdialomgeijcaaGreatF3620
set_option linter.all false
open Go Go.Proofs Aq
namespace Sh
set_option maxRecDepth 100000
noncomputable abbrev fA:Code:=(TL Tryz.f58.body [0]).getD .skip
noncomputable abbrev fB:Code:=(TL Tryz.f58.body [1,1]).getD .skip
noncomputable abbrev fC:Code:=(TL Tryz.f81.body [1]).getD .skip
abbrev r4:V:=.ref (1,4) 1 0
abbrev r5:V:=.ref (1,5) 2 0
noncomputable def F0 (t:List (List Q7))(p:Pred):Fr:={d:=1,om:=E.om 58,tm:=fun i=>[Sm t,Pred.v p].getD i Lv}
noncomputable def F1 (t:List (List Q7))(p:Pred):Fr:=(((F0 t p).set 3 (.Q5 p.c 0)).set 4 r4).set 5 r5
noncomputable def S1:qd:=((qd.init.bump 3).setObj (1,4) 1 (.cells [.tX .nil []])).setObj (1,5) 2 (.cells [.bool false])
noncomputable def F2 (t:List (List Q7))(p:Pred):Fr:=(F1 t p).set 6 (.fn (.func 81) [] [r4,r5])
noncomputable def S2:qd:=S1.bump 2
noncomputable def F3 (t:List (List Q7))(p:Pred):Fr:=((F2 t p).set 7 (Sm t)).set 8 (Pred.v p)
noncomputable def S3:qd:=S2.bump 3
noncomputable def G2 (pv:V):Fr:=({d:=2,om:=E.om 81,tm:=fun i=>[r4,r5].getD i Lv}:Fr).set 5 pv
theorem aqW (t:List (List Q7))(p:Pred):CW E fA (F0 t p) qd.init (fun e fr Y=>e= .normal/\fr=F1 t p/\Y=S1):=by refine CW.region ?_;refine OW.o1 (Y1:=qd.init.bump 3) (v:=.Q5 p.c 0) (by rfl) (fun S=>by rw[aeK,if_pos (show W9 E 24 (some 3)=true from rfl)];show Is (if Q9 (er (Pred.v p))=true/\SQ (Pred.v p)=true then some (V.Q5 (er (Pred.v p)).cells 0,_,_) else none) _;rw[amd,if_pos ⟨ahe p,by cases p;rfl⟩];exact Is.rfl) ?_;refine OW.o1 (Y1:=(qd.init.bump 3).setObj (1,4) 1 (.cells [.tX .nil []])) (v:=r4) (by rfl) (fun S=>by show _=_;kernel_rfl) ?_;refine OW.o1 (Y1:=S1) (v:=r5) (by rfl) (fun S=>by show _=_;kernel_rfl) ?_;exact OW.nil ⟨rfl,rfl,rfl⟩
theorem cr1 {S0:R8}{co:Code->Fr->qd->Option (Ex×Fr×qd)}{t:List (List Q7)}{p:Pred}(h:co fA (F0 t p) qd.init=some (.normal,F1 t p,S1)):XR E S0 co ((TL Tryz.f58.body []).getD .skip) (F0 t p) qd.init=some (fB,F2 t p,S2,81,[r4,r5]):=by
 have e1:XR E S0 co ((TL Tryz.f58.body []).getD .skip) (F0 t p) qd.init=(co fA (F0 t p) qd.init).bind fun (e,fr,Y)=>match e with
  |.normal=>XR E S0 co ((TL Tryz.f58.body [1]).getD .skip) fr Y|_=>none:=by kernel_rfl
 rw[e1,h];show XR E S0 co ((TL Tryz.f58.body [1]).getD .skip) (F1 t p) S1=_;kernel_rfl
noncomputable def aau:List Oper:=match fB with
 |.seq (.region _ ops _) _=>ops.toList|_=>[]
theorem pf1 {S0:R8}{Q:Vd}(t:List (List Q7))(p:Pred):VJ E S0 Q aau S2.next [0,1,2] (F2 t p) S3=VJ E S0 Q aau S2.next [2] (F3 t p) S3:=by cases p;kernel_rfl
theorem pf2 {S0:R8}{Q:Vd}(t:List (List Q7))(p:Pred):((aau[2]?).bind fun o=>(Sq aau (F3 t p) o).bind fun b=>if b=true then VI E S0 Q (F3 t p) S3 o else none)=Q.call 82 [Sm t,Pred.v p] 2 S3:=by kernel_rfl
theorem aqX {S0:R8}{Q:Vd}{t:List (List Q7)}{p:Pred}{v:V}{Y':qd}(h:Q.call 82 [Sm t,Pred.v p] 2 S3=some (v,Y')):VJ E S0 Q aau S2.next [0,1,2] (F2 t p) S3=some (v,F3 t p,Y'):=by rw[pf1];unfold VJ;rw[pf2,h]
theorem aqY {S0:R8}{Q:Vd}{t:List (List Q7)}{p:Pred}(h:Q.call 82 [Sm t,Pred.v p] 2 S3=none):VJ E S0 Q aau S2.next [0,1,2] (F2 t p) S3=none:=by
 rw[pf1];unfold VJ;rw[pf2,h];dsimp only;cases Tj E S0 aau S2.next 2 (F3 t p) S3 with
 |none=>rfl|some r=>rfl
theorem aqZ {S0 S:R8}{Q:Vd}{t:List (List Q7)}{p:Pred}{v:V}{Y':qd}(h:Q.call 82 [Sm t,Pred.v p] 2 S3=some (v,Y')):acD E S0 S Q fB (F2 t p) S2=some (some v,F3 t p,Y'):=by
 show (match VJ E S0 Q aau S2.next [0,1,2] (F2 t p) S3 with
  |some (v,fr,Y)=>some (some v,fr,Y)|none=>aaZ S fB (F2 t p) S2)=_
 rw[aqX h]
theorem aq0 {S0 S:R8}{Q:Vd}{t:List (List Q7)}{p:Pred}(h:Q.call 82 [Sm t,Pred.v p] 2 S3=none):acD E S0 S Q fB (F2 t p) S2=aaZ S fB (F2 t p) S2:=by
 show (match VJ E S0 Q aau S2.next [0,1,2] (F2 t p) S3 with
  |some (v,fr,Y)=>some (some v,fr,Y)|none=>aaZ S fB (F2 t p) S2)=_
 rw[aqY h]
theorem rc1 {S:R8}{pv:Option V}{Y Y':qd}{e:Ex}{fr:Fr}(h:S.code fC (G2 (pv.getD .SB)) Y=some (e,fr,Y'))(he:∀i,e≠ .exit i):acE E S 81 [r4,r5] 2 pv Y=some Y':=by
 have e1:acE E S 81 [r4,r5] 2 pv Y=(S.code fC (G2 (pv.getD .SB)) Y).bind fun (e,fr,Y)=>match e with
  |.exit _=>none|_=>some Y:=by kernel_rfl
 rw[e1,h];cases e with
 |exit i=>exact absurd rfl (he i)|normal=>rfl|ret=>rfl
theorem afs {S:R8}{fr:Fr}{Y:qd}{st s:Nat}{d:Option Tmp}{tt ty:TypeId}{a x:Operand}{pos:String}{TD:Array Edge}{gd:Option (Nat×Bool)}{loc:Aq.Loc}{v y:V}(ha:fr.ev E a= .ref loc s 0)(hx:fr.ev E x=v)(hv:v.cells=[v])(h1:RP [v]=true)(hs:RL E.P tt=some 1)(hc:Y.Rt loc s=some [y]):
 Is (opC E S fr Y st ⟨d,.store tt a x,ty,pos,TD,gd⟩) (some (Lv,fr,Y.setObj loc s (.cells [v]))):=by
 show _=_;rw[aeL,ha];dsimp only;rw[hc,Option.bind_some,hx,hv,hs,if_pos ⟨rfl,by simp,h1⟩];rfl
theorem afu {Y:qd}{l l':Aq.Loc}{s s':Nat}{x:Tk}(h:l≠l'):(Y.setObj l' s' x).Rt l s=Y.Rt l s:=by unfold qd.Rt qd.setObj upd;simp only[if_neg h]
theorem aq1 (Y:qd):CW E fC (G2 .SB) Y (fun e fr Y'=>(∀i,e≠ .exit i)/\∀l s,Y'.Rt l s=Y.Rt l s):=by refine CW.block (CW.seq (CW.region ?_));refine OW.o1 (Y1:=Y.bump 1) (v:=.bool true) (by rfl) (fun S=>by show _=_;kernel_rfl) ?_;refine OW.nil (SH.n (CW.aaN (by exact Is.rfl) (CW.region ?_)));refine OW.o1 (Y1:=(Y.bump 1).bump 1) (v:=.SB) (by rfl) (fun S=>by show _=_;kernel_rfl) ?_;exact OW.nil (UM.n ⟨(fun i h=>by cases h),fun _ _=>rfl⟩)
theorem aq2 {Y:qd}{c:Cap}{L:List V}{x y:V}(h4:Y.Rt (1,4) 1=some [x])(h5:Y.Rt (1,5) 2=some [y]):CW E fC (G2 (.iface 101 (.tX c L))) Y (fun e fr Y'=>(∀i,e≠ .exit i)/\Y'.Rt (1,4) 1=some [.tX c L]/\Y'.Rt (1,5) 2=some [.bool false]):=by
 have z25:RL E.P 25=some 1:=by kernel_rfl
 have z4:RL E.P 4=some 1:=by kernel_rfl
 refine CW.block (CW.seq (CW.region ?_));refine OW.o1 (Y1:=Y.bump 1) (v:=.bool false) (by rfl) (fun S=>by show _=_;kernel_rfl) ?_;refine OW.nil (SH.n (CW.aaO (by exact Is.rfl) (CW.seq (CW.region ?_))));refine OW.o1 (Y1:=(Y.bump 1).bump 3) (v:=.Rn [.tX c L,.bool true]) (by rfl) (fun S=>by show _=_;kernel_rfl) ?_;refine OW.o1 (Y1:=(Y.bump 1).bump 3) (v:=.bool true) (by rfl) (fun S=>by show _=_;kernel_rfl) ?_;refine OW.o1 (Y1:=(Y.bump 1).bump 3) (v:=.tX c L) (by rfl) (fun S=>by show _=_;kernel_rfl) ?_;refine OW.nil (SH.n (CW.aaN (by exact Is.rfl) (CW.seq (CW.region ?_))));refine OW.o1 (Y1:=((Y.bump 1).bump 3).bump 1) (v:=.tX c L) (by rfl) (fun S=>by show _=_;kernel_rfl) ?_;refine OW.nil (SH.n (CW.region ?_));refine OW.o1 (Y1:=(((Y.bump 1).bump 3).bump 1).bump 3) (v:=.tX c L) (by rfl) (fun S=>by show _=_;kernel_rfl) ?_;refine OW.o0 (by rfl) (fun S=>afs (y:=x) (v:=.tX c L) (loc:=(1,4)) (s:=1) rfl rfl rfl rfl z25 h4) ?_;refine OW.o0 (by rfl) (fun S=>afs (y:=y) (v:=.bool false) (loc:=(1,5)) (s:=2) rfl rfl rfl rfl z4 ((afu (by decide)).trans h5)) ?_;refine OW.nil (UM.n ⟨(fun i h=>by cases h),(afu (by decide)).trans ?_,?_⟩)
 .simp only[go_sem]
 .simp only[go_sem]
theorem aq3 {t:List (List Q7)}{p:Pred}(h:U9 E 82 [Sm t,Pred.v p] 2 S3 (fun _ Y'=>adz 2 S3 Y')):CW E fB (F2 t p) S2 (fun e fr Y'=>(∀i,e≠ .exit i)/\fr.tm 4=r4/\fr.tm 5=r5/\Y'.Rt (1,4) 1=some [.tX .nil []]/\Y'.Rt (1,5) 2=some [.bool true]):=by
 have z25:RL E.P 25=some 1:=by kernel_rfl
 have z4:RL E.P 4=some 1:=by kernel_rfl
 refine CW.seq (CW.region ?_);refine OW.o1 (Y1:=S3) (v:=Sm t) (by rfl) (fun S=>by show _=_;kernel_rfl) ?_;refine OW.o1 (Y1:=S3) (v:=Pred.v p) (by rfl) (fun S=>by show _=_;cases p;kernel_rfl) ?_;refine OW.abp (a:=[]) (b:=[]) (g:=82) (by rfl) rfl rfl rfl rfl ?_;show U9 E 82 [Sm t,Pred.v p] 2 S3 _;obtain⟨n,v,Y',h1,h2⟩:=h;refine⟨n,v,Y',h1,?_⟩;have h4:Y'.Rt (1,4) 1=some [.tX .nil []]:=by unfold qd.Rt;rw[h2 1 4 (by omega)];kernel_rfl
 have h5:Y'.Rt (1,5) 2=some [.bool false]:=by unfold qd.Rt;rw[h2 1 5 (by omega)];kernel_rfl
 refine OW.nil (SH.n (CW.seq (CW.region ?_)));refine OW.o0 (by rfl) (fun S=>afs (y:=.tX .nil []) (v:=.tX .nil []) (loc:=(1,4)) (s:=1) rfl rfl rfl rfl z25 h4) ?_;refine OW.o0 (by rfl) (fun S=>afs (y:=.bool false) (v:=.bool true) (loc:=(1,5)) (s:=2) rfl rfl rfl rfl z4 ((afu (by decide)).trans h5)) ?_;refine OW.nil (SH.n (CW.ret ⟨(fun i h=>by cases h),rfl,rfl,(afu (by decide)).trans ?_,?_⟩))
 .simp only[go_sem]
 .simp only[go_sem]
theorem ami {S0 S:R8}{Q:Vd}(t:List (List Q7))(p:Pred):aa0 E S0 S Q 58 [Sm t,Pred.v p] 1 qd.init=(XR E S0 S.code ((TL Tryz.f58.body []).getD .skip) (F0 t p) qd.init).bind fun (b,fr,Y,g,U5)=>(acD E S0 S Q b fr Y).bind fun (pv,fr,Y)=>(acE E S g U5 2 pv Y).bind fun Y=>([.cell 4 25,.cell 5 4].mapM (TN E fr Y)).map fun vs=>(rv1 vs,Y):=by kernel_rfl
theorem amj {fr:Fr}{Y:qd}{c:Cap}{L:List V}{b:Bool}(h1:fr.tm 4=r4)(h2:fr.tm 5=r5)(h3:Y.Rt (1,4) 1=some [.tX c L])(h4:Y.Rt (1,5) 2=some [.bool b]):([.cell 4 25,.cell 5 4]:List ResultVar).mapM (TN E fr Y)=some [.tX c L,.bool b]:=by
 have e1:TN E fr Y (.cell 4 25)=some (.tX c L):=by unfold TN;dsimp only;rw[h1];dsimp only;rw[h3];kernel_rfl
 have e2:TN E fr Y (.cell 5 4)=some (.bool b):=by unfold TN;dsimp only;rw[h2];dsimp only;rw[h4];kernel_rfl
 rw[PW,e1,PW,e2];rfl
theorem amk {Y:qd}{c:Cap}{L:List Attr}{b:Bool}:Rf 20 Y (.Rn [.tX c (L.map Attr.v),.bool b])=some (.Rn [lv Attr.v L,.bool b]):=by rw[aeM,PW,Yw (f:=Attr.v) c L (fun x=>Vb TR (.st 3) x),PW,aeI];rfl
theorem aq4 {N:Nat}{t:List (List Q7)}{p:Pred}{hs:List Attr->Bool}(htl:t.length<2^20)(hne:∀c∈t,0<c.length)(hN:N=RJ t)(hsm:N<=4096)(hlen:∀c∈t,c.length<=4096)(hc:Pure E 55 [Sm t] (.int .i64 N))(hH:∀k,k<N->Pure E 12 [Pred.v p,lv Attr.v (R9 k N t)] (.bool (hs (R9 k N t)))):
 ∃m v0 Y1,aa0 E (Rh E m) (Rh E (m+1)) (TG E m) 58 [Sm t,Pred.v p] 1 qd.init=some (v0,Y1)/\Rf 20 Y1 v0=some (.Rn [lv Attr.v (VL hs t).1,.bool (VL hs t).2]):=by
 obtain⟨n0,e0,fr0,Y0,a1,rfl,rfl,rfl⟩:=aqW t p;rcases aqV (d:=2) (Y:=S3) (p:=p) htl hne hN hsm hlen hc hH with ⟨n1,v,Y',b1,b2,b3,b4⟩| ⟨n1,v,Y',b1,k,c,b2,b3,b4,rfl,b5⟩
 .obtain⟨n2,e2,RX,Y2,c1,c2,c3,c4,c5,c6⟩:=aq3 (t:=t) (p:=p) ⟨n1,v,Y',b2,b4⟩;obtain⟨n3,e3,fr3,Y3,d1,d2,d3⟩:=aq1 Y2;have hf:VL hs t=([],true):=by unfold VL;rw[List.find?_eq_none.2 (fun k hk=>by rw[<-hN,b3 k (by rw[hN];exact List.mem_range.1 hk)];simp)]
  refine⟨max (max n0 n1) (max n2 n3),.Rn [.tX .nil ([].map Attr.v),.bool true],Y3,?_,by rw[hf];exact amk⟩;have a1':(Rh E (max (max n0 n1) (max n2 n3)+1)).code fA (F0 t p) qd.init=_:=UR (show n0<=max (max n0 n1) (max n2 n3) by omega) a1;have c1':=UR (show n2<=max (max n0 n1) (max n2 n3) by omega) c1;have d1':(Rh E (max (max n0 n1) (max n2 n3)+1)).code fC (G2 ((none:Option V).getD .SB)) Y2=_:=UR (show n3<=max (max n0 n1) (max n2 n3) by omega) d1;rw[ami,cr1 a1',Option.bind_some];dsimp only;rw[aq0 (b1 _ (by omega))];have en:aaZ (Rh E (max (max n0 n1) (max n2 n3)+1)) fB (F2 t p) S2=some (none,RX,Y2):=by
   show (RD E (Rh E _) fB (F2 t p) S2).bind _=_;rw[c1',Option.bind_some];cases e2 with
   |exit i=>exact absurd rfl (c2 i)|normal=>rfl|ret=>rfl
  rw[en,Option.bind_some];dsimp only;rw[rc1 (pv:=none) d1' d2,Option.bind_some,amj c3 c4 ((d3 _ _).trans c5) ((d3 _ _).trans c6)];rfl
 .have h4:Y'.Rt (1,4) 1=some [.tX .nil []]:=by unfold qd.Rt;rw[b5 1 4 (by omega)];kernel_rfl
  have h5:Y'.Rt (1,5) 2=some [.bool false]:=by unfold qd.Rt;rw[b5 1 5 (by omega)];kernel_rfl
  obtain⟨n3,e3,fr3,Y3,d1,d2,d3,d4⟩:=aq2 (c:=c) (L:=(R9 k N t).map Attr.v) h4 h5;have hf:VL hs t=(R9 k N t,false):=by
   unfold VL;rw[<-hN];have:(List.range N).find? (fun k=>hs (R9 k N t))=some k:=by refine List.find?_range_eq_some.2 ?_;exact⟨b4,List.mem_range.2 b2,fun j hj=>by rw[b3 j hj];rfl⟩
   rw[this]
  refine⟨max n0 (max n1 n3),.Rn [.tX c ((R9 k N t).map Attr.v),.bool false],Y3,?_,by rw[hf];exact amk⟩;have a1':(Rh E (max n0 (max n1 n3)+1)).code fA (F0 t p) qd.init=_:=UR (show n0<=max n0 (max n1 n3) by omega) a1;have d1':(Rh E (max n0 (max n1 n3)+1)).code fC (G2 ((some (V.iface 101 (.tX c ((R9 k N t).map Attr.v)))).getD .SB)) Y'=_:=UR (show n3<=max n0 (max n1 n3) by omega) d1;rw[ami,cr1 a1',Option.bind_some];dsimp only;rw[aqZ (b1 _ (by omega)),Option.bind_some];dsimp only;rw[rc1 (pv:=some _) d1' d2,Option.bind_some,amj rfl rfl d3 d4];rfl
end Sh
