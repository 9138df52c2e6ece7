import Derived.Test.YtgdialomgeijcaaGreatF3820
set_option linter.all false
open Go Go.Proofs Aq
namespace Sh
set_option maxRecDepth 100000
noncomputable abbrev fA:Code:=(TD Tryz.f58.body [0]).getD .skip
noncomputable abbrev fB:Code:=(TD Tryz.f58.body [1,1]).getD .skip
noncomputable abbrev fC:Code:=(TD Tryz.f81.body [1]).getD .skip
abbrev r4:V:=.ref (1,4) 1 0
abbrev r5:V:=.ref (1,5) 2 0
noncomputable def F0 (t:List (List Q6))(p:Pred):Fr:={d:=1,om:=E.om 58,tm:=fun i=>[Sb t,Pred.v p].getD i FN}
noncomputable def F1 (t:List (List Q6))(p:Pred):Fr:=(((F0 t p).set 3 (.Q5 p.c 0)).set 4 r4).set 5 r5
noncomputable def S1:qd:=((qd.init.bump 3).setObj (1,4) 1 (.cells [.tX .nil []])).setObj (1,5) 2 (.cells [.bool false])
noncomputable def F2 (t:List (List Q6))(p:Pred):Fr:=(F1 t p).set 6 (.fn (.func 81) [] [r4,r5])
noncomputable def S2:qd:=S1.bump 2
noncomputable def F3 (t:List (List Q6))(p:Pred):Fr:=((F2 t p).set 7 (Sb t)).set 8 (Pred.v p)
noncomputable def S3:qd:=S2.bump 3
noncomputable def G2 (pv:V):Fr:=({d:=2,om:=E.om 81,tm:=fun i=>[r4,r5].getD i FN}:Fr).set 5 pv
theorem aqm (t:List (List Q6))(p:Pred):CW E fA (F0 t p) qd.init (fun e fr Y=>e= .normal/\fr=F1 t p/\Y=S1):=by refine CW.region ?_;refine OW.o1 (Y1:=qd.init.bump 3) (v:=.Q5 p.c 0) (by rfl) (fun S=>by rw[aew,if_pos (show Xz E 24 (some 3)=true from rfl)];show Is (if Q9 (er (Pred.v p))=true/\SI (Pred.v p)=true then some (V.Q5 (er (Pred.v p)).cells 0,_,_) else none) _;rw[alH,if_pos ⟨ag1 p,by cases p;rfl⟩];exact Is.rfl) ?_;refine OW.o1 (Y1:=(qd.init.bump 3).setObj (1,4) 1 (.cells [.tX .nil []])) (v:=r4) (by rfl) (fun S=>by show _=_;kernel_rfl) ?_;refine OW.o1 (Y1:=S1) (v:=r5) (by rfl) (fun S=>by show _=_;kernel_rfl) ?_;exact OW.nil ⟨rfl,rfl,rfl⟩
theorem cr1 {S0:R7}{co:Code->Fr->qd->Option (Ex×Fr×qd)}{t:List (List Q6)}{p:Pred}(h:co fA (F0 t p) qd.init=some (.normal,F1 t p,S1)):XL E S0 co ((TD Tryz.f58.body []).getD .skip) (F0 t p) qd.init=some (fB,F2 t p,S2,81,[r4,r5]):=by
 have e1:XL E S0 co ((TD Tryz.f58.body []).getD .skip) (F0 t p) qd.init=(co fA (F0 t p) qd.init).bind fun (e,fr,Y)=>match e with
  |.normal=>XL E S0 co ((TD Tryz.f58.body [1]).getD .skip) fr Y|_=>none:=by kernel_rfl
 rw[e1,h];show XL E S0 co ((TD Tryz.f58.body [1]).getD .skip) (F1 t p) S1=_;kernel_rfl
noncomputable def aan:List Oper:=match fB with
 |.seq (.region _ ops _) _=>ops.toList|_=>[]
theorem pf1 {S0:R7}{Q:Vf}(t:List (List Q6))(p:Pred):VJ E S0 Q aan S2.next [0,1,2] (F2 t p) S3=VJ E S0 Q aan S2.next [2] (F3 t p) S3:=by cases p;kernel_rfl
theorem pf2 {S0:R7}{Q:Vf}(t:List (List Q6))(p:Pred):((aan[2]?).bind fun o=>(Sl aan (F3 t p) o).bind fun b=>if b=true then VI E S0 Q (F3 t p) S3 o else none)=Q.call 82 [Sb t,Pred.v p] 2 S3:=by kernel_rfl
theorem aqn {S0:R7}{Q:Vf}{t:List (List Q6)}{p:Pred}{v:V}{Y':qd}(h:Q.call 82 [Sb t,Pred.v p] 2 S3=some (v,Y')):VJ E S0 Q aan S2.next [0,1,2] (F2 t p) S3=some (v,F3 t p,Y'):=by rw[pf1];unfold VJ;rw[pf2,h]
theorem aqo {S0:R7}{Q:Vf}{t:List (List Q6)}{p:Pred}(h:Q.call 82 [Sb t,Pred.v p] 2 S3=none):VJ E S0 Q aan S2.next [0,1,2] (F2 t p) S3=none:=by
 rw[pf1];unfold VJ;rw[pf2,h];dsimp only;cases Tc E S0 aan S2.next 2 (F3 t p) S3 with
 |none=>rfl|some r=>rfl
theorem aqp {S0 S:R7}{Q:Vf}{t:List (List Q6)}{p:Pred}{v:V}{Y':qd}(h:Q.call 82 [Sb t,Pred.v p] 2 S3=some (v,Y')):acs E S0 S Q fB (F2 t p) S2=some (some v,F3 t p,Y'):=by
 show (match VJ E S0 Q aan S2.next [0,1,2] (F2 t p) S3 with
  |some (v,fr,Y)=>some (some v,fr,Y)|none=>aaT S fB (F2 t p) S2)=_
 rw[aqn h]
theorem aqr {S0 S:R7}{Q:Vf}{t:List (List Q6)}{p:Pred}(h:Q.call 82 [Sb t,Pred.v p] 2 S3=none):acs E S0 S Q fB (F2 t p) S2=aaT S fB (F2 t p) S2:=by
 show (match VJ E S0 Q aan S2.next [0,1,2] (F2 t p) S3 with
  |some (v,fr,Y)=>some (some v,fr,Y)|none=>aaT S fB (F2 t p) S2)=_
 rw[aqo h]
theorem rc1 {S:R7}{pv:Option V}{Y Y':qd}{e:Ex}{fr:Fr}(h:S.code fC (G2 (pv.getD .Sw)) Y=some (e,fr,Y'))(he:∀i,e≠ .exit i):acu E S 81 [r4,r5] 2 pv Y=some Y':=by
 have e1:acu E S 81 [r4,r5] 2 pv Y=(S.code fC (G2 (pv.getD .Sw)) Y).bind fun (e,fr,Y)=>match e with
  |.exit _=>none|_=>some Y:=by kernel_rfl
 rw[e1,h];cases e with
 |exit i=>exact absurd rfl (he i)|normal=>rfl|ret=>rfl
theorem aff {S:R7}{fr:Fr}{Y:qd}{st s:Nat}{d:Option Tmp}{tt ty:TypeId}{a x:Operand}{pos:String}{Tw:Array Edge}{gd:Option (Nat×Bool)}{loc:Aq.Loc}{v y:V}(ha:fr.ev E a= .ref loc s 0)(hx:fr.ev E x=v)(hv:v.cells=[v])(h1:RN [v]=true)(hs:RI E.P tt=some 1)(hc:Y.Rq loc s=some [y]):
 Is (opC E S fr Y st ⟨d,.store tt a x,ty,pos,Tw,gd⟩) (some (FN,fr,Y.setObj loc s (.cells [v]))):=by
 show _=_;rw[aex,ha];dsimp only;rw[hc,Option.bind_some,hx,hv,hs,if_pos ⟨rfl,by simp,h1⟩];rfl
theorem afg {Y:qd}{l l':Aq.Loc}{s s':Nat}{x:Te}(h:l≠l'):(Y.setObj l' s' x).Rq l s=Y.Rq l s:=by unfold qd.Rq qd.setObj upd;simp only[if_neg h]
theorem aqs (Y:qd):CW E fC (G2 .Sw) Y (fun e fr Y'=>(∀i,e≠ .exit i)/\∀l s,Y'.Rq l s=Y.Rq l s):=by refine CW.block (CW.seq (CW.region ?_));refine OW.o1 (Y1:=Y.bump 1) (v:=.bool true) (by rfl) (fun S=>by show _=_;kernel_rfl) ?_;refine OW.nil (SC.n (CW.aaH (by exact Is.rfl) (CW.region ?_)));refine OW.o1 (Y1:=(Y.bump 1).bump 1) (v:=.Sw) (by rfl) (fun S=>by show _=_;kernel_rfl) ?_;exact OW.nil (UL.n ⟨(fun i h=>by cases h),fun _ _=>rfl⟩)
theorem aqt {Y:qd}{c:Cap}{L:List V}{x y:V}(h4:Y.Rq (1,4) 1=some [x])(h5:Y.Rq (1,5) 2=some [y]):CW E fC (G2 (.iface 101 (.tX c L))) Y (fun e fr Y'=>(∀i,e≠ .exit i)/\Y'.Rq (1,4) 1=some [.tX c L]/\Y'.Rq (1,5) 2=some [.bool false]):=by
 have z25:RI E.P 25=some 1:=by kernel_rfl
 have z4:RI E.P 4=some 1:=by kernel_rfl
 refine CW.block (CW.seq (CW.region ?_));refine OW.o1 (Y1:=Y.bump 1) (v:=.bool false) (by rfl) (fun S=>by show _=_;kernel_rfl) ?_;refine OW.nil (SC.n (CW.aaI (by exact Is.rfl) (CW.seq (CW.region ?_))));refine OW.o1 (Y1:=(Y.bump 1).bump 3) (v:=.Rm [.tX c L,.bool true]) (by rfl) (fun S=>by show _=_;kernel_rfl) ?_;refine OW.o1 (Y1:=(Y.bump 1).bump 3) (v:=.bool true) (by rfl) (fun S=>by show _=_;kernel_rfl) ?_;refine OW.o1 (Y1:=(Y.bump 1).bump 3) (v:=.tX c L) (by rfl) (fun S=>by show _=_;kernel_rfl) ?_;refine OW.nil (SC.n (CW.aaH (by exact Is.rfl) (CW.seq (CW.region ?_))));refine OW.o1 (Y1:=((Y.bump 1).bump 3).bump 1) (v:=.tX c L) (by rfl) (fun S=>by show _=_;kernel_rfl) ?_;refine OW.nil (SC.n (CW.region ?_));refine OW.o1 (Y1:=(((Y.bump 1).bump 3).bump 1).bump 3) (v:=.tX c L) (by rfl) (fun S=>by show _=_;kernel_rfl) ?_;refine OW.o0 (by rfl) (fun S=>aff (y:=x) (v:=.tX c L) (loc:=(1,4)) (s:=1) rfl rfl rfl rfl z25 h4) ?_;refine OW.o0 (by rfl) (fun S=>aff (y:=y) (v:=.bool false) (loc:=(1,5)) (s:=2) rfl rfl rfl rfl z4 ((afg (by decide)).trans h5)) ?_;refine OW.nil (UL.n ⟨(fun i h=>by cases h),(afg (by decide)).trans ?_,?_⟩)
 .simp only[go_sem]
 .simp only[go_sem]
theorem aqu {t:List (List Q6)}{p:Pred}(h:Va E 82 [Sb t,Pred.v p] 2 S3 (fun _ Y'=>ads 2 S3 Y')):CW E fB (F2 t p) S2 (fun e fr Y'=>(∀i,e≠ .exit i)/\fr.tm 4=r4/\fr.tm 5=r5/\Y'.Rq (1,4) 1=some [.tX .nil []]/\Y'.Rq (1,5) 2=some [.bool true]):=by
 have z25:RI E.P 25=some 1:=by kernel_rfl
 have z4:RI E.P 4=some 1:=by kernel_rfl
 refine CW.seq (CW.region ?_);refine OW.o1 (Y1:=S3) (v:=Sb t) (by rfl) (fun S=>by show _=_;kernel_rfl) ?_;refine OW.o1 (Y1:=S3) (v:=Pred.v p) (by rfl) (fun S=>by show _=_;cases p;kernel_rfl) ?_;refine OW.abf (a:=[]) (b:=[]) (g:=82) (by rfl) rfl rfl rfl rfl ?_;show Va E 82 [Sb t,Pred.v p] 2 S3 _;obtain⟨n,v,Y',h1,h2⟩:=h;refine⟨n,v,Y',h1,?_⟩;have h4:Y'.Rq (1,4) 1=some [.tX .nil []]:=by unfold qd.Rq;rw[h2 1 4 (by omega)];kernel_rfl
 have h5:Y'.Rq (1,5) 2=some [.bool false]:=by unfold qd.Rq;rw[h2 1 5 (by omega)];kernel_rfl
 refine OW.nil (SC.n (CW.seq (CW.region ?_)));refine OW.o0 (by rfl) (fun S=>aff (y:=.tX .nil []) (v:=.tX .nil []) (loc:=(1,4)) (s:=1) rfl rfl rfl rfl z25 h4) ?_;refine OW.o0 (by rfl) (fun S=>aff (y:=.bool false) (v:=.bool true) (loc:=(1,5)) (s:=2) rfl rfl rfl rfl z4 ((afg (by decide)).trans h5)) ?_;refine OW.nil (SC.n (CW.ret ⟨(fun i h=>by cases h),rfl,rfl,(afg (by decide)).trans ?_,?_⟩))
 .simp only[go_sem]
 .simp only[go_sem]
theorem alM {S0 S:R7}{Q:Vf}(t:List (List Q6))(p:Pred):aaU E S0 S Q 58 [Sb t,Pred.v p] 1 qd.init=(XL E S0 S.code ((TD Tryz.f58.body []).getD .skip) (F0 t p) qd.init).bind fun (b,fr,Y,g,U5)=>(acs E S0 S Q b fr Y).bind fun (pv,fr,Y)=>(acu E S g U5 2 pv Y).bind fun Y=>([.cell 4 25,.cell 5 4].mapM (TJ E fr Y)).map fun vs=>(rv1 vs,Y):=by kernel_rfl
theorem alN {fr:Fr}{Y:qd}{c:Cap}{L:List V}{b:Bool}(h1:fr.tm 4=r4)(h2:fr.tm 5=r5)(h3:Y.Rq (1,4) 1=some [.tX c L])(h4:Y.Rq (1,5) 2=some [.bool b]):([.cell 4 25,.cell 5 4]:List ResultVar).mapM (TJ E fr Y)=some [.tX c L,.bool b]:=by
 have e1:TJ E fr Y (.cell 4 25)=some (.tX c L):=by unfold TJ;dsimp only;rw[h1];dsimp only;rw[h3];kernel_rfl
 have e2:TJ E fr Y (.cell 5 4)=some (.bool b):=by unfold TJ;dsimp only;rw[h2];dsimp only;rw[h4];kernel_rfl
 rw[PW,e1,PW,e2];rfl
theorem alO {Y:qd}{c:Cap}{L:List Attr}{b:Bool}:Rf 20 Y (.Rm [.tX c (L.map Attr.v),.bool b])=some (.Rm [lv Attr.v L,.bool b]):=by rw[aey,PW,Yr (f:=Attr.v) c L (fun x=>Vd Ua (.st 3) x),PW,aeu];rfl
theorem aqv {N:Nat}{t:List (List Q6)}{p:Pred}{hs:List Attr->Bool}(htl:t.length<2^20)(hne:∀c∈t,0<c.length)(hN:N=Rv t)(hsm:N<=4096)(hlen:∀c∈t,c.length<=4096)(hc:Pure E 55 [Sb t] (.int .i64 N))(hH:∀k,k<N->Pure E 12 [Pred.v p,lv Attr.v (R4 k N t)] (.bool (hs (R4 k N t)))):
 ∃m v0 Y1,aaU E (Rh E m) (Rh E (m+1)) (Tz E m) 58 [Sb t,Pred.v p] 1 qd.init=some (v0,Y1)/\Rf 20 Y1 v0=some (.Rm [lv Attr.v (VK hs t).1,.bool (VK hs t).2]):=by
 obtain⟨n0,e0,fr0,Y0,a1,rfl,rfl,rfl⟩:=aqm t p;rcases aql (d:=2) (Y:=S3) (p:=p) htl hne hN hsm hlen hc hH with ⟨n1,v,Y',b1,b2,b3,b4⟩| ⟨n1,v,Y',b1,k,c,b2,b3,b4,rfl,b5⟩
 .obtain⟨n2,e2,RV,Y2,c1,c2,c3,c4,c5,c6⟩:=aqu (t:=t) (p:=p) ⟨n1,v,Y',b2,b4⟩;obtain⟨n3,e3,fr3,Y3,d1,d2,d3⟩:=aqs Y2;have hf:VK hs t=([],true):=by unfold VK;rw[List.find?_eq_none.2 (fun k hk=>by rw[<-hN,b3 k (by rw[hN];exact List.mem_range.1 hk)];simp)]
  refine⟨max (max n0 n1) (max n2 n3),.Rm [.tX .nil ([].map Attr.v),.bool true],Y3,?_,by rw[hf];exact alO⟩;have a1':(Rh E (max (max n0 n1) (max n2 n3)+1)).code fA (F0 t p) qd.init=_:=UW (show n0<=max (max n0 n1) (max n2 n3) by omega) a1;have c1':=UW (show n2<=max (max n0 n1) (max n2 n3) by omega) c1;have d1':(Rh E (max (max n0 n1) (max n2 n3)+1)).code fC (G2 ((none:Option V).getD .Sw)) Y2=_:=UW (show n3<=max (max n0 n1) (max n2 n3) by omega) d1;rw[alM,cr1 a1',Option.bind_some];dsimp only;rw[aqr (b1 _ (by omega))];have en:aaT (Rh E (max (max n0 n1) (max n2 n3)+1)) fB (F2 t p) S2=some (none,RV,Y2):=by
   show (RB E (Rh E _) fB (F2 t p) S2).bind _=_;rw[c1',Option.bind_some];cases e2 with
   |exit i=>exact absurd rfl (c2 i)|normal=>rfl|ret=>rfl
  rw[en,Option.bind_some];dsimp only;rw[rc1 (pv:=none) d1' d2,Option.bind_some,alN c3 c4 ((d3 _ _).trans c5) ((d3 _ _).trans c6)];rfl
 .have h4:Y'.Rq (1,4) 1=some [.tX .nil []]:=by unfold qd.Rq;rw[b5 1 4 (by omega)];kernel_rfl
  have h5:Y'.Rq (1,5) 2=some [.bool false]:=by unfold qd.Rq;rw[b5 1 5 (by omega)];kernel_rfl
  obtain⟨n3,e3,fr3,Y3,d1,d2,d3,d4⟩:=aqt (c:=c) (L:=(R4 k N t).map Attr.v) h4 h5;have hf:VK hs t=(R4 k N t,false):=by
   unfold VK;rw[<-hN];have:(List.range N).find? (fun k=>hs (R4 k N t))=some k:=by refine List.find?_range_eq_some.2 ?_;exact⟨b4,List.mem_range.2 b2,fun j hj=>by rw[b3 j hj];rfl⟩
   rw[this]
  refine⟨max n0 (max n1 n3),.Rm [.tX c ((R4 k N t).map Attr.v),.bool false],Y3,?_,by rw[hf];exact alO⟩;have a1':(Rh E (max n0 (max n1 n3)+1)).code fA (F0 t p) qd.init=_:=UW (show n0<=max n0 (max n1 n3) by omega) a1;have d1':(Rh E (max n0 (max n1 n3)+1)).code fC (G2 ((some (V.iface 101 (.tX c ((R4 k N t).map Attr.v)))).getD .Sw)) Y'=_:=UW (show n3<=max n0 (max n1 n3) by omega) d1;rw[alM,cr1 a1',Option.bind_some];dsimp only;rw[aqp (b1 _ (by omega)),Option.bind_some];dsimp only;rw[rc1 (pv:=some _) d1' d2,Option.bind_some,alN rfl rfl d3 d4];rfl
end Sh
