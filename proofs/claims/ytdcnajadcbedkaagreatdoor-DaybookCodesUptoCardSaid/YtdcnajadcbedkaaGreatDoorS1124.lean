/- Part of the proof of a law. -/
import Derived.Test.YtdcnajadcbedkaaGreatDoorS1123
set_option linter.all false
set_option linter.unusedSimpArgs false
set_option linter.unusedSectionVars false
open Go Go.Proofs Aq
namespace Sh
set_option maxRecDepth 100000
set_option linter.unusedVariables false
theorem ajI (n:Nat) (x1:Root):Fv n x1=
 some (bif decide ((((x1.Marks.length:Nat):Int))≤(20:Int)) then true else bif decide ((((x1.Marks.length:Nat):Int))> (256:Int)) then decide ((((x1.Marks.length:Nat):Int))< (300:Int)) else false):=by kernel_rfl
theorem ajJ (n:Nat) (x1:Root):Fz n x1=
 some (((),(x1.jR,(x1.fC,(x1.Day,(x1.Floor,(x1.au.b0,(x1.au.b1,(x1.au.b2,(x1.au.b3,(x1.au.b4,(x1.au.b5,(x1.au.b6,(x1.au.b7,(x1.au.b8,(x1.au.b9,(x1.au.b10,(x1.au.b11,(x1.au.b12,(x1.au.b13,(x1.au.b14,(x1.au.b15,(x1.ak.b0,(x1.ak.b1,(x1.ak.b2,(x1.ak.b3,(x1.ak.b4,(x1.ak.b5,(x1.ak.b6,(x1.ak.b7,(x1.ak.b8,(x1.ak.b9,(x1.ak.b10,(x1.ak.b11,(x1.ak.b12,(x1.ak.b13,(x1.ak.b14,(x1.ak.b15,(x1.Marks,(x1.Gone.b0,(x1.Gone.b1,(x1.Gone.b2,(x1.Gone.b3,(x1.Gone.b4,(x1.Gone.b5,(x1.Gone.b6,(x1.Gone.b7,(x1.Gone.b8,(x1.Gone.b9,(x1.Gone.b10,(x1.Gone.b11,(x1.Gone.b12,(x1.Gone.b13,(x1.Gone.b14,(x1.Gone.b15,(x1.jS,(x1.ay.b0,(x1.ay.b1,(x1.ay.b2,(x1.ay.b3,(x1.ay.b4,(x1.ay.b5,(x1.ay.b6,(x1.ay.b7,(x1.ay.b8,(x1.ay.b9,(x1.ay.b10,(x1.ay.b11,(x1.ay.b12,(x1.ay.b13,(x1.ay.b14,(x1.ay.b15,(x1.jT,(x1.iQ,(x1.Seal.b0,(x1.Seal.b1,(x1.Seal.b2,(x1.Seal.b3,(x1.Seal.b4,(x1.Seal.b5,(x1.Seal.b6,(x1.Seal.b7,(x1.Seal.b8,(x1.Seal.b9,(x1.Seal.b10,(x1.Seal.b11,(x1.Seal.b12,(x1.Seal.b13,(x1.Seal.b14,x1.Seal.b15))))))))))))))))))))))))))))))))))))))))))))))))))))))))))))))))))))))))))))))))))))))))):=by kernel_rfl
noncomputable def CS (n:Nat) (xs:List aA) (p:PUnit×List aA):Option (PUnit×List aA):=
 Bf (R:=R) (X:=aJ R.T PY) 3 (wrR (bU Tryz.f149.body [1,0,1,0])) (⟨[(2,TV.ref 2 0)],[]⟩:MS R.T) (bZ KE.loops 3).sh (bZ KE.loops 3).outs (af5 E R n false (KC n) bL KE (bU Tryz.f149.body [1,0,1,0]) PY) xs p
theorem ajK (n:Nat) (x90:List aA):CS n [] ((),x90)=
 some (((),x90)):=by kernel_rfl
theorem ajL (n:Nat) (x91:aA) (xs:List aA) (tC:List aA):CS n (x91::xs) ((),tC)=
 bif bX (tC.length+([x91].length)) 16 then
  CS n xs (((),tC++[x91]))
 else
  none:=by kernel_rfl
theorem ajM (n:Nat) (x1:Int) (x2:Int) (x3:Int) (x4:Int) (x5:Int) (x6:Int) (x7:Int) (x8:Int) (x9:Int) (x10:Int) (mU:Int) (F9:Int) (Ga:Int) (Gb:Int) (Gc:Int) (fJ:Int) (pW:Int) (x18:Int) (pX:Int) (x20:Int) (x21:Int) (pY:Int) (x23:Int) (x24:Int) (x25:Int) (p8:Int) (x27:Int) (x28:Int) (x29:Int) (x30:Int) (x31:Int) (x32:Int) (p9:Int) (x34:Int) (qb:Int) (qc:Int) (qd:List Mark) (x38:Int) (x39:Int) (x40:Int) (x41:Int) (qg:Int) (x43:Int) (qh:Int) (qj:Int) (ql:Int) (qm:Int) (qo:Int) (qp:Int) (qw:Int) (qx:Int) (qy:Int) (nS:Int) (x54:Int) (x55:Int) (qz:Int) (qA:Int) (qB:Int) (qC:Int) (qD:Int) (qE:Int) (qF:Int) (qG:Int) (qH:Int) (qI:Int) (x66:Int) (qJ:Int) (qK:Int) (x69:Int) (qL:Int) (qM:Int) (qN:Int) (qO:Int) (qP:Int) (qQ:Int) (qR:Int) (qU:Int) (qV:Int) (qW:Int) (x80:Int) (x81:Int) (x82:Int) (x83:Int) (x84:Int) (x85:Int) (x86:Int) (x87:Int) (x88:Int):yY n ((),((),(x1,(x2,(x3,(x4,(x5,(x6,(x7,(x8,(x9,(x10,(mU,(F9,(Ga,(Gb,(Gc,(fJ,(pW,(x18,(pX,(x20,(x21,(pY,(x23,(x24,(x25,(p8,(x27,(x28,(x29,(x30,(x31,(x32,(p9,(x34,(qb,(qc,(qd,(x38,(x39,(x40,(x41,(qg,(x43,(qh,(qj,(ql,(qm,(qo,(qp,(qw,(qx,(qy,(nS,(x54,(x55,(qz,(qA,(qB,(qC,(qD,(qE,(qF,(qG,(qH,(qI,(x66,(qJ,(qK,(x69,(qL,(qM,(qN,(qO,(qP,(qQ,(qR,(qU,(qV,(qW,(x80,(x81,(x82,(x83,(x84,(x85,(x86,(x87,x88)))))))))))))))))))))))))))))))))))))))))))))))))))))))))))))))))))))))))))))))))))))))))=
 ((ER ((⟨x1,x2,x3,x4,(⟨x5,x6,x7,x8,x9,x10,mU,F9,Ga,Gb,Gc,fJ,pW,x18,pX,x20⟩:aA),(⟨x21,pY,x23,x24,x25,p8,x27,x28,x29,x30,x31,x32,p9,x34,qb,qc⟩:aA),qd,(⟨x38,x39,x40,x41,qg,x43,qh,qj,ql,qm,qo,qp,qw,qx,qy,nS⟩:aA),x54,(⟨x55,qz,qA,qB,qC,qD,qE,qF,qG,qH,qI,x66,qJ,qK,x69,qL⟩:aA),qM,qN,(⟨qO,qP,qQ,qR,qU,qV,qW,x80,x81,x82,x83,x84,x85,x86,x87,x88⟩:Seal)⟩:Root))).bind fun (QX:List aA)=>CS n QX (((),[]))).bind fun (r93:PUnit×List aA)=>
 some r93.2:=by kernel_rfl
theorem ajO (n:Nat) (x1:Int) (x2:Int) (x3:Int) (x4:Int) (x5:Int) (x6:Int) (x7:Int) (x8:Int) (x9:Int) (x10:Int) (mU:Int) (F9:Int) (Ga:Int) (Gb:Int) (Gc:Int) (fJ:Int) (pW:Int) (x18:Int) (pX:Int) (x20:Int) (x21:Int) (pY:Int) (x23:Int) (x24:Int) (x25:Int) (p8:Int) (x27:Int) (x28:Int) (x29:Int) (x30:Int) (x31:Int) (x32:Int) (p9:Int) (x34:Int) (qb:Int) (qc:Int) (qd:List Mark) (x38:Int) (x39:Int) (x40:Int) (x41:Int) (qg:Int) (x43:Int) (qh:Int) (qj:Int) (ql:Int) (qm:Int) (qo:Int) (qp:Int) (qw:Int) (qx:Int) (qy:Int) (nS:Int) (x54:Int) (x55:Int) (qz:Int) (qA:Int) (qB:Int) (qC:Int) (qD:Int) (qE:Int) (qF:Int) (qG:Int) (qH:Int) (qI:Int) (x66:Int) (qJ:Int) (qK:Int) (x69:Int) (qL:Int) (qM:Int) (qN:Int) (qO:Int) (qP:Int) (qQ:Int) (qR:Int) (qU:Int) (qV:Int) (qW:Int) (x80:Int) (x81:Int) (x82:Int) (x83:Int) (x84:Int) (x85:Int) (x86:Int) (x87:Int) (x88:Int):yZ n ((),(x1,(x2,(x3,(x4,(x5,(x6,(x7,(x8,(x9,(x10,(mU,(F9,(Ga,(Gb,(Gc,(fJ,(pW,(x18,(pX,(x20,(x21,(pY,(x23,(x24,(x25,(p8,(x27,(x28,(x29,(x30,(x31,(x32,(p9,(x34,(qb,(qc,(qd,(x38,(x39,(x40,(x41,(qg,(x43,(qh,(qj,(ql,(qm,(qo,(qp,(qw,(qx,(qy,(nS,(x54,(x55,(qz,(qA,(qB,(qC,(qD,(qE,(qF,(qG,(qH,(qI,(x66,(qJ,(qK,(x69,(qL,(qM,(qN,(qO,(qP,(qQ,(qR,(qU,(qV,(qW,(x80,(x81,(x82,(x83,(x84,(x85,(x86,(x87,x88))))))))))))))))))))))))))))))))))))))))))))))))))))))))))))))))))))))))))))))))))))))))=
 (yY n (((),((),(x1,(x2,(x3,(x4,(x5,(x6,(x7,(x8,(x9,(x10,(mU,(F9,(Ga,(Gb,(Gc,(fJ,(pW,(x18,(pX,(x20,(x21,(pY,(x23,(x24,(x25,(p8,(x27,(x28,(x29,(x30,(x31,(x32,(p9,(x34,(qb,(qc,(qd,(x38,(x39,(x40,(x41,(qg,(x43,(qh,(qj,(ql,(qm,(qo,(qp,(qw,(qx,(qy,(nS,(x54,(x55,(qz,(qA,(qB,(qC,(qD,(qE,(qF,(qG,(qH,(qI,(x66,(qJ,(qK,(x69,(qL,(qM,(qN,(qO,(qP,(qQ,(qR,(qU,(qV,(qW,(x80,(x81,(x82,(x83,(x84,(x85,(x86,(x87,x88))))))))))))))))))))))))))))))))))))))))))))))))))))))))))))))))))))))))))))))))))))))))))).bind fun (QX:List aA)=>
 some QX:=by kernel_rfl
noncomputable def Gf (n:Nat) (x1:List aA) (m:Nat) (p:(List Int)×Int):Option (List Int):=
 gB (R:=R) 3 (aM ((bU Tryz.f150.body [1,1,0,1,0,0]).getD .skip)) (⟨[(1,TV.fn 151 [] []),(11,TV.aj (T:=R.T) Cp.sh (Ty.st 0) x1),(12,TV.int IntKind.i64 (((x1.length:Nat):Int)))],[]⟩:MS R.T) (bZ KG.loops 3).sh (bZ KG.loops 3).outs (fun st k=>bR E R n false (KF n) bL KG ((bU Tryz.f150.body [1,1,0,1,0,0]).getD .skip) st k) m p
theorem YH (n:Nat) (x1:List aA) (m:Nat) (x3:List Int) (x4:Int):Gf n x1 (m+1) (x3,x4)=
 bif decide (x4< (((x1.length:Nat):Int))) then
  (aQ x1 x4).bind fun (r5:aA)=>
  (Cu n r5).bind fun (r6:List Int)=>
  bif bX (x3.length+r6.length) 1 then
   Gf n x1 m ((x3++r6,IntKind.wrap IntKind.i64 (x4+(1:Int))))
  else
   none
 else
  some x3:=by kernel_rfl
theorem ajP (n:Nat) (x1:List aA):FE n (x1,((),()))=
 (uE n (((x1.length:Nat):Int))).bind fun (r2:List Int)=>
 (Gf n x1 n ((r2,(0:Int)))).bind fun (r7:List Int)=>
 some r7:=by kernel_rfl
theorem ajQ (n:Nat) (x1:List aA):Cv n x1=
 (FE n ((x1,((),())))).bind fun (r2:List Int)=>
 some r2:=by kernel_rfl
noncomputable def Gg (n:Nat) (x1:Root) (m:Nat) (p:(List Int)×Int):Option (List Int):=
 gB (R:=R) 3 (aM ((bU Tryz.f51.body [1,1,0,1,0,0]).getD .skip)) (⟨[(1,TV.ref 1 0),(23,TV.aj (T:=R.T) Cp.sh (Ty.st 2) x1.Marks),(24,TV.int IntKind.i64 (((x1.Marks.length:Nat):Int)))],[(1,Ob.ro (Ob.cells [TV.int IntKind.i64 x1.jR,TV.int IntKind.i64 x1.fC,TV.int IntKind.i64 x1.Day,TV.int IntKind.i64 x1.Floor,TV.int IntKind.u8 x1.au.b0,TV.int IntKind.u8 x1.au.b1,TV.int IntKind.u8 x1.au.b2,TV.int IntKind.u8 x1.au.b3,TV.int IntKind.u8 x1.au.b4,TV.int IntKind.u8 x1.au.b5,TV.int IntKind.u8 x1.au.b6,TV.int IntKind.u8 x1.au.b7,TV.int IntKind.u8 x1.au.b8,TV.int IntKind.u8 x1.au.b9,TV.int IntKind.u8 x1.au.b10,TV.int IntKind.u8 x1.au.b11,TV.int IntKind.u8 x1.au.b12,TV.int IntKind.u8 x1.au.b13,TV.int IntKind.u8 x1.au.b14,TV.int IntKind.u8 x1.au.b15,TV.int IntKind.u8 x1.ak.b0,TV.int IntKind.u8 x1.ak.b1,TV.int IntKind.u8 x1.ak.b2,TV.int IntKind.u8 x1.ak.b3,TV.int IntKind.u8 x1.ak.b4,TV.int IntKind.u8 x1.ak.b5,TV.int IntKind.u8 x1.ak.b6,TV.int IntKind.u8 x1.ak.b7,TV.int IntKind.u8 x1.ak.b8,TV.int IntKind.u8 x1.ak.b9,TV.int IntKind.u8 x1.ak.b10,TV.int IntKind.u8 x1.ak.b11,TV.int IntKind.u8 x1.ak.b12,TV.int IntKind.u8 x1.ak.b13,TV.int IntKind.u8 x1.ak.b14,TV.int IntKind.u8 x1.ak.b15,TV.aj (T:=R.T) Cp.sh (Ty.st 2) x1.Marks,TV.int IntKind.u8 x1.Gone.b0,TV.int IntKind.u8 x1.Gone.b1,TV.int IntKind.u8 x1.Gone.b2,TV.int IntKind.u8 x1.Gone.b3,TV.int IntKind.u8 x1.Gone.b4,TV.int IntKind.u8 x1.Gone.b5,TV.int IntKind.u8 x1.Gone.b6,TV.int IntKind.u8 x1.Gone.b7,TV.int IntKind.u8 x1.Gone.b8,TV.int IntKind.u8 x1.Gone.b9,TV.int IntKind.u8 x1.Gone.b10,TV.int IntKind.u8 x1.Gone.b11,TV.int IntKind.u8 x1.Gone.b12,TV.int IntKind.u8 x1.Gone.b13,TV.int IntKind.u8 x1.Gone.b14,TV.int IntKind.u8 x1.Gone.b15,TV.int IntKind.i64 x1.jS,TV.int IntKind.u8 x1.ay.b0,TV.int IntKind.u8 x1.ay.b1,TV.int IntKind.u8 x1.ay.b2,TV.int IntKind.u8 x1.ay.b3,TV.int IntKind.u8 x1.ay.b4,TV.int IntKind.u8 x1.ay.b5,TV.int IntKind.u8 x1.ay.b6,TV.int IntKind.u8 x1.ay.b7,TV.int IntKind.u8 x1.ay.b8,TV.int IntKind.u8 x1.ay.b9,TV.int IntKind.u8 x1.ay.b10,TV.int IntKind.u8 x1.ay.b11,TV.int IntKind.u8 x1.ay.b12,TV.int IntKind.u8 x1.ay.b13,TV.int IntKind.u8 x1.ay.b14,TV.int IntKind.u8 x1.ay.b15,TV.int IntKind.i64 x1.jT,TV.int IntKind.i64 x1.iQ,TV.int IntKind.u8 x1.Seal.b0,TV.int IntKind.u8 x1.Seal.b1,TV.int IntKind.u8 x1.Seal.b2,TV.int IntKind.u8 x1.Seal.b3,TV.int IntKind.u8 x1.Seal.b4,TV.int IntKind.u8 x1.Seal.b5,TV.int IntKind.u8 x1.Seal.b6,TV.int IntKind.u8 x1.Seal.b7,TV.int IntKind.u8 x1.Seal.b8,TV.int IntKind.u8 x1.Seal.b9,TV.int IntKind.u8 x1.Seal.b10,TV.int IntKind.u8 x1.Seal.b11,TV.int IntKind.u8 x1.Seal.b12,TV.int IntKind.u8 x1.Seal.b13,TV.int IntKind.u8 x1.Seal.b14,TV.int IntKind.u8 x1.Seal.b15]))]⟩:MS R.T) (bZ KL.loops 3).sh (bZ KL.loops 3).outs (fun st k=>bR E R n false (KJ n) bL KL ((bU Tryz.f51.body [1,1,0,1,0,0]).getD .skip) st k) m p
theorem YI (n:Nat) (x1:Root) (m:Nat) (x2:List Int) (x3:Int):Gg n x1 (m+1) (x2,x3)=
 bif decide (x3< (((x1.Marks.length:Nat):Int))) then
  (aQ x1.Marks x3).bind fun (r4:Mark)=>
  bif bX (x2.length+([r4.Count].length)) 8 then
   Gg n x1 m ((x2++[r4.Count],IntKind.wrap IntKind.i64 (x3+(1:Int))))
  else
   none
 else
  some x2:=by kernel_rfl
theorem ajR (n:Nat) (x1:Root):za n x1=
 (Gg n x1 n (([x1.jR,x1.fC,x1.Day,x1.Floor,x1.jS,x1.jT,x1.iQ],(0:Int)))).bind fun (r5:List Int)=>
 (Fz n x1).bind fun (r6:PUnit×Int×Int×Int×Int×Int×Int×Int×Int×Int×Int×Int×Int×Int×Int×Int×Int×Int×Int×Int×Int×Int×Int×Int×Int×Int×Int×Int×Int×Int×Int×Int×Int×Int×Int×Int×Int×(List Mark)×Int×Int×Int×Int×Int×Int×Int×Int×Int×Int×Int×Int×Int×Int×Int×Int×Int×Int×Int×Int×Int×Int×Int×Int×Int×Int×Int×Int×Int×Int×Int×Int×Int×Int×Int×Int×Int×Int×Int×Int×Int×Int×Int×Int×Int×Int×Int×Int×Int×Int×Int)=>
 (yZ n (((),(r6.2.1,(r6.2.2.1,(r6.2.2.2.1,(r6.2.2.2.2.1,(r6.2.2.2.2.2.1,(r6.2.2.2.2.2.2.1,(r6.2.2.2.2.2.2.2.1,(r6.2.2.2.2.2.2.2.2.1,(r6.2.2.2.2.2.2.2.2.2.1,(r6.2.2.2.2.2.2.2.2.2.2.1,(r6.2.2.2.2.2.2.2.2.2.2.2.1,(r6.2.2.2.2.2.2.2.2.2.2.2.2.1,(r6.2.2.2.2.2.2.2.2.2.2.2.2.2.1,(r6.2.2.2.2.2.2.2.2.2.2.2.2.2.2.1,(r6.2.2.2.2.2.2.2.2.2.2.2.2.2.2.2.1,(r6.2.2.2.2.2.2.2.2.2.2.2.2.2.2.2.2.1,(r6.2.2.2.2.2.2.2.2.2.2.2.2.2.2.2.2.2.1,(r6.2.2.2.2.2.2.2.2.2.2.2.2.2.2.2.2.2.2.1,(r6.2.2.2.2.2.2.2.2.2.2.2.2.2.2.2.2.2.2.2.1,(r6.2.2.2.2.2.2.2.2.2.2.2.2.2.2.2.2.2.2.2.2.1,(r6.2.2.2.2.2.2.2.2.2.2.2.2.2.2.2.2.2.2.2.2.2.1,(r6.2.2.2.2.2.2.2.2.2.2.2.2.2.2.2.2.2.2.2.2.2.2.1,(r6.2.2.2.2.2.2.2.2.2.2.2.2.2.2.2.2.2.2.2.2.2.2.2.1,(r6.2.2.2.2.2.2.2.2.2.2.2.2.2.2.2.2.2.2.2.2.2.2.2.2.1,(r6.2.2.2.2.2.2.2.2.2.2.2.2.2.2.2.2.2.2.2.2.2.2.2.2.2.1,(r6.2.2.2.2.2.2.2.2.2.2.2.2.2.2.2.2.2.2.2.2.2.2.2.2.2.2.1,(r6.2.2.2.2.2.2.2.2.2.2.2.2.2.2.2.2.2.2.2.2.2.2.2.2.2.2.2.1,(r6.2.2.2.2.2.2.2.2.2.2.2.2.2.2.2.2.2.2.2.2.2.2.2.2.2.2.2.2.1,(r6.2.2.2.2.2.2.2.2.2.2.2.2.2.2.2.2.2.2.2.2.2.2.2.2.2.2.2.2.2.1,(r6.2.2.2.2.2.2.2.2.2.2.2.2.2.2.2.2.2.2.2.2.2.2.2.2.2.2.2.2.2.2.1,(r6.2.2.2.2.2.2.2.2.2.2.2.2.2.2.2.2.2.2.2.2.2.2.2.2.2.2.2.2.2.2.2.1,(r6.2.2.2.2.2.2.2.2.2.2.2.2.2.2.2.2.2.2.2.2.2.2.2.2.2.2.2.2.2.2.2.2.1,(r6.2.2.2.2.2.2.2.2.2.2.2.2.2.2.2.2.2.2.2.2.2.2.2.2.2.2.2.2.2.2.2.2.2.1,(r6.2.2.2.2.2.2.2.2.2.2.2.2.2.2.2.2.2.2.2.2.2.2.2.2.2.2.2.2.2.2.2.2.2.2.1,(r6.2.2.2.2.2.2.2.2.2.2.2.2.2.2.2.2.2.2.2.2.2.2.2.2.2.2.2.2.2.2.2.2.2.2.2.1,(r6.2.2.2.2.2.2.2.2.2.2.2.2.2.2.2.2.2.2.2.2.2.2.2.2.2.2.2.2.2.2.2.2.2.2.2.2.1,(r6.2.2.2.2.2.2.2.2.2.2.2.2.2.2.2.2.2.2.2.2.2.2.2.2.2.2.2.2.2.2.2.2.2.2.2.2.2.1,(r6.2.2.2.2.2.2.2.2.2.2.2.2.2.2.2.2.2.2.2.2.2.2.2.2.2.2.2.2.2.2.2.2.2.2.2.2.2.2.1,(r6.2.2.2.2.2.2.2.2.2.2.2.2.2.2.2.2.2.2.2.2.2.2.2.2.2.2.2.2.2.2.2.2.2.2.2.2.2.2.2.1,(r6.2.2.2.2.2.2.2.2.2.2.2.2.2.2.2.2.2.2.2.2.2.2.2.2.2.2.2.2.2.2.2.2.2.2.2.2.2.2.2.2.1,(r6.2.2.2.2.2.2.2.2.2.2.2.2.2.2.2.2.2.2.2.2.2.2.2.2.2.2.2.2.2.2.2.2.2.2.2.2.2.2.2.2.2.1,(r6.2.2.2.2.2.2.2.2.2.2.2.2.2.2.2.2.2.2.2.2.2.2.2.2.2.2.2.2.2.2.2.2.2.2.2.2.2.2.2.2.2.2.1,(r6.2.2.2.2.2.2.2.2.2.2.2.2.2.2.2.2.2.2.2.2.2.2.2.2.2.2.2.2.2.2.2.2.2.2.2.2.2.2.2.2.2.2.2.1,(r6.2.2.2.2.2.2.2.2.2.2.2.2.2.2.2.2.2.2.2.2.2.2.2.2.2.2.2.2.2.2.2.2.2.2.2.2.2.2.2.2.2.2.2.2.1,(r6.2.2.2.2.2.2.2.2.2.2.2.2.2.2.2.2.2.2.2.2.2.2.2.2.2.2.2.2.2.2.2.2.2.2.2.2.2.2.2.2.2.2.2.2.2.1,(r6.2.2.2.2.2.2.2.2.2.2.2.2.2.2.2.2.2.2.2.2.2.2.2.2.2.2.2.2.2.2.2.2.2.2.2.2.2.2.2.2.2.2.2.2.2.2.1,(r6.2.2.2.2.2.2.2.2.2.2.2.2.2.2.2.2.2.2.2.2.2.2.2.2.2.2.2.2.2.2.2.2.2.2.2.2.2.2.2.2.2.2.2.2.2.2.2.1,(r6.2.2.2.2.2.2.2.2.2.2.2.2.2.2.2.2.2.2.2.2.2.2.2.2.2.2.2.2.2.2.2.2.2.2.2.2.2.2.2.2.2.2.2.2.2.2.2.2.1,(r6.2.2.2.2.2.2.2.2.2.2.2.2.2.2.2.2.2.2.2.2.2.2.2.2.2.2.2.2.2.2.2.2.2.2.2.2.2.2.2.2.2.2.2.2.2.2.2.2.2.1,(r6.2.2.2.2.2.2.2.2.2.2.2.2.2.2.2.2.2.2.2.2.2.2.2.2.2.2.2.2.2.2.2.2.2.2.2.2.2.2.2.2.2.2.2.2.2.2.2.2.2.2.1,(r6.2.2.2.2.2.2.2.2.2.2.2.2.2.2.2.2.2.2.2.2.2.2.2.2.2.2.2.2.2.2.2.2.2.2.2.2.2.2.2.2.2.2.2.2.2.2.2.2.2.2.2.1,(r6.2.2.2.2.2.2.2.2.2.2.2.2.2.2.2.2.2.2.2.2.2.2.2.2.2.2.2.2.2.2.2.2.2.2.2.2.2.2.2.2.2.2.2.2.2.2.2.2.2.2.2.2.1,(r6.2.2.2.2.2.2.2.2.2.2.2.2.2.2.2.2.2.2.2.2.2.2.2.2.2.2.2.2.2.2.2.2.2.2.2.2.2.2.2.2.2.2.2.2.2.2.2.2.2.2.2.2.2.1,(r6.2.2.2.2.2.2.2.2.2.2.2.2.2.2.2.2.2.2.2.2.2.2.2.2.2.2.2.2.2.2.2.2.2.2.2.2.2.2.2.2.2.2.2.2.2.2.2.2.2.2.2.2.2.2.1,(r6.2.2.2.2.2.2.2.2.2.2.2.2.2.2.2.2.2.2.2.2.2.2.2.2.2.2.2.2.2.2.2.2.2.2.2.2.2.2.2.2.2.2.2.2.2.2.2.2.2.2.2.2.2.2.2.1,(r6.2.2.2.2.2.2.2.2.2.2.2.2.2.2.2.2.2.2.2.2.2.2.2.2.2.2.2.2.2.2.2.2.2.2.2.2.2.2.2.2.2.2.2.2.2.2.2.2.2.2.2.2.2.2.2.2.1,(r6.2.2.2.2.2.2.2.2.2.2.2.2.2.2.2.2.2.2.2.2.2.2.2.2.2.2.2.2.2.2.2.2.2.2.2.2.2.2.2.2.2.2.2.2.2.2.2.2.2.2.2.2.2.2.2.2.2.1,(r6.2.2.2.2.2.2.2.2.2.2.2.2.2.2.2.2.2.2.2.2.2.2.2.2.2.2.2.2.2.2.2.2.2.2.2.2.2.2.2.2.2.2.2.2.2.2.2.2.2.2.2.2.2.2.2.2.2.2.1,(r6.2.2.2.2.2.2.2.2.2.2.2.2.2.2.2.2.2.2.2.2.2.2.2.2.2.2.2.2.2.2.2.2.2.2.2.2.2.2.2.2.2.2.2.2.2.2.2.2.2.2.2.2.2.2.2.2.2.2.2.1,(r6.2.2.2.2.2.2.2.2.2.2.2.2.2.2.2.2.2.2.2.2.2.2.2.2.2.2.2.2.2.2.2.2.2.2.2.2.2.2.2.2.2.2.2.2.2.2.2.2.2.2.2.2.2.2.2.2.2.2.2.2.1,(r6.2.2.2.2.2.2.2.2.2.2.2.2.2.2.2.2.2.2.2.2.2.2.2.2.2.2.2.2.2.2.2.2.2.2.2.2.2.2.2.2.2.2.2.2.2.2.2.2.2.2.2.2.2.2.2.2.2.2.2.2.2.1,(r6.2.2.2.2.2.2.2.2.2.2.2.2.2.2.2.2.2.2.2.2.2.2.2.2.2.2.2.2.2.2.2.2.2.2.2.2.2.2.2.2.2.2.2.2.2.2.2.2.2.2.2.2.2.2.2.2.2.2.2.2.2.2.1,(r6.2.2.2.2.2.2.2.2.2.2.2.2.2.2.2.2.2.2.2.2.2.2.2.2.2.2.2.2.2.2.2.2.2.2.2.2.2.2.2.2.2.2.2.2.2.2.2.2.2.2.2.2.2.2.2.2.2.2.2.2.2.2.2.1,(r6.2.2.2.2.2.2.2.2.2.2.2.2.2.2.2.2.2.2.2.2.2.2.2.2.2.2.2.2.2.2.2.2.2.2.2.2.2.2.2.2.2.2.2.2.2.2.2.2.2.2.2.2.2.2.2.2.2.2.2.2.2.2.2.2.1,(r6.2.2.2.2.2.2.2.2.2.2.2.2.2.2.2.2.2.2.2.2.2.2.2.2.2.2.2.2.2.2.2.2.2.2.2.2.2.2.2.2.2.2.2.2.2.2.2.2.2.2.2.2.2.2.2.2.2.2.2.2.2.2.2.2.2.1,(r6.2.2.2.2.2.2.2.2.2.2.2.2.2.2.2.2.2.2.2.2.2.2.2.2.2.2.2.2.2.2.2.2.2.2.2.2.2.2.2.2.2.2.2.2.2.2.2.2.2.2.2.2.2.2.2.2.2.2.2.2.2.2.2.2.2.2.1,(r6.2.2.2.2.2.2.2.2.2.2.2.2.2.2.2.2.2.2.2.2.2.2.2.2.2.2.2.2.2.2.2.2.2.2.2.2.2.2.2.2.2.2.2.2.2.2.2.2.2.2.2.2.2.2.2.2.2.2.2.2.2.2.2.2.2.2.2.1,(r6.2.2.2.2.2.2.2.2.2.2.2.2.2.2.2.2.2.2.2.2.2.2.2.2.2.2.2.2.2.2.2.2.2.2.2.2.2.2.2.2.2.2.2.2.2.2.2.2.2.2.2.2.2.2.2.2.2.2.2.2.2.2.2.2.2.2.2.2.1,(r6.2.2.2.2.2.2.2.2.2.2.2.2.2.2.2.2.2.2.2.2.2.2.2.2.2.2.2.2.2.2.2.2.2.2.2.2.2.2.2.2.2.2.2.2.2.2.2.2.2.2.2.2.2.2.2.2.2.2.2.2.2.2.2.2.2.2.2.2.2.1,(r6.2.2.2.2.2.2.2.2.2.2.2.2.2.2.2.2.2.2.2.2.2.2.2.2.2.2.2.2.2.2.2.2.2.2.2.2.2.2.2.2.2.2.2.2.2.2.2.2.2.2.2.2.2.2.2.2.2.2.2.2.2.2.2.2.2.2.2.2.2.2.1,(r6.2.2.2.2.2.2.2.2.2.2.2.2.2.2.2.2.2.2.2.2.2.2.2.2.2.2.2.2.2.2.2.2.2.2.2.2.2.2.2.2.2.2.2.2.2.2.2.2.2.2.2.2.2.2.2.2.2.2.2.2.2.2.2.2.2.2.2.2.2.2.2.1,(r6.2.2.2.2.2.2.2.2.2.2.2.2.2.2.2.2.2.2.2.2.2.2.2.2.2.2.2.2.2.2.2.2.2.2.2.2.2.2.2.2.2.2.2.2.2.2.2.2.2.2.2.2.2.2.2.2.2.2.2.2.2.2.2.2.2.2.2.2.2.2.2.2.1,(r6.2.2.2.2.2.2.2.2.2.2.2.2.2.2.2.2.2.2.2.2.2.2.2.2.2.2.2.2.2.2.2.2.2.2.2.2.2.2.2.2.2.2.2.2.2.2.2.2.2.2.2.2.2.2.2.2.2.2.2.2.2.2.2.2.2.2.2.2.2.2.2.2.2.1,(r6.2.2.2.2.2.2.2.2.2.2.2.2.2.2.2.2.2.2.2.2.2.2.2.2.2.2.2.2.2.2.2.2.2.2.2.2.2.2.2.2.2.2.2.2.2.2.2.2.2.2.2.2.2.2.2.2.2.2.2.2.2.2.2.2.2.2.2.2.2.2.2.2.2.2.1,(r6.2.2.2.2.2.2.2.2.2.2.2.2.2.2.2.2.2.2.2.2.2.2.2.2.2.2.2.2.2.2.2.2.2.2.2.2.2.2.2.2.2.2.2.2.2.2.2.2.2.2.2.2.2.2.2.2.2.2.2.2.2.2.2.2.2.2.2.2.2.2.2.2.2.2.2.1,(r6.2.2.2.2.2.2.2.2.2.2.2.2.2.2.2.2.2.2.2.2.2.2.2.2.2.2.2.2.2.2.2.2.2.2.2.2.2.2.2.2.2.2.2.2.2.2.2.2.2.2.2.2.2.2.2.2.2.2.2.2.2.2.2.2.2.2.2.2.2.2.2.2.2.2.2.2.1,(r6.2.2.2.2.2.2.2.2.2.2.2.2.2.2.2.2.2.2.2.2.2.2.2.2.2.2.2.2.2.2.2.2.2.2.2.2.2.2.2.2.2.2.2.2.2.2.2.2.2.2.2.2.2.2.2.2.2.2.2.2.2.2.2.2.2.2.2.2.2.2.2.2.2.2.2.2.2.1,(r6.2.2.2.2.2.2.2.2.2.2.2.2.2.2.2.2.2.2.2.2.2.2.2.2.2.2.2.2.2.2.2.2.2.2.2.2.2.2.2.2.2.2.2.2.2.2.2.2.2.2.2.2.2.2.2.2.2.2.2.2.2.2.2.2.2.2.2.2.2.2.2.2.2.2.2.2.2.2.1,(r6.2.2.2.2.2.2.2.2.2.2.2.2.2.2.2.2.2.2.2.2.2.2.2.2.2.2.2.2.2.2.2.2.2.2.2.2.2.2.2.2.2.2.2.2.2.2.2.2.2.2.2.2.2.2.2.2.2.2.2.2.2.2.2.2.2.2.2.2.2.2.2.2.2.2.2.2.2.2.2.1,(r6.2.2.2.2.2.2.2.2.2.2.2.2.2.2.2.2.2.2.2.2.2.2.2.2.2.2.2.2.2.2.2.2.2.2.2.2.2.2.2.2.2.2.2.2.2.2.2.2.2.2.2.2.2.2.2.2.2.2.2.2.2.2.2.2.2.2.2.2.2.2.2.2.2.2.2.2.2.2.2.2.1,(r6.2.2.2.2.2.2.2.2.2.2.2.2.2.2.2.2.2.2.2.2.2.2.2.2.2.2.2.2.2.2.2.2.2.2.2.2.2.2.2.2.2.2.2.2.2.2.2.2.2.2.2.2.2.2.2.2.2.2.2.2.2.2.2.2.2.2.2.2.2.2.2.2.2.2.2.2.2.2.2.2.2.1,(r6.2.2.2.2.2.2.2.2.2.2.2.2.2.2.2.2.2.2.2.2.2.2.2.2.2.2.2.2.2.2.2.2.2.2.2.2.2.2.2.2.2.2.2.2.2.2.2.2.2.2.2.2.2.2.2.2.2.2.2.2.2.2.2.2.2.2.2.2.2.2.2.2.2.2.2.2.2.2.2.2.2.2.1,(r6.2.2.2.2.2.2.2.2.2.2.2.2.2.2.2.2.2.2.2.2.2.2.2.2.2.2.2.2.2.2.2.2.2.2.2.2.2.2.2.2.2.2.2.2.2.2.2.2.2.2.2.2.2.2.2.2.2.2.2.2.2.2.2.2.2.2.2.2.2.2.2.2.2.2.2.2.2.2.2.2.2.2.2.1,(r6.2.2.2.2.2.2.2.2.2.2.2.2.2.2.2.2.2.2.2.2.2.2.2.2.2.2.2.2.2.2.2.2.2.2.2.2.2.2.2.2.2.2.2.2.2.2.2.2.2.2.2.2.2.2.2.2.2.2.2.2.2.2.2.2.2.2.2.2.2.2.2.2.2.2.2.2.2.2.2.2.2.2.2.2.1,(r6.2.2.2.2.2.2.2.2.2.2.2.2.2.2.2.2.2.2.2.2.2.2.2.2.2.2.2.2.2.2.2.2.2.2.2.2.2.2.2.2.2.2.2.2.2.2.2.2.2.2.2.2.2.2.2.2.2.2.2.2.2.2.2.2.2.2.2.2.2.2.2.2.2.2.2.2.2.2.2.2.2.2.2.2.2.1,(r6.2.2.2.2.2.2.2.2.2.2.2.2.2.2.2.2.2.2.2.2.2.2.2.2.2.2.2.2.2.2.2.2.2.2.2.2.2.2.2.2.2.2.2.2.2.2.2.2.2.2.2.2.2.2.2.2.2.2.2.2.2.2.2.2.2.2.2.2.2.2.2.2.2.2.2.2.2.2.2.2.2.2.2.2.2.2.1,(r6.2.2.2.2.2.2.2.2.2.2.2.2.2.2.2.2.2.2.2.2.2.2.2.2.2.2.2.2.2.2.2.2.2.2.2.2.2.2.2.2.2.2.2.2.2.2.2.2.2.2.2.2.2.2.2.2.2.2.2.2.2.2.2.2.2.2.2.2.2.2.2.2.2.2.2.2.2.2.2.2.2.2.2.2.2.2.2.1,r6.2.2.2.2.2.2.2.2.2.2.2.2.2.2.2.2.2.2.2.2.2.2.2.2.2.2.2.2.2.2.2.2.2.2.2.2.2.2.2.2.2.2.2.2.2.2.2.2.2.2.2.2.2.2.2.2.2.2.2.2.2.2.2.2.2.2.2.2.2.2.2.2.2.2.2.2.2.2.2.2.2.2.2.2.2.2.2.2)))))))))))))))))))))))))))))))))))))))))))))))))))))))))))))))))))))))))))))))))))))))))).bind fun (r7:List aA)=>
 (yN n r5).bind fun (r8:List Int)=>
 bif bX (r7.length+([(⟨x1.Seal.b0,x1.Seal.b1,x1.Seal.b2,x1.Seal.b3,x1.Seal.b4,x1.Seal.b5,x1.Seal.b6,x1.Seal.b7,x1.Seal.b8,x1.Seal.b9,x1.Seal.b10,x1.Seal.b11,x1.Seal.b12,x1.Seal.b13,x1.Seal.b14,x1.Seal.b15⟩:aA)].length)) 16 then
  (Cv n (r7++[(⟨x1.Seal.b0,x1.Seal.b1,x1.Seal.b2,x1.Seal.b3,x1.Seal.b4,x1.Seal.b5,x1.Seal.b6,x1.Seal.b7,x1.Seal.b8,x1.Seal.b9,x1.Seal.b10,x1.Seal.b11,x1.Seal.b12,x1.Seal.b13,x1.Seal.b14,x1.Seal.b15⟩:aA)])).bind fun (r9:List Int)=>
  bif bX (r8.length+r9.length) 1 then
   some (r8++r9)
  else
   none
 else
  none:=by kernel_rfl
noncomputable def Gh (n:Nat) (x1:List Int) (m:Nat) (p:Int×Int×Int):Option ((Int×Int)⊕(Int×Int×Int)):=
 gB (R:=R) 4 (aM ((bU Tryz.f153.body [1,0,1,1,1,0,1,0,0]).getD .skip)) (⟨[(9,TV.aj (T:=R.T) Cp.sh (Ty.int IntKind.u8) x1),(10,TV.int IntKind.i64 (((x1.length:Nat):Int)))],[]⟩:MS R.T) (bZ KO.loops 4).sh (bZ KO.loops 4).outs (fun st k=>bR E R n false (KN n) bL KO ((bU Tryz.f153.body [1,0,1,1,1,0,1,0,0]).getD .skip) st k) m p
theorem YJ (n:Nat) (x1:List Int) (m:Nat) (x2:Int) (x3:Int) (x4:Int):Gh n x1 (m+1) (x2,(x3,x4))=
 bif decide (x4< (((x1.length:Nat):Int))) then
  (aQ x1 x4).bind fun (r5:Int)=>
  bif bif x4==(9:Int) then decide (r5> (1:Int)) else false then
   some (.inr (((0:Int),((0:Int),(11:Int)))))
  else
   bif bif decide (x4> (0:Int)) then r5==(0:Int) else false then
    some (.inr (((0:Int),((0:Int),(11:Int)))))
   else
    bif decide ((0:Int)≤(IntKind.wrap IntKind.i64 ((7:Int)*x4))) then
     bif decide (r5< (128:Int)) then
      some (.inl ((iZ IntKind.u64 x2 (jP IntKind.u64 (IntKind.wrap IntKind.u64 (fA IntKind.u8 r5 (127:Int))) (IntKind.wrap IntKind.i64 ((7:Int)*x4))),IntKind.wrap IntKind.i64 (x4+(1:Int)))))
     else
      Gh n x1 m ((iZ IntKind.u64 x2 (jP IntKind.u64 (IntKind.wrap IntKind.u64 (fA IntKind.u8 r5 (127:Int))) (IntKind.wrap IntKind.i64 ((7:Int)*x4))),(x3,IntKind.wrap IntKind.i64 (x4+(1:Int)))))
    else
     none
 else
  some (.inl ((x2,x3))):=by kernel_rfl
theorem ajS (n:Nat) (x1:List Int):ze n x1=
 (Gh n x1 n (((0:Int),((0:Int),(0:Int))))).bind fun (r6:(Int×Int)⊕(Int×Int×Int))=>
 Sum.elim (fun (q7:Int×Int)=>
  bif q7.2==(0:Int) then
   some (((0:Int),((0:Int),(10:Int))))
  else
   bif decide ((0:Int)≤(1:Int)) then
    some ((dh IntKind.i64 (IntKind.wrap IntKind.i64 (jQ IntKind.u64 q7.1 (1:Int))) (IntKind.wrap IntKind.i64 ((0:Int)-(IntKind.wrap IntKind.i64 (fA IntKind.u64 q7.1 (1:Int))))),(q7.2,(0:Int))))
   else
    none)
  (fun (q8:Int×Int×Int)=>
   some ((q8.1,(q8.2.1,q8.2.2)))) r6:=by kernel_rfl
theorem ajT (n:Nat) (x1:List Int) (x2:Int):zf n (x1,x2)=
 (ze n x1).bind fun (r3:Int×Int×Int)=>
 bif r3.2.2 !=(0:Int) then
  some (((0:Int),((0:Int),r3.2.2)))
 else
  bif decide (r3.1< (0:Int)) then
   some (((0:Int),((0:Int),(11:Int))))
  else
   bif !(x2==(0:Int)) then
    bif decide (r3.1> (IntKind.wrap IntKind.i64 (Int.tdiv (IntKind.wrap IntKind.i64 ((((x1.length:Nat):Int))-r3.2.1)) x2))) then
     some (((0:Int),((0:Int),(10:Int))))
    else
     some ((r3.1,(r3.2.1,(0:Int))))
   else
    none:=by kernel_rfl
noncomputable def Gi (n:Nat) (x1:List Int) (r3:Int×Int×Int) (m:Nat) (p:Int×(List Int)×Int):Option ((Int×List Int)⊕((List Int)×Int×Int)):=
 gB (R:=R) 6 (aM ((bU Tryz.f152.body [1,1,1,1,0,1,0,0]).getD .skip)) (⟨[(0,TV.aj (T:=R.T) Cp.sh (Ty.int IntKind.u8) x1),(2,TV.fn 153 [] []),(26,TV.int IntKind.i64 r3.1)],[]⟩:MS R.T) (bZ KS.loops 6).sh (bZ KS.loops 6).outs (fun st k=>bR E R n false (KR n) bL KS ((bU Tryz.f152.body [1,1,1,1,0,1,0,0]).getD .skip) st k) m p
theorem ajU (n:Nat) (x1:List Int) (r3:Int×Int×Int) (m:Nat) (x4:Int) (x5:List Int) (x6:Int):Gi n x1 r3 (m+1) (x4,(x5,x6))=
 bif decide (x6<r3.1) then
  bif fB x4 x1.length then
   (ze n (List.drop (Int.toNat x4) x1)).bind fun (r7:Int×Int×Int)=>
   bif r7.2.2 !=(0:Int) then
    some (.inr (([],((0:Int),r7.2.2))))
   else
    bif bX (x5.length+([r7.1].length)) 8 then
     Gi n x1 r3 m ((IntKind.wrap IntKind.i64 (x4+r7.2.1),(x5++[r7.1],IntKind.wrap IntKind.i64 (x6+(1:Int)))))
    else
     none
  else
   none
 else
  some (.inl ((x4,x5))):=by kernel_rfl
theorem ajV (n:Nat) (x1:List Int) (x2:Int):Cw n (x1,(x2,((),())))=
 (zf n ((x1,x2))).bind fun (r3:Int×Int×Int)=>
 bif r3.2.2 !=(0:Int) then
  some (([],((0:Int),r3.2.2)))
 else
  (Gi n x1 r3 n ((r3.2.1,([],(0:Int))))).bind fun (r8:(Int×List Int)⊕((List Int)×Int×Int))=>
  Sum.elim (fun (q9:Int×List Int)=>
   some ((q9.2,(q9.1,(0:Int)))))
   (fun (nT:(List Int)×Int×Int)=>
    some ((nT.1,(nT.2.1,nT.2.2)))) r8:=by kernel_rfl
theorem ajW (n:Nat) (x1:List Int):Cy n x1=
 (Cw n ((x1,((1:Int),((),()))))).bind fun (r2:(List Int)×Int×Int)=>
 some ((r2.1,(r2.2.1,r2.2.2))):=by kernel_rfl
theorem ajX (n:Nat) (x1:List Int):zh n x1=
 bif fB (16:Int) x1.length then
  bif decide (0<16∧16≤(List.take (Int.toNat (16:Int)) x1).length) then
   some (((⟨List.getD (List.take (Int.toNat (16:Int)) x1) 0 0,List.getD (List.take (Int.toNat (16:Int)) x1) 1 0,List.getD (List.take (Int.toNat (16:Int)) x1) 2 0,List.getD (List.take (Int.toNat (16:Int)) x1) 3 0,List.getD (List.take (Int.toNat (16:Int)) x1) 4 0,List.getD (List.take (Int.toNat (16:Int)) x1) 5 0,List.getD (List.take (Int.toNat (16:Int)) x1) 6 0,List.getD (List.take (Int.toNat (16:Int)) x1) 7 0,List.getD (List.take (Int.toNat (16:Int)) x1) 8 0,List.getD (List.take (Int.toNat (16:Int)) x1) 9 0,List.getD (List.take (Int.toNat (16:Int)) x1) 10 0,List.getD (List.take (Int.toNat (16:Int)) x1) 11 0,List.getD (List.take (Int.toNat (16:Int)) x1) 12 0,List.getD (List.take (Int.toNat (16:Int)) x1) 13 0,List.getD (List.take (Int.toNat (16:Int)) x1) 14 0,List.getD (List.take (Int.toNat (16:Int)) x1) 15 0⟩:aA),((16:Int),(0:Int))))
  else
   none
 else
  none:=by kernel_rfl
noncomputable def CU (n:Nat) (x1:List Int) (r3:Int×Int×Int) (m:Nat) (p:Int×(List aA)×Int):Option ((Int×List aA)⊕((List aA)×Int×Int)):=
 gB (R:=R) 6 (aM ((bU Tryz.f154.body [1,1,1,1,0,1,0,0]).getD .skip)) (⟨[(0,TV.aj (T:=R.T) Cp.sh (Ty.int IntKind.u8) x1),(2,TV.fn 155 [] []),(26,TV.int IntKind.i64 r3.1)],[]⟩:MS R.T) (bZ KX.loops 6).sh (bZ KX.loops 6).outs (fun st k=>bR E R n false (KW n) bL KX ((bU Tryz.f154.body [1,1,1,1,0,1,0,0]).getD .skip) st k) m p
theorem ajY (n:Nat) (x1:List Int) (r3:Int×Int×Int) (m:Nat) (x4:Int) (x5:List aA) (x6:Int):CU n x1 r3 (m+1) (x4,(x5,x6))=
 bif decide (x6<r3.1) then
  bif fB x4 x1.length then
   (zh n (List.drop (Int.toNat x4) x1)).bind fun (r7:aA×Int×Int)=>
   bif r7.2.2 !=(0:Int) then
    some (.inr (([],((0:Int),r7.2.2))))
   else
    bif bX (x5.length+([r7.1].length)) 16 then
     CU n x1 r3 m ((IntKind.wrap IntKind.i64 (x4+r7.2.1),(x5++[r7.1],IntKind.wrap IntKind.i64 (x6+(1:Int)))))
    else
     none
  else
   none
 else
  some (.inl ((x4,x5))):=by kernel_rfl
theorem ajZ (n:Nat) (x1:List Int) (x2:Int):Cz n (x1,(x2,((),())))=
 (zf n ((x1,x2))).bind fun (r3:Int×Int×Int)=>
 bif r3.2.2 !=(0:Int) then
  some (([],((0:Int),r3.2.2)))
 else
  (CU n x1 r3 n ((r3.2.1,([],(0:Int))))).bind fun (r8:(Int×List aA)⊕((List aA)×Int×Int))=>
  Sum.elim (fun (q9:Int×List aA)=>
   some ((q9.2,(q9.1,(0:Int)))))
   (fun (nT:(List aA)×Int×Int)=>
    some ((nT.1,(nT.2.1,nT.2.2)))) r8:=by kernel_rfl
theorem aj0 (n:Nat) (x1:List Int):CB n x1=
 (Cz n ((x1,((16:Int),((),()))))).bind fun (r2:(List aA)×Int×Int)=>
 some ((r2.1,(r2.2.1,r2.2.2))):=by kernel_rfl
noncomputable def zq (n:Nat) (r2:(List Int)×Int×Int) (r3:(List aA)×Int×Int) (m:Nat) (p:Int×Int×Int×Int×Int×Int×Int×Int×Int×Int×Int×Int×Int×Int×Int×Int×Int×Int×Int×Int×Int×Int×Int×Int×Int×Int×Int×Int×Int×Int×Int×Int×Int×Int×Int×Int×Int×(List Mark)×Int×Int×Int×Int×Int×Int×Int×Int×Int×Int×Int×Int×Int×Int×Int×Int×Int×Int×Int×Int×Int×Int×Int×Int×Int×Int×Int×Int×Int×Int×Int×Int×Int×Int×Int×Int×Int×Int×Int×Int×Int×Int×Int×Int×Int×Int×Int×Int×Int×Int×Int):Option (PUnit×Int×Int×Int×Int×Int×Int×Int×Int×Int×Int×Int×Int×Int×Int×Int×Int×Int×Int×Int×Int×Int×Int×Int×Int×Int×Int×Int×Int×Int×Int×Int×Int×Int×Int×Int×Int×(List Mark)×Int×Int×Int×Int×Int×Int×Int×Int×Int×Int×Int×Int×Int×Int×Int×Int×Int×Int×Int×Int×Int×Int×Int×Int×Int×Int×Int×Int×Int×Int×Int×Int×Int×Int×Int×Int×Int×Int×Int×Int×Int×Int×Int×Int×Int×Int×Int×Int×Int×Int×Int):=
 gB (R:=R) 12 (aM ((bU Tryz.f52.body [1,1,1,1,1,1,1,1,0,1,0,0]).getD .skip)) (⟨[(2,TV.ref 2 0),(7,TV.aj (T:=R.T) Cp.sh (Ty.st 0) r3.1),(9,TV.ref 9 0),(102,TV.aj (T:=R.T) Cp.any (Ty.int IntKind.i64) (List.drop (Int.toNat (7:Int)) r2.1)),(103,TV.int IntKind.i64 ((((List.drop (Int.toNat (7:Int)) r2.1).length:Nat):Int)))],[(2,Ob.ro (Ob.cells [TV.int IntKind.i64 (0:Int),TV.int IntKind.i64 (0:Int),TV.int IntKind.i64 (0:Int),TV.int IntKind.i64 (0:Int),TV.int IntKind.u8 (0:Int),TV.int IntKind.u8 (0:Int),TV.int IntKind.u8 (0:Int),TV.int IntKind.u8 (0:Int),TV.int IntKind.u8 (0:Int),TV.int IntKind.u8 (0:Int),TV.int IntKind.u8 (0:Int),TV.int IntKind.u8 (0:Int),TV.int IntKind.u8 (0:Int),TV.int IntKind.u8 (0:Int),TV.int IntKind.u8 (0:Int),TV.int IntKind.u8 (0:Int),TV.int IntKind.u8 (0:Int),TV.int IntKind.u8 (0:Int),TV.int IntKind.u8 (0:Int),TV.int IntKind.u8 (0:Int),TV.int IntKind.u8 (0:Int),TV.int IntKind.u8 (0:Int),TV.int IntKind.u8 (0:Int),TV.int IntKind.u8 (0:Int),TV.int IntKind.u8 (0:Int),TV.int IntKind.u8 (0:Int),TV.int IntKind.u8 (0:Int),TV.int IntKind.u8 (0:Int),TV.int IntKind.u8 (0:Int),TV.int IntKind.u8 (0:Int),TV.int IntKind.u8 (0:Int),TV.int IntKind.u8 (0:Int),TV.int IntKind.u8 (0:Int),TV.int IntKind.u8 (0:Int),TV.int IntKind.u8 (0:Int),TV.int IntKind.u8 (0:Int),TV.dN,TV.int IntKind.u8 (0:Int),TV.int IntKind.u8 (0:Int),TV.int IntKind.u8 (0:Int),TV.int IntKind.u8 (0:Int),TV.int IntKind.u8 (0:Int),TV.int IntKind.u8 (0:Int),TV.int IntKind.u8 (0:Int),TV.int IntKind.u8 (0:Int),TV.int IntKind.u8 (0:Int),TV.int IntKind.u8 (0:Int),TV.int IntKind.u8 (0:Int),TV.int IntKind.u8 (0:Int),TV.int IntKind.u8 (0:Int),TV.int IntKind.u8 (0:Int),TV.int IntKind.u8 (0:Int),TV.int IntKind.u8 (0:Int),TV.int IntKind.i64 (0:Int),TV.int IntKind.u8 (0:Int),TV.int IntKind.u8 (0:Int),TV.int IntKind.u8 (0:Int),TV.int IntKind.u8 (0:Int),TV.int IntKind.u8 (0:Int),TV.int IntKind.u8 (0:Int),TV.int IntKind.u8 (0:Int),TV.int IntKind.u8 (0:Int),TV.int IntKind.u8 (0:Int),TV.int IntKind.u8 (0:Int),TV.int IntKind.u8 (0:Int),TV.int IntKind.u8 (0:Int),TV.int IntKind.u8 (0:Int),TV.int IntKind.u8 (0:Int),TV.int IntKind.u8 (0:Int),TV.int IntKind.u8 (0:Int),TV.int IntKind.i64 (0:Int),TV.int IntKind.i64 (0:Int),TV.int IntKind.u8 (0:Int),TV.int IntKind.u8 (0:Int),TV.int IntKind.u8 (0:Int),TV.int IntKind.u8 (0:Int),TV.int IntKind.u8 (0:Int),TV.int IntKind.u8 (0:Int),TV.int IntKind.u8 (0:Int),TV.int IntKind.u8 (0:Int),TV.int IntKind.u8 (0:Int),TV.int IntKind.u8 (0:Int),TV.int IntKind.u8 (0:Int),TV.int IntKind.u8 (0:Int),TV.int IntKind.u8 (0:Int),TV.int IntKind.u8 (0:Int),TV.int IntKind.u8 (0:Int),TV.int IntKind.u8 (0:Int)]))]⟩:MS R.T) (bZ K5.loops 12).sh (bZ K5.loops 12).outs (fun st k=>bR E R n false (K4 n) bL K5 ((bU Tryz.f52.body [1,1,1,1,1,1,1,1,0,1,0,0]).getD .skip) st k) m p
theorem aj1 (n:Nat) (r2:(List Int)×Int×Int) (r3:(List aA)×Int×Int) (m:Nat) (fJ:Int) (pW:Int) (x18:Int) (pX:Int) (x20:Int) (x21:Int) (pY:Int) (x23:Int) (x24:Int) (x25:Int) (p8:Int) (x27:Int) (x28:Int) (x29:Int) (x30:Int) (x31:Int) (x32:Int) (p9:Int) (x34:Int) (qb:Int) (qc:Int) (qd:Int) (x38:Int) (x39:Int) (x40:Int) (x41:Int) (qg:Int) (x43:Int) (qh:Int) (qj:Int) (ql:Int) (qm:Int) (qo:Int) (qp:Int) (qw:Int) (qx:Int) (qy:Int) (nS:List Mark) (x54:Int) (x55:Int) (qz:Int) (qA:Int) (qB:Int) (qC:Int) (qD:Int) (qE:Int) (qF:Int) (qG:Int) (qH:Int) (qI:Int) (x66:Int) (qJ:Int) (qK:Int) (x69:Int) (qL:Int) (qM:Int) (qN:Int) (qO:Int) (qP:Int) (qQ:Int) (qR:Int) (qU:Int) (qV:Int) (qW:Int) (x80:Int) (x81:Int) (x82:Int) (x83:Int) (x84:Int) (x85:Int) (x86:Int) (x87:Int) (x88:Int) (x89:Int) (x90:Int) (x91:Int) (tC:Int) (x93:Int) (zu:Int) (x95:Int) (x96:Int) (zw:Int) (x98:Int) (x99:Int) (x100:Int) (x101:Int) (x102:Int) (x103:Int) (x104:Int):zq n r2 r3 (m+1) (fJ,(pW,(x18,(pX,(x20,(x21,(pY,(x23,(x24,(x25,(p8,(x27,(x28,(x29,(x30,(x31,(x32,(p9,(x34,(qb,(qc,(qd,(x38,(x39,(x40,(x41,(qg,(x43,(qh,(qj,(ql,(qm,(qo,(qp,(qw,(qx,(qy,(nS,(x54,(x55,(qz,(qA,(qB,(qC,(qD,(qE,(qF,(qG,(qH,(qI,(x66,(qJ,(qK,(x69,(qL,(qM,(qN,(qO,(qP,(qQ,(qR,(qU,(qV,(qW,(x80,(x81,(x82,(x83,(x84,(x85,(x86,(x87,(x88,(x89,(x90,(x91,(tC,(x93,(zu,(x95,(x96,(zw,(x98,(x99,(x100,(x101,(x102,(x103,x104))))))))))))))))))))))))))))))))))))))))))))))))))))))))))))))))))))))))))))))))))))))))=
 bif decide (fJ< ((((List.drop (Int.toNat (7:Int)) r2.1).length:Nat):Int))) then
  (aQ (List.drop (Int.toNat (7:Int)) r2.1) fJ).bind fun (Gj:Int)=>
  (aQ r3.1 (IntKind.wrap IntKind.i64 ((4:Int)+(IntKind.wrap IntKind.i64 ((2:Int)*fJ))))).bind fun (Gl:aA)=>
  (aQ r3.1 (IntKind.wrap IntKind.i64 ((5:Int)+(IntKind.wrap IntKind.i64 ((2:Int)*fJ))))).bind fun (Gm:aA)=>
  bif bX (nS.length+([(⟨Gl,Gm,Gj⟩:Mark)].length)) 40 then
   zq n r2 r3 m ((IntKind.wrap IntKind.i64 (fJ+(1:Int)),(pW,(x18,(pX,(x20,(x21,(pY,(x23,(x24,(x25,(p8,(x27,(x28,(x29,(x30,(x31,(x32,(p9,(x34,(qb,(qc,(qd,(x38,(x39,(x40,(x41,(qg,(x43,(qh,(qj,(ql,(qm,(qo,(qp,(qw,(qx,(qy,(nS++[(⟨Gl,Gm,Gj⟩:Mark)],(x54,(x55,(qz,(qA,(qB,(qC,(qD,(qE,(qF,(qG,(qH,(qI,(x66,(qJ,(qK,(x69,(qL,(qM,(qN,(qO,(qP,(qQ,(qR,(qU,(qV,(qW,(x80,(x81,(x82,(x83,(x84,(x85,(x86,(x87,(x88,(x89,(x90,(x91,(tC,(x93,(zu,(x95,(x96,(zw,(x98,(x99,(x100,(x101,(x102,(x103,x104)))))))))))))))))))))))))))))))))))))))))))))))))))))))))))))))))))))))))))))))))))))))))
  else
   none
 else
  some (((),(pW,(x18,(pX,(x20,(x21,(pY,(x23,(x24,(x25,(p8,(x27,(x28,(x29,(x30,(x31,(x32,(p9,(x34,(qb,(qc,(qd,(x38,(x39,(x40,(x41,(qg,(x43,(qh,(qj,(ql,(qm,(qo,(qp,(qw,(qx,(qy,(nS,(x54,(x55,(qz,(qA,(qB,(qC,(qD,(qE,(qF,(qG,(qH,(qI,(x66,(qJ,(qK,(x69,(qL,(qM,(qN,(qO,(qP,(qQ,(qR,(qU,(qV,(qW,(x80,(x81,(x82,(x83,(x84,(x85,(x86,(x87,(x88,(x89,(x90,(x91,(tC,(x93,(zu,(x95,(x96,(zw,(x98,(x99,(x100,(x101,(x102,(x103,x104))))))))))))))))))))))))))))))))))))))))))))))))))))))))))))))))))))))))))))))))))))))))):=by kernel_rfl
theorem aj2 (n:Nat) (x1:List Int):zi n x1=
 (Cy n x1).bind fun (r2:(List Int)×Int×Int)=>
 bif r2.2.2 !=(0:Int) then
  some (((⟨(0:Int),(0:Int),(0:Int),(0:Int),(⟨(0:Int),(0:Int),(0:Int),(0:Int),(0:Int),(0:Int),(0:Int),(0:Int),(0:Int),(0:Int),(0:Int),(0:Int),(0:Int),(0:Int),(0:Int),(0:Int)⟩:aA),(⟨(0:Int),(0:Int),(0:Int),(0:Int),(0:Int),(0:Int),(0:Int),(0:Int),(0:Int),(0:Int),(0:Int),(0:Int),(0:Int),(0:Int),(0:Int),(0:Int)⟩:aA),[],(⟨(0:Int),(0:Int),(0:Int),(0:Int),(0:Int),(0:Int),(0:Int),(0:Int),(0:Int),(0:Int),(0:Int),(0:Int),(0:Int),(0:Int),(0:Int),(0:Int)⟩:aA),(0:Int),(⟨(0:Int),(0:Int),(0:Int),(0:Int),(0:Int),(0:Int),(0:Int),(0:Int),(0:Int),(0:Int),(0:Int),(0:Int),(0:Int),(0:Int),(0:Int),(0:Int)⟩:aA),(0:Int),(0:Int),(⟨(0:Int),(0:Int),(0:Int),(0:Int),(0:Int),(0:Int),(0:Int),(0:Int),(0:Int),(0:Int),(0:Int),(0:Int),(0:Int),(0:Int),(0:Int),(0:Int)⟩:Seal)⟩:Root),r2.2.2))
 else
  bif fB r2.2.1 x1.length then
   (CB n (List.drop (Int.toNat r2.2.1) x1)).bind fun (r3:(List aA)×Int×Int)=>
   bif r3.2.2 !=(0:Int) then
    some (((⟨(0:Int),(0:Int),(0:Int),(0:Int),(⟨(0:Int),(0:Int),(0:Int),(0:Int),(0:Int),(0:Int),(0:Int),(0:Int),(0:Int),(0:Int),(0:Int),(0:Int),(0:Int),(0:Int),(0:Int),(0:Int)⟩:aA),(⟨(0:Int),(0:Int),(0:Int),(0:Int),(0:Int),(0:Int),(0:Int),(0:Int),(0:Int),(0:Int),(0:Int),(0:Int),(0:Int),(0:Int),(0:Int),(0:Int)⟩:aA),[],(⟨(0:Int),(0:Int),(0:Int),(0:Int),(0:Int),(0:Int),(0:Int),(0:Int),(0:Int),(0:Int),(0:Int),(0:Int),(0:Int),(0:Int),(0:Int),(0:Int)⟩:aA),(0:Int),(⟨(0:Int),(0:Int),(0:Int),(0:Int),(0:Int),(0:Int),(0:Int),(0:Int),(0:Int),(0:Int),(0:Int),(0:Int),(0:Int),(0:Int),(0:Int),(0:Int)⟩:aA),(0:Int),(0:Int),(⟨(0:Int),(0:Int),(0:Int),(0:Int),(0:Int),(0:Int),(0:Int),(0:Int),(0:Int),(0:Int),(0:Int),(0:Int),(0:Int),(0:Int),(0:Int),(0:Int)⟩:Seal)⟩:Root),r3.2.2))
   else
    bif bif bif (IntKind.wrap IntKind.i64 (r2.2.1+r3.2.1)) !=(((x1.length:Nat):Int)) then true else decide ((((r2.1.length:Nat):Int))< (7:Int)) then true else (((r3.1.length:Nat):Int)) !=(IntKind.wrap IntKind.i64 ((5:Int)+(IntKind.wrap IntKind.i64 ((2:Int)*(IntKind.wrap IntKind.i64 ((((r2.1.length:Nat):Int))-(7:Int))))))) then
     some (((⟨(0:Int),(0:Int),(0:Int),(0:Int),(⟨(0:Int),(0:Int),(0:Int),(0:Int),(0:Int),(0:Int),(0:Int),(0:Int),(0:Int),(0:Int),(0:Int),(0:Int),(0:Int),(0:Int),(0:Int),(0:Int)⟩:aA),(⟨(0:Int),(0:Int),(0:Int),(0:Int),(0:Int),(0:Int),(0:Int),(0:Int),(0:Int),(0:Int),(0:Int),(0:Int),(0:Int),(0:Int),(0:Int),(0:Int)⟩:aA),[],(⟨(0:Int),(0:Int),(0:Int),(0:Int),(0:Int),(0:Int),(0:Int),(0:Int),(0:Int),(0:Int),(0:Int),(0:Int),(0:Int),(0:Int),(0:Int),(0:Int)⟩:aA),(0:Int),(⟨(0:Int),(0:Int),(0:Int),(0:Int),(0:Int),(0:Int),(0:Int),(0:Int),(0:Int),(0:Int),(0:Int),(0:Int),(0:Int),(0:Int),(0:Int),(0:Int)⟩:aA),(0:Int),(0:Int),(⟨(0:Int),(0:Int),(0:Int),(0:Int),(0:Int),(0:Int),(0:Int),(0:Int),(0:Int),(0:Int),(0:Int),(0:Int),(0:Int),(0:Int),(0:Int),(0:Int)⟩:Seal)⟩:Root),(11:Int)))
    else
     (aQ r2.1 (0:Int)).bind fun (r4:Int)=>
     (aQ r2.1 (1:Int)).bind fun (r5:Int)=>
     (aQ r2.1 (2:Int)).bind fun (r6:Int)=>
     (aQ r2.1 (3:Int)).bind fun (r7:Int)=>
     (aQ r2.1 (4:Int)).bind fun (r8:Int)=>
     (aQ r2.1 (5:Int)).bind fun (r9:Int)=>
     (aQ r2.1 (6:Int)).bind fun (kS:Int)=>
     (aQ r3.1 (0:Int)).bind fun (eD:aA)=>
     (aQ r3.1 (1:Int)).bind fun (dS:aA)=>
     (aQ r3.1 (2:Int)).bind fun (dn:aA)=>
     (aQ r3.1 (3:Int)).bind fun (fT:aA)=>
     (aQ r3.1 (IntKind.wrap IntKind.i64 ((((r3.1.length:Nat):Int))-(1:Int)))).bind fun (fU:aA)=>
     bif fB (7:Int) r2.1.length then
      (zq n r2 r3 n (((0:Int),(r4,(r5,(r6,(r7,(eD.b0,(eD.b1,(eD.b2,(eD.b3,(eD.b4,(eD.b5,(eD.b6,(eD.b7,(eD.b8,(eD.b9,(eD.b10,(eD.b11,(eD.b12,(eD.b13,(eD.b14,(eD.b15,(dS.b0,(dS.b1,(dS.b2,(dS.b3,(dS.b4,(dS.b5,(dS.b6,(dS.b7,(dS.b8,(dS.b9,(dS.b10,(dS.b11,(dS.b12,(dS.b13,(dS.b14,(dS.b15,([],(dn.b0,(dn.b1,(dn.b2,(dn.b3,(dn.b4,(dn.b5,(dn.b6,(dn.b7,(dn.b8,(dn.b9,(dn.b10,(dn.b11,(dn.b12,(dn.b13,(dn.b14,(dn.b15,(r8,(fT.b0,(fT.b1,(fT.b2,(fT.b3,(fT.b4,(fT.b5,(fT.b6,(fT.b7,(fT.b8,(fT.b9,(fT.b10,(fT.b11,(fT.b12,(fT.b13,(fT.b14,(fT.b15,(r9,(kS,(fU.b0,(fU.b1,(fU.b2,(fU.b3,(fU.b4,(fU.b5,(fU.b6,(fU.b7,(fU.b8,(fU.b9,(fU.b10,(fU.b11,(fU.b12,(fU.b13,(fU.b14,fU.b15)))))))))))))))))))))))))))))))))))))))))))))))))))))))))))))))))))))))))))))))))))))))))).bind fun (aI:PUnit×Int×Int×Int×Int×Int×Int×Int×Int×Int×Int×Int×Int×Int×Int×Int×Int×Int×Int×Int×Int×Int×Int×Int×Int×Int×Int×Int×Int×Int×Int×Int×Int×Int×Int×Int×Int×(List Mark)×Int×Int×Int×Int×Int×Int×Int×Int×Int×Int×Int×Int×Int×Int×Int×Int×Int×Int×Int×Int×Int×Int×Int×Int×Int×Int×Int×Int×Int×Int×Int×Int×Int×Int×Int×Int×Int×Int×Int×Int×Int×Int×Int×Int×Int×Int×Int×Int×Int×Int×Int)=>
      some (((⟨aI.2.1,aI.2.2.1,aI.2.2.2.1,aI.2.2.2.2.1,(⟨aI.2.2.2.2.2.1,aI.2.2.2.2.2.2.1,aI.2.2.2.2.2.2.2.1,aI.2.2.2.2.2.2.2.2.1,aI.2.2.2.2.2.2.2.2.2.1,aI.2.2.2.2.2.2.2.2.2.2.1,aI.2.2.2.2.2.2.2.2.2.2.2.1,aI.2.2.2.2.2.2.2.2.2.2.2.2.1,aI.2.2.2.2.2.2.2.2.2.2.2.2.2.1,aI.2.2.2.2.2.2.2.2.2.2.2.2.2.2.1,aI.2.2.2.2.2.2.2.2.2.2.2.2.2.2.2.1,aI.2.2.2.2.2.2.2.2.2.2.2.2.2.2.2.2.1,aI.2.2.2.2.2.2.2.2.2.2.2.2.2.2.2.2.2.1,aI.2.2.2.2.2.2.2.2.2.2.2.2.2.2.2.2.2.2.1,aI.2.2.2.2.2.2.2.2.2.2.2.2.2.2.2.2.2.2.2.1,aI.2.2.2.2.2.2.2.2.2.2.2.2.2.2.2.2.2.2.2.2.1⟩:aA),(⟨aI.2.2.2.2.2.2.2.2.2.2.2.2.2.2.2.2.2.2.2.2.2.1,aI.2.2.2.2.2.2.2.2.2.2.2.2.2.2.2.2.2.2.2.2.2.2.1,aI.2.2.2.2.2.2.2.2.2.2.2.2.2.2.2.2.2.2.2.2.2.2.2.1,aI.2.2.2.2.2.2.2.2.2.2.2.2.2.2.2.2.2.2.2.2.2.2.2.2.1,aI.2.2.2.2.2.2.2.2.2.2.2.2.2.2.2.2.2.2.2.2.2.2.2.2.2.1,aI.2.2.2.2.2.2.2.2.2.2.2.2.2.2.2.2.2.2.2.2.2.2.2.2.2.2.1,aI.2.2.2.2.2.2.2.2.2.2.2.2.2.2.2.2.2.2.2.2.2.2.2.2.2.2.2.1,aI.2.2.2.2.2.2.2.2.2.2.2.2.2.2.2.2.2.2.2.2.2.2.2.2.2.2.2.2.1,aI.2.2.2.2.2.2.2.2.2.2.2.2.2.2.2.2.2.2.2.2.2.2.2.2.2.2.2.2.2.1,aI.2.2.2.2.2.2.2.2.2.2.2.2.2.2.2.2.2.2.2.2.2.2.2.2.2.2.2.2.2.2.1,aI.2.2.2.2.2.2.2.2.2.2.2.2.2.2.2.2.2.2.2.2.2.2.2.2.2.2.2.2.2.2.2.1,aI.2.2.2.2.2.2.2.2.2.2.2.2.2.2.2.2.2.2.2.2.2.2.2.2.2.2.2.2.2.2.2.2.1,aI.2.2.2.2.2.2.2.2.2.2.2.2.2.2.2.2.2.2.2.2.2.2.2.2.2.2.2.2.2.2.2.2.2.1,aI.2.2.2.2.2.2.2.2.2.2.2.2.2.2.2.2.2.2.2.2.2.2.2.2.2.2.2.2.2.2.2.2.2.2.1,aI.2.2.2.2.2.2.2.2.2.2.2.2.2.2.2.2.2.2.2.2.2.2.2.2.2.2.2.2.2.2.2.2.2.2.2.1,aI.2.2.2.2.2.2.2.2.2.2.2.2.2.2.2.2.2.2.2.2.2.2.2.2.2.2.2.2.2.2.2.2.2.2.2.2.1⟩:aA),aI.2.2.2.2.2.2.2.2.2.2.2.2.2.2.2.2.2.2.2.2.2.2.2.2.2.2.2.2.2.2.2.2.2.2.2.2.2.1,(⟨aI.2.2.2.2.2.2.2.2.2.2.2.2.2.2.2.2.2.2.2.2.2.2.2.2.2.2.2.2.2.2.2.2.2.2.2.2.2.2.1,aI.2.2.2.2.2.2.2.2.2.2.2.2.2.2.2.2.2.2.2.2.2.2.2.2.2.2.2.2.2.2.2.2.2.2.2.2.2.2.2.1,aI.2.2.2.2.2.2.2.2.2.2.2.2.2.2.2.2.2.2.2.2.2.2.2.2.2.2.2.2.2.2.2.2.2.2.2.2.2.2.2.2.1,aI.2.2.2.2.2.2.2.2.2.2.2.2.2.2.2.2.2.2.2.2.2.2.2.2.2.2.2.2.2.2.2.2.2.2.2.2.2.2.2.2.2.1,aI.2.2.2.2.2.2.2.2.2.2.2.2.2.2.2.2.2.2.2.2.2.2.2.2.2.2.2.2.2.2.2.2.2.2.2.2.2.2.2.2.2.2.1,aI.2.2.2.2.2.2.2.2.2.2.2.2.2.2.2.2.2.2.2.2.2.2.2.2.2.2.2.2.2.2.2.2.2.2.2.2.2.2.2.2.2.2.2.1,aI.2.2.2.2.2.2.2.2.2.2.2.2.2.2.2.2.2.2.2.2.2.2.2.2.2.2.2.2.2.2.2.2.2.2.2.2.2.2.2.2.2.2.2.2.1,aI.2.2.2.2.2.2.2.2.2.2.2.2.2.2.2.2.2.2.2.2.2.2.2.2.2.2.2.2.2.2.2.2.2.2.2.2.2.2.2.2.2.2.2.2.2.1,aI.2.2.2.2.2.2.2.2.2.2.2.2.2.2.2.2.2.2.2.2.2.2.2.2.2.2.2.2.2.2.2.2.2.2.2.2.2.2.2.2.2.2.2.2.2.2.1,aI.2.2.2.2.2.2.2.2.2.2.2.2.2.2.2.2.2.2.2.2.2.2.2.2.2.2.2.2.2.2.2.2.2.2.2.2.2.2.2.2.2.2.2.2.2.2.2.1,aI.2.2.2.2.2.2.2.2.2.2.2.2.2.2.2.2.2.2.2.2.2.2.2.2.2.2.2.2.2.2.2.2.2.2.2.2.2.2.2.2.2.2.2.2.2.2.2.2.1,aI.2.2.2.2.2.2.2.2.2.2.2.2.2.2.2.2.2.2.2.2.2.2.2.2.2.2.2.2.2.2.2.2.2.2.2.2.2.2.2.2.2.2.2.2.2.2.2.2.2.1,aI.2.2.2.2.2.2.2.2.2.2.2.2.2.2.2.2.2.2.2.2.2.2.2.2.2.2.2.2.2.2.2.2.2.2.2.2.2.2.2.2.2.2.2.2.2.2.2.2.2.2.1,aI.2.2.2.2.2.2.2.2.2.2.2.2.2.2.2.2.2.2.2.2.2.2.2.2.2.2.2.2.2.2.2.2.2.2.2.2.2.2.2.2.2.2.2.2.2.2.2.2.2.2.2.1,aI.2.2.2.2.2.2.2.2.2.2.2.2.2.2.2.2.2.2.2.2.2.2.2.2.2.2.2.2.2.2.2.2.2.2.2.2.2.2.2.2.2.2.2.2.2.2.2.2.2.2.2.2.1,aI.2.2.2.2.2.2.2.2.2.2.2.2.2.2.2.2.2.2.2.2.2.2.2.2.2.2.2.2.2.2.2.2.2.2.2.2.2.2.2.2.2.2.2.2.2.2.2.2.2.2.2.2.2.1⟩:aA),aI.2.2.2.2.2.2.2.2.2.2.2.2.2.2.2.2.2.2.2.2.2.2.2.2.2.2.2.2.2.2.2.2.2.2.2.2.2.2.2.2.2.2.2.2.2.2.2.2.2.2.2.2.2.2.1,(⟨aI.2.2.2.2.2.2.2.2.2.2.2.2.2.2.2.2.2.2.2.2.2.2.2.2.2.2.2.2.2.2.2.2.2.2.2.2.2.2.2.2.2.2.2.2.2.2.2.2.2.2.2.2.2.2.2.1,aI.2.2.2.2.2.2.2.2.2.2.2.2.2.2.2.2.2.2.2.2.2.2.2.2.2.2.2.2.2.2.2.2.2.2.2.2.2.2.2.2.2.2.2.2.2.2.2.2.2.2.2.2.2.2.2.2.1,aI.2.2.2.2.2.2.2.2.2.2.2.2.2.2.2.2.2.2.2.2.2.2.2.2.2.2.2.2.2.2.2.2.2.2.2.2.2.2.2.2.2.2.2.2.2.2.2.2.2.2.2.2.2.2.2.2.2.1,aI.2.2.2.2.2.2.2.2.2.2.2.2.2.2.2.2.2.2.2.2.2.2.2.2.2.2.2.2.2.2.2.2.2.2.2.2.2.2.2.2.2.2.2.2.2.2.2.2.2.2.2.2.2.2.2.2.2.2.1,aI.2.2.2.2.2.2.2.2.2.2.2.2.2.2.2.2.2.2.2.2.2.2.2.2.2.2.2.2.2.2.2.2.2.2.2.2.2.2.2.2.2.2.2.2.2.2.2.2.2.2.2.2.2.2.2.2.2.2.2.1,aI.2.2.2.2.2.2.2.2.2.2.2.2.2.2.2.2.2.2.2.2.2.2.2.2.2.2.2.2.2.2.2.2.2.2.2.2.2.2.2.2.2.2.2.2.2.2.2.2.2.2.2.2.2.2.2.2.2.2.2.2.1,aI.2.2.2.2.2.2.2.2.2.2.2.2.2.2.2.2.2.2.2.2.2.2.2.2.2.2.2.2.2.2.2.2.2.2.2.2.2.2.2.2.2.2.2.2.2.2.2.2.2.2.2.2.2.2.2.2.2.2.2.2.2.1,aI.2.2.2.2.2.2.2.2.2.2.2.2.2.2.2.2.2.2.2.2.2.2.2.2.2.2.2.2.2.2.2.2.2.2.2.2.2.2.2.2.2.2.2.2.2.2.2.2.2.2.2.2.2.2.2.2.2.2.2.2.2.2.1,aI.2.2.2.2.2.2.2.2.2.2.2.2.2.2.2.2.2.2.2.2.2.2.2.2.2.2.2.2.2.2.2.2.2.2.2.2.2.2.2.2.2.2.2.2.2.2.2.2.2.2.2.2.2.2.2.2.2.2.2.2.2.2.2.1,aI.2.2.2.2.2.2.2.2.2.2.2.2.2.2.2.2.2.2.2.2.2.2.2.2.2.2.2.2.2.2.2.2.2.2.2.2.2.2.2.2.2.2.2.2.2.2.2.2.2.2.2.2.2.2.2.2.2.2.2.2.2.2.2.2.1,aI.2.2.2.2.2.2.2.2.2.2.2.2.2.2.2.2.2.2.2.2.2.2.2.2.2.2.2.2.2.2.2.2.2.2.2.2.2.2.2.2.2.2.2.2.2.2.2.2.2.2.2.2.2.2.2.2.2.2.2.2.2.2.2.2.2.1,aI.2.2.2.2.2.2.2.2.2.2.2.2.2.2.2.2.2.2.2.2.2.2.2.2.2.2.2.2.2.2.2.2.2.2.2.2.2.2.2.2.2.2.2.2.2.2.2.2.2.2.2.2.2.2.2.2.2.2.2.2.2.2.2.2.2.2.1,aI.2.2.2.2.2.2.2.2.2.2.2.2.2.2.2.2.2.2.2.2.2.2.2.2.2.2.2.2.2.2.2.2.2.2.2.2.2.2.2.2.2.2.2.2.2.2.2.2.2.2.2.2.2.2.2.2.2.2.2.2.2.2.2.2.2.2.2.1,aI.2.2.2.2.2.2.2.2.2.2.2.2.2.2.2.2.2.2.2.2.2.2.2.2.2.2.2.2.2.2.2.2.2.2.2.2.2.2.2.2.2.2.2.2.2.2.2.2.2.2.2.2.2.2.2.2.2.2.2.2.2.2.2.2.2.2.2.2.1,aI.2.2.2.2.2.2.2.2.2.2.2.2.2.2.2.2.2.2.2.2.2.2.2.2.2.2.2.2.2.2.2.2.2.2.2.2.2.2.2.2.2.2.2.2.2.2.2.2.2.2.2.2.2.2.2.2.2.2.2.2.2.2.2.2.2.2.2.2.2.1,aI.2.2.2.2.2.2.2.2.2.2.2.2.2.2.2.2.2.2.2.2.2.2.2.2.2.2.2.2.2.2.2.2.2.2.2.2.2.2.2.2.2.2.2.2.2.2.2.2.2.2.2.2.2.2.2.2.2.2.2.2.2.2.2.2.2.2.2.2.2.2.1⟩:aA),aI.2.2.2.2.2.2.2.2.2.2.2.2.2.2.2.2.2.2.2.2.2.2.2.2.2.2.2.2.2.2.2.2.2.2.2.2.2.2.2.2.2.2.2.2.2.2.2.2.2.2.2.2.2.2.2.2.2.2.2.2.2.2.2.2.2.2.2.2.2.2.2.1,aI.2.2.2.2.2.2.2.2.2.2.2.2.2.2.2.2.2.2.2.2.2.2.2.2.2.2.2.2.2.2.2.2.2.2.2.2.2.2.2.2.2.2.2.2.2.2.2.2.2.2.2.2.2.2.2.2.2.2.2.2.2.2.2.2.2.2.2.2.2.2.2.2.1,(⟨aI.2.2.2.2.2.2.2.2.2.2.2.2.2.2.2.2.2.2.2.2.2.2.2.2.2.2.2.2.2.2.2.2.2.2.2.2.2.2.2.2.2.2.2.2.2.2.2.2.2.2.2.2.2.2.2.2.2.2.2.2.2.2.2.2.2.2.2.2.2.2.2.2.2.1,aI.2.2.2.2.2.2.2.2.2.2.2.2.2.2.2.2.2.2.2.2.2.2.2.2.2.2.2.2.2.2.2.2.2.2.2.2.2.2.2.2.2.2.2.2.2.2.2.2.2.2.2.2.2.2.2.2.2.2.2.2.2.2.2.2.2.2.2.2.2.2.2.2.2.2.1,aI.2.2.2.2.2.2.2.2.2.2.2.2.2.2.2.2.2.2.2.2.2.2.2.2.2.2.2.2.2.2.2.2.2.2.2.2.2.2.2.2.2.2.2.2.2.2.2.2.2.2.2.2.2.2.2.2.2.2.2.2.2.2.2.2.2.2.2.2.2.2.2.2.2.2.2.1,aI.2.2.2.2.2.2.2.2.2.2.2.2.2.2.2.2.2.2.2.2.2.2.2.2.2.2.2.2.2.2.2.2.2.2.2.2.2.2.2.2.2.2.2.2.2.2.2.2.2.2.2.2.2.2.2.2.2.2.2.2.2.2.2.2.2.2.2.2.2.2.2.2.2.2.2.2.1,aI.2.2.2.2.2.2.2.2.2.2.2.2.2.2.2.2.2.2.2.2.2.2.2.2.2.2.2.2.2.2.2.2.2.2.2.2.2.2.2.2.2.2.2.2.2.2.2.2.2.2.2.2.2.2.2.2.2.2.2.2.2.2.2.2.2.2.2.2.2.2.2.2.2.2.2.2.2.1,aI.2.2.2.2.2.2.2.2.2.2.2.2.2.2.2.2.2.2.2.2.2.2.2.2.2.2.2.2.2.2.2.2.2.2.2.2.2.2.2.2.2.2.2.2.2.2.2.2.2.2.2.2.2.2.2.2.2.2.2.2.2.2.2.2.2.2.2.2.2.2.2.2.2.2.2.2.2.2.1,aI.2.2.2.2.2.2.2.2.2.2.2.2.2.2.2.2.2.2.2.2.2.2.2.2.2.2.2.2.2.2.2.2.2.2.2.2.2.2.2.2.2.2.2.2.2.2.2.2.2.2.2.2.2.2.2.2.2.2.2.2.2.2.2.2.2.2.2.2.2.2.2.2.2.2.2.2.2.2.2.1,aI.2.2.2.2.2.2.2.2.2.2.2.2.2.2.2.2.2.2.2.2.2.2.2.2.2.2.2.2.2.2.2.2.2.2.2.2.2.2.2.2.2.2.2.2.2.2.2.2.2.2.2.2.2.2.2.2.2.2.2.2.2.2.2.2.2.2.2.2.2.2.2.2.2.2.2.2.2.2.2.2.1,aI.2.2.2.2.2.2.2.2.2.2.2.2.2.2.2.2.2.2.2.2.2.2.2.2.2.2.2.2.2.2.2.2.2.2.2.2.2.2.2.2.2.2.2.2.2.2.2.2.2.2.2.2.2.2.2.2.2.2.2.2.2.2.2.2.2.2.2.2.2.2.2.2.2.2.2.2.2.2.2.2.2.1,aI.2.2.2.2.2.2.2.2.2.2.2.2.2.2.2.2.2.2.2.2.2.2.2.2.2.2.2.2.2.2.2.2.2.2.2.2.2.2.2.2.2.2.2.2.2.2.2.2.2.2.2.2.2.2.2.2.2.2.2.2.2.2.2.2.2.2.2.2.2.2.2.2.2.2.2.2.2.2.2.2.2.2.1,aI.2.2.2.2.2.2.2.2.2.2.2.2.2.2.2.2.2.2.2.2.2.2.2.2.2.2.2.2.2.2.2.2.2.2.2.2.2.2.2.2.2.2.2.2.2.2.2.2.2.2.2.2.2.2.2.2.2.2.2.2.2.2.2.2.2.2.2.2.2.2.2.2.2.2.2.2.2.2.2.2.2.2.2.1,aI.2.2.2.2.2.2.2.2.2.2.2.2.2.2.2.2.2.2.2.2.2.2.2.2.2.2.2.2.2.2.2.2.2.2.2.2.2.2.2.2.2.2.2.2.2.2.2.2.2.2.2.2.2.2.2.2.2.2.2.2.2.2.2.2.2.2.2.2.2.2.2.2.2.2.2.2.2.2.2.2.2.2.2.2.1,aI.2.2.2.2.2.2.2.2.2.2.2.2.2.2.2.2.2.2.2.2.2.2.2.2.2.2.2.2.2.2.2.2.2.2.2.2.2.2.2.2.2.2.2.2.2.2.2.2.2.2.2.2.2.2.2.2.2.2.2.2.2.2.2.2.2.2.2.2.2.2.2.2.2.2.2.2.2.2.2.2.2.2.2.2.2.1,aI.2.2.2.2.2.2.2.2.2.2.2.2.2.2.2.2.2.2.2.2.2.2.2.2.2.2.2.2.2.2.2.2.2.2.2.2.2.2.2.2.2.2.2.2.2.2.2.2.2.2.2.2.2.2.2.2.2.2.2.2.2.2.2.2.2.2.2.2.2.2.2.2.2.2.2.2.2.2.2.2.2.2.2.2.2.2.1,aI.2.2.2.2.2.2.2.2.2.2.2.2.2.2.2.2.2.2.2.2.2.2.2.2.2.2.2.2.2.2.2.2.2.2.2.2.2.2.2.2.2.2.2.2.2.2.2.2.2.2.2.2.2.2.2.2.2.2.2.2.2.2.2.2.2.2.2.2.2.2.2.2.2.2.2.2.2.2.2.2.2.2.2.2.2.2.2.1,aI.2.2.2.2.2.2.2.2.2.2.2.2.2.2.2.2.2.2.2.2.2.2.2.2.2.2.2.2.2.2.2.2.2.2.2.2.2.2.2.2.2.2.2.2.2.2.2.2.2.2.2.2.2.2.2.2.2.2.2.2.2.2.2.2.2.2.2.2.2.2.2.2.2.2.2.2.2.2.2.2.2.2.2.2.2.2.2.2⟩:Seal)⟩:Root),(0:Int)))
     else
      none
  else
   none:=by kernel_rfl
noncomputable def Gn (n:Nat) (x1:List Int) (m:Nat) (p:Int):Option (Int):=
 gB (R:=R) 2 (aM ((bU Tryz.f157.body [1,1,0,0,0]).getD .skip)) (⟨[(0,TV.aj (T:=R.T) Cp.sh (Ty.int IntKind.u8) x1)],[]⟩:MS R.T) (bZ zk.loops 2).sh (bZ zk.loops 2).outs (fun st k=>bR E R n false (FX n) bL zk ((bU Tryz.f157.body [1,1,0,0,0]).getD .skip) st k) m p
noncomputable def CV (n:Nat) (x1:List Int) (r4:Int) (m:Nat) (p:Int×Int):Option (Int):=
 gB (R:=R) 12 (aM ((bU Tryz.f157.body [1,1,1,1,1,1,1,0,1,0,0]).getD .skip)) (⟨[(0,TV.aj (T:=R.T) Cp.sh (Ty.int IntKind.u8) x1),(5,TV.int IntKind.i64 r4)],[]⟩:MS R.T) (bZ zk.loops 12).sh (bZ zk.loops 12).outs (fun st k=>bR E R n false (FX n) bL zk ((bU Tryz.f157.body [1,1,1,1,1,1,1,0,1,0,0]).getD .skip) st k) m p
theorem aj3 (n:Nat) (x1:List Int) (m:Nat) (x2:Int):Gn n x1 (m+1) x2=
 (Ef (bif decide (x2< (((x1.length:Nat):Int))) then decide (x2< (10:Int)) else false) (aQ x1 x2) (0:Int)).bind fun (r3:Int)=>
 bif bif bif decide (x2< (((x1.length:Nat):Int))) then decide (x2< (10:Int)) else false then decide (r3≥(128:Int)) else false then
  Gn n x1 m (IntKind.wrap IntKind.i64 (x2+(1:Int)))
 else
  some x2:=by kernel_rfl
theorem YK (n:Nat) (x1:List Int) (r4:Int) (m:Nat) (x7:Int) (x8:Int):CV n x1 r4 (m+1) (x7,x8)=
 bif decide (x8≥(0:Int)) then
  (aQ x1 x8).bind fun (r9:Int)=>
  bif !((128:Int)==(0:Int)) then
   CV n x1 r4 m ((IntKind.wrap IntKind.u64 ((IntKind.wrap IntKind.u64 (x7*(128:Int)))+(IntKind.wrap IntKind.u64 (Int.tmod r9 (128:Int)))),IntKind.wrap IntKind.i64 (x8-(1:Int))))
  else
   none
 else
  some x7:=by kernel_rfl
theorem aj4 (n:Nat) (x1:List Int):zl n x1=
 (Gn n x1 n (0:Int)).bind fun (r4:Int)=>
 bif r4==(10:Int) then
  some (((0:Int),((0:Int),(11:Int))))
 else
  bif r4==(((x1.length:Nat):Int)) then
   some (((0:Int),((0:Int),(10:Int))))
  else
   (Ef (r4==(9:Int)) (aQ x1 r4) (0:Int)).bind fun (r5:Int)=>
   (Ef (bif !(bif r4==(9:Int) then decide (r5> (1:Int)) else false) then decide (r4> (0:Int)) else false) (aQ x1 r4) (0:Int)).bind fun (r6:Int)=>
   bif bif bif r4==(9:Int) then decide (r5> (1:Int)) else false then true else bif decide (r4> (0:Int)) then r6==(0:Int) else false then
    some (((0:Int),((0:Int),(11:Int))))
   else
    (CV n x1 r4 n (((0:Int),r4))).bind fun (kS:Int)=>
    bif !((2:Int)==(0:Int)) then
     bif (Int.tmod kS (2:Int))==(1:Int) then
      bif !((2:Int)==(0:Int)) then
       some ((IntKind.wrap IntKind.i64 ((-1:Int)-(IntKind.wrap IntKind.i64 (IntKind.wrap IntKind.u64 (Int.tdiv kS (2:Int))))),(IntKind.wrap IntKind.i64 (r4+(1:Int)),(0:Int))))
      else
       none
     else
      bif !((2:Int)==(0:Int)) then
       some ((IntKind.wrap IntKind.i64 (IntKind.wrap IntKind.u64 (Int.tdiv kS (2:Int))),(IntKind.wrap IntKind.i64 (r4+(1:Int)),(0:Int))))
      else
       none
    else
     none:=by kernel_rfl
theorem aj5 (n:Nat) (x1:List Int) (x2:Int):zm n (x1,x2)=
 (zl n x1).bind fun (r3:Int×Int×Int)=>
 bif r3.2.2 !=(0:Int) then
  some (((0:Int),((0:Int),r3.2.2)))
 else
  bif decide (r3.1< (0:Int)) then
   some (((0:Int),((0:Int),(11:Int))))
  else
   bif !(x2==(0:Int)) then
    bif decide (r3.1> (IntKind.wrap IntKind.i64 (Int.tdiv (IntKind.wrap IntKind.i64 ((((x1.length:Nat):Int))-r3.2.1)) x2))) then
     some (((0:Int),((0:Int),(10:Int))))
    else
     some ((r3.1,(r3.2.1,(0:Int))))
   else
    none:=by kernel_rfl
noncomputable def Gp (n:Nat) (x1:List Int) (r2:Int×Int×Int) (m:Nat) (p:Int×(List Int)×Int):Option ((Int×List Int)⊕((List Int)×Int×Int)):=
 gB (R:=R) 6 (aM ((bU Tryz.f106.body [1,1,1,1,0,1,0,0]).getD .skip)) (⟨[(0,TV.aj (T:=R.T) Cp.sh (Ty.int IntKind.u8) x1),(5,TV.int IntKind.i64 r2.1)],[]⟩:MS R.T) (bZ La.loops 6).sh (bZ La.loops 6).outs (fun st k=>bR E R n false (K9 n) bL La ((bU Tryz.f106.body [1,1,1,1,0,1,0,0]).getD .skip) st k) m p
theorem aj6 (n:Nat) (x1:List Int) (r2:Int×Int×Int) (m:Nat) (x3:Int) (x4:List Int) (x5:Int):Gp n x1 r2 (m+1) (x3,(x4,x5))=
 bif decide (x5<r2.1) then
  bif fB x3 x1.length then
   (zl n (List.drop (Int.toNat x3) x1)).bind fun (r6:Int×Int×Int)=>
   bif r6.2.2 !=(0:Int) then
    some (.inr (([],((0:Int),r6.2.2))))
   else
    bif bX (x4.length+([r6.1].length)) 8 then
     Gp n x1 r2 m ((IntKind.wrap IntKind.i64 (x3+r6.2.1),(x4++[r6.1],IntKind.wrap IntKind.i64 (x5+(1:Int)))))
    else
     none
  else
   none
 else
  some (.inl ((x3,x4))):=by kernel_rfl
theorem aj7 (n:Nat) (x1:List Int):CF n x1=
 (zm n ((x1,(1:Int)))).bind fun (r2:Int×Int×Int)=>
 bif r2.2.2 !=(0:Int) then
  some (([],((0:Int),r2.2.2)))
 else
  (Gp n x1 r2 n ((r2.2.1,([],(0:Int))))).bind fun (r7:(Int×List Int)⊕((List Int)×Int×Int))=>
  Sum.elim (fun (q8:Int×List Int)=>
   some ((q8.2,(q8.1,(0:Int)))))
   (fun (q9:(List Int)×Int×Int)=>
    some ((q9.1,(q9.2.1,q9.2.2)))) r7:=by kernel_rfl
noncomputable def CX (n:Nat) (x1:List Int) (r2:Int×Int×Int) (m:Nat) (p:Int×(List aA)×Int):Option (Int×List aA):=
 gB (R:=R) 6 (aM ((bU Tryz.f107.body [1,1,1,1,0,1,0,0]).getD .skip)) (⟨[(0,TV.aj (T:=R.T) Cp.sh (Ty.int IntKind.u8) x1),(5,TV.int IntKind.i64 r2.1)],[]⟩:MS R.T) (bZ Ld.loops 6).sh (bZ Ld.loops 6).outs (fun st k=>bR E R n false (Lc n) bL Ld ((bU Tryz.f107.body [1,1,1,1,0,1,0,0]).getD .skip) st k) m p
theorem YL (n:Nat) (x1:List Int) (r2:Int×Int×Int) (m:Nat) (x3:Int) (x4:List aA) (x5:Int):CX n x1 r2 (m+1) (x3,(x4,x5))=
 bif decide (x5<r2.1) then
  (aQ x1 (IntKind.wrap IntKind.i64 (x3+(0:Int)))).bind fun (y0:Int)=>
  (aQ x1 (IntKind.wrap IntKind.i64 (x3+(1:Int)))).bind fun (y1:Int)=>
  (aQ x1 (IntKind.wrap IntKind.i64 (x3+(2:Int)))).bind fun (y2:Int)=>
  (aQ x1 (IntKind.wrap IntKind.i64 (x3+(3:Int)))).bind fun (y3:Int)=>
  (aQ x1 (IntKind.wrap IntKind.i64 (x3+(4:Int)))).bind fun (y4:Int)=>
  (aQ x1 (IntKind.wrap IntKind.i64 (x3+(5:Int)))).bind fun (y5:Int)=>
  (aQ x1 (IntKind.wrap IntKind.i64 (x3+(6:Int)))).bind fun (y6:Int)=>
  (aQ x1 (IntKind.wrap IntKind.i64 (x3+(7:Int)))).bind fun (y7:Int)=>
  (aQ x1 (IntKind.wrap IntKind.i64 (x3+(8:Int)))).bind fun (y8:Int)=>
  (aQ x1 (IntKind.wrap IntKind.i64 (x3+(9:Int)))).bind fun (y9:Int)=>
  (aQ x1 (IntKind.wrap IntKind.i64 (x3+(10:Int)))).bind fun (YM:Int)=>
  (aQ x1 (IntKind.wrap IntKind.i64 (x3+(11:Int)))).bind fun (YN:Int)=>
  (aQ x1 (IntKind.wrap IntKind.i64 (x3+(12:Int)))).bind fun (YO:Int)=>
  (aQ x1 (IntKind.wrap IntKind.i64 (x3+(13:Int)))).bind fun (y13:Int)=>
  (aQ x1 (IntKind.wrap IntKind.i64 (x3+(14:Int)))).bind fun (YP:Int)=>
  (aQ x1 (IntKind.wrap IntKind.i64 (x3+(15:Int)))).bind fun (YQ:Int)=>
  bif bX (x4.length+([(⟨y0,y1,y2,y3,y4,y5,y6,y7,y8,y9,YM,YN,YO,y13,YP,YQ⟩:aA)].length)) 16 then
   CX n x1 r2 m ((IntKind.wrap IntKind.i64 (x3+(16:Int)),(x4++[(⟨y0,y1,y2,y3,y4,y5,y6,y7,y8,y9,YM,YN,YO,y13,YP,YQ⟩:aA)],IntKind.wrap IntKind.i64 (x5+(1:Int)))))
  else
   none
 else
  some ((x3,x4)):=by kernel_rfl
theorem aj8 (n:Nat) (x1:List Int):CG n x1=
 (zm n ((x1,(16:Int)))).bind fun (r2:Int×Int×Int)=>
 bif r2.2.2 !=(0:Int) then
  some (([],((0:Int),r2.2.2)))
 else
  (CX n x1 r2 n ((r2.2.1,([],(0:Int))))).bind fun (r8:Int×List aA)=>
  some ((r8.2,(r8.1,(0:Int)))):=by kernel_rfl
noncomputable def zx (n:Nat) (r2:(List Int)×Int×Int) (r3:(List aA)×Int×Int) (m:Nat) (p:Int×Int×Int×Int×Int×Int×Int×Int×Int×Int×Int×Int×Int×Int×Int×Int×Int×Int×Int×Int×Int×Int×Int×Int×Int×Int×Int×Int×Int×Int×Int×Int×Int×Int×Int×Int×Int×(List Mark)×Int×Int×Int×Int×Int×Int×Int×Int×Int×Int×Int×Int×Int×Int×Int×Int×Int×Int×Int×Int×Int×Int×Int×Int×Int×Int×Int×Int×Int×Int×Int×Int×Int×Int×Int×Int×Int×Int×Int×Int×Int×Int×Int×Int×Int×Int×Int×Int×Int×Int×Int):Option (PUnit×Int×Int×Int×Int×Int×Int×Int×Int×Int×Int×Int×Int×Int×Int×Int×Int×Int×Int×Int×Int×Int×Int×Int×Int×Int×Int×Int×Int×Int×Int×Int×Int×Int×Int×Int×Int×(List Mark)×Int×Int×Int×Int×Int×Int×Int×Int×Int×Int×Int×Int×Int×Int×Int×Int×Int×Int×Int×Int×Int×Int×Int×Int×Int×Int×Int×Int×Int×Int×Int×Int×Int×Int×Int×Int×Int×Int×Int×Int×Int×Int×Int×Int×Int×Int×Int×Int×Int×Int×Int):=
 gB (R:=R) 12 (aM ((bU Tryz.f53.body [1,1,1,1,1,1,1,1,0,1,0,0]).getD .skip)) (⟨[(2,TV.ref 2 0),(3,TV.aj (T:=R.T) Cp.sh (Ty.int IntKind.i64) r2.1),(6,TV.aj (T:=R.T) Cp.sh (Ty.st 0) r3.1),(9,TV.int IntKind.i64 (IntKind.wrap IntKind.i64 ((((r2.1.length:Nat):Int))-(7:Int)))),(10,TV.ref 10 0)],[(2,Ob.ro (Ob.cells [TV.int IntKind.i64 (0:Int),TV.int IntKind.i64 (0:Int),TV.int IntKind.i64 (0:Int),TV.int IntKind.i64 (0:Int),TV.int IntKind.u8 (0:Int),TV.int IntKind.u8 (0:Int),TV.int IntKind.u8 (0:Int),TV.int IntKind.u8 (0:Int),TV.int IntKind.u8 (0:Int),TV.int IntKind.u8 (0:Int),TV.int IntKind.u8 (0:Int),TV.int IntKind.u8 (0:Int),TV.int IntKind.u8 (0:Int),TV.int IntKind.u8 (0:Int),TV.int IntKind.u8 (0:Int),TV.int IntKind.u8 (0:Int),TV.int IntKind.u8 (0:Int),TV.int IntKind.u8 (0:Int),TV.int IntKind.u8 (0:Int),TV.int IntKind.u8 (0:Int),TV.int IntKind.u8 (0:Int),TV.int IntKind.u8 (0:Int),TV.int IntKind.u8 (0:Int),TV.int IntKind.u8 (0:Int),TV.int IntKind.u8 (0:Int),TV.int IntKind.u8 (0:Int),TV.int IntKind.u8 (0:Int),TV.int IntKind.u8 (0:Int),TV.int IntKind.u8 (0:Int),TV.int IntKind.u8 (0:Int),TV.int IntKind.u8 (0:Int),TV.int IntKind.u8 (0:Int),TV.int IntKind.u8 (0:Int),TV.int IntKind.u8 (0:Int),TV.int IntKind.u8 (0:Int),TV.int IntKind.u8 (0:Int),TV.dN,TV.int IntKind.u8 (0:Int),TV.int IntKind.u8 (0:Int),TV.int IntKind.u8 (0:Int),TV.int IntKind.u8 (0:Int),TV.int IntKind.u8 (0:Int),TV.int IntKind.u8 (0:Int),TV.int IntKind.u8 (0:Int),TV.int IntKind.u8 (0:Int),TV.int IntKind.u8 (0:Int),TV.int IntKind.u8 (0:Int),TV.int IntKind.u8 (0:Int),TV.int IntKind.u8 (0:Int),TV.int IntKind.u8 (0:Int),TV.int IntKind.u8 (0:Int),TV.int IntKind.u8 (0:Int),TV.int IntKind.u8 (0:Int),TV.int IntKind.i64 (0:Int),TV.int IntKind.u8 (0:Int),TV.int IntKind.u8 (0:Int),TV.int IntKind.u8 (0:Int),TV.int IntKind.u8 (0:Int),TV.int IntKind.u8 (0:Int),TV.int IntKind.u8 (0:Int),TV.int IntKind.u8 (0:Int),TV.int IntKind.u8 (0:Int),TV.int IntKind.u8 (0:Int),TV.int IntKind.u8 (0:Int),TV.int IntKind.u8 (0:Int),TV.int IntKind.u8 (0:Int),TV.int IntKind.u8 (0:Int),TV.int IntKind.u8 (0:Int),TV.int IntKind.u8 (0:Int),TV.int IntKind.u8 (0:Int),TV.int IntKind.i64 (0:Int),TV.int IntKind.i64 (0:Int),TV.int IntKind.u8 (0:Int),TV.int IntKind.u8 (0:Int),TV.int IntKind.u8 (0:Int),TV.int IntKind.u8 (0:Int),TV.int IntKind.u8 (0:Int),TV.int IntKind.u8 (0:Int),TV.int IntKind.u8 (0:Int),TV.int IntKind.u8 (0:Int),TV.int IntKind.u8 (0:Int),TV.int IntKind.u8 (0:Int),TV.int IntKind.u8 (0:Int),TV.int IntKind.u8 (0:Int),TV.int IntKind.u8 (0:Int),TV.int IntKind.u8 (0:Int),TV.int IntKind.u8 (0:Int),TV.int IntKind.u8 (0:Int),TV.int IntKind.i64 (0:Int)]))]⟩:MS R.T) (bZ Lg.loops 12).sh (bZ Lg.loops 12).outs (fun st k=>bR E R n false (Lf n) bL Lg ((bU Tryz.f53.body [1,1,1,1,1,1,1,1,0,1,0,0]).getD .skip) st k) m p
theorem aj9 (n:Nat) (r2:(List Int)×Int×Int) (r3:(List aA)×Int×Int) (m:Nat) (fJ:Int) (pW:Int) (x18:Int) (pX:Int) (x20:Int) (x21:Int) (pY:Int) (x23:Int) (x24:Int) (x25:Int) (p8:Int) (x27:Int) (x28:Int) (x29:Int) (x30:Int) (x31:Int) (x32:Int) (p9:Int) (x34:Int) (qb:Int) (qc:Int) (qd:Int) (x38:Int) (x39:Int) (x40:Int) (x41:Int) (qg:Int) (x43:Int) (qh:Int) (qj:Int) (ql:Int) (qm:Int) (qo:Int) (qp:Int) (qw:Int) (qx:Int) (qy:Int) (nS:List Mark) (x54:Int) (x55:Int) (qz:Int) (qA:Int) (qB:Int) (qC:Int) (qD:Int) (qE:Int) (qF:Int) (qG:Int) (qH:Int) (qI:Int) (x66:Int) (qJ:Int) (qK:Int) (x69:Int) (qL:Int) (qM:Int) (qN:Int) (qO:Int) (qP:Int) (qQ:Int) (qR:Int) (qU:Int) (qV:Int) (qW:Int) (x80:Int) (x81:Int) (x82:Int) (x83:Int) (x84:Int) (x85:Int) (x86:Int) (x87:Int) (x88:Int) (x89:Int) (x90:Int) (x91:Int) (tC:Int) (x93:Int) (zu:Int) (x95:Int) (x96:Int) (zw:Int) (x98:Int) (x99:Int) (x100:Int) (x101:Int) (x102:Int) (x103:Int) (x104:Int):zx n r2 r3 (m+1) (fJ,(pW,(x18,(pX,(x20,(x21,(pY,(x23,(x24,(x25,(p8,(x27,(x28,(x29,(x30,(x31,(x32,(p9,(x34,(qb,(qc,(qd,(x38,(x39,(x40,(x41,(qg,(x43,(qh,(qj,(ql,(qm,(qo,(qp,(qw,(qx,(qy,(nS,(x54,(x55,(qz,(qA,(qB,(qC,(qD,(qE,(qF,(qG,(qH,(qI,(x66,(qJ,(qK,(x69,(qL,(qM,(qN,(qO,(qP,(qQ,(qR,(qU,(qV,(qW,(x80,(x81,(x82,(x83,(x84,(x85,(x86,(x87,(x88,(x89,(x90,(x91,(tC,(x93,(zu,(x95,(x96,(zw,(x98,(x99,(x100,(x101,(x102,(x103,x104))))))))))))))))))))))))))))))))))))))))))))))))))))))))))))))))))))))))))))))))))))))))=
 bif decide (fJ< (IntKind.wrap IntKind.i64 ((((r2.1.length:Nat):Int))-(7:Int)))) then
  (aQ r3.1 (IntKind.wrap IntKind.i64 ((4:Int)+(IntKind.wrap IntKind.i64 ((2:Int)*fJ))))).bind fun (Gj:aA)=>
  (aQ r3.1 (IntKind.wrap IntKind.i64 ((5:Int)+(IntKind.wrap IntKind.i64 ((2:Int)*fJ))))).bind fun (Gl:aA)=>
  (aQ r2.1 (IntKind.wrap IntKind.i64 ((7:Int)+fJ))).bind fun (Gm:Int)=>
  bif bX (nS.length+([(⟨Gj,Gl,Gm⟩:Mark)].length)) 40 then
   zx n r2 r3 m ((IntKind.wrap IntKind.i64 (fJ+(1:Int)),(pW,(x18,(pX,(x20,(x21,(pY,(x23,(x24,(x25,(p8,(x27,(x28,(x29,(x30,(x31,(x32,(p9,(x34,(qb,(qc,(qd,(x38,(x39,(x40,(x41,(qg,(x43,(qh,(qj,(ql,(qm,(qo,(qp,(qw,(qx,(qy,(nS++[(⟨Gj,Gl,Gm⟩:Mark)],(x54,(x55,(qz,(qA,(qB,(qC,(qD,(qE,(qF,(qG,(qH,(qI,(x66,(qJ,(qK,(x69,(qL,(qM,(qN,(qO,(qP,(qQ,(qR,(qU,(qV,(qW,(x80,(x81,(x82,(x83,(x84,(x85,(x86,(x87,(x88,(x89,(x90,(x91,(tC,(x93,(zu,(x95,(x96,(zw,(x98,(x99,(x100,(x101,(x102,(x103,x104)))))))))))))))))))))))))))))))))))))))))))))))))))))))))))))))))))))))))))))))))))))))))
  else
   none
 else
  some (((),(pW,(x18,(pX,(x20,(x21,(pY,(x23,(x24,(x25,(p8,(x27,(x28,(x29,(x30,(x31,(x32,(p9,(x34,(qb,(qc,(qd,(x38,(x39,(x40,(x41,(qg,(x43,(qh,(qj,(ql,(qm,(qo,(qp,(qw,(qx,(qy,(nS,(x54,(x55,(qz,(qA,(qB,(qC,(qD,(qE,(qF,(qG,(qH,(qI,(x66,(qJ,(qK,(x69,(qL,(qM,(qN,(qO,(qP,(qQ,(qR,(qU,(qV,(qW,(x80,(x81,(x82,(x83,(x84,(x85,(x86,(x87,(x88,(x89,(x90,(x91,(tC,(x93,(zu,(x95,(x96,(zw,(x98,(x99,(x100,(x101,(x102,(x103,x104))))))))))))))))))))))))))))))))))))))))))))))))))))))))))))))))))))))))))))))))))))))))):=by kernel_rfl
theorem akb (n:Nat) (x1:List Int):CJ n x1=
 (CF n x1).bind fun (r2:(List Int)×Int×Int)=>
 bif r2.2.2 !=(0:Int) then
  some ((⟨(⟨(0:Int),(0:Int),(0:Int),(0:Int),(⟨(0:Int),(0:Int),(0:Int),(0:Int),(0:Int),(0:Int),(0:Int),(0:Int),(0:Int),(0:Int),(0:Int),(0:Int),(0:Int),(0:Int),(0:Int),(0:Int)⟩:aA),(⟨(0:Int),(0:Int),(0:Int),(0:Int),(0:Int),(0:Int),(0:Int),(0:Int),(0:Int),(0:Int),(0:Int),(0:Int),(0:Int),(0:Int),(0:Int),(0:Int)⟩:aA),[],(⟨(0:Int),(0:Int),(0:Int),(0:Int),(0:Int),(0:Int),(0:Int),(0:Int),(0:Int),(0:Int),(0:Int),(0:Int),(0:Int),(0:Int),(0:Int),(0:Int)⟩:aA),(0:Int),(⟨(0:Int),(0:Int),(0:Int),(0:Int),(0:Int),(0:Int),(0:Int),(0:Int),(0:Int),(0:Int),(0:Int),(0:Int),(0:Int),(0:Int),(0:Int),(0:Int)⟩:aA),(0:Int),(0:Int),(⟨(0:Int),(0:Int),(0:Int),(0:Int),(0:Int),(0:Int),(0:Int),(0:Int),(0:Int),(0:Int),(0:Int),(0:Int),(0:Int),(0:Int),(0:Int),(0:Int)⟩:Seal)⟩:Root),r2.2.2⟩:dR))
 else
  bif fB r2.2.1 x1.length then
   (CG n (List.drop (Int.toNat r2.2.1) x1)).bind fun (r3:(List aA)×Int×Int)=>
   bif r3.2.2 !=(0:Int) then
    some ((⟨(⟨(0:Int),(0:Int),(0:Int),(0:Int),(⟨(0:Int),(0:Int),(0:Int),(0:Int),(0:Int),(0:Int),(0:Int),(0:Int),(0:Int),(0:Int),(0:Int),(0:Int),(0:Int),(0:Int),(0:Int),(0:Int)⟩:aA),(⟨(0:Int),(0:Int),(0:Int),(0:Int),(0:Int),(0:Int),(0:Int),(0:Int),(0:Int),(0:Int),(0:Int),(0:Int),(0:Int),(0:Int),(0:Int),(0:Int)⟩:aA),[],(⟨(0:Int),(0:Int),(0:Int),(0:Int),(0:Int),(0:Int),(0:Int),(0:Int),(0:Int),(0:Int),(0:Int),(0:Int),(0:Int),(0:Int),(0:Int),(0:Int)⟩:aA),(0:Int),(⟨(0:Int),(0:Int),(0:Int),(0:Int),(0:Int),(0:Int),(0:Int),(0:Int),(0:Int),(0:Int),(0:Int),(0:Int),(0:Int),(0:Int),(0:Int),(0:Int)⟩:aA),(0:Int),(0:Int),(⟨(0:Int),(0:Int),(0:Int),(0:Int),(0:Int),(0:Int),(0:Int),(0:Int),(0:Int),(0:Int),(0:Int),(0:Int),(0:Int),(0:Int),(0:Int),(0:Int)⟩:Seal)⟩:Root),r3.2.2⟩:dR))
   else
    bif bif bif (IntKind.wrap IntKind.i64 (r2.2.1+r3.2.1)) !=(((x1.length:Nat):Int)) then true else decide ((IntKind.wrap IntKind.i64 ((((r2.1.length:Nat):Int))-(7:Int)))< (0:Int)) then true else (((r3.1.length:Nat):Int)) !=(IntKind.wrap IntKind.i64 ((5:Int)+(IntKind.wrap IntKind.i64 ((2:Int)*(IntKind.wrap IntKind.i64 ((((r2.1.length:Nat):Int))-(7:Int))))))) then
     some ((⟨(⟨(0:Int),(0:Int),(0:Int),(0:Int),(⟨(0:Int),(0:Int),(0:Int),(0:Int),(0:Int),(0:Int),(0:Int),(0:Int),(0:Int),(0:Int),(0:Int),(0:Int),(0:Int),(0:Int),(0:Int),(0:Int)⟩:aA),(⟨(0:Int),(0:Int),(0:Int),(0:Int),(0:Int),(0:Int),(0:Int),(0:Int),(0:Int),(0:Int),(0:Int),(0:Int),(0:Int),(0:Int),(0:Int),(0:Int)⟩:aA),[],(⟨(0:Int),(0:Int),(0:Int),(0:Int),(0:Int),(0:Int),(0:Int),(0:Int),(0:Int),(0:Int),(0:Int),(0:Int),(0:Int),(0:Int),(0:Int),(0:Int)⟩:aA),(0:Int),(⟨(0:Int),(0:Int),(0:Int),(0:Int),(0:Int),(0:Int),(0:Int),(0:Int),(0:Int),(0:Int),(0:Int),(0:Int),(0:Int),(0:Int),(0:Int),(0:Int)⟩:aA),(0:Int),(0:Int),(⟨(0:Int),(0:Int),(0:Int),(0:Int),(0:Int),(0:Int),(0:Int),(0:Int),(0:Int),(0:Int),(0:Int),(0:Int),(0:Int),(0:Int),(0:Int),(0:Int)⟩:Seal)⟩:Root),(11:Int)⟩:dR))
    else
     (aQ r2.1 (0:Int)).bind fun (r4:Int)=>
     (aQ r2.1 (1:Int)).bind fun (r5:Int)=>
     (aQ r2.1 (2:Int)).bind fun (r6:Int)=>
     (aQ r2.1 (3:Int)).bind fun (r7:Int)=>
     (aQ r2.1 (4:Int)).bind fun (r8:Int)=>
     (aQ r2.1 (5:Int)).bind fun (r9:Int)=>
     (aQ r2.1 (6:Int)).bind fun (kS:Int)=>
     (aQ r3.1 (0:Int)).bind fun (eD:aA)=>
     (aQ r3.1 (1:Int)).bind fun (dS:aA)=>
     (aQ r3.1 (2:Int)).bind fun (dn:aA)=>
     (aQ r3.1 (3:Int)).bind fun (fT:aA)=>
     (aQ r3.1 (IntKind.wrap IntKind.i64 ((4:Int)+(IntKind.wrap IntKind.i64 ((2:Int)*(IntKind.wrap IntKind.i64 ((((r2.1.length:Nat):Int))-(7:Int)))))))).bind fun (fU:aA)=>
     (zx n r2 r3 n (((0:Int),(r4,(r5,(r6,(r7,(eD.b0,(eD.b1,(eD.b2,(eD.b3,(eD.b4,(eD.b5,(eD.b6,(eD.b7,(eD.b8,(eD.b9,(eD.b10,(eD.b11,(eD.b12,(eD.b13,(eD.b14,(eD.b15,(dS.b0,(dS.b1,(dS.b2,(dS.b3,(dS.b4,(dS.b5,(dS.b6,(dS.b7,(dS.b8,(dS.b9,(dS.b10,(dS.b11,(dS.b12,(dS.b13,(dS.b14,(dS.b15,([],(dn.b0,(dn.b1,(dn.b2,(dn.b3,(dn.b4,(dn.b5,(dn.b6,(dn.b7,(dn.b8,(dn.b9,(dn.b10,(dn.b11,(dn.b12,(dn.b13,(dn.b14,(dn.b15,(r8,(fT.b0,(fT.b1,(fT.b2,(fT.b3,(fT.b4,(fT.b5,(fT.b6,(fT.b7,(fT.b8,(fT.b9,(fT.b10,(fT.b11,(fT.b12,(fT.b13,(fT.b14,(fT.b15,(r9,(kS,(fU.b0,(fU.b1,(fU.b2,(fU.b3,(fU.b4,(fU.b5,(fU.b6,(fU.b7,(fU.b8,(fU.b9,(fU.b10,(fU.b11,(fU.b12,(fU.b13,(fU.b14,fU.b15)))))))))))))))))))))))))))))))))))))))))))))))))))))))))))))))))))))))))))))))))))))))))).bind fun (aI:PUnit×Int×Int×Int×Int×Int×Int×Int×Int×Int×Int×Int×Int×Int×Int×Int×Int×Int×Int×Int×Int×Int×Int×Int×Int×Int×Int×Int×Int×Int×Int×Int×Int×Int×Int×Int×Int×(List Mark)×Int×Int×Int×Int×Int×Int×Int×Int×Int×Int×Int×Int×Int×Int×Int×Int×Int×Int×Int×Int×Int×Int×Int×Int×Int×Int×Int×Int×Int×Int×Int×Int×Int×Int×Int×Int×Int×Int×Int×Int×Int×Int×Int×Int×Int×Int×Int×Int×Int×Int×Int)=>
     some ((⟨(⟨aI.2.1,aI.2.2.1,aI.2.2.2.1,aI.2.2.2.2.1,(⟨aI.2.2.2.2.2.1,aI.2.2.2.2.2.2.1,aI.2.2.2.2.2.2.2.1,aI.2.2.2.2.2.2.2.2.1,aI.2.2.2.2.2.2.2.2.2.1,aI.2.2.2.2.2.2.2.2.2.2.1,aI.2.2.2.2.2.2.2.2.2.2.2.1,aI.2.2.2.2.2.2.2.2.2.2.2.2.1,aI.2.2.2.2.2.2.2.2.2.2.2.2.2.1,aI.2.2.2.2.2.2.2.2.2.2.2.2.2.2.1,aI.2.2.2.2.2.2.2.2.2.2.2.2.2.2.2.1,aI.2.2.2.2.2.2.2.2.2.2.2.2.2.2.2.2.1,aI.2.2.2.2.2.2.2.2.2.2.2.2.2.2.2.2.2.1,aI.2.2.2.2.2.2.2.2.2.2.2.2.2.2.2.2.2.2.1,aI.2.2.2.2.2.2.2.2.2.2.2.2.2.2.2.2.2.2.2.1,aI.2.2.2.2.2.2.2.2.2.2.2.2.2.2.2.2.2.2.2.2.1⟩:aA),(⟨aI.2.2.2.2.2.2.2.2.2.2.2.2.2.2.2.2.2.2.2.2.2.1,aI.2.2.2.2.2.2.2.2.2.2.2.2.2.2.2.2.2.2.2.2.2.2.1,aI.2.2.2.2.2.2.2.2.2.2.2.2.2.2.2.2.2.2.2.2.2.2.2.1,aI.2.2.2.2.2.2.2.2.2.2.2.2.2.2.2.2.2.2.2.2.2.2.2.2.1,aI.2.2.2.2.2.2.2.2.2.2.2.2.2.2.2.2.2.2.2.2.2.2.2.2.2.1,aI.2.2.2.2.2.2.2.2.2.2.2.2.2.2.2.2.2.2.2.2.2.2.2.2.2.2.1,aI.2.2.2.2.2.2.2.2.2.2.2.2.2.2.2.2.2.2.2.2.2.2.2.2.2.2.2.1,aI.2.2.2.2.2.2.2.2.2.2.2.2.2.2.2.2.2.2.2.2.2.2.2.2.2.2.2.2.1,aI.2.2.2.2.2.2.2.2.2.2.2.2.2.2.2.2.2.2.2.2.2.2.2.2.2.2.2.2.2.1,aI.2.2.2.2.2.2.2.2.2.2.2.2.2.2.2.2.2.2.2.2.2.2.2.2.2.2.2.2.2.2.1,aI.2.2.2.2.2.2.2.2.2.2.2.2.2.2.2.2.2.2.2.2.2.2.2.2.2.2.2.2.2.2.2.1,aI.2.2.2.2.2.2.2.2.2.2.2.2.2.2.2.2.2.2.2.2.2.2.2.2.2.2.2.2.2.2.2.2.1,aI.2.2.2.2.2.2.2.2.2.2.2.2.2.2.2.2.2.2.2.2.2.2.2.2.2.2.2.2.2.2.2.2.2.1,aI.2.2.2.2.2.2.2.2.2.2.2.2.2.2.2.2.2.2.2.2.2.2.2.2.2.2.2.2.2.2.2.2.2.2.1,aI.2.2.2.2.2.2.2.2.2.2.2.2.2.2.2.2.2.2.2.2.2.2.2.2.2.2.2.2.2.2.2.2.2.2.2.1,aI.2.2.2.2.2.2.2.2.2.2.2.2.2.2.2.2.2.2.2.2.2.2.2.2.2.2.2.2.2.2.2.2.2.2.2.2.1⟩:aA),aI.2.2.2.2.2.2.2.2.2.2.2.2.2.2.2.2.2.2.2.2.2.2.2.2.2.2.2.2.2.2.2.2.2.2.2.2.2.1,(⟨aI.2.2.2.2.2.2.2.2.2.2.2.2.2.2.2.2.2.2.2.2.2.2.2.2.2.2.2.2.2.2.2.2.2.2.2.2.2.2.1,aI.2.2.2.2.2.2.2.2.2.2.2.2.2.2.2.2.2.2.2.2.2.2.2.2.2.2.2.2.2.2.2.2.2.2.2.2.2.2.2.1,aI.2.2.2.2.2.2.2.2.2.2.2.2.2.2.2.2.2.2.2.2.2.2.2.2.2.2.2.2.2.2.2.2.2.2.2.2.2.2.2.2.1,aI.2.2.2.2.2.2.2.2.2.2.2.2.2.2.2.2.2.2.2.2.2.2.2.2.2.2.2.2.2.2.2.2.2.2.2.2.2.2.2.2.2.1,aI.2.2.2.2.2.2.2.2.2.2.2.2.2.2.2.2.2.2.2.2.2.2.2.2.2.2.2.2.2.2.2.2.2.2.2.2.2.2.2.2.2.2.1,aI.2.2.2.2.2.2.2.2.2.2.2.2.2.2.2.2.2.2.2.2.2.2.2.2.2.2.2.2.2.2.2.2.2.2.2.2.2.2.2.2.2.2.2.1,aI.2.2.2.2.2.2.2.2.2.2.2.2.2.2.2.2.2.2.2.2.2.2.2.2.2.2.2.2.2.2.2.2.2.2.2.2.2.2.2.2.2.2.2.2.1,aI.2.2.2.2.2.2.2.2.2.2.2.2.2.2.2.2.2.2.2.2.2.2.2.2.2.2.2.2.2.2.2.2.2.2.2.2.2.2.2.2.2.2.2.2.2.1,aI.2.2.2.2.2.2.2.2.2.2.2.2.2.2.2.2.2.2.2.2.2.2.2.2.2.2.2.2.2.2.2.2.2.2.2.2.2.2.2.2.2.2.2.2.2.2.1,aI.2.2.2.2.2.2.2.2.2.2.2.2.2.2.2.2.2.2.2.2.2.2.2.2.2.2.2.2.2.2.2.2.2.2.2.2.2.2.2.2.2.2.2.2.2.2.2.1,aI.2.2.2.2.2.2.2.2.2.2.2.2.2.2.2.2.2.2.2.2.2.2.2.2.2.2.2.2.2.2.2.2.2.2.2.2.2.2.2.2.2.2.2.2.2.2.2.2.1,aI.2.2.2.2.2.2.2.2.2.2.2.2.2.2.2.2.2.2.2.2.2.2.2.2.2.2.2.2.2.2.2.2.2.2.2.2.2.2.2.2.2.2.2.2.2.2.2.2.2.1,aI.2.2.2.2.2.2.2.2.2.2.2.2.2.2.2.2.2.2.2.2.2.2.2.2.2.2.2.2.2.2.2.2.2.2.2.2.2.2.2.2.2.2.2.2.2.2.2.2.2.2.1,aI.2.2.2.2.2.2.2.2.2.2.2.2.2.2.2.2.2.2.2.2.2.2.2.2.2.2.2.2.2.2.2.2.2.2.2.2.2.2.2.2.2.2.2.2.2.2.2.2.2.2.2.1,aI.2.2.2.2.2.2.2.2.2.2.2.2.2.2.2.2.2.2.2.2.2.2.2.2.2.2.2.2.2.2.2.2.2.2.2.2.2.2.2.2.2.2.2.2.2.2.2.2.2.2.2.2.1,aI.2.2.2.2.2.2.2.2.2.2.2.2.2.2.2.2.2.2.2.2.2.2.2.2.2.2.2.2.2.2.2.2.2.2.2.2.2.2.2.2.2.2.2.2.2.2.2.2.2.2.2.2.2.1⟩:aA),aI.2.2.2.2.2.2.2.2.2.2.2.2.2.2.2.2.2.2.2.2.2.2.2.2.2.2.2.2.2.2.2.2.2.2.2.2.2.2.2.2.2.2.2.2.2.2.2.2.2.2.2.2.2.2.1,(⟨aI.2.2.2.2.2.2.2.2.2.2.2.2.2.2.2.2.2.2.2.2.2.2.2.2.2.2.2.2.2.2.2.2.2.2.2.2.2.2.2.2.2.2.2.2.2.2.2.2.2.2.2.2.2.2.2.1,aI.2.2.2.2.2.2.2.2.2.2.2.2.2.2.2.2.2.2.2.2.2.2.2.2.2.2.2.2.2.2.2.2.2.2.2.2.2.2.2.2.2.2.2.2.2.2.2.2.2.2.2.2.2.2.2.2.1,aI.2.2.2.2.2.2.2.2.2.2.2.2.2.2.2.2.2.2.2.2.2.2.2.2.2.2.2.2.2.2.2.2.2.2.2.2.2.2.2.2.2.2.2.2.2.2.2.2.2.2.2.2.2.2.2.2.2.1,aI.2.2.2.2.2.2.2.2.2.2.2.2.2.2.2.2.2.2.2.2.2.2.2.2.2.2.2.2.2.2.2.2.2.2.2.2.2.2.2.2.2.2.2.2.2.2.2.2.2.2.2.2.2.2.2.2.2.2.1,aI.2.2.2.2.2.2.2.2.2.2.2.2.2.2.2.2.2.2.2.2.2.2.2.2.2.2.2.2.2.2.2.2.2.2.2.2.2.2.2.2.2.2.2.2.2.2.2.2.2.2.2.2.2.2.2.2.2.2.2.1,aI.2.2.2.2.2.2.2.2.2.2.2.2.2.2.2.2.2.2.2.2.2.2.2.2.2.2.2.2.2.2.2.2.2.2.2.2.2.2.2.2.2.2.2.2.2.2.2.2.2.2.2.2.2.2.2.2.2.2.2.2.1,aI.2.2.2.2.2.2.2.2.2.2.2.2.2.2.2.2.2.2.2.2.2.2.2.2.2.2.2.2.2.2.2.2.2.2.2.2.2.2.2.2.2.2.2.2.2.2.2.2.2.2.2.2.2.2.2.2.2.2.2.2.2.1,aI.2.2.2.2.2.2.2.2.2.2.2.2.2.2.2.2.2.2.2.2.2.2.2.2.2.2.2.2.2.2.2.2.2.2.2.2.2.2.2.2.2.2.2.2.2.2.2.2.2.2.2.2.2.2.2.2.2.2.2.2.2.2.1,aI.2.2.2.2.2.2.2.2.2.2.2.2.2.2.2.2.2.2.2.2.2.2.2.2.2.2.2.2.2.2.2.2.2.2.2.2.2.2.2.2.2.2.2.2.2.2.2.2.2.2.2.2.2.2.2.2.2.2.2.2.2.2.2.1,aI.2.2.2.2.2.2.2.2.2.2.2.2.2.2.2.2.2.2.2.2.2.2.2.2.2.2.2.2.2.2.2.2.2.2.2.2.2.2.2.2.2.2.2.2.2.2.2.2.2.2.2.2.2.2.2.2.2.2.2.2.2.2.2.2.1,aI.2.2.2.2.2.2.2.2.2.2.2.2.2.2.2.2.2.2.2.2.2.2.2.2.2.2.2.2.2.2.2.2.2.2.2.2.2.2.2.2.2.2.2.2.2.2.2.2.2.2.2.2.2.2.2.2.2.2.2.2.2.2.2.2.2.1,aI.2.2.2.2.2.2.2.2.2.2.2.2.2.2.2.2.2.2.2.2.2.2.2.2.2.2.2.2.2.2.2.2.2.2.2.2.2.2.2.2.2.2.2.2.2.2.2.2.2.2.2.2.2.2.2.2.2.2.2.2.2.2.2.2.2.2.1,aI.2.2.2.2.2.2.2.2.2.2.2.2.2.2.2.2.2.2.2.2.2.2.2.2.2.2.2.2.2.2.2.2.2.2.2.2.2.2.2.2.2.2.2.2.2.2.2.2.2.2.2.2.2.2.2.2.2.2.2.2.2.2.2.2.2.2.2.1,aI.2.2.2.2.2.2.2.2.2.2.2.2.2.2.2.2.2.2.2.2.2.2.2.2.2.2.2.2.2.2.2.2.2.2.2.2.2.2.2.2.2.2.2.2.2.2.2.2.2.2.2.2.2.2.2.2.2.2.2.2.2.2.2.2.2.2.2.2.1,aI.2.2.2.2.2.2.2.2.2.2.2.2.2.2.2.2.2.2.2.2.2.2.2.2.2.2.2.2.2.2.2.2.2.2.2.2.2.2.2.2.2.2.2.2.2.2.2.2.2.2.2.2.2.2.2.2.2.2.2.2.2.2.2.2.2.2.2.2.2.1,aI.2.2.2.2.2.2.2.2.2.2.2.2.2.2.2.2.2.2.2.2.2.2.2.2.2.2.2.2.2.2.2.2.2.2.2.2.2.2.2.2.2.2.2.2.2.2.2.2.2.2.2.2.2.2.2.2.2.2.2.2.2.2.2.2.2.2.2.2.2.2.1⟩:aA),aI.2.2.2.2.2.2.2.2.2.2.2.2.2.2.2.2.2.2.2.2.2.2.2.2.2.2.2.2.2.2.2.2.2.2.2.2.2.2.2.2.2.2.2.2.2.2.2.2.2.2.2.2.2.2.2.2.2.2.2.2.2.2.2.2.2.2.2.2.2.2.2.1,aI.2.2.2.2.2.2.2.2.2.2.2.2.2.2.2.2.2.2.2.2.2.2.2.2.2.2.2.2.2.2.2.2.2.2.2.2.2.2.2.2.2.2.2.2.2.2.2.2.2.2.2.2.2.2.2.2.2.2.2.2.2.2.2.2.2.2.2.2.2.2.2.2.1,(⟨aI.2.2.2.2.2.2.2.2.2.2.2.2.2.2.2.2.2.2.2.2.2.2.2.2.2.2.2.2.2.2.2.2.2.2.2.2.2.2.2.2.2.2.2.2.2.2.2.2.2.2.2.2.2.2.2.2.2.2.2.2.2.2.2.2.2.2.2.2.2.2.2.2.2.1,aI.2.2.2.2.2.2.2.2.2.2.2.2.2.2.2.2.2.2.2.2.2.2.2.2.2.2.2.2.2.2.2.2.2.2.2.2.2.2.2.2.2.2.2.2.2.2.2.2.2.2.2.2.2.2.2.2.2.2.2.2.2.2.2.2.2.2.2.2.2.2.2.2.2.2.1,aI.2.2.2.2.2.2.2.2.2.2.2.2.2.2.2.2.2.2.2.2.2.2.2.2.2.2.2.2.2.2.2.2.2.2.2.2.2.2.2.2.2.2.2.2.2.2.2.2.2.2.2.2.2.2.2.2.2.2.2.2.2.2.2.2.2.2.2.2.2.2.2.2.2.2.2.1,aI.2.2.2.2.2.2.2.2.2.2.2.2.2.2.2.2.2.2.2.2.2.2.2.2.2.2.2.2.2.2.2.2.2.2.2.2.2.2.2.2.2.2.2.2.2.2.2.2.2.2.2.2.2.2.2.2.2.2.2.2.2.2.2.2.2.2.2.2.2.2.2.2.2.2.2.2.1,aI.2.2.2.2.2.2.2.2.2.2.2.2.2.2.2.2.2.2.2.2.2.2.2.2.2.2.2.2.2.2.2.2.2.2.2.2.2.2.2.2.2.2.2.2.2.2.2.2.2.2.2.2.2.2.2.2.2.2.2.2.2.2.2.2.2.2.2.2.2.2.2.2.2.2.2.2.2.1,aI.2.2.2.2.2.2.2.2.2.2.2.2.2.2.2.2.2.2.2.2.2.2.2.2.2.2.2.2.2.2.2.2.2.2.2.2.2.2.2.2.2.2.2.2.2.2.2.2.2.2.2.2.2.2.2.2.2.2.2.2.2.2.2.2.2.2.2.2.2.2.2.2.2.2.2.2.2.2.1,aI.2.2.2.2.2.2.2.2.2.2.2.2.2.2.2.2.2.2.2.2.2.2.2.2.2.2.2.2.2.2.2.2.2.2.2.2.2.2.2.2.2.2.2.2.2.2.2.2.2.2.2.2.2.2.2.2.2.2.2.2.2.2.2.2.2.2.2.2.2.2.2.2.2.2.2.2.2.2.2.1,aI.2.2.2.2.2.2.2.2.2.2.2.2.2.2.2.2.2.2.2.2.2.2.2.2.2.2.2.2.2.2.2.2.2.2.2.2.2.2.2.2.2.2.2.2.2.2.2.2.2.2.2.2.2.2.2.2.2.2.2.2.2.2.2.2.2.2.2.2.2.2.2.2.2.2.2.2.2.2.2.2.1,aI.2.2.2.2.2.2.2.2.2.2.2.2.2.2.2.2.2.2.2.2.2.2.2.2.2.2.2.2.2.2.2.2.2.2.2.2.2.2.2.2.2.2.2.2.2.2.2.2.2.2.2.2.2.2.2.2.2.2.2.2.2.2.2.2.2.2.2.2.2.2.2.2.2.2.2.2.2.2.2.2.2.1,aI.2.2.2.2.2.2.2.2.2.2.2.2.2.2.2.2.2.2.2.2.2.2.2.2.2.2.2.2.2.2.2.2.2.2.2.2.2.2.2.2.2.2.2.2.2.2.2.2.2.2.2.2.2.2.2.2.2.2.2.2.2.2.2.2.2.2.2.2.2.2.2.2.2.2.2.2.2.2.2.2.2.2.1,aI.2.2.2.2.2.2.2.2.2.2.2.2.2.2.2.2.2.2.2.2.2.2.2.2.2.2.2.2.2.2.2.2.2.2.2.2.2.2.2.2.2.2.2.2.2.2.2.2.2.2.2.2.2.2.2.2.2.2.2.2.2.2.2.2.2.2.2.2.2.2.2.2.2.2.2.2.2.2.2.2.2.2.2.1,aI.2.2.2.2.2.2.2.2.2.2.2.2.2.2.2.2.2.2.2.2.2.2.2.2.2.2.2.2.2.2.2.2.2.2.2.2.2.2.2.2.2.2.2.2.2.2.2.2.2.2.2.2.2.2.2.2.2.2.2.2.2.2.2.2.2.2.2.2.2.2.2.2.2.2.2.2.2.2.2.2.2.2.2.2.1,aI.2.2.2.2.2.2.2.2.2.2.2.2.2.2.2.2.2.2.2.2.2.2.2.2.2.2.2.2.2.2.2.2.2.2.2.2.2.2.2.2.2.2.2.2.2.2.2.2.2.2.2.2.2.2.2.2.2.2.2.2.2.2.2.2.2.2.2.2.2.2.2.2.2.2.2.2.2.2.2.2.2.2.2.2.2.1,aI.2.2.2.2.2.2.2.2.2.2.2.2.2.2.2.2.2.2.2.2.2.2.2.2.2.2.2.2.2.2.2.2.2.2.2.2.2.2.2.2.2.2.2.2.2.2.2.2.2.2.2.2.2.2.2.2.2.2.2.2.2.2.2.2.2.2.2.2.2.2.2.2.2.2.2.2.2.2.2.2.2.2.2.2.2.2.1,aI.2.2.2.2.2.2.2.2.2.2.2.2.2.2.2.2.2.2.2.2.2.2.2.2.2.2.2.2.2.2.2.2.2.2.2.2.2.2.2.2.2.2.2.2.2.2.2.2.2.2.2.2.2.2.2.2.2.2.2.2.2.2.2.2.2.2.2.2.2.2.2.2.2.2.2.2.2.2.2.2.2.2.2.2.2.2.2.1,aI.2.2.2.2.2.2.2.2.2.2.2.2.2.2.2.2.2.2.2.2.2.2.2.2.2.2.2.2.2.2.2.2.2.2.2.2.2.2.2.2.2.2.2.2.2.2.2.2.2.2.2.2.2.2.2.2.2.2.2.2.2.2.2.2.2.2.2.2.2.2.2.2.2.2.2.2.2.2.2.2.2.2.2.2.2.2.2.2⟩:Seal)⟩:Root),(0:Int)⟩:dR))
  else
   none:=by kernel_rfl
noncomputable def CY (n:Nat) (m:Nat) (p:Int×List Int):Option (Int×List Int):=
 gB (R:=R) 5 (aM ((bU Tryz.f93.body [1,1,1,1,0,0,0]).getD .skip)) (⟨[],[]⟩:MS R.T) (bZ Lj.loops 5).sh (bZ Lj.loops 5).outs (fun st k=>bR E R n false (Li n) bL Lj ((bU Tryz.f93.body [1,1,1,1,0,0,0]).getD .skip) st k) m p
theorem YR (n:Nat) (m:Nat) (x2:Int) (x3:List Int):CY n (m+1) (x2,x3)=
 bif decide (x2≥(128:Int)) then
  bif !((128:Int)==(0:Int)) then
   bif bX (x3.length+([IntKind.wrap IntKind.u8 ((IntKind.wrap IntKind.u8 (Int.tmod x2 (128:Int)))+(128:Int))].length)) 1 then
    bif !((128:Int)==(0:Int)) then
     CY n m ((IntKind.wrap IntKind.u64 (Int.tdiv x2 (128:Int)),x3++[IntKind.wrap IntKind.u8 ((IntKind.wrap IntKind.u8 (Int.tmod x2 (128:Int)))+(128:Int))]))
    else
     none
   else
    none
  else
   none
 else
  some ((x2,x3)):=by kernel_rfl
theorem akc (n:Nat) (x1:Int):vN n x1=
 bif decide (x1< (0:Int)) then
  (CY n n ((IntKind.wrap IntKind.u64 ((IntKind.wrap IntKind.u64 ((IntKind.wrap IntKind.u64 (IntKind.wrap IntKind.i64 ((-1:Int)-x1)))*(2:Int)))+(1:Int)),[]))).bind fun (r4:Int×List Int)=>
  bif bX (r4.2.length+([IntKind.wrap IntKind.u8 r4.1].length)) 1 then
   some (r4.2++[IntKind.wrap IntKind.u8 r4.1])
  else
   none
 else
  (CY n n ((IntKind.wrap IntKind.u64 ((IntKind.wrap IntKind.u64 x1)*(2:Int)),[]))).bind fun (r5:Int×List Int)=>
  bif bX (r5.2.length+([IntKind.wrap IntKind.u8 r5.1].length)) 1 then
   some (r5.2++[IntKind.wrap IntKind.u8 r5.1])
  else
   none:=by kernel_rfl
noncomputable def Gq (n:Nat) (x1:List Int) (m:Nat) (p:(List Int)×Int):Option (List Int):=
 gB (R:=R) 3 (aM ((bU Tryz.f73.body [1,1,0,1,0,0]).getD .skip)) (⟨[(0,TV.aj (T:=R.T) Cp.sh (Ty.int IntKind.i64) x1)],[]⟩:MS R.T) (bZ Lm.loops 3).sh (bZ Lm.loops 3).outs (fun st k=>bR E R n false (Ll n) bL Lm ((bU Tryz.f73.body [1,1,0,1,0,0]).getD .skip) st k) m p
theorem YS (n:Nat) (x1:List Int) (m:Nat) (x3:List Int) (x4:Int):Gq n x1 (m+1) (x3,x4)=
 bif decide (x4< (((x1.length:Nat):Int))) then
  (aQ x1 x4).bind fun (r5:Int)=>
  (vN n r5).bind fun (r6:List Int)=>
  bif bX (x3.length+r6.length) 1 then
   Gq n x1 m ((x3++r6,IntKind.wrap IntKind.i64 (x4+(1:Int))))
  else
   none
 else
  some x3:=by kernel_rfl
theorem akd (n:Nat) (x1:List Int):zn n x1=
 (vN n (((x1.length:Nat):Int))).bind fun (r2:List Int)=>
 (Gq n x1 n ((r2,(0:Int)))).bind fun (r7:List Int)=>
 some r7:=by kernel_rfl
noncomputable def Gr (n:Nat) (x1:List aA) (m:Nat) (p:(List Int)×Int):Option (List Int):=
 gB (R:=R) 3 (aM ((bU Tryz.f108.body [1,1,0,1,0,0]).getD .skip)) (⟨[(0,TV.aj (T:=R.T) Cp.sh (Ty.st 0) x1)],[]⟩:MS R.T) (bZ Lr.loops 3).sh (bZ Lr.loops 3).outs (fun st k=>bR E R n false (Lp n) bL Lr ((bU Tryz.f108.body [1,1,0,1,0,0]).getD .skip) st k) m p
theorem YT (n:Nat) (x1:List aA) (m:Nat) (x3:List Int) (x4:Int):Gr n x1 (m+1) (x3,x4)=
 bif decide (x4< (((x1.length:Nat):Int))) then
  (aQ x1 x4).bind fun (r5:aA)=>
  bif bX (x3.length+([r5.b0,r5.b1,r5.b2,r5.b3,r5.b4,r5.b5,r5.b6,r5.b7,r5.b8,r5.b9,r5.b10,r5.b11,r5.b12,r5.b13,r5.b14,r5.b15].length)) 1 then
   Gr n x1 m ((x3++[r5.b0,r5.b1,r5.b2,r5.b3,r5.b4,r5.b5,r5.b6,r5.b7,r5.b8,r5.b9,r5.b10,r5.b11,r5.b12,r5.b13,r5.b14,r5.b15],IntKind.wrap IntKind.i64 (x4+(1:Int))))
  else
   none
 else
  some x3:=by kernel_rfl
theorem ake (n:Nat) (x1:List aA):CP n x1=
 (vN n (((x1.length:Nat):Int))).bind fun (r2:List Int)=>
 (Gr n x1 n ((r2,(0:Int)))).bind fun (r6:List Int)=>
 some r6:=by kernel_rfl
noncomputable def Gs (n:Nat) (x1:Root) (m:Nat) (p:(List Int)×(List aA)×Int):Option ((List Int)×List aA):=
 gB (R:=R) 4 (aM ((bU Tryz.f54.body [1,1,1,0,1,0,0]).getD .skip)) (⟨[(1,TV.ref 1 0)],[(1,Ob.ro (Ob.cells [TV.int IntKind.i64 x1.jR,TV.int IntKind.i64 x1.fC,TV.int IntKind.i64 x1.Day,TV.int IntKind.i64 x1.Floor,TV.int IntKind.u8 x1.au.b0,TV.int IntKind.u8 x1.au.b1,TV.int IntKind.u8 x1.au.b2,TV.int IntKind.u8 x1.au.b3,TV.int IntKind.u8 x1.au.b4,TV.int IntKind.u8 x1.au.b5,TV.int IntKind.u8 x1.au.b6,TV.int IntKind.u8 x1.au.b7,TV.int IntKind.u8 x1.au.b8,TV.int IntKind.u8 x1.au.b9,TV.int IntKind.u8 x1.au.b10,TV.int IntKind.u8 x1.au.b11,TV.int IntKind.u8 x1.au.b12,TV.int IntKind.u8 x1.au.b13,TV.int IntKind.u8 x1.au.b14,TV.int IntKind.u8 x1.au.b15,TV.int IntKind.u8 x1.ak.b0,TV.int IntKind.u8 x1.ak.b1,TV.int IntKind.u8 x1.ak.b2,TV.int IntKind.u8 x1.ak.b3,TV.int IntKind.u8 x1.ak.b4,TV.int IntKind.u8 x1.ak.b5,TV.int IntKind.u8 x1.ak.b6,TV.int IntKind.u8 x1.ak.b7,TV.int IntKind.u8 x1.ak.b8,TV.int IntKind.u8 x1.ak.b9,TV.int IntKind.u8 x1.ak.b10,TV.int IntKind.u8 x1.ak.b11,TV.int IntKind.u8 x1.ak.b12,TV.int IntKind.u8 x1.ak.b13,TV.int IntKind.u8 x1.ak.b14,TV.int IntKind.u8 x1.ak.b15,TV.aj (T:=R.T) Cp.sh (Ty.st 2) x1.Marks,TV.int IntKind.u8 x1.Gone.b0,TV.int IntKind.u8 x1.Gone.b1,TV.int IntKind.u8 x1.Gone.b2,TV.int IntKind.u8 x1.Gone.b3,TV.int IntKind.u8 x1.Gone.b4,TV.int IntKind.u8 x1.Gone.b5,TV.int IntKind.u8 x1.Gone.b6,TV.int IntKind.u8 x1.Gone.b7,TV.int IntKind.u8 x1.Gone.b8,TV.int IntKind.u8 x1.Gone.b9,TV.int IntKind.u8 x1.Gone.b10,TV.int IntKind.u8 x1.Gone.b11,TV.int IntKind.u8 x1.Gone.b12,TV.int IntKind.u8 x1.Gone.b13,TV.int IntKind.u8 x1.Gone.b14,TV.int IntKind.u8 x1.Gone.b15,TV.int IntKind.i64 x1.jS,TV.int IntKind.u8 x1.ay.b0,TV.int IntKind.u8 x1.ay.b1,TV.int IntKind.u8 x1.ay.b2,TV.int IntKind.u8 x1.ay.b3,TV.int IntKind.u8 x1.ay.b4,TV.int IntKind.u8 x1.ay.b5,TV.int IntKind.u8 x1.ay.b6,TV.int IntKind.u8 x1.ay.b7,TV.int IntKind.u8 x1.ay.b8,TV.int IntKind.u8 x1.ay.b9,TV.int IntKind.u8 x1.ay.b10,TV.int IntKind.u8 x1.ay.b11,TV.int IntKind.u8 x1.ay.b12,TV.int IntKind.u8 x1.ay.b13,TV.int IntKind.u8 x1.ay.b14,TV.int IntKind.u8 x1.ay.b15,TV.int IntKind.i64 x1.jT,TV.int IntKind.i64 x1.iQ,TV.int IntKind.u8 x1.Seal.b0,TV.int IntKind.u8 x1.Seal.b1,TV.int IntKind.u8 x1.Seal.b2,TV.int IntKind.u8 x1.Seal.b3,TV.int IntKind.u8 x1.Seal.b4,TV.int IntKind.u8 x1.Seal.b5,TV.int IntKind.u8 x1.Seal.b6,TV.int IntKind.u8 x1.Seal.b7,TV.int IntKind.u8 x1.Seal.b8,TV.int IntKind.u8 x1.Seal.b9,TV.int IntKind.u8 x1.Seal.b10,TV.int IntKind.u8 x1.Seal.b11,TV.int IntKind.u8 x1.Seal.b12,TV.int IntKind.u8 x1.Seal.b13,TV.int IntKind.u8 x1.Seal.b14,TV.int IntKind.u8 x1.Seal.b15]))]⟩:MS R.T) (bZ Lv.loops 4).sh (bZ Lv.loops 4).outs (fun st k=>bR E R n false (Lu n) bL Lv ((bU Tryz.f54.body [1,1,1,0,1,0,0]).getD .skip) st k) m p
theorem YU (n:Nat) (x1:Root) (m:Nat) (x2:List Int) (x3:List aA) (x4:Int):Gs n x1 (m+1) (x2,(x3,x4))=
 bif decide (x4< (((x1.Marks.length:Nat):Int))) then
  (aQ x1.Marks x4).bind fun (r5:Mark)=>
  bif bX (x2.length+([r5.Count].length)) 8 then
   (aQ x1.Marks x4).bind fun (r6:Mark)=>
   (aQ x1.Marks x4).bind fun (r7:Mark)=>
   bif bX (x3.length+([r6.bA,r7.bn].length)) 16 then
    Gs n x1 m ((x2++[r5.Count],(x3++[r6.bA,r7.bn],IntKind.wrap IntKind.i64 (x4+(1:Int)))))
   else
    none
  else
   none
 else
  some ((x2,x3)):=by kernel_rfl
theorem akf (n:Nat) (x1:Root):CQ n x1=
 (Gs n x1 n (([x1.jR,x1.fC,x1.Day,x1.Floor,x1.jS,x1.jT,x1.iQ],([x1.au,x1.ak,x1.Gone,x1.ay],(0:Int))))).bind fun (r8:(List Int)×List aA)=>
 bif bX (r8.2.length+([(⟨x1.Seal.b0,x1.Seal.b1,x1.Seal.b2,x1.Seal.b3,x1.Seal.b4,x1.Seal.b5,x1.Seal.b6,x1.Seal.b7,x1.Seal.b8,x1.Seal.b9,x1.Seal.b10,x1.Seal.b11,x1.Seal.b12,x1.Seal.b13,x1.Seal.b14,x1.Seal.b15⟩:aA)].length)) 16 then
  (zn n r8.1).bind fun (r9:List Int)=>
  (CP n (r8.2++[(⟨x1.Seal.b0,x1.Seal.b1,x1.Seal.b2,x1.Seal.b3,x1.Seal.b4,x1.Seal.b5,x1.Seal.b6,x1.Seal.b7,x1.Seal.b8,x1.Seal.b9,x1.Seal.b10,x1.Seal.b11,x1.Seal.b12,x1.Seal.b13,x1.Seal.b14,x1.Seal.b15⟩:aA)])).bind fun (kS:List Int)=>
  bif bX (r9.length+kS.length) 1 then
   some (r9++kS)
  else
   none
 else
  none:=by kernel_rfl
noncomputable def Gt (n:Nat) (x1:Root) (x2:Root) (m:Nat) (p:Int):Option (PUnit⊕Bool):=
 gB (R:=R) 4 (aM ((bU Tryz.f15.body [1,1,0,1,0,0]).getD .skip)) (⟨[(2,TV.ref 2 0),(3,TV.ref 3 0)],[(2,Ob.ro (Ob.cells [TV.int IntKind.i64 x1.jR,TV.int IntKind.i64 x1.fC,TV.int IntKind.i64 x1.Day,TV.int IntKind.i64 x1.Floor,TV.int IntKind.u8 x1.au.b0,TV.int IntKind.u8 x1.au.b1,TV.int IntKind.u8 x1.au.b2,TV.int IntKind.u8 x1.au.b3,TV.int IntKind.u8 x1.au.b4,TV.int IntKind.u8 x1.au.b5,TV.int IntKind.u8 x1.au.b6,TV.int IntKind.u8 x1.au.b7,TV.int IntKind.u8 x1.au.b8,TV.int IntKind.u8 x1.au.b9,TV.int IntKind.u8 x1.au.b10,TV.int IntKind.u8 x1.au.b11,TV.int IntKind.u8 x1.au.b12,TV.int IntKind.u8 x1.au.b13,TV.int IntKind.u8 x1.au.b14,TV.int IntKind.u8 x1.au.b15,TV.int IntKind.u8 x1.ak.b0,TV.int IntKind.u8 x1.ak.b1,TV.int IntKind.u8 x1.ak.b2,TV.int IntKind.u8 x1.ak.b3,TV.int IntKind.u8 x1.ak.b4,TV.int IntKind.u8 x1.ak.b5,TV.int IntKind.u8 x1.ak.b6,TV.int IntKind.u8 x1.ak.b7,TV.int IntKind.u8 x1.ak.b8,TV.int IntKind.u8 x1.ak.b9,TV.int IntKind.u8 x1.ak.b10,TV.int IntKind.u8 x1.ak.b11,TV.int IntKind.u8 x1.ak.b12,TV.int IntKind.u8 x1.ak.b13,TV.int IntKind.u8 x1.ak.b14,TV.int IntKind.u8 x1.ak.b15,TV.aj (T:=R.T) Cp.sh (Ty.st 2) x1.Marks,TV.int IntKind.u8 x1.Gone.b0,TV.int IntKind.u8 x1.Gone.b1,TV.int IntKind.u8 x1.Gone.b2,TV.int IntKind.u8 x1.Gone.b3,TV.int IntKind.u8 x1.Gone.b4,TV.int IntKind.u8 x1.Gone.b5,TV.int IntKind.u8 x1.Gone.b6,TV.int IntKind.u8 x1.Gone.b7,TV.int IntKind.u8 x1.Gone.b8,TV.int IntKind.u8 x1.Gone.b9,TV.int IntKind.u8 x1.Gone.b10,TV.int IntKind.u8 x1.Gone.b11,TV.int IntKind.u8 x1.Gone.b12,TV.int IntKind.u8 x1.Gone.b13,TV.int IntKind.u8 x1.Gone.b14,TV.int IntKind.u8 x1.Gone.b15,TV.int IntKind.i64 x1.jS,TV.int IntKind.u8 x1.ay.b0,TV.int IntKind.u8 x1.ay.b1,TV.int IntKind.u8 x1.ay.b2,TV.int IntKind.u8 x1.ay.b3,TV.int IntKind.u8 x1.ay.b4,TV.int IntKind.u8 x1.ay.b5,TV.int IntKind.u8 x1.ay.b6,TV.int IntKind.u8 x1.ay.b7,TV.int IntKind.u8 x1.ay.b8,TV.int IntKind.u8 x1.ay.b9,TV.int IntKind.u8 x1.ay.b10,TV.int IntKind.u8 x1.ay.b11,TV.int IntKind.u8 x1.ay.b12,TV.int IntKind.u8 x1.ay.b13,TV.int IntKind.u8 x1.ay.b14,TV.int IntKind.u8 x1.ay.b15,TV.int IntKind.i64 x1.jT,TV.int IntKind.i64 x1.iQ,TV.int IntKind.u8 x1.Seal.b0,TV.int IntKind.u8 x1.Seal.b1,TV.int IntKind.u8 x1.Seal.b2,TV.int IntKind.u8 x1.Seal.b3,TV.int IntKind.u8 x1.Seal.b4,TV.int IntKind.u8 x1.Seal.b5,TV.int IntKind.u8 x1.Seal.b6,TV.int IntKind.u8 x1.Seal.b7,TV.int IntKind.u8 x1.Seal.b8,TV.int IntKind.u8 x1.Seal.b9,TV.int IntKind.u8 x1.Seal.b10,TV.int IntKind.u8 x1.Seal.b11,TV.int IntKind.u8 x1.Seal.b12,TV.int IntKind.u8 x1.Seal.b13,TV.int IntKind.u8 x1.Seal.b14,TV.int IntKind.u8 x1.Seal.b15])),(3,Ob.ro (Ob.cells [TV.int IntKind.i64 x2.jR,TV.int IntKind.i64 x2.fC,TV.int IntKind.i64 x2.Day,TV.int IntKind.i64 x2.Floor,TV.int IntKind.u8 x2.au.b0,TV.int IntKind.u8 x2.au.b1,TV.int IntKind.u8 x2.au.b2,TV.int IntKind.u8 x2.au.b3,TV.int IntKind.u8 x2.au.b4,TV.int IntKind.u8 x2.au.b5,TV.int IntKind.u8 x2.au.b6,TV.int IntKind.u8 x2.au.b7,TV.int IntKind.u8 x2.au.b8,TV.int IntKind.u8 x2.au.b9,TV.int IntKind.u8 x2.au.b10,TV.int IntKind.u8 x2.au.b11,TV.int IntKind.u8 x2.au.b12,TV.int IntKind.u8 x2.au.b13,TV.int IntKind.u8 x2.au.b14,TV.int IntKind.u8 x2.au.b15,TV.int IntKind.u8 x2.ak.b0,TV.int IntKind.u8 x2.ak.b1,TV.int IntKind.u8 x2.ak.b2,TV.int IntKind.u8 x2.ak.b3,TV.int IntKind.u8 x2.ak.b4,TV.int IntKind.u8 x2.ak.b5,TV.int IntKind.u8 x2.ak.b6,TV.int IntKind.u8 x2.ak.b7,TV.int IntKind.u8 x2.ak.b8,TV.int IntKind.u8 x2.ak.b9,TV.int IntKind.u8 x2.ak.b10,TV.int IntKind.u8 x2.ak.b11,TV.int IntKind.u8 x2.ak.b12,TV.int IntKind.u8 x2.ak.b13,TV.int IntKind.u8 x2.ak.b14,TV.int IntKind.u8 x2.ak.b15,TV.aj (T:=R.T) Cp.sh (Ty.st 2) x2.Marks,TV.int IntKind.u8 x2.Gone.b0,TV.int IntKind.u8 x2.Gone.b1,TV.int IntKind.u8 x2.Gone.b2,TV.int IntKind.u8 x2.Gone.b3,TV.int IntKind.u8 x2.Gone.b4,TV.int IntKind.u8 x2.Gone.b5,TV.int IntKind.u8 x2.Gone.b6,TV.int IntKind.u8 x2.Gone.b7,TV.int IntKind.u8 x2.Gone.b8,TV.int IntKind.u8 x2.Gone.b9,TV.int IntKind.u8 x2.Gone.b10,TV.int IntKind.u8 x2.Gone.b11,TV.int IntKind.u8 x2.Gone.b12,TV.int IntKind.u8 x2.Gone.b13,TV.int IntKind.u8 x2.Gone.b14,TV.int IntKind.u8 x2.Gone.b15,TV.int IntKind.i64 x2.jS,TV.int IntKind.u8 x2.ay.b0,TV.int IntKind.u8 x2.ay.b1,TV.int IntKind.u8 x2.ay.b2,TV.int IntKind.u8 x2.ay.b3,TV.int IntKind.u8 x2.ay.b4,TV.int IntKind.u8 x2.ay.b5,TV.int IntKind.u8 x2.ay.b6,TV.int IntKind.u8 x2.ay.b7,TV.int IntKind.u8 x2.ay.b8,TV.int IntKind.u8 x2.ay.b9,TV.int IntKind.u8 x2.ay.b10,TV.int IntKind.u8 x2.ay.b11,TV.int IntKind.u8 x2.ay.b12,TV.int IntKind.u8 x2.ay.b13,TV.int IntKind.u8 x2.ay.b14,TV.int IntKind.u8 x2.ay.b15,TV.int IntKind.i64 x2.jT,TV.int IntKind.i64 x2.iQ,TV.int IntKind.u8 x2.Seal.b0,TV.int IntKind.u8 x2.Seal.b1,TV.int IntKind.u8 x2.Seal.b2,TV.int IntKind.u8 x2.Seal.b3,TV.int IntKind.u8 x2.Seal.b4,TV.int IntKind.u8 x2.Seal.b5,TV.int IntKind.u8 x2.Seal.b6,TV.int IntKind.u8 x2.Seal.b7,TV.int IntKind.u8 x2.Seal.b8,TV.int IntKind.u8 x2.Seal.b9,TV.int IntKind.u8 x2.Seal.b10,TV.int IntKind.u8 x2.Seal.b11,TV.int IntKind.u8 x2.Seal.b12,TV.int IntKind.u8 x2.Seal.b13,TV.int IntKind.u8 x2.Seal.b14,TV.int IntKind.u8 x2.Seal.b15]))]⟩:MS R.T) (bZ LB.loops 4).sh (bZ LB.loops 4).outs (fun st k=>bR E R n false (LA n) bL LB ((bU Tryz.f15.body [1,1,0,1,0,0]).getD .skip) st k) m p
theorem YV (n:Nat) (x1:Root) (x2:Root) (m:Nat) (x3:Int):Gt n x1 x2 (m+1) x3=
 bif decide (x3< (((x1.Marks.length:Nat):Int))) then
  (aQ x1.Marks x3).bind fun (r4:Mark)=>
  (aQ x2.Marks x3).bind fun (r5:Mark)=>
  bif !(((r4.bA.b0==r5.bA.b0)&& ((r4.bA.b1==r5.bA.b1)&& ((r4.bA.b2==r5.bA.b2)&& ((r4.bA.b3==r5.bA.b3)&& ((r4.bA.b4==r5.bA.b4)&& ((r4.bA.b5==r5.bA.b5)&& ((r4.bA.b6==r5.bA.b6)&& ((r4.bA.b7==r5.bA.b7)&& ((r4.bA.b8==r5.bA.b8)&& ((r4.bA.b9==r5.bA.b9)&& ((r4.bA.b10==r5.bA.b10)&& ((r4.bA.b11==r5.bA.b11)&& ((r4.bA.b12==r5.bA.b12)&& ((r4.bA.b13==r5.bA.b13)&& ((r4.bA.b14==r5.bA.b14)&& ((r4.bA.b15==r5.bA.b15)&& true))))))))))))))))&& (((r4.bn.b0==r5.bn.b0)&& ((r4.bn.b1==r5.bn.b1)&& ((r4.bn.b2==r5.bn.b2)&& ((r4.bn.b3==r5.bn.b3)&& ((r4.bn.b4==r5.bn.b4)&& ((r4.bn.b5==r5.bn.b5)&& ((r4.bn.b6==r5.bn.b6)&& ((r4.bn.b7==r5.bn.b7)&& ((r4.bn.b8==r5.bn.b8)&& ((r4.bn.b9==r5.bn.b9)&& ((r4.bn.b10==r5.bn.b10)&& ((r4.bn.b11==r5.bn.b11)&& ((r4.bn.b12==r5.bn.b12)&& ((r4.bn.b13==r5.bn.b13)&& ((r4.bn.b14==r5.bn.b14)&& ((r4.bn.b15==r5.bn.b15)&& true))))))))))))))))&& ((r4.Count==r5.Count)&& true))) then
   some (.inr false)
  else
   Gt n x1 x2 m (IntKind.wrap IntKind.i64 (x3+(1:Int)))
 else
  some (.inl (())):=by kernel_rfl
theorem akg (n:Nat) (x1:Root) (x2:Root):zo n (x1,x2)=
 bif (((x1.Marks.length:Nat):Int)) !=(((x2.Marks.length:Nat):Int)) then
  some false
 else
  (Gt n x1 x2 n (0:Int)).bind fun (r6:PUnit⊕Bool)=>
  Sum.elim (fun (q7:PUnit)=>
   bif bif bif bif bif bif x1.jR !=x2.jR then true else x1.fC !=x2.fC then true else x1.Day !=x2.Day then true else x1.Floor !=x2.Floor then true else !((x1.au.b0==x2.au.b0)&& ((x1.au.b1==x2.au.b1)&& ((x1.au.b2==x2.au.b2)&& ((x1.au.b3==x2.au.b3)&& ((x1.au.b4==x2.au.b4)&& ((x1.au.b5==x2.au.b5)&& ((x1.au.b6==x2.au.b6)&& ((x1.au.b7==x2.au.b7)&& ((x1.au.b8==x2.au.b8)&& ((x1.au.b9==x2.au.b9)&& ((x1.au.b10==x2.au.b10)&& ((x1.au.b11==x2.au.b11)&& ((x1.au.b12==x2.au.b12)&& ((x1.au.b13==x2.au.b13)&& ((x1.au.b14==x2.au.b14)&& ((x1.au.b15==x2.au.b15)&& true)))))))))))))))) then true else !((x1.ak.b0==x2.ak.b0)&& ((x1.ak.b1==x2.ak.b1)&& ((x1.ak.b2==x2.ak.b2)&& ((x1.ak.b3==x2.ak.b3)&& ((x1.ak.b4==x2.ak.b4)&& ((x1.ak.b5==x2.ak.b5)&& ((x1.ak.b6==x2.ak.b6)&& ((x1.ak.b7==x2.ak.b7)&& ((x1.ak.b8==x2.ak.b8)&& ((x1.ak.b9==x2.ak.b9)&& ((x1.ak.b10==x2.ak.b10)&& ((x1.ak.b11==x2.ak.b11)&& ((x1.ak.b12==x2.ak.b12)&& ((x1.ak.b13==x2.ak.b13)&& ((x1.ak.b14==x2.ak.b14)&& ((x1.ak.b15==x2.ak.b15)&& true)))))))))))))))) then
    some false
   else
    some (bif bif bif bif bif (x1.Gone.b0==x2.Gone.b0)&& ((x1.Gone.b1==x2.Gone.b1)&& ((x1.Gone.b2==x2.Gone.b2)&& ((x1.Gone.b3==x2.Gone.b3)&& ((x1.Gone.b4==x2.Gone.b4)&& ((x1.Gone.b5==x2.Gone.b5)&& ((x1.Gone.b6==x2.Gone.b6)&& ((x1.Gone.b7==x2.Gone.b7)&& ((x1.Gone.b8==x2.Gone.b8)&& ((x1.Gone.b9==x2.Gone.b9)&& ((x1.Gone.b10==x2.Gone.b10)&& ((x1.Gone.b11==x2.Gone.b11)&& ((x1.Gone.b12==x2.Gone.b12)&& ((x1.Gone.b13==x2.Gone.b13)&& ((x1.Gone.b14==x2.Gone.b14)&& ((x1.Gone.b15==x2.Gone.b15)&& true))))))))))))))) then x1.jS==x2.jS else false then (x1.ay.b0==x2.ay.b0)&& ((x1.ay.b1==x2.ay.b1)&& ((x1.ay.b2==x2.ay.b2)&& ((x1.ay.b3==x2.ay.b3)&& ((x1.ay.b4==x2.ay.b4)&& ((x1.ay.b5==x2.ay.b5)&& ((x1.ay.b6==x2.ay.b6)&& ((x1.ay.b7==x2.ay.b7)&& ((x1.ay.b8==x2.ay.b8)&& ((x1.ay.b9==x2.ay.b9)&& ((x1.ay.b10==x2.ay.b10)&& ((x1.ay.b11==x2.ay.b11)&& ((x1.ay.b12==x2.ay.b12)&& ((x1.ay.b13==x2.ay.b13)&& ((x1.ay.b14==x2.ay.b14)&& ((x1.ay.b15==x2.ay.b15)&& true))))))))))))))) else false then x1.jT==x2.jT else false then x1.iQ==x2.iQ else false then (x1.Seal.b0==x2.Seal.b0)&& ((x1.Seal.b1==x2.Seal.b1)&& ((x1.Seal.b2==x2.Seal.b2)&& ((x1.Seal.b3==x2.Seal.b3)&& ((x1.Seal.b4==x2.Seal.b4)&& ((x1.Seal.b5==x2.Seal.b5)&& ((x1.Seal.b6==x2.Seal.b6)&& ((x1.Seal.b7==x2.Seal.b7)&& ((x1.Seal.b8==x2.Seal.b8)&& ((x1.Seal.b9==x2.Seal.b9)&& ((x1.Seal.b10==x2.Seal.b10)&& ((x1.Seal.b11==x2.Seal.b11)&& ((x1.Seal.b12==x2.Seal.b12)&& ((x1.Seal.b13==x2.Seal.b13)&& ((x1.Seal.b14==x2.Seal.b14)&& ((x1.Seal.b15==x2.Seal.b15)&& true))))))))))))))) else false))
   (fun (q8:Bool)=>
    some q8) r6:=by kernel_rfl
theorem akh (n:Nat) (x1:Root) (x2:List Int):LD n (x1,x2)=
 (Fv n x1).bind fun (r3:Bool)=>
 bif bif !r3 then true else decide ((((x2.length:Nat):Int))> (3000:Int)) then
  (yX n (())).bind fun (r4:Bool)=>
  some r4
 else
  (za n x1).bind fun (r5:List Int)=>
  (zi n r5).bind fun (r6:Root×Int)=>
  (zi n x2).bind fun (r7:Root×Int)=>
  (CJ n x2).bind fun (r8:dR)=>
  (CQ n x1).bind fun (r9:List Int)=>
  bif !(!((List.map (fun n:Int=>UInt8.ofNat n.toNat) r5)==(List.map (fun n:Int=>UInt8.ofNat n.toNat) r9))) then
   bif !(r6.2 !=(0:Int)) then
    (zo n ((r6.1,x1))).bind fun (kS:Bool)=>
    bif !(!kS) then
     (zo n ((r7.1,r8.R))).bind fun (eD:Bool)=>
     bif !(!eD) then
      bif r7.2 !=r8.E then
       some false
      else
       (yX n (())).bind fun (dS:Bool)=>
       bif dS then
        bif !(r7.2 !=(0:Int)) then
         (za n r7.1).bind fun (dn:List Int)=>
         some ((List.map (fun n:Int=>UInt8.ofNat n.toNat) dn)==(List.map (fun n:Int=>UInt8.ofNat n.toNat) x2))
        else
         some true
       else
        some false
     else
      some false
    else
     some false
   else
    some false
  else
   some false:=by kernel_rfl
attribute [irreducible] CS Gf Gg Gh Gi CU zq Gn CV Gp CX zx CY Gq Gr Gs Gt
end Sh
