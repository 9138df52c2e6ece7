/- Part of the proof of a law. -/
import Derived.Test.YtdcnajadcbedkaaGreatDoorS723
set_option linter.all false
set_option linter.unusedSimpArgs false
set_option linter.unusedSectionVars false
open Go Go.Proofs Aq
namespace Sh
set_option maxRecDepth 100000
set_option linter.unusedVariables false
theorem ajs (n:Nat) (x1:Int):Bf n x1=
 some ((⟨IntKind.wrap IntKind.i64 ((1073741824:Int)+x1),(1:Int),[(107:UInt8)],(0:Int),(1048577:Int)⟩:Key)):=by kernel_rfl
theorem ajt (n:Nat) (x1:Root):Es n x1=
 some (((),(x1.bN,(x1.aY,(x1.Day,(x1.Floor,(x1.ay.b0,(x1.ay.b1,(x1.ay.b2,(x1.ay.b3,(x1.ay.b4,(x1.ay.b5,(x1.ay.b6,(x1.ay.b7,(x1.ay.b8,(x1.ay.b9,(x1.ay.b10,(x1.ay.b11,(x1.ay.b12,(x1.ay.b13,(x1.ay.b14,(x1.ay.b15,(x1.ak.b0,(x1.ak.b1,(x1.ak.b2,(x1.ak.b3,(x1.ak.b4,(x1.ak.b5,(x1.ak.b6,(x1.ak.b7,(x1.ak.b8,(x1.ak.b9,(x1.ak.b10,(x1.ak.b11,(x1.ak.b12,(x1.ak.b13,(x1.ak.b14,(x1.ak.b15,(x1.Marks,(x1.Gone.b0,(x1.Gone.b1,(x1.Gone.b2,(x1.Gone.b3,(x1.Gone.b4,(x1.Gone.b5,(x1.Gone.b6,(x1.Gone.b7,(x1.Gone.b8,(x1.Gone.b9,(x1.Gone.b10,(x1.Gone.b11,(x1.Gone.b12,(x1.Gone.b13,(x1.Gone.b14,(x1.Gone.b15,(x1.dS,(x1.aC.b0,(x1.aC.b1,(x1.aC.b2,(x1.aC.b3,(x1.aC.b4,(x1.aC.b5,(x1.aC.b6,(x1.aC.b7,(x1.aC.b8,(x1.aC.b9,(x1.aC.b10,(x1.aC.b11,(x1.aC.b12,(x1.aC.b13,(x1.aC.b14,(x1.aC.b15,(x1.dU,(x1.bJ,(x1.Seal.b0,(x1.Seal.b1,(x1.Seal.b2,(x1.Seal.b3,(x1.Seal.b4,(x1.Seal.b5,(x1.Seal.b6,(x1.Seal.b7,(x1.Seal.b8,(x1.Seal.b9,(x1.Seal.b10,(x1.Seal.b11,(x1.Seal.b12,(x1.Seal.b13,(x1.Seal.b14,x1.Seal.b15))))))))))))))))))))))))))))))))))))))))))))))))))))))))))))))))))))))))))))))))))))))))):=by kernel_rfl
noncomputable def Bv (n:Nat) (x1:Root) (m:Nat) (p:(List Int)×Int):Option (List Int):=
 iO (R:=R) 3 (aN ((dF Tryz.f18.body [1,1,0,1,0,0]).getD .skip)) (⟨[(1,TV.ref 1 0),(2,TV.ref 2 0),(22,TV.aj (T:=R.T) Cp.sh (Ty.st 2) x1.Marks),(23,TV.int IntKind.i64 (((x1.Marks.length:Nat):Int)))],[(1,Ob.ro (Ob.cells [TV.int IntKind.i64 x1.bN,TV.int IntKind.i64 x1.aY,TV.int IntKind.i64 x1.Day,TV.int IntKind.i64 x1.Floor,TV.int IntKind.u8 x1.ay.b0,TV.int IntKind.u8 x1.ay.b1,TV.int IntKind.u8 x1.ay.b2,TV.int IntKind.u8 x1.ay.b3,TV.int IntKind.u8 x1.ay.b4,TV.int IntKind.u8 x1.ay.b5,TV.int IntKind.u8 x1.ay.b6,TV.int IntKind.u8 x1.ay.b7,TV.int IntKind.u8 x1.ay.b8,TV.int IntKind.u8 x1.ay.b9,TV.int IntKind.u8 x1.ay.b10,TV.int IntKind.u8 x1.ay.b11,TV.int IntKind.u8 x1.ay.b12,TV.int IntKind.u8 x1.ay.b13,TV.int IntKind.u8 x1.ay.b14,TV.int IntKind.u8 x1.ay.b15,TV.int IntKind.u8 x1.ak.b0,TV.int IntKind.u8 x1.ak.b1,TV.int IntKind.u8 x1.ak.b2,TV.int IntKind.u8 x1.ak.b3,TV.int IntKind.u8 x1.ak.b4,TV.int IntKind.u8 x1.ak.b5,TV.int IntKind.u8 x1.ak.b6,TV.int IntKind.u8 x1.ak.b7,TV.int IntKind.u8 x1.ak.b8,TV.int IntKind.u8 x1.ak.b9,TV.int IntKind.u8 x1.ak.b10,TV.int IntKind.u8 x1.ak.b11,TV.int IntKind.u8 x1.ak.b12,TV.int IntKind.u8 x1.ak.b13,TV.int IntKind.u8 x1.ak.b14,TV.int IntKind.u8 x1.ak.b15,TV.aj (T:=R.T) Cp.sh (Ty.st 2) x1.Marks,TV.int IntKind.u8 x1.Gone.b0,TV.int IntKind.u8 x1.Gone.b1,TV.int IntKind.u8 x1.Gone.b2,TV.int IntKind.u8 x1.Gone.b3,TV.int IntKind.u8 x1.Gone.b4,TV.int IntKind.u8 x1.Gone.b5,TV.int IntKind.u8 x1.Gone.b6,TV.int IntKind.u8 x1.Gone.b7,TV.int IntKind.u8 x1.Gone.b8,TV.int IntKind.u8 x1.Gone.b9,TV.int IntKind.u8 x1.Gone.b10,TV.int IntKind.u8 x1.Gone.b11,TV.int IntKind.u8 x1.Gone.b12,TV.int IntKind.u8 x1.Gone.b13,TV.int IntKind.u8 x1.Gone.b14,TV.int IntKind.u8 x1.Gone.b15,TV.int IntKind.i64 x1.dS,TV.int IntKind.u8 x1.aC.b0,TV.int IntKind.u8 x1.aC.b1,TV.int IntKind.u8 x1.aC.b2,TV.int IntKind.u8 x1.aC.b3,TV.int IntKind.u8 x1.aC.b4,TV.int IntKind.u8 x1.aC.b5,TV.int IntKind.u8 x1.aC.b6,TV.int IntKind.u8 x1.aC.b7,TV.int IntKind.u8 x1.aC.b8,TV.int IntKind.u8 x1.aC.b9,TV.int IntKind.u8 x1.aC.b10,TV.int IntKind.u8 x1.aC.b11,TV.int IntKind.u8 x1.aC.b12,TV.int IntKind.u8 x1.aC.b13,TV.int IntKind.u8 x1.aC.b14,TV.int IntKind.u8 x1.aC.b15,TV.int IntKind.i64 x1.dU,TV.int IntKind.i64 x1.bJ,TV.int IntKind.u8 x1.Seal.b0,TV.int IntKind.u8 x1.Seal.b1,TV.int IntKind.u8 x1.Seal.b2,TV.int IntKind.u8 x1.Seal.b3,TV.int IntKind.u8 x1.Seal.b4,TV.int IntKind.u8 x1.Seal.b5,TV.int IntKind.u8 x1.Seal.b6,TV.int IntKind.u8 x1.Seal.b7,TV.int IntKind.u8 x1.Seal.b8,TV.int IntKind.u8 x1.Seal.b9,TV.int IntKind.u8 x1.Seal.b10,TV.int IntKind.u8 x1.Seal.b11,TV.int IntKind.u8 x1.Seal.b12,TV.int IntKind.u8 x1.Seal.b13,TV.int IntKind.u8 x1.Seal.b14,TV.int IntKind.u8 x1.Seal.b15])),(2,Ob.ro (Ob.cells [TV.int IntKind.u8 (0:Int),TV.int IntKind.u8 (0:Int),TV.int IntKind.u8 (0:Int),TV.int IntKind.u8 (0:Int),TV.int IntKind.u8 (0:Int),TV.int IntKind.u8 (0:Int),TV.int IntKind.u8 (0:Int),TV.int IntKind.u8 (0:Int),TV.int IntKind.u8 (0:Int),TV.int IntKind.u8 (0:Int),TV.int IntKind.u8 (0:Int),TV.int IntKind.u8 (0:Int),TV.int IntKind.u8 (0:Int),TV.int IntKind.u8 (0:Int),TV.int IntKind.u8 (0:Int),TV.int IntKind.u8 (0:Int)]))]⟩:MS R.T) (dO yh.loops 3).sh (dO yh.loops 3).outs (fun st k=>bS E R n false (Et n) bG yh ((dF Tryz.f18.body [1,1,0,1,0,0]).getD .skip) st k) m p
noncomputable def Bw (n:Nat) (xs:List aJ) (p:PUnit×List (List UInt8)):Option (PUnit×List (List UInt8)):=
 zU (R:=R) (X:=aH R.T OL) 10 (wrR (dF Tryz.f18.body [1,1,1,1,0,1,0])) (⟨[(2,TV.ref 2 0),(6,TV.ref 6 0)],[(2,Ob.ro (Ob.cells [TV.int IntKind.u8 (0:Int),TV.int IntKind.u8 (0:Int),TV.int IntKind.u8 (0:Int),TV.int IntKind.u8 (0:Int),TV.int IntKind.u8 (0:Int),TV.int IntKind.u8 (0:Int),TV.int IntKind.u8 (0:Int),TV.int IntKind.u8 (0:Int),TV.int IntKind.u8 (0:Int),TV.int IntKind.u8 (0:Int),TV.int IntKind.u8 (0:Int),TV.int IntKind.u8 (0:Int),TV.int IntKind.u8 (0:Int),TV.int IntKind.u8 (0:Int),TV.int IntKind.u8 (0:Int),TV.int IntKind.u8 (0:Int)]))]⟩:MS R.T) (dO yh.loops 10).sh (dO yh.loops 10).outs (afl E R n false (Et n) bG yh (dF Tryz.f18.body [1,1,1,1,0,1,0]) OL) xs p
theorem Ye (n:Nat) (x1:Root) (m:Nat) (x2:List Int) (x3:Int):Bv n x1 (m+1) (x2,x3)=
 bif decide (x3< (((x1.Marks.length:Nat):Int))) then
  (dx x1.Marks x3).bind fun (r4:Mark)=>
  bif eD (x2.length+([r4.Count].length)) 8 then
   Bv n x1 m ((x2++[r4.Count],IntKind.wrap IntKind.i64 (x3+(1:Int))))
  else
   none
 else
  some x2:=by kernel_rfl
theorem aju (n:Nat) (x9:List (List UInt8)):Bw n [] ((),x9)=
 some (((),x9)):=by kernel_rfl
theorem ajv (n:Nat) (x10:aJ) (xs:List aJ) (oq:List (List UInt8)):Bw n (x10::xs) ((),oq)=
 bif eD (oq.length+(([List.map (fun n:Int=>UInt8.ofNat n.toNat) [x10.b0,x10.b1,x10.b2,x10.b3,x10.b4,x10.b5,x10.b6,x10.b7,x10.b8,x10.b9,x10.b10,x10.b11,x10.b12,x10.b13,x10.b14,x10.b15]]).length)) 16 then
  Bw n xs (((),oq++([List.map (fun n:Int=>UInt8.ofNat n.toNat) [x10.b0,x10.b1,x10.b2,x10.b3,x10.b4,x10.b5,x10.b6,x10.b7,x10.b8,x10.b9,x10.b10,x10.b11,x10.b12,x10.b13,x10.b14,x10.b15]])))
 else
  none:=by kernel_rfl
theorem ajw (n:Nat) (x1:Root):qp n x1=
 (Bv n x1 n (([x1.bN,x1.aY,x1.Day,x1.Floor,x1.dS,x1.dU],(0:Int)))).bind fun (r5:List Int)=>
 (AU n r5).bind fun (r6:List Int)=>
 (Es n x1).bind fun (r7:PUnit×Int×Int×Int×Int×Int×Int×Int×Int×Int×Int×Int×Int×Int×Int×Int×Int×Int×Int×Int×Int×Int×Int×Int×Int×Int×Int×Int×Int×Int×Int×Int×Int×Int×Int×Int×Int×(List Mark)×Int×Int×Int×Int×Int×Int×Int×Int×Int×Int×Int×Int×Int×Int×Int×Int×Int×Int×Int×Int×Int×Int×Int×Int×Int×Int×Int×Int×Int×Int×Int×Int×Int×Int×Int×Int×Int×Int×Int×Int×Int×Int×Int×Int×Int×Int×Int×Int×Int×Int×Int)=>
 ((DU ((⟨r7.2.1,r7.2.2.1,r7.2.2.2.1,r7.2.2.2.2.1,(⟨r7.2.2.2.2.2.1,r7.2.2.2.2.2.2.1,r7.2.2.2.2.2.2.2.1,r7.2.2.2.2.2.2.2.2.1,r7.2.2.2.2.2.2.2.2.2.1,r7.2.2.2.2.2.2.2.2.2.2.1,r7.2.2.2.2.2.2.2.2.2.2.2.1,r7.2.2.2.2.2.2.2.2.2.2.2.2.1,r7.2.2.2.2.2.2.2.2.2.2.2.2.2.1,r7.2.2.2.2.2.2.2.2.2.2.2.2.2.2.1,r7.2.2.2.2.2.2.2.2.2.2.2.2.2.2.2.1,r7.2.2.2.2.2.2.2.2.2.2.2.2.2.2.2.2.1,r7.2.2.2.2.2.2.2.2.2.2.2.2.2.2.2.2.2.1,r7.2.2.2.2.2.2.2.2.2.2.2.2.2.2.2.2.2.2.1,r7.2.2.2.2.2.2.2.2.2.2.2.2.2.2.2.2.2.2.2.1,r7.2.2.2.2.2.2.2.2.2.2.2.2.2.2.2.2.2.2.2.2.1⟩:aJ),(⟨r7.2.2.2.2.2.2.2.2.2.2.2.2.2.2.2.2.2.2.2.2.2.1,r7.2.2.2.2.2.2.2.2.2.2.2.2.2.2.2.2.2.2.2.2.2.2.1,r7.2.2.2.2.2.2.2.2.2.2.2.2.2.2.2.2.2.2.2.2.2.2.2.1,r7.2.2.2.2.2.2.2.2.2.2.2.2.2.2.2.2.2.2.2.2.2.2.2.2.1,r7.2.2.2.2.2.2.2.2.2.2.2.2.2.2.2.2.2.2.2.2.2.2.2.2.2.1,r7.2.2.2.2.2.2.2.2.2.2.2.2.2.2.2.2.2.2.2.2.2.2.2.2.2.2.1,r7.2.2.2.2.2.2.2.2.2.2.2.2.2.2.2.2.2.2.2.2.2.2.2.2.2.2.2.1,r7.2.2.2.2.2.2.2.2.2.2.2.2.2.2.2.2.2.2.2.2.2.2.2.2.2.2.2.2.1,r7.2.2.2.2.2.2.2.2.2.2.2.2.2.2.2.2.2.2.2.2.2.2.2.2.2.2.2.2.2.1,r7.2.2.2.2.2.2.2.2.2.2.2.2.2.2.2.2.2.2.2.2.2.2.2.2.2.2.2.2.2.2.1,r7.2.2.2.2.2.2.2.2.2.2.2.2.2.2.2.2.2.2.2.2.2.2.2.2.2.2.2.2.2.2.2.1,r7.2.2.2.2.2.2.2.2.2.2.2.2.2.2.2.2.2.2.2.2.2.2.2.2.2.2.2.2.2.2.2.2.1,r7.2.2.2.2.2.2.2.2.2.2.2.2.2.2.2.2.2.2.2.2.2.2.2.2.2.2.2.2.2.2.2.2.2.1,r7.2.2.2.2.2.2.2.2.2.2.2.2.2.2.2.2.2.2.2.2.2.2.2.2.2.2.2.2.2.2.2.2.2.2.1,r7.2.2.2.2.2.2.2.2.2.2.2.2.2.2.2.2.2.2.2.2.2.2.2.2.2.2.2.2.2.2.2.2.2.2.2.1,r7.2.2.2.2.2.2.2.2.2.2.2.2.2.2.2.2.2.2.2.2.2.2.2.2.2.2.2.2.2.2.2.2.2.2.2.2.1⟩:aJ),r7.2.2.2.2.2.2.2.2.2.2.2.2.2.2.2.2.2.2.2.2.2.2.2.2.2.2.2.2.2.2.2.2.2.2.2.2.2.1,(⟨r7.2.2.2.2.2.2.2.2.2.2.2.2.2.2.2.2.2.2.2.2.2.2.2.2.2.2.2.2.2.2.2.2.2.2.2.2.2.2.1,r7.2.2.2.2.2.2.2.2.2.2.2.2.2.2.2.2.2.2.2.2.2.2.2.2.2.2.2.2.2.2.2.2.2.2.2.2.2.2.2.1,r7.2.2.2.2.2.2.2.2.2.2.2.2.2.2.2.2.2.2.2.2.2.2.2.2.2.2.2.2.2.2.2.2.2.2.2.2.2.2.2.2.1,r7.2.2.2.2.2.2.2.2.2.2.2.2.2.2.2.2.2.2.2.2.2.2.2.2.2.2.2.2.2.2.2.2.2.2.2.2.2.2.2.2.2.1,r7.2.2.2.2.2.2.2.2.2.2.2.2.2.2.2.2.2.2.2.2.2.2.2.2.2.2.2.2.2.2.2.2.2.2.2.2.2.2.2.2.2.2.1,r7.2.2.2.2.2.2.2.2.2.2.2.2.2.2.2.2.2.2.2.2.2.2.2.2.2.2.2.2.2.2.2.2.2.2.2.2.2.2.2.2.2.2.2.1,r7.2.2.2.2.2.2.2.2.2.2.2.2.2.2.2.2.2.2.2.2.2.2.2.2.2.2.2.2.2.2.2.2.2.2.2.2.2.2.2.2.2.2.2.2.1,r7.2.2.2.2.2.2.2.2.2.2.2.2.2.2.2.2.2.2.2.2.2.2.2.2.2.2.2.2.2.2.2.2.2.2.2.2.2.2.2.2.2.2.2.2.2.1,r7.2.2.2.2.2.2.2.2.2.2.2.2.2.2.2.2.2.2.2.2.2.2.2.2.2.2.2.2.2.2.2.2.2.2.2.2.2.2.2.2.2.2.2.2.2.2.1,r7.2.2.2.2.2.2.2.2.2.2.2.2.2.2.2.2.2.2.2.2.2.2.2.2.2.2.2.2.2.2.2.2.2.2.2.2.2.2.2.2.2.2.2.2.2.2.2.1,r7.2.2.2.2.2.2.2.2.2.2.2.2.2.2.2.2.2.2.2.2.2.2.2.2.2.2.2.2.2.2.2.2.2.2.2.2.2.2.2.2.2.2.2.2.2.2.2.2.1,r7.2.2.2.2.2.2.2.2.2.2.2.2.2.2.2.2.2.2.2.2.2.2.2.2.2.2.2.2.2.2.2.2.2.2.2.2.2.2.2.2.2.2.2.2.2.2.2.2.2.1,r7.2.2.2.2.2.2.2.2.2.2.2.2.2.2.2.2.2.2.2.2.2.2.2.2.2.2.2.2.2.2.2.2.2.2.2.2.2.2.2.2.2.2.2.2.2.2.2.2.2.2.1,r7.2.2.2.2.2.2.2.2.2.2.2.2.2.2.2.2.2.2.2.2.2.2.2.2.2.2.2.2.2.2.2.2.2.2.2.2.2.2.2.2.2.2.2.2.2.2.2.2.2.2.2.1,r7.2.2.2.2.2.2.2.2.2.2.2.2.2.2.2.2.2.2.2.2.2.2.2.2.2.2.2.2.2.2.2.2.2.2.2.2.2.2.2.2.2.2.2.2.2.2.2.2.2.2.2.2.1,r7.2.2.2.2.2.2.2.2.2.2.2.2.2.2.2.2.2.2.2.2.2.2.2.2.2.2.2.2.2.2.2.2.2.2.2.2.2.2.2.2.2.2.2.2.2.2.2.2.2.2.2.2.2.1⟩:aJ),r7.2.2.2.2.2.2.2.2.2.2.2.2.2.2.2.2.2.2.2.2.2.2.2.2.2.2.2.2.2.2.2.2.2.2.2.2.2.2.2.2.2.2.2.2.2.2.2.2.2.2.2.2.2.2.1,(⟨r7.2.2.2.2.2.2.2.2.2.2.2.2.2.2.2.2.2.2.2.2.2.2.2.2.2.2.2.2.2.2.2.2.2.2.2.2.2.2.2.2.2.2.2.2.2.2.2.2.2.2.2.2.2.2.2.1,r7.2.2.2.2.2.2.2.2.2.2.2.2.2.2.2.2.2.2.2.2.2.2.2.2.2.2.2.2.2.2.2.2.2.2.2.2.2.2.2.2.2.2.2.2.2.2.2.2.2.2.2.2.2.2.2.2.1,r7.2.2.2.2.2.2.2.2.2.2.2.2.2.2.2.2.2.2.2.2.2.2.2.2.2.2.2.2.2.2.2.2.2.2.2.2.2.2.2.2.2.2.2.2.2.2.2.2.2.2.2.2.2.2.2.2.2.1,r7.2.2.2.2.2.2.2.2.2.2.2.2.2.2.2.2.2.2.2.2.2.2.2.2.2.2.2.2.2.2.2.2.2.2.2.2.2.2.2.2.2.2.2.2.2.2.2.2.2.2.2.2.2.2.2.2.2.2.1,r7.2.2.2.2.2.2.2.2.2.2.2.2.2.2.2.2.2.2.2.2.2.2.2.2.2.2.2.2.2.2.2.2.2.2.2.2.2.2.2.2.2.2.2.2.2.2.2.2.2.2.2.2.2.2.2.2.2.2.2.1,r7.2.2.2.2.2.2.2.2.2.2.2.2.2.2.2.2.2.2.2.2.2.2.2.2.2.2.2.2.2.2.2.2.2.2.2.2.2.2.2.2.2.2.2.2.2.2.2.2.2.2.2.2.2.2.2.2.2.2.2.2.1,r7.2.2.2.2.2.2.2.2.2.2.2.2.2.2.2.2.2.2.2.2.2.2.2.2.2.2.2.2.2.2.2.2.2.2.2.2.2.2.2.2.2.2.2.2.2.2.2.2.2.2.2.2.2.2.2.2.2.2.2.2.2.1,r7.2.2.2.2.2.2.2.2.2.2.2.2.2.2.2.2.2.2.2.2.2.2.2.2.2.2.2.2.2.2.2.2.2.2.2.2.2.2.2.2.2.2.2.2.2.2.2.2.2.2.2.2.2.2.2.2.2.2.2.2.2.2.1,r7.2.2.2.2.2.2.2.2.2.2.2.2.2.2.2.2.2.2.2.2.2.2.2.2.2.2.2.2.2.2.2.2.2.2.2.2.2.2.2.2.2.2.2.2.2.2.2.2.2.2.2.2.2.2.2.2.2.2.2.2.2.2.2.1,r7.2.2.2.2.2.2.2.2.2.2.2.2.2.2.2.2.2.2.2.2.2.2.2.2.2.2.2.2.2.2.2.2.2.2.2.2.2.2.2.2.2.2.2.2.2.2.2.2.2.2.2.2.2.2.2.2.2.2.2.2.2.2.2.2.1,r7.2.2.2.2.2.2.2.2.2.2.2.2.2.2.2.2.2.2.2.2.2.2.2.2.2.2.2.2.2.2.2.2.2.2.2.2.2.2.2.2.2.2.2.2.2.2.2.2.2.2.2.2.2.2.2.2.2.2.2.2.2.2.2.2.2.1,r7.2.2.2.2.2.2.2.2.2.2.2.2.2.2.2.2.2.2.2.2.2.2.2.2.2.2.2.2.2.2.2.2.2.2.2.2.2.2.2.2.2.2.2.2.2.2.2.2.2.2.2.2.2.2.2.2.2.2.2.2.2.2.2.2.2.2.1,r7.2.2.2.2.2.2.2.2.2.2.2.2.2.2.2.2.2.2.2.2.2.2.2.2.2.2.2.2.2.2.2.2.2.2.2.2.2.2.2.2.2.2.2.2.2.2.2.2.2.2.2.2.2.2.2.2.2.2.2.2.2.2.2.2.2.2.2.1,r7.2.2.2.2.2.2.2.2.2.2.2.2.2.2.2.2.2.2.2.2.2.2.2.2.2.2.2.2.2.2.2.2.2.2.2.2.2.2.2.2.2.2.2.2.2.2.2.2.2.2.2.2.2.2.2.2.2.2.2.2.2.2.2.2.2.2.2.2.1,r7.2.2.2.2.2.2.2.2.2.2.2.2.2.2.2.2.2.2.2.2.2.2.2.2.2.2.2.2.2.2.2.2.2.2.2.2.2.2.2.2.2.2.2.2.2.2.2.2.2.2.2.2.2.2.2.2.2.2.2.2.2.2.2.2.2.2.2.2.2.1,r7.2.2.2.2.2.2.2.2.2.2.2.2.2.2.2.2.2.2.2.2.2.2.2.2.2.2.2.2.2.2.2.2.2.2.2.2.2.2.2.2.2.2.2.2.2.2.2.2.2.2.2.2.2.2.2.2.2.2.2.2.2.2.2.2.2.2.2.2.2.2.1⟩:aJ),r7.2.2.2.2.2.2.2.2.2.2.2.2.2.2.2.2.2.2.2.2.2.2.2.2.2.2.2.2.2.2.2.2.2.2.2.2.2.2.2.2.2.2.2.2.2.2.2.2.2.2.2.2.2.2.2.2.2.2.2.2.2.2.2.2.2.2.2.2.2.2.2.1,r7.2.2.2.2.2.2.2.2.2.2.2.2.2.2.2.2.2.2.2.2.2.2.2.2.2.2.2.2.2.2.2.2.2.2.2.2.2.2.2.2.2.2.2.2.2.2.2.2.2.2.2.2.2.2.2.2.2.2.2.2.2.2.2.2.2.2.2.2.2.2.2.2.1,(⟨r7.2.2.2.2.2.2.2.2.2.2.2.2.2.2.2.2.2.2.2.2.2.2.2.2.2.2.2.2.2.2.2.2.2.2.2.2.2.2.2.2.2.2.2.2.2.2.2.2.2.2.2.2.2.2.2.2.2.2.2.2.2.2.2.2.2.2.2.2.2.2.2.2.2.1,r7.2.2.2.2.2.2.2.2.2.2.2.2.2.2.2.2.2.2.2.2.2.2.2.2.2.2.2.2.2.2.2.2.2.2.2.2.2.2.2.2.2.2.2.2.2.2.2.2.2.2.2.2.2.2.2.2.2.2.2.2.2.2.2.2.2.2.2.2.2.2.2.2.2.2.1,r7.2.2.2.2.2.2.2.2.2.2.2.2.2.2.2.2.2.2.2.2.2.2.2.2.2.2.2.2.2.2.2.2.2.2.2.2.2.2.2.2.2.2.2.2.2.2.2.2.2.2.2.2.2.2.2.2.2.2.2.2.2.2.2.2.2.2.2.2.2.2.2.2.2.2.2.1,r7.2.2.2.2.2.2.2.2.2.2.2.2.2.2.2.2.2.2.2.2.2.2.2.2.2.2.2.2.2.2.2.2.2.2.2.2.2.2.2.2.2.2.2.2.2.2.2.2.2.2.2.2.2.2.2.2.2.2.2.2.2.2.2.2.2.2.2.2.2.2.2.2.2.2.2.2.1,r7.2.2.2.2.2.2.2.2.2.2.2.2.2.2.2.2.2.2.2.2.2.2.2.2.2.2.2.2.2.2.2.2.2.2.2.2.2.2.2.2.2.2.2.2.2.2.2.2.2.2.2.2.2.2.2.2.2.2.2.2.2.2.2.2.2.2.2.2.2.2.2.2.2.2.2.2.2.1,r7.2.2.2.2.2.2.2.2.2.2.2.2.2.2.2.2.2.2.2.2.2.2.2.2.2.2.2.2.2.2.2.2.2.2.2.2.2.2.2.2.2.2.2.2.2.2.2.2.2.2.2.2.2.2.2.2.2.2.2.2.2.2.2.2.2.2.2.2.2.2.2.2.2.2.2.2.2.2.1,r7.2.2.2.2.2.2.2.2.2.2.2.2.2.2.2.2.2.2.2.2.2.2.2.2.2.2.2.2.2.2.2.2.2.2.2.2.2.2.2.2.2.2.2.2.2.2.2.2.2.2.2.2.2.2.2.2.2.2.2.2.2.2.2.2.2.2.2.2.2.2.2.2.2.2.2.2.2.2.2.1,r7.2.2.2.2.2.2.2.2.2.2.2.2.2.2.2.2.2.2.2.2.2.2.2.2.2.2.2.2.2.2.2.2.2.2.2.2.2.2.2.2.2.2.2.2.2.2.2.2.2.2.2.2.2.2.2.2.2.2.2.2.2.2.2.2.2.2.2.2.2.2.2.2.2.2.2.2.2.2.2.2.1,r7.2.2.2.2.2.2.2.2.2.2.2.2.2.2.2.2.2.2.2.2.2.2.2.2.2.2.2.2.2.2.2.2.2.2.2.2.2.2.2.2.2.2.2.2.2.2.2.2.2.2.2.2.2.2.2.2.2.2.2.2.2.2.2.2.2.2.2.2.2.2.2.2.2.2.2.2.2.2.2.2.2.1,r7.2.2.2.2.2.2.2.2.2.2.2.2.2.2.2.2.2.2.2.2.2.2.2.2.2.2.2.2.2.2.2.2.2.2.2.2.2.2.2.2.2.2.2.2.2.2.2.2.2.2.2.2.2.2.2.2.2.2.2.2.2.2.2.2.2.2.2.2.2.2.2.2.2.2.2.2.2.2.2.2.2.2.1,r7.2.2.2.2.2.2.2.2.2.2.2.2.2.2.2.2.2.2.2.2.2.2.2.2.2.2.2.2.2.2.2.2.2.2.2.2.2.2.2.2.2.2.2.2.2.2.2.2.2.2.2.2.2.2.2.2.2.2.2.2.2.2.2.2.2.2.2.2.2.2.2.2.2.2.2.2.2.2.2.2.2.2.2.1,r7.2.2.2.2.2.2.2.2.2.2.2.2.2.2.2.2.2.2.2.2.2.2.2.2.2.2.2.2.2.2.2.2.2.2.2.2.2.2.2.2.2.2.2.2.2.2.2.2.2.2.2.2.2.2.2.2.2.2.2.2.2.2.2.2.2.2.2.2.2.2.2.2.2.2.2.2.2.2.2.2.2.2.2.2.1,r7.2.2.2.2.2.2.2.2.2.2.2.2.2.2.2.2.2.2.2.2.2.2.2.2.2.2.2.2.2.2.2.2.2.2.2.2.2.2.2.2.2.2.2.2.2.2.2.2.2.2.2.2.2.2.2.2.2.2.2.2.2.2.2.2.2.2.2.2.2.2.2.2.2.2.2.2.2.2.2.2.2.2.2.2.2.1,r7.2.2.2.2.2.2.2.2.2.2.2.2.2.2.2.2.2.2.2.2.2.2.2.2.2.2.2.2.2.2.2.2.2.2.2.2.2.2.2.2.2.2.2.2.2.2.2.2.2.2.2.2.2.2.2.2.2.2.2.2.2.2.2.2.2.2.2.2.2.2.2.2.2.2.2.2.2.2.2.2.2.2.2.2.2.2.1,r7.2.2.2.2.2.2.2.2.2.2.2.2.2.2.2.2.2.2.2.2.2.2.2.2.2.2.2.2.2.2.2.2.2.2.2.2.2.2.2.2.2.2.2.2.2.2.2.2.2.2.2.2.2.2.2.2.2.2.2.2.2.2.2.2.2.2.2.2.2.2.2.2.2.2.2.2.2.2.2.2.2.2.2.2.2.2.2.1,r7.2.2.2.2.2.2.2.2.2.2.2.2.2.2.2.2.2.2.2.2.2.2.2.2.2.2.2.2.2.2.2.2.2.2.2.2.2.2.2.2.2.2.2.2.2.2.2.2.2.2.2.2.2.2.2.2.2.2.2.2.2.2.2.2.2.2.2.2.2.2.2.2.2.2.2.2.2.2.2.2.2.2.2.2.2.2.2.2⟩:Seal)⟩:Root))).bind fun (r8:List aJ)=>Bw n r8 (((),[List.map (fun n:Int=>UInt8.ofNat n.toNat) r6]))).bind fun (iy:PUnit×List (List UInt8))=>
 (xR n (((361:Int),iy.2))).bind fun (fU:aJ)=>
 some fU:=by kernel_rfl
theorem ajx (n:Nat) (x1:Root):uo n x1=
 some (bif decide ((((x1.Marks.length:Nat):Int))≤(20:Int)) then true else bif decide ((((x1.Marks.length:Nat):Int))> (256:Int)) then decide ((((x1.Marks.length:Nat):Int))< (300:Int)) else false):=by kernel_rfl
theorem ajy (n:Nat) (x1:aJ) (x2:aJ):Bg n (x1,x2)=
 some (Go.Op.bytesLess (List.map (fun n:Int=>UInt8.ofNat n.toNat) [x1.b0,x1.b1,x1.b2,x1.b3,x1.b4,x1.b5,x1.b6,x1.b7,x1.b8,x1.b9,x1.b10,x1.b11,x1.b12,x1.b13,x1.b14,x1.b15]) (List.map (fun n:Int=>UInt8.ofNat n.toNat) [x2.b0,x2.b1,x2.b2,x2.b3,x2.b4,x2.b5,x2.b6,x2.b7,x2.b8,x2.b9,x2.b10,x2.b11,x2.b12,x2.b13,x2.b14,x2.b15])):=by kernel_rfl
noncomputable def wh (n:Nat) (x1:Root) (m:Nat) (p:Int):Option (PUnit⊕Bool):=
 iO (R:=R) 4 (aN ((dF Tryz.f17.body [1,1,0,1,0,0]).getD .skip)) (⟨[(1,TV.ref 1 0)],[(1,Ob.ro (Ob.cells [TV.int IntKind.i64 x1.bN,TV.int IntKind.i64 x1.aY,TV.int IntKind.i64 x1.Day,TV.int IntKind.i64 x1.Floor,TV.int IntKind.u8 x1.ay.b0,TV.int IntKind.u8 x1.ay.b1,TV.int IntKind.u8 x1.ay.b2,TV.int IntKind.u8 x1.ay.b3,TV.int IntKind.u8 x1.ay.b4,TV.int IntKind.u8 x1.ay.b5,TV.int IntKind.u8 x1.ay.b6,TV.int IntKind.u8 x1.ay.b7,TV.int IntKind.u8 x1.ay.b8,TV.int IntKind.u8 x1.ay.b9,TV.int IntKind.u8 x1.ay.b10,TV.int IntKind.u8 x1.ay.b11,TV.int IntKind.u8 x1.ay.b12,TV.int IntKind.u8 x1.ay.b13,TV.int IntKind.u8 x1.ay.b14,TV.int IntKind.u8 x1.ay.b15,TV.int IntKind.u8 x1.ak.b0,TV.int IntKind.u8 x1.ak.b1,TV.int IntKind.u8 x1.ak.b2,TV.int IntKind.u8 x1.ak.b3,TV.int IntKind.u8 x1.ak.b4,TV.int IntKind.u8 x1.ak.b5,TV.int IntKind.u8 x1.ak.b6,TV.int IntKind.u8 x1.ak.b7,TV.int IntKind.u8 x1.ak.b8,TV.int IntKind.u8 x1.ak.b9,TV.int IntKind.u8 x1.ak.b10,TV.int IntKind.u8 x1.ak.b11,TV.int IntKind.u8 x1.ak.b12,TV.int IntKind.u8 x1.ak.b13,TV.int IntKind.u8 x1.ak.b14,TV.int IntKind.u8 x1.ak.b15,TV.aj (T:=R.T) Cp.sh (Ty.st 2) x1.Marks,TV.int IntKind.u8 x1.Gone.b0,TV.int IntKind.u8 x1.Gone.b1,TV.int IntKind.u8 x1.Gone.b2,TV.int IntKind.u8 x1.Gone.b3,TV.int IntKind.u8 x1.Gone.b4,TV.int IntKind.u8 x1.Gone.b5,TV.int IntKind.u8 x1.Gone.b6,TV.int IntKind.u8 x1.Gone.b7,TV.int IntKind.u8 x1.Gone.b8,TV.int IntKind.u8 x1.Gone.b9,TV.int IntKind.u8 x1.Gone.b10,TV.int IntKind.u8 x1.Gone.b11,TV.int IntKind.u8 x1.Gone.b12,TV.int IntKind.u8 x1.Gone.b13,TV.int IntKind.u8 x1.Gone.b14,TV.int IntKind.u8 x1.Gone.b15,TV.int IntKind.i64 x1.dS,TV.int IntKind.u8 x1.aC.b0,TV.int IntKind.u8 x1.aC.b1,TV.int IntKind.u8 x1.aC.b2,TV.int IntKind.u8 x1.aC.b3,TV.int IntKind.u8 x1.aC.b4,TV.int IntKind.u8 x1.aC.b5,TV.int IntKind.u8 x1.aC.b6,TV.int IntKind.u8 x1.aC.b7,TV.int IntKind.u8 x1.aC.b8,TV.int IntKind.u8 x1.aC.b9,TV.int IntKind.u8 x1.aC.b10,TV.int IntKind.u8 x1.aC.b11,TV.int IntKind.u8 x1.aC.b12,TV.int IntKind.u8 x1.aC.b13,TV.int IntKind.u8 x1.aC.b14,TV.int IntKind.u8 x1.aC.b15,TV.int IntKind.i64 x1.dU,TV.int IntKind.i64 x1.bJ,TV.int IntKind.u8 x1.Seal.b0,TV.int IntKind.u8 x1.Seal.b1,TV.int IntKind.u8 x1.Seal.b2,TV.int IntKind.u8 x1.Seal.b3,TV.int IntKind.u8 x1.Seal.b4,TV.int IntKind.u8 x1.Seal.b5,TV.int IntKind.u8 x1.Seal.b6,TV.int IntKind.u8 x1.Seal.b7,TV.int IntKind.u8 x1.Seal.b8,TV.int IntKind.u8 x1.Seal.b9,TV.int IntKind.u8 x1.Seal.b10,TV.int IntKind.u8 x1.Seal.b11,TV.int IntKind.u8 x1.Seal.b12,TV.int IntKind.u8 x1.Seal.b13,TV.int IntKind.u8 x1.Seal.b14,TV.int IntKind.u8 x1.Seal.b15]))]⟩:MS R.T) (dO JL.loops 4).sh (dO JL.loops 4).outs (fun st k=>bS E R n false (JK n) bG JL ((dF Tryz.f17.body [1,1,0,1,0,0]).getD .skip) st k) m p
theorem Yf (n:Nat) (x1:Root) (m:Nat) (x2:Int):wh n x1 (m+1) x2=
 bif decide (x2< (((x1.Marks.length:Nat):Int))) then
  (dx x1.Marks x2).bind fun (r3:Mark)=>
  bif !(decide (r3.Count< (1:Int))) then
   (dx x1.Marks x2).bind fun (r4:Mark)=>
   bif !(decide (r4.Count> (4096:Int))) then
    bif decide (x2> (0:Int)) then
     (dx x1.Marks (IntKind.wrap IntKind.i64 (x2-(1:Int)))).bind fun (r5:Mark)=>
     (dx x1.Marks x2).bind fun (r6:Mark)=>
     (Bg n ((r5.bU,r6.bU))).bind fun (r7:Bool)=>
     bif !r7 then
      some (.inr false)
     else
      wh n x1 m (IntKind.wrap IntKind.i64 (x2+(1:Int)))
    else
     wh n x1 m (IntKind.wrap IntKind.i64 (x2+(1:Int)))
   else
    some (.inr false)
  else
   some (.inr false)
 else
  some (.inl (())):=by kernel_rfl
theorem ajz (n:Nat) (x1:Root):vX n x1=
 bif bif bif bif bif bif bif bif decide (x1.bN< (0:Int)) then true else decide (x1.bN≥(32:Int)) then true else decide (x1.aY< (0:Int)) then true else decide (x1.aY> (1073741824:Int)) then true else decide (x1.Day< (0:Int)) then true else decide (x1.Day> (1048576:Int)) then true else decide (x1.Floor< (0:Int)) then true else decide (x1.Floor>x1.aY) then
  some false
 else
  (wh n x1 n (0:Int)).bind fun (r8:PUnit⊕Bool)=>
  Sum.elim (fun (q9:PUnit)=>
   some (bif bif bif bif bif bif decide ((((x1.Marks.length:Nat):Int))≤(256:Int)) then decide (x1.dS≥(0:Int)) else false then decide (x1.dS≤(65536:Int)) else false then decide (x1.dU≥(0:Int)) else false then decide (x1.dU≤(65536:Int)) else false then decide (x1.bJ≥(0:Int)) else false then decide (x1.bJ≤(2147483648:Int)) else false))
   (fun (q10:Bool)=>
    some q10) r8:=by kernel_rfl
theorem ajB (n:Nat) (x1:Int) (x2:Int) (x3:Int):o9 n (x1,(x2,x3))=
 some (bif decide (x1≥x2) then decide (x1≤x3) else false):=by kernel_rfl
theorem ajC (n:Nat) (x1:aJ) (x2:aJ):Bj n (x1,x2)=
 (Bh n (([x1.b0,x1.b1,x1.b2,x1.b3,x1.b4,x1.b5,x1.b6,x1.b7,x1.b8,x1.b9,x1.b10,x1.b11,x1.b12,x1.b13,x1.b14,x1.b15],[x2.b0,x2.b1,x2.b2,x2.b3,x2.b4,x2.b5,x2.b6,x2.b7,x2.b8,x2.b9,x2.b10,x2.b11,x2.b12,x2.b13,x2.b14,x2.b15]))).bind fun (r3:Int)=>
 some r3:=by kernel_rfl
noncomputable def Bz (n:Nat) (x1:Root) (m:Nat) (p:Int):Option (PUnit⊕Bool):=
 iO (R:=R) 2 (aN ((dF Tryz.f16.body [1,0,1,0,0]).getD .skip)) (⟨[(1,TV.ref 1 0),(7,TV.aj (T:=R.T) Cp.sh (Ty.st 2) x1.Marks),(8,TV.int IntKind.i64 (((x1.Marks.length:Nat):Int)))],[(1,Ob.ro (Ob.cells [TV.int IntKind.i64 x1.bN,TV.int IntKind.i64 x1.aY,TV.int IntKind.i64 x1.Day,TV.int IntKind.i64 x1.Floor,TV.int IntKind.u8 x1.ay.b0,TV.int IntKind.u8 x1.ay.b1,TV.int IntKind.u8 x1.ay.b2,TV.int IntKind.u8 x1.ay.b3,TV.int IntKind.u8 x1.ay.b4,TV.int IntKind.u8 x1.ay.b5,TV.int IntKind.u8 x1.ay.b6,TV.int IntKind.u8 x1.ay.b7,TV.int IntKind.u8 x1.ay.b8,TV.int IntKind.u8 x1.ay.b9,TV.int IntKind.u8 x1.ay.b10,TV.int IntKind.u8 x1.ay.b11,TV.int IntKind.u8 x1.ay.b12,TV.int IntKind.u8 x1.ay.b13,TV.int IntKind.u8 x1.ay.b14,TV.int IntKind.u8 x1.ay.b15,TV.int IntKind.u8 x1.ak.b0,TV.int IntKind.u8 x1.ak.b1,TV.int IntKind.u8 x1.ak.b2,TV.int IntKind.u8 x1.ak.b3,TV.int IntKind.u8 x1.ak.b4,TV.int IntKind.u8 x1.ak.b5,TV.int IntKind.u8 x1.ak.b6,TV.int IntKind.u8 x1.ak.b7,TV.int IntKind.u8 x1.ak.b8,TV.int IntKind.u8 x1.ak.b9,TV.int IntKind.u8 x1.ak.b10,TV.int IntKind.u8 x1.ak.b11,TV.int IntKind.u8 x1.ak.b12,TV.int IntKind.u8 x1.ak.b13,TV.int IntKind.u8 x1.ak.b14,TV.int IntKind.u8 x1.ak.b15,TV.aj (T:=R.T) Cp.sh (Ty.st 2) x1.Marks,TV.int IntKind.u8 x1.Gone.b0,TV.int IntKind.u8 x1.Gone.b1,TV.int IntKind.u8 x1.Gone.b2,TV.int IntKind.u8 x1.Gone.b3,TV.int IntKind.u8 x1.Gone.b4,TV.int IntKind.u8 x1.Gone.b5,TV.int IntKind.u8 x1.Gone.b6,TV.int IntKind.u8 x1.Gone.b7,TV.int IntKind.u8 x1.Gone.b8,TV.int IntKind.u8 x1.Gone.b9,TV.int IntKind.u8 x1.Gone.b10,TV.int IntKind.u8 x1.Gone.b11,TV.int IntKind.u8 x1.Gone.b12,TV.int IntKind.u8 x1.Gone.b13,TV.int IntKind.u8 x1.Gone.b14,TV.int IntKind.u8 x1.Gone.b15,TV.int IntKind.i64 x1.dS,TV.int IntKind.u8 x1.aC.b0,TV.int IntKind.u8 x1.aC.b1,TV.int IntKind.u8 x1.aC.b2,TV.int IntKind.u8 x1.aC.b3,TV.int IntKind.u8 x1.aC.b4,TV.int IntKind.u8 x1.aC.b5,TV.int IntKind.u8 x1.aC.b6,TV.int IntKind.u8 x1.aC.b7,TV.int IntKind.u8 x1.aC.b8,TV.int IntKind.u8 x1.aC.b9,TV.int IntKind.u8 x1.aC.b10,TV.int IntKind.u8 x1.aC.b11,TV.int IntKind.u8 x1.aC.b12,TV.int IntKind.u8 x1.aC.b13,TV.int IntKind.u8 x1.aC.b14,TV.int IntKind.u8 x1.aC.b15,TV.int IntKind.i64 x1.dU,TV.int IntKind.i64 x1.bJ,TV.int IntKind.u8 x1.Seal.b0,TV.int IntKind.u8 x1.Seal.b1,TV.int IntKind.u8 x1.Seal.b2,TV.int IntKind.u8 x1.Seal.b3,TV.int IntKind.u8 x1.Seal.b4,TV.int IntKind.u8 x1.Seal.b5,TV.int IntKind.u8 x1.Seal.b6,TV.int IntKind.u8 x1.Seal.b7,TV.int IntKind.u8 x1.Seal.b8,TV.int IntKind.u8 x1.Seal.b9,TV.int IntKind.u8 x1.Seal.b10,TV.int IntKind.u8 x1.Seal.b11,TV.int IntKind.u8 x1.Seal.b12,TV.int IntKind.u8 x1.Seal.b13,TV.int IntKind.u8 x1.Seal.b14,TV.int IntKind.u8 x1.Seal.b15]))]⟩:MS R.T) (dO JR.loops 2).sh (dO JR.loops 2).outs (fun st k=>bS E R n false (JQ n) bG JR ((dF Tryz.f16.body [1,0,1,0,0]).getD .skip) st k) m p
theorem Yg (n:Nat) (x1:Root) (m:Nat) (x2:Int):Bz n x1 (m+1) x2=
 bif decide (x2< (((x1.Marks.length:Nat):Int))) then
  (dx x1.Marks x2).bind fun (r3:Mark)=>
  (o9 n ((r3.Count,((1:Int),(4096:Int))))).bind fun (r4:Bool)=>
  bif !(!r4) then
   bif decide (x2> (0:Int)) then
    (dx x1.Marks (IntKind.wrap IntKind.i64 (x2-(1:Int)))).bind fun (r5:Mark)=>
    (Bj n ((r5.bU,r3.bU))).bind fun (r6:Int)=>
    bif decide (r6≥(0:Int)) then
     some (.inr false)
    else
     Bz n x1 m (IntKind.wrap IntKind.i64 (x2+(1:Int)))
   else
    Bz n x1 m (IntKind.wrap IntKind.i64 (x2+(1:Int)))
  else
   some (.inr false)
 else
  some (.inl (())):=by kernel_rfl
theorem ajD (n:Nat) (x1:Root):rZ n x1=
 (Bz n x1 n (0:Int)).bind fun (r7:PUnit⊕Bool)=>
 Sum.elim (fun (q8:PUnit)=>
  (o9 n ((x1.bN,((0:Int),(31:Int))))).bind fun (bZ:Bool)=>
  (fD bZ (o9 n ((x1.aY,((0:Int),(1073741824:Int))))) false).bind fun (jC:Bool)=>
  (fD (bif bZ then jC else false) (o9 n ((x1.Day,((0:Int),(1048576:Int))))) false).bind fun (iy:Bool)=>
  (fD (bif bif bZ then jC else false then iy else false) (o9 n ((x1.Floor,((0:Int),x1.aY)))) false).bind fun (fU:Bool)=>
  (fD (bif bif bif bif bZ then jC else false then iy else false then fU else false then decide ((((x1.Marks.length:Nat):Int))≤(256:Int)) else false) (o9 n ((x1.dS,((0:Int),(65536:Int))))) false).bind fun (qQ:Bool)=>
  (fD (bif bif bif bif bif bZ then jC else false then iy else false then fU else false then decide ((((x1.Marks.length:Nat):Int))≤(256:Int)) else false then qQ else false) (o9 n ((x1.dU,((0:Int),(65536:Int))))) false).bind fun (nE:Bool)=>
  (fD (bif bif bif bif bif bif bZ then jC else false then iy else false then fU else false then decide ((((x1.Marks.length:Nat):Int))≤(256:Int)) else false then qQ else false then nE else false) (o9 n ((x1.bJ,((0:Int),(2147483648:Int))))) false).bind fun (r16:Bool)=>
  some (bif bif bif bif bif bif bif bZ then jC else false then iy else false then fU else false then decide ((((x1.Marks.length:Nat):Int))≤(256:Int)) else false then qQ else false then nE else false then r16 else false))
  (fun (q9:Bool)=>
   some q9) r7:=by kernel_rfl
theorem ajE (n:Nat) (x1:Int) (x2:Int) (x3:Int):sj n (x1,(x2,x3))=
 some (bif decide (x1≥x2) then decide (x1≤x3) else false):=by kernel_rfl
theorem ajF (n:Nat) (x1:Key):Bl n x1=
 (sj n ((x1.fQ,((1:Int),(2147483648:Int))))).bind fun (r2:Bool)=>
 (fD r2 (sj n ((x1.bJ,((1:Int),(2147483648:Int))))) false).bind fun (r3:Bool)=>
 (fD (bif r2 then r3 else false) (sj n ((((x1.jB.length:Nat):Int),((1:Int),(64:Int))))) false).bind fun (r4:Bool)=>
 (fD (bif bif r2 then r3 else false then r4 else false) (sj n ((x1.From,((0:Int),IntKind.wrap IntKind.i64 (x1.To-(1:Int)))))) false).bind fun (r5:Bool)=>
 some (bif bif bif bif bif r2 then r3 else false then r4 else false then r5 else false then decide (x1.To≤(1048577:Int)) else false then decide (x1.To> (0:Int)) else false):=by kernel_rfl
theorem ajG (n:Nat) (x1:Root):yj n x1=
 (qp n x1).bind fun (r2:aJ)=>
 some (List.map (fun n:Int=>UInt8.ofNat n.toNat) [r2.b0,r2.b1,r2.b2,r2.b3,r2.b4,r2.b5,r2.b6,r2.b7,r2.b8,r2.b9,r2.b10,r2.b11,r2.b12,r2.b13,r2.b14,r2.b15]):=by kernel_rfl
noncomputable def Fp (n:Nat) (x1:List (List (List UInt8))) (m:Nat) (p:Int×Int):Option (Int):=
 iO (R:=R) 3 (aN ((dF Tryz.f115.body [1,1,0,1,0,0]).getD .skip)) (⟨[(0,TV.aj (T:=R.T) Cp.sh (Ty.slice Ty.str) x1),(9,TV.aj (T:=R.T) Cp.sh (Ty.slice Ty.str) x1),(10,TV.int IntKind.i64 (((x1.length:Nat):Int)))],[]⟩:MS R.T) (dO yt.loops 3).sh (dO yt.loops 3).outs (fun st k=>bS E R n false (EK n) bG yt ((dF Tryz.f115.body [1,1,0,1,0,0]).getD .skip) st k) m p
noncomputable def Fq (n:Nat) (x1:List (List (List UInt8))) (m:Nat) (p:(List (List UInt8))×Int):Option (List (List UInt8)):=
 iO (R:=R) 11 (aN ((dF Tryz.f115.body [1,1,1,1,0,1,0,0]).getD .skip)) (⟨[(25,TV.aj (T:=R.T) Cp.sh (Ty.slice Ty.str) x1),(26,TV.int IntKind.i64 (((x1.length:Nat):Int)))],[]⟩:MS R.T) (dO yt.loops 11).sh (dO yt.loops 11).outs (fun st k=>bS E R n false (EK n) bG yt ((dF Tryz.f115.body [1,1,1,1,0,1,0,0]).getD .skip) st k) m p
theorem Yh (n:Nat) (x1:List (List (List UInt8))) (m:Nat) (x2:Int) (x3:Int):Fp n x1 (m+1) (x2,x3)=
 bif decide (x3< (((x1.length:Nat):Int))) then
  (dx x1 x3).bind fun (r4:List (List UInt8))=>
  bif decide ((IntKind.wrap IntKind.i64 (x2+(((r4.length:Nat):Int))))< (0:Int)) then
   none
  else
   Fp n x1 m ((IntKind.wrap IntKind.i64 (x2+(((r4.length:Nat):Int))),IntKind.wrap IntKind.i64 (x3+(1:Int))))
 else
  some x2:=by kernel_rfl
theorem Yi (n:Nat) (x1:List (List (List UInt8))) (m:Nat) (x7:List (List UInt8)) (x8:Int):Fq n x1 (m+1) (x7,x8)=
 bif decide (x8< (((x1.length:Nat):Int))) then
  (dx x1 x8).bind fun (r9:List (List UInt8))=>
  bif eD (x7.length+r9.length) 16 then
   Fq n x1 m ((x7++r9,IntKind.wrap IntKind.i64 (x8+(1:Int))))
  else
   none
 else
  some x7:=by kernel_rfl
theorem ajH (n:Nat) (x1:List (List (List UInt8))):Bo n x1=
 (Fp n x1 n (((0:Int),(0:Int)))).bind fun (r5:Int)=>
 (Ay (((),r5))).bind fun (r6:List (List UInt8))=>
 (Fq n x1 n ((r6,(0:Int)))).bind fun (bZ:List (List UInt8))=>
 some bZ:=by kernel_rfl
theorem ajI (n:Nat) (x1:Key) (x2:Int) (x3:List (List UInt8)):yu n (x1,(x2,x3))=
 (Bo n ([[x1.jB],x3,[x1.jB]])).bind fun (r4:List (List UInt8))=>
 (xR n ((x2,r4))).bind fun (r5:aJ)=>
 some ((⟨r5.b0,r5.b1,r5.b2,r5.b3,r5.b4,r5.b5,r5.b6,r5.b7,r5.b8,r5.b9,r5.b10,r5.b11,r5.b12,r5.b13,r5.b14,r5.b15⟩:Seal)):=by kernel_rfl
theorem Yj (n:Nat) (x1:Key) (x2:Root):su n (x1,x2)=
 (rZ n ((⟨x2.bN,x2.aY,x2.Day,x2.Floor,x2.ay,x2.ak,x2.Marks,x2.Gone,x2.dS,x2.aC,x2.dU,x1.bJ,x2.Seal⟩:Root))).bind fun (r3:Bool)=>
 (fD (!(!r3)) (Bl n x1) false).bind fun (r4:Bool)=>
 bif bif bif !r3 then true else !r4 then true else x1.fQ !=(IntKind.wrap IntKind.i64 ((1073741824:Int)+x2.bN)) then
  some (((⟨(0:Int),(0:Int),(0:Int),(0:Int),(⟨(0:Int),(0:Int),(0:Int),(0:Int),(0:Int),(0:Int),(0:Int),(0:Int),(0:Int),(0:Int),(0:Int),(0:Int),(0:Int),(0:Int),(0:Int),(0:Int)⟩:aJ),(⟨(0:Int),(0:Int),(0:Int),(0:Int),(0:Int),(0:Int),(0:Int),(0:Int),(0:Int),(0:Int),(0:Int),(0:Int),(0:Int),(0:Int),(0:Int),(0:Int)⟩:aJ),[],(⟨(0:Int),(0:Int),(0:Int),(0:Int),(0:Int),(0:Int),(0:Int),(0:Int),(0:Int),(0:Int),(0:Int),(0:Int),(0:Int),(0:Int),(0:Int),(0:Int)⟩:aJ),(0:Int),(⟨(0:Int),(0:Int),(0:Int),(0:Int),(0:Int),(0:Int),(0:Int),(0:Int),(0:Int),(0:Int),(0:Int),(0:Int),(0:Int),(0:Int),(0:Int),(0:Int)⟩:aJ),(0:Int),(0:Int),(⟨(0:Int),(0:Int),(0:Int),(0:Int),(0:Int),(0:Int),(0:Int),(0:Int),(0:Int),(0:Int),(0:Int),(0:Int),(0:Int),(0:Int),(0:Int),(0:Int)⟩:Seal)⟩:Root),(1:Int)))
 else
  (Bn n x2.Marks).bind fun (r5:List Mark)=>
  (yj n ((⟨x2.bN,x2.aY,x2.Day,x2.Floor,x2.ay,x2.ak,r5,x2.Gone,x2.dS,x2.aC,x2.dU,x1.bJ,x2.Seal⟩:Root))).bind fun (r6:List UInt8)=>
  (yu n ((x1,((362:Int),[r6])))).bind fun (r7:Seal)=>
  some (((⟨x2.bN,x2.aY,x2.Day,x2.Floor,x2.ay,x2.ak,r5,x2.Gone,x2.dS,x2.aC,x2.dU,x1.bJ,r7⟩:Root),(0:Int))):=by kernel_rfl
theorem ajJ (n:Nat) (x1:Root) (x2:Root):vY n (x1,x2)=
 (rZ n x1).bind fun (r3:Bool)=>
 (fD (!(!r3)) (rZ n x2) false).bind fun (r4:Bool)=>
 bif bif bif !r3 then true else !r4 then true else x1.bN !=x2.bN then
  some (1:Int)
 else
  bif bif bif x2.aY !=(IntKind.wrap IntKind.i64 (x1.aY+(1:Int))) then true else decide (x2.Day<x1.Day) then true else decide (x2.Floor<x1.Floor) then
   some (9:Int)
  else
   bif !(!((x1.ak.b0==x2.ak.b0)&& ((x1.ak.b1==x2.ak.b1)&& ((x1.ak.b2==x2.ak.b2)&& ((x1.ak.b3==x2.ak.b3)&& ((x1.ak.b4==x2.ak.b4)&& ((x1.ak.b5==x2.ak.b5)&& ((x1.ak.b6==x2.ak.b6)&& ((x1.ak.b7==x2.ak.b7)&& ((x1.ak.b8==x2.ak.b8)&& ((x1.ak.b9==x2.ak.b9)&& ((x1.ak.b10==x2.ak.b10)&& ((x1.ak.b11==x2.ak.b11)&& ((x1.ak.b12==x2.ak.b12)&& ((x1.ak.b13==x2.ak.b13)&& ((x1.ak.b14==x2.ak.b14)&& ((x1.ak.b15==x2.ak.b15)&& true))))))))))))))))) then
    (qp n x1).bind fun (r5:aJ)=>
    bif !((x2.ay.b0==r5.b0)&& ((x2.ay.b1==r5.b1)&& ((x2.ay.b2==r5.b2)&& ((x2.ay.b3==r5.b3)&& ((x2.ay.b4==r5.b4)&& ((x2.ay.b5==r5.b5)&& ((x2.ay.b6==r5.b6)&& ((x2.ay.b7==r5.b7)&& ((x2.ay.b8==r5.b8)&& ((x2.ay.b9==r5.b9)&& ((x2.ay.b10==r5.b10)&& ((x2.ay.b11==r5.b11)&& ((x2.ay.b12==r5.b12)&& ((x2.ay.b13==r5.b13)&& ((x2.ay.b14==r5.b14)&& ((x2.ay.b15==r5.b15)&& true)))))))))))))))) then
     some (3:Int)
    else
     some (0:Int)
   else
    some (3:Int):=by kernel_rfl
theorem ajK (n:Nat) (x1:cK) (x2:Root):vZ n (x1,x2)=
 bif decide ((((x1.dV.length:Nat):Int))≥(65536:Int)) then
  some ((x1,(2:Int)))
 else
  (rZ n x2).bind fun (r3:Bool)=>
  bif !r3 then
   some ((x1,(1:Int)))
  else
   bif decide ((((x1.dV.length:Nat):Int))> (0:Int)) then
    (dx x1.dV (IntKind.wrap IntKind.i64 ((((x1.dV.length:Nat):Int))-(1:Int)))).bind fun (r4:Root)=>
    (vY n ((r4,x2))).bind fun (r5:Int)=>
    bif r5 !=(0:Int) then
     some ((x1,r5))
    else
     bif (gL (((x1.dV.length:Nat):Int)) x1.dV.length)&& ((gL (((x1.dV.length:Nat):Int)) (Int.toNat (((x1.dV.length:Nat):Int))))&& ((((x1.dV.length:Nat):Int))==(((x1.dV.length:Nat):Int)))) then
      bif eD (((List.take (Int.toNat (((x1.dV.length:Nat):Int))) x1.dV).length)+([x2].length)) 160 then
       some (((⟨(List.take (Int.toNat (((x1.dV.length:Nat):Int))) x1.dV)++[x2]⟩:cK),(0:Int)))
      else
       none
     else
      none
   else
    bif (gL (((x1.dV.length:Nat):Int)) x1.dV.length)&& ((gL (((x1.dV.length:Nat):Int)) (Int.toNat (((x1.dV.length:Nat):Int))))&& ((((x1.dV.length:Nat):Int))==(((x1.dV.length:Nat):Int)))) then
     bif eD (((List.take (Int.toNat (((x1.dV.length:Nat):Int))) x1.dV).length)+([x2].length)) 160 then
      some (((⟨(List.take (Int.toNat (((x1.dV.length:Nat):Int))) x1.dV)++[x2]⟩:cK),(0:Int)))
     else
      none
    else
     none:=by kernel_rfl
theorem ajL (n:Nat) (x1:Int):cmp_isNaN_int n x1=
 some (x1 !=x1):=by kernel_rfl
theorem ajM (n:Nat) (x1:Int) (x2:Int):cmp_Compare_int n (x1,x2)=
 (cmp_isNaN_int n x1).bind fun (r3:Bool)=>
 (cmp_isNaN_int n x2).bind fun (r4:Bool)=>
 bif r3 then
  bif r4 then
   some (0:Int)
  else
   some (-1:Int)
 else
  bif r4 then
   some (1:Int)
  else
   bif decide (x1<x2) then
    some (-1:Int)
   else
    bif decide (x1>x2) then
     some (1:Int)
    else
     some (0:Int):=by kernel_rfl
noncomputable def Fu (n:Nat) (x1:List Int) (m:Nat) (p:Int):Option (PUnit⊕Int):=
 iO (R:=R) 3 (aN ((dF Tryz.f217.body [1,1,0,1,0,0]).getD .skip)) (⟨[(3,TV.int IntKind.i64 (0:Int)),(6,TV.aj (T:=R.T) Cp.sh (Ty.int IntKind.i64) x1),(7,TV.int IntKind.i64 (((x1.length:Nat):Int)))],[]⟩:MS R.T) (dO J8.loops 3).sh (dO J8.loops 3).outs (fun st k=>bS E R n false (J7 n) bG J8 ((dF Tryz.f217.body [1,1,0,1,0,0]).getD .skip) st k) m p
theorem Qf (n:Nat) (x1:List Int) (m:Nat) (x2:Int):Fu n x1 (m+1) x2=
 bif decide (x2< (((x1.length:Nat):Int))) then
  (dx x1 x2).bind fun (r3:Int)=>
  bif r3 !=(0:Int) then
   some (.inr r3)
  else
   Fu n x1 m (IntKind.wrap IntKind.i64 (x2+(1:Int)))
 else
  some (.inl (())):=by kernel_rfl
theorem ajN (n:Nat) (x1:List Int):Bp n x1=
 (Fu n x1 n (0:Int)).bind fun (r4:PUnit⊕Int)=>
 Sum.elim (fun (q5:PUnit)=>
  some (0:Int))
  (fun (q6:Int)=>
   some q6) r4:=by kernel_rfl
theorem ajO (n:Nat) (x1:Key) (x2:Key):EW n (x1,x2)=
 (cmp_Compare_int n ((x1.fQ,x2.fQ))).bind fun (r3:Int)=>
 (cmp_Compare_int n ((x1.bJ,x2.bJ))).bind fun (r4:Int)=>
 (Bp n [r3,r4]).bind fun (r5:Int)=>
 some r5:=by kernel_rfl
theorem ajP (n:Nat) (x1:Key) (x2:Key):yw n (x1,x2)=
 (EW n ((x1,x2))).bind fun (r3:Int)=>
 some r3:=by kernel_rfl
noncomputable def BA (n:Nat) (x1:List Key) (x2:Key) (m:Nat) (p:Int×Int):Option (Int):=
 iO (R:=R) 3 (aN ((dF Tryz.f203.body [1,1,1,0,0,0]).getD .skip)) (⟨[(0,TV.aj (T:=R.T) Cp.sh (Ty.st 4) x1),(2,TV.fn 204 [] []),(4,TV.ref 4 0),(8,TV.int IntKind.i64 (((x1.length:Nat):Int)))],[(4,Ob.ro (Ob.cells [TV.int IntKind.i64 x2.fQ,TV.int IntKind.i64 x2.bJ,TV.str x2.jB,TV.int IntKind.i64 x2.From,TV.int IntKind.i64 x2.To]))]⟩:MS R.T) (dO Kg.loops 3).sh (dO Kg.loops 3).outs (fun st k=>bS E R n false (Ke n) bG Kg ((dF Tryz.f203.body [1,1,1,0,0,0]).getD .skip) st k) m p
theorem Kt (n:Nat) (x1:List Key) (x2:Key) (m:Nat) (x3:Int) (x4:Int):BA n x1 x2 (m+1) (x3,x4)=
 bif decide (x3<x4) then
  bif decide ((0:Int)≤(1:Int)) then
   (dx x1 (IntKind.wrap IntKind.i64 (iW IntKind.u64 (IntKind.wrap IntKind.u64 (IntKind.wrap IntKind.i64 (x3+x4))) (1:Int)))).bind fun (r5:Key)=>
   (yw n ((r5,x2))).bind fun (r6:Int)=>
   bif decide (r6< (0:Int)) then
    BA n x1 x2 m ((IntKind.wrap IntKind.i64 ((IntKind.wrap IntKind.i64 (iW IntKind.u64 (IntKind.wrap IntKind.u64 (IntKind.wrap IntKind.i64 (x3+x4))) (1:Int)))+(1:Int)),x4))
   else
    BA n x1 x2 m ((x3,IntKind.wrap IntKind.i64 (iW IntKind.u64 (IntKind.wrap IntKind.u64 (IntKind.wrap IntKind.i64 (x3+x4))) (1:Int))))
  else
   none
 else
  some x3:=by kernel_rfl
theorem ajQ (n:Nat) (x1:List Key) (x2:Key):EZ n (x1,(x2,((),())))=
 (BA n x1 x2 n (((0:Int),((x1.length:Nat):Int)))).bind fun (r7:Int)=>
 bif decide (r7< (((x1.length:Nat):Int))) then
  (dx x1 r7).bind fun (r8:Key)=>
  (yw n ((r8,x2))).bind fun (r9:Int)=>
  some ((r7,r9==(0:Int)))
 else
  some ((r7,false)):=by kernel_rfl
theorem ajR (n:Nat) (x1:List Key) (x2:Int) (x3:Int):Bq n (x1,(x2,x3))=
 (EZ n ((x1,((⟨x2,x3,[],(0:Int),(0:Int)⟩:Key),((),()))))).bind fun (r4:Int×Bool)=>
 some ((r4.1,r4.2)):=by kernel_rfl
theorem ajS (n:Nat) (x1:List Key) (x2:Int) (x3:Int):Br n (x1,(x2,x3))=
 (Bq n ((x1,(x2,x3)))).bind fun (r4:Int×Bool)=>
 bif !r4.2 then
  some (((⟨(0:Int),(0:Int),[],(0:Int),(0:Int)⟩:Key),(5:Int)))
 else
  (dx x1 r4.1).bind fun (r5:Key)=>
  some ((r5,(0:Int))):=by kernel_rfl
theorem ajT (n:Nat) (x1:Key) (x2:Int):Bt n (x1,x2)=
 (sj n ((x2,(x1.From,IntKind.wrap IntKind.i64 (x1.To-(1:Int)))))).bind fun (r3:Bool)=>
 some r3:=by kernel_rfl
theorem ajU (n:Nat) (x1:List Key) (x2:Int) (x3:Int) (x4:Int) (x5:List (List UInt8)) (x6:Seal) (x7:Int):Bu n (x1,(x2,(x3,(x4,(x5,(x6,x7))))))=
 (Br n ((x1,(x2,x3)))).bind fun (r8:Key×Int)=>
 bif r8.2 !=(0:Int) then
  some r8.2
 else
  (Bt n ((r8.1,x7))).bind fun (r9:Bool)=>
  bif !r9 then
   some (9:Int)
  else
   (yu n ((r8.1,(x4,x5)))).bind fun (bZ:Seal)=>
   bif !((bZ.b0==x6.b0)&& ((bZ.b1==x6.b1)&& ((bZ.b2==x6.b2)&& ((bZ.b3==x6.b3)&& ((bZ.b4==x6.b4)&& ((bZ.b5==x6.b5)&& ((bZ.b6==x6.b6)&& ((bZ.b7==x6.b7)&& ((bZ.b8==x6.b8)&& ((bZ.b9==x6.b9)&& ((bZ.b10==x6.b10)&& ((bZ.b11==x6.b11)&& ((bZ.b12==x6.b12)&& ((bZ.b13==x6.b13)&& ((bZ.b14==x6.b14)&& ((bZ.b15==x6.b15)&& true)))))))))))))))) then
    some (8:Int)
   else
    some (0:Int):=by kernel_rfl
theorem ajV (n:Nat) (x1:List Key) (x2:Root):sw n (x1,x2)=
 (rZ n x2).bind fun (r3:Bool)=>
 bif !r3 then
  some (1:Int)
 else
  (yj n x2).bind fun (r4:List UInt8)=>
  (Bu n ((x1,(IntKind.wrap IntKind.i64 ((1073741824:Int)+x2.bN),(x2.bJ,((362:Int),([r4],(x2.Seal,x2.Day)))))))).bind fun (r5:Int)=>
  some r5:=by kernel_rfl
theorem ajW (n:Nat) (x1:List Key) (x2:Root) (x3:Root):yx n (x1,(x2,x3))=
 (fD (x2.bN==x3.bN) (sw n ((x1,x2))) (0:Int)).bind fun (r4:Int)=>
 (fD (bif x2.bN==x3.bN then r4==(0:Int) else false) (sw n ((x1,x3))) (0:Int)).bind fun (r5:Int)=>
 some (bif bif x2.bN==x3.bN then r4==(0:Int) else false then r5==(0:Int) else false):=by kernel_rfl
theorem ajX (n:Nat) (x1:List Key) (x2:Root) (x3:Root):yA n (x1,(x2,x3))=
 bif x2.aY==x3.aY then
  (yx n ((x1,(x2,x3)))).bind fun (r4:Bool)=>
  bif r4 then
   (qp n x2).bind fun (r5:aJ)=>
   (qp n x3).bind fun (r6:aJ)=>
   some (!((r5.b0==r6.b0)&& ((r5.b1==r6.b1)&& ((r5.b2==r6.b2)&& ((r5.b3==r6.b3)&& ((r5.b4==r6.b4)&& ((r5.b5==r6.b5)&& ((r5.b6==r6.b6)&& ((r5.b7==r6.b7)&& ((r5.b8==r6.b8)&& ((r5.b9==r6.b9)&& ((r5.b10==r6.b10)&& ((r5.b11==r6.b11)&& ((r5.b12==r6.b12)&& ((r5.b13==r6.b13)&& ((r5.b14==r6.b14)&& ((r5.b15==r6.b15)&& true)))))))))))))))))
  else
   some false
 else
  some false:=by kernel_rfl
theorem ajY (n:Nat) (x1:List Key) (x2:Root) (x3:Root):yB n (x1,(x2,x3))=
 (fD (x3.aY==(IntKind.wrap IntKind.i64 (x2.aY+(1:Int)))) (yx n ((x1,(x2,x3)))) false).bind fun (r4:Bool)=>
 (fD (bif x3.aY==(IntKind.wrap IntKind.i64 (x2.aY+(1:Int))) then r4 else false) (vY n ((x2,x3))) (0:Int)).bind fun (r5:Int)=>
 some (bif bif x3.aY==(IntKind.wrap IntKind.i64 (x2.aY+(1:Int))) then r4 else false then r5 !=(0:Int) else false):=by kernel_rfl
noncomputable def wm (n:Nat) (x1:Int) (x2:List Root) (x3:Int) (x4:Root) (r6:Key) (m:Nat) (p:Int×cK):Option ((PUnit×cK)⊕Bool):=
 iO (R:=R) 7 (aN ((dF Tryz.f4.body [1,1,1,1,1,0,1,0,0]).getD .skip)) (⟨[(0,TV.int IntKind.u8 x1),(1,TV.aj (T:=R.T) Cp.sh (Ty.st 3) x2),(2,TV.int IntKind.u8 x3),(7,TV.ref 7 0),(9,TV.ref 9 0),(10,TV.aj (T:=R.T) Cp.full (Ty.st 4) [r6]),(11,TV.ref 11 0)],[(7,Ob.ro (Ob.cells [TV.int IntKind.i64 x4.bN,TV.int IntKind.i64 x4.aY,TV.int IntKind.i64 x4.Day,TV.int IntKind.i64 x4.Floor,TV.int IntKind.u8 x4.ay.b0,TV.int IntKind.u8 x4.ay.b1,TV.int IntKind.u8 x4.ay.b2,TV.int IntKind.u8 x4.ay.b3,TV.int IntKind.u8 x4.ay.b4,TV.int IntKind.u8 x4.ay.b5,TV.int IntKind.u8 x4.ay.b6,TV.int IntKind.u8 x4.ay.b7,TV.int IntKind.u8 x4.ay.b8,TV.int IntKind.u8 x4.ay.b9,TV.int IntKind.u8 x4.ay.b10,TV.int IntKind.u8 x4.ay.b11,TV.int IntKind.u8 x4.ay.b12,TV.int IntKind.u8 x4.ay.b13,TV.int IntKind.u8 x4.ay.b14,TV.int IntKind.u8 x4.ay.b15,TV.int IntKind.u8 x4.ak.b0,TV.int IntKind.u8 x4.ak.b1,TV.int IntKind.u8 x4.ak.b2,TV.int IntKind.u8 x4.ak.b3,TV.int IntKind.u8 x4.ak.b4,TV.int IntKind.u8 x4.ak.b5,TV.int IntKind.u8 x4.ak.b6,TV.int IntKind.u8 x4.ak.b7,TV.int IntKind.u8 x4.ak.b8,TV.int IntKind.u8 x4.ak.b9,TV.int IntKind.u8 x4.ak.b10,TV.int IntKind.u8 x4.ak.b11,TV.int IntKind.u8 x4.ak.b12,TV.int IntKind.u8 x4.ak.b13,TV.int IntKind.u8 x4.ak.b14,TV.int IntKind.u8 x4.ak.b15,TV.aj (T:=R.T) Cp.sh (Ty.st 2) x4.Marks,TV.int IntKind.u8 x4.Gone.b0,TV.int IntKind.u8 x4.Gone.b1,TV.int IntKind.u8 x4.Gone.b2,TV.int IntKind.u8 x4.Gone.b3,TV.int IntKind.u8 x4.Gone.b4,TV.int IntKind.u8 x4.Gone.b5,TV.int IntKind.u8 x4.Gone.b6,TV.int IntKind.u8 x4.Gone.b7,TV.int IntKind.u8 x4.Gone.b8,TV.int IntKind.u8 x4.Gone.b9,TV.int IntKind.u8 x4.Gone.b10,TV.int IntKind.u8 x4.Gone.b11,TV.int IntKind.u8 x4.Gone.b12,TV.int IntKind.u8 x4.Gone.b13,TV.int IntKind.u8 x4.Gone.b14,TV.int IntKind.u8 x4.Gone.b15,TV.int IntKind.i64 x4.dS,TV.int IntKind.u8 x4.aC.b0,TV.int IntKind.u8 x4.aC.b1,TV.int IntKind.u8 x4.aC.b2,TV.int IntKind.u8 x4.aC.b3,TV.int IntKind.u8 x4.aC.b4,TV.int IntKind.u8 x4.aC.b5,TV.int IntKind.u8 x4.aC.b6,TV.int IntKind.u8 x4.aC.b7,TV.int IntKind.u8 x4.aC.b8,TV.int IntKind.u8 x4.aC.b9,TV.int IntKind.u8 x4.aC.b10,TV.int IntKind.u8 x4.aC.b11,TV.int IntKind.u8 x4.aC.b12,TV.int IntKind.u8 x4.aC.b13,TV.int IntKind.u8 x4.aC.b14,TV.int IntKind.u8 x4.aC.b15,TV.int IntKind.i64 x4.dU,TV.int IntKind.i64 x4.bJ,TV.int IntKind.u8 x4.Seal.b0,TV.int IntKind.u8 x4.Seal.b1,TV.int IntKind.u8 x4.Seal.b2,TV.int IntKind.u8 x4.Seal.b3,TV.int IntKind.u8 x4.Seal.b4,TV.int IntKind.u8 x4.Seal.b5,TV.int IntKind.u8 x4.Seal.b6,TV.int IntKind.u8 x4.Seal.b7,TV.int IntKind.u8 x4.Seal.b8,TV.int IntKind.u8 x4.Seal.b9,TV.int IntKind.u8 x4.Seal.b10,TV.int IntKind.u8 x4.Seal.b11,TV.int IntKind.u8 x4.Seal.b12,TV.int IntKind.u8 x4.Seal.b13,TV.int IntKind.u8 x4.Seal.b14,TV.int IntKind.u8 x4.Seal.b15])),(9,Ob.ro (Ob.cells [TV.int IntKind.i64 r6.fQ,TV.int IntKind.i64 r6.bJ,TV.str r6.jB,TV.int IntKind.i64 r6.From,TV.int IntKind.i64 r6.To]))]⟩:MS R.T) (dO sD.loops 7).sh (dO sD.loops 7).outs (fun st k=>bS E R n false (Fj n) bG sD ((dF Tryz.f4.body [1,1,1,1,1,0,1,0,0]).getD .skip) st k) m p
noncomputable def Fv (n:Nat) (x1:Int) (x2:List Root) (x3:Int) (x4:Root) (r6:Key) (ku:PUnit×cK) (x27:Int) (m:Nat) (p:Int):Option (PUnit⊕Bool):=
 iO (R:=R) 32 (aN ((dF Tryz.f4.body [1,1,1,1,1,1,0,1,0,0,1,0,0,1,0,0]).getD .skip)) (⟨[(0,TV.int IntKind.u8 x1),(1,TV.aj (T:=R.T) Cp.sh (Ty.st 3) x2),(2,TV.int IntKind.u8 x3),(7,TV.ref 7 0),(9,TV.ref 9 0),(10,TV.aj (T:=R.T) Cp.full (Ty.st 4) [r6]),(11,TV.ref 11 0),(19,TV.int IntKind.i64 x27)],[(7,Ob.ro (Ob.ro (Ob.cells [TV.int IntKind.i64 x4.bN,TV.int IntKind.i64 x4.aY,TV.int IntKind.i64 x4.Day,TV.int IntKind.i64 x4.Floor,TV.int IntKind.u8 x4.ay.b0,TV.int IntKind.u8 x4.ay.b1,TV.int IntKind.u8 x4.ay.b2,TV.int IntKind.u8 x4.ay.b3,TV.int IntKind.u8 x4.ay.b4,TV.int IntKind.u8 x4.ay.b5,TV.int IntKind.u8 x4.ay.b6,TV.int IntKind.u8 x4.ay.b7,TV.int IntKind.u8 x4.ay.b8,TV.int IntKind.u8 x4.ay.b9,TV.int IntKind.u8 x4.ay.b10,TV.int IntKind.u8 x4.ay.b11,TV.int IntKind.u8 x4.ay.b12,TV.int IntKind.u8 x4.ay.b13,TV.int IntKind.u8 x4.ay.b14,TV.int IntKind.u8 x4.ay.b15,TV.int IntKind.u8 x4.ak.b0,TV.int IntKind.u8 x4.ak.b1,TV.int IntKind.u8 x4.ak.b2,TV.int IntKind.u8 x4.ak.b3,TV.int IntKind.u8 x4.ak.b4,TV.int IntKind.u8 x4.ak.b5,TV.int IntKind.u8 x4.ak.b6,TV.int IntKind.u8 x4.ak.b7,TV.int IntKind.u8 x4.ak.b8,TV.int IntKind.u8 x4.ak.b9,TV.int IntKind.u8 x4.ak.b10,TV.int IntKind.u8 x4.ak.b11,TV.int IntKind.u8 x4.ak.b12,TV.int IntKind.u8 x4.ak.b13,TV.int IntKind.u8 x4.ak.b14,TV.int IntKind.u8 x4.ak.b15,TV.aj (T:=R.T) Cp.sh (Ty.st 2) x4.Marks,TV.int IntKind.u8 x4.Gone.b0,TV.int IntKind.u8 x4.Gone.b1,TV.int IntKind.u8 x4.Gone.b2,TV.int IntKind.u8 x4.Gone.b3,TV.int IntKind.u8 x4.Gone.b4,TV.int IntKind.u8 x4.Gone.b5,TV.int IntKind.u8 x4.Gone.b6,TV.int IntKind.u8 x4.Gone.b7,TV.int IntKind.u8 x4.Gone.b8,TV.int IntKind.u8 x4.Gone.b9,TV.int IntKind.u8 x4.Gone.b10,TV.int IntKind.u8 x4.Gone.b11,TV.int IntKind.u8 x4.Gone.b12,TV.int IntKind.u8 x4.Gone.b13,TV.int IntKind.u8 x4.Gone.b14,TV.int IntKind.u8 x4.Gone.b15,TV.int IntKind.i64 x4.dS,TV.int IntKind.u8 x4.aC.b0,TV.int IntKind.u8 x4.aC.b1,TV.int IntKind.u8 x4.aC.b2,TV.int IntKind.u8 x4.aC.b3,TV.int IntKind.u8 x4.aC.b4,TV.int IntKind.u8 x4.aC.b5,TV.int IntKind.u8 x4.aC.b6,TV.int IntKind.u8 x4.aC.b7,TV.int IntKind.u8 x4.aC.b8,TV.int IntKind.u8 x4.aC.b9,TV.int IntKind.u8 x4.aC.b10,TV.int IntKind.u8 x4.aC.b11,TV.int IntKind.u8 x4.aC.b12,TV.int IntKind.u8 x4.aC.b13,TV.int IntKind.u8 x4.aC.b14,TV.int IntKind.u8 x4.aC.b15,TV.int IntKind.i64 x4.dU,TV.int IntKind.i64 x4.bJ,TV.int IntKind.u8 x4.Seal.b0,TV.int IntKind.u8 x4.Seal.b1,TV.int IntKind.u8 x4.Seal.b2,TV.int IntKind.u8 x4.Seal.b3,TV.int IntKind.u8 x4.Seal.b4,TV.int IntKind.u8 x4.Seal.b5,TV.int IntKind.u8 x4.Seal.b6,TV.int IntKind.u8 x4.Seal.b7,TV.int IntKind.u8 x4.Seal.b8,TV.int IntKind.u8 x4.Seal.b9,TV.int IntKind.u8 x4.Seal.b10,TV.int IntKind.u8 x4.Seal.b11,TV.int IntKind.u8 x4.Seal.b12,TV.int IntKind.u8 x4.Seal.b13,TV.int IntKind.u8 x4.Seal.b14,TV.int IntKind.u8 x4.Seal.b15]))),(9,Ob.ro (Ob.ro (Ob.cells [TV.int IntKind.i64 r6.fQ,TV.int IntKind.i64 r6.bJ,TV.str r6.jB,TV.int IntKind.i64 r6.From,TV.int IntKind.i64 r6.To]))),(11,Ob.ro (Ob.ro (Ob.cells [TV.aj (T:=R.T) Cp.any (Ty.st 3) ku.2.dV])))]⟩:MS R.T) (dO sD.loops 32).sh (dO sD.loops 32).outs (fun st k=>bS E R n false (Fj n) bG sD ((dF Tryz.f4.body [1,1,1,1,1,1,0,1,0,0,1,0,0,1,0,0]).getD .skip) st k) m p
noncomputable def Fw (n:Nat) (x1:Int) (x2:List Root) (x3:Int) (x4:Root) (r6:Key) (ku:PUnit×cK) (m:Nat) (p:Int):Option (PUnit⊕Bool):=
 iO (R:=R) 29 (aN ((dF Tryz.f4.body [1,1,1,1,1,1,0,1,0,0]).getD .skip)) (⟨[(0,TV.int IntKind.u8 x1),(1,TV.aj (T:=R.T) Cp.sh (Ty.st 3) x2),(2,TV.int IntKind.u8 x3),(7,TV.ref 7 0),(9,TV.ref 9 0),(10,TV.aj (T:=R.T) Cp.full (Ty.st 4) [r6]),(11,TV.ref 11 0)],[(7,Ob.ro (Ob.cells [TV.int IntKind.i64 x4.bN,TV.int IntKind.i64 x4.aY,TV.int IntKind.i64 x4.Day,TV.int IntKind.i64 x4.Floor,TV.int IntKind.u8 x4.ay.b0,TV.int IntKind.u8 x4.ay.b1,TV.int IntKind.u8 x4.ay.b2,TV.int IntKind.u8 x4.ay.b3,TV.int IntKind.u8 x4.ay.b4,TV.int IntKind.u8 x4.ay.b5,TV.int IntKind.u8 x4.ay.b6,TV.int IntKind.u8 x4.ay.b7,TV.int IntKind.u8 x4.ay.b8,TV.int IntKind.u8 x4.ay.b9,TV.int IntKind.u8 x4.ay.b10,TV.int IntKind.u8 x4.ay.b11,TV.int IntKind.u8 x4.ay.b12,TV.int IntKind.u8 x4.ay.b13,TV.int IntKind.u8 x4.ay.b14,TV.int IntKind.u8 x4.ay.b15,TV.int IntKind.u8 x4.ak.b0,TV.int IntKind.u8 x4.ak.b1,TV.int IntKind.u8 x4.ak.b2,TV.int IntKind.u8 x4.ak.b3,TV.int IntKind.u8 x4.ak.b4,TV.int IntKind.u8 x4.ak.b5,TV.int IntKind.u8 x4.ak.b6,TV.int IntKind.u8 x4.ak.b7,TV.int IntKind.u8 x4.ak.b8,TV.int IntKind.u8 x4.ak.b9,TV.int IntKind.u8 x4.ak.b10,TV.int IntKind.u8 x4.ak.b11,TV.int IntKind.u8 x4.ak.b12,TV.int IntKind.u8 x4.ak.b13,TV.int IntKind.u8 x4.ak.b14,TV.int IntKind.u8 x4.ak.b15,TV.aj (T:=R.T) Cp.sh (Ty.st 2) x4.Marks,TV.int IntKind.u8 x4.Gone.b0,TV.int IntKind.u8 x4.Gone.b1,TV.int IntKind.u8 x4.Gone.b2,TV.int IntKind.u8 x4.Gone.b3,TV.int IntKind.u8 x4.Gone.b4,TV.int IntKind.u8 x4.Gone.b5,TV.int IntKind.u8 x4.Gone.b6,TV.int IntKind.u8 x4.Gone.b7,TV.int IntKind.u8 x4.Gone.b8,TV.int IntKind.u8 x4.Gone.b9,TV.int IntKind.u8 x4.Gone.b10,TV.int IntKind.u8 x4.Gone.b11,TV.int IntKind.u8 x4.Gone.b12,TV.int IntKind.u8 x4.Gone.b13,TV.int IntKind.u8 x4.Gone.b14,TV.int IntKind.u8 x4.Gone.b15,TV.int IntKind.i64 x4.dS,TV.int IntKind.u8 x4.aC.b0,TV.int IntKind.u8 x4.aC.b1,TV.int IntKind.u8 x4.aC.b2,TV.int IntKind.u8 x4.aC.b3,TV.int IntKind.u8 x4.aC.b4,TV.int IntKind.u8 x4.aC.b5,TV.int IntKind.u8 x4.aC.b6,TV.int IntKind.u8 x4.aC.b7,TV.int IntKind.u8 x4.aC.b8,TV.int IntKind.u8 x4.aC.b9,TV.int IntKind.u8 x4.aC.b10,TV.int IntKind.u8 x4.aC.b11,TV.int IntKind.u8 x4.aC.b12,TV.int IntKind.u8 x4.aC.b13,TV.int IntKind.u8 x4.aC.b14,TV.int IntKind.u8 x4.aC.b15,TV.int IntKind.i64 x4.dU,TV.int IntKind.i64 x4.bJ,TV.int IntKind.u8 x4.Seal.b0,TV.int IntKind.u8 x4.Seal.b1,TV.int IntKind.u8 x4.Seal.b2,TV.int IntKind.u8 x4.Seal.b3,TV.int IntKind.u8 x4.Seal.b4,TV.int IntKind.u8 x4.Seal.b5,TV.int IntKind.u8 x4.Seal.b6,TV.int IntKind.u8 x4.Seal.b7,TV.int IntKind.u8 x4.Seal.b8,TV.int IntKind.u8 x4.Seal.b9,TV.int IntKind.u8 x4.Seal.b10,TV.int IntKind.u8 x4.Seal.b11,TV.int IntKind.u8 x4.Seal.b12,TV.int IntKind.u8 x4.Seal.b13,TV.int IntKind.u8 x4.Seal.b14,TV.int IntKind.u8 x4.Seal.b15])),(9,Ob.ro (Ob.cells [TV.int IntKind.i64 r6.fQ,TV.int IntKind.i64 r6.bJ,TV.str r6.jB,TV.int IntKind.i64 r6.From,TV.int IntKind.i64 r6.To])),(11,Ob.ro (Ob.cells [TV.aj (T:=R.T) Cp.any (Ty.st 3) ku.2.dV]))]⟩:MS R.T) (dO sD.loops 29).sh (dO sD.loops 29).outs (fun st k=>bS E R n false (Fj n) bG sD ((dF Tryz.f4.body [1,1,1,1,1,1,0,1,0,0]).getD .skip) st k) m p
theorem Yk (n:Nat) (x1:Int) (x2:List Root) (x3:Int) (x4:Root) (r6:Key) (m:Nat) (x7:Int) (x8:cK):wm n x1 x2 x3 x4 r6 (m+1) (x7,x8)=
 bif decide (x7< (((x2.length:Nat):Int))) then
  (dx x2 x7).bind fun (r9:Root)=>
  bif !((32:Int)==(0:Int)) then
   bif decide (x7> (0:Int)) then
    (dx x8.dV (IntKind.wrap IntKind.i64 (x7-(1:Int)))).bind fun (bZ:Root)=>
    (qp n bZ).bind fun (jC:aJ)=>
    (uo n ((⟨Int.tmod (IntKind.wrap IntKind.i64 x1) (32:Int),x7,imax r9.Day bZ.Day,jW (jW (imax r9.Floor bZ.Floor) x7) x7,jC,bZ.ak,r9.Marks,r9.Gone,r9.dS,r9.aC,r9.dU,(1:Int),r9.Seal⟩:Root))).bind fun (iy:Bool)=>
    (fD (!(!iy)) (vX n ((⟨Int.tmod (IntKind.wrap IntKind.i64 x1) (32:Int),x7,imax r9.Day bZ.Day,jW (jW (imax r9.Floor bZ.Floor) x7) x7,jC,bZ.ak,r9.Marks,r9.Gone,r9.dS,r9.aC,r9.dU,(1:Int),r9.Seal⟩:Root))) false).bind fun (fU:Bool)=>
    bif bif !iy then true else !fU then
     (qo n (())).bind fun (qQ:Bool)=>
     some (.inr qQ)
    else
     (su n ((r6,(⟨Int.tmod (IntKind.wrap IntKind.i64 x1) (32:Int),x7,imax r9.Day bZ.Day,jW (jW (imax r9.Floor bZ.Floor) x7) x7,jC,bZ.ak,r9.Marks,r9.Gone,r9.dS,r9.aC,r9.dU,(1:Int),r9.Seal⟩:Root)))).bind fun (nE:Root×Int)=>
     (vZ n ((x8,nE.1))).bind fun (r16:cK×Int)=>
     (fD (!(bif bif nE.2 !=(0:Int) then true else r16.2 !=(0:Int) then true else (((r16.1.dV.length:Nat):Int)) !=(IntKind.wrap IntKind.i64 (x7+(1:Int))))) (sw n (([r6],nE.1))) (0:Int)).bind fun (Qg:Int)=>
     bif bif bif bif nE.2 !=(0:Int) then true else r16.2 !=(0:Int) then true else (((r16.1.dV.length:Nat):Int)) !=(IntKind.wrap IntKind.i64 (x7+(1:Int))) then true else Qg !=(0:Int) then
      some (.inr false)
     else
      wm n x1 x2 x3 x4 r6 m ((IntKind.wrap IntKind.i64 (x7+(1:Int)),r16.1))
   else
    (uo n ((⟨Int.tmod (IntKind.wrap IntKind.i64 x1) (32:Int),x7,r9.Day,jW r9.Floor x7,(⟨(0:Int),(0:Int),(0:Int),(0:Int),(0:Int),(0:Int),(0:Int),(0:Int),(0:Int),(0:Int),(0:Int),(0:Int),(0:Int),(0:Int),(0:Int),(0:Int)⟩:aJ),r9.ak,r9.Marks,r9.Gone,r9.dS,r9.aC,r9.dU,(1:Int),r9.Seal⟩:Root))).bind fun (Yl:Bool)=>
    (fD (!(!Yl)) (vX n ((⟨Int.tmod (IntKind.wrap IntKind.i64 x1) (32:Int),x7,r9.Day,jW r9.Floor x7,(⟨(0:Int),(0:Int),(0:Int),(0:Int),(0:Int),(0:Int),(0:Int),(0:Int),(0:Int),(0:Int),(0:Int),(0:Int),(0:Int),(0:Int),(0:Int),(0:Int)⟩:aJ),r9.ak,r9.Marks,r9.Gone,r9.dS,r9.aC,r9.dU,(1:Int),r9.Seal⟩:Root))) false).bind fun (r19:Bool)=>
    bif bif !Yl then true else !r19 then
     (qo n (())).bind fun (r20:Bool)=>
     some (.inr r20)
    else
     (su n ((r6,(⟨Int.tmod (IntKind.wrap IntKind.i64 x1) (32:Int),x7,r9.Day,jW r9.Floor x7,(⟨(0:Int),(0:Int),(0:Int),(0:Int),(0:Int),(0:Int),(0:Int),(0:Int),(0:Int),(0:Int),(0:Int),(0:Int),(0:Int),(0:Int),(0:Int),(0:Int)⟩:aJ),r9.ak,r9.Marks,r9.Gone,r9.dS,r9.aC,r9.dU,(1:Int),r9.Seal⟩:Root)))).bind fun (Ku:Root×Int)=>
     (vZ n ((x8,Ku.1))).bind fun (Fx:cK×Int)=>
     (fD (!(bif bif Ku.2 !=(0:Int) then true else Fx.2 !=(0:Int) then true else (((Fx.1.dV.length:Nat):Int)) !=(IntKind.wrap IntKind.i64 (x7+(1:Int))))) (sw n (([r6],Ku.1))) (0:Int)).bind fun (r23:Int)=>
     bif bif bif bif Ku.2 !=(0:Int) then true else Fx.2 !=(0:Int) then true else (((Fx.1.dV.length:Nat):Int)) !=(IntKind.wrap IntKind.i64 (x7+(1:Int))) then true else r23 !=(0:Int) then
      some (.inr false)
     else
      wm n x1 x2 x3 x4 r6 m ((IntKind.wrap IntKind.i64 (x7+(1:Int)),Fx.1))
  else
   none
 else
  some (.inl (((),x8))):=by kernel_rfl
theorem Ym (n:Nat) (x1:Int) (x2:List Root) (x3:Int) (x4:Root) (r6:Key) (ku:PUnit×cK) (x27:Int) (m:Nat) (x28:Int):Fv n x1 x2 x3 x4 r6 ku x27 (m+1) x28=
 bif decide (x28< (((x2.length:Nat):Int))) then
  (dx ku.2.dV x27).bind fun (r29:Root)=>
  (dx ku.2.dV x28).bind fun (r30:Root)=>
  (yA n (([r6],(r29,r30)))).bind fun (r31:Bool)=>
  bif !r31 then
   (dx ku.2.dV x27).bind fun (r32:Root)=>
   (dx ku.2.dV x28).bind fun (r33:Root)=>
   (yB n (([r6],(r32,r33)))).bind fun (r34:Bool)=>
   bif r34 then
    some (.inr false)
   else
    Fv n x1 x2 x3 x4 r6 ku x27 m (IntKind.wrap IntKind.i64 (x28+(1:Int)))
  else
   some (.inr false)
 else
  some (.inl (())):=by kernel_rfl
theorem Yn (n:Nat) (x1:Int) (x2:List Root) (x3:Int) (x4:Root) (r6:Key) (ku:PUnit×cK) (m:Nat) (x27:Int):Fw n x1 x2 x3 x4 r6 ku (m+1) x27=
 bif decide (x27< (((x2.length:Nat):Int))) then
  (Fv n x1 x2 x3 x4 r6 ku x27 n (0:Int)).bind fun (r35:PUnit⊕Bool)=>
  Sum.elim (fun (q36:PUnit)=>
   Fw n x1 x2 x3 x4 r6 ku m (IntKind.wrap IntKind.i64 (x27+(1:Int))))
   (fun (q37:Bool)=>
    some (.inr q37)) r35
 else
  some (.inl (())):=by kernel_rfl
theorem aj9 (n:Nat) (x1:Int) (x2:List Root) (x3:Int) (x4:Root):Kr n (x1,(x2,(x3,x4)))=
 bif bif (((x2.length:Nat):Int))==(0:Int) then true else decide ((((x2.length:Nat):Int))> (12:Int)) then
  (qo n (())).bind fun (r5:Bool)=>
  some r5
 else
  bif !((32:Int)==(0:Int)) then
   (Bf n (Int.tmod (IntKind.wrap IntKind.i64 x1) (32:Int))).bind fun (r6:Key)=>
   (wm n x1 x2 x3 x4 r6 n (((0:Int),(⟨[]⟩:cK)))).bind fun (r24:(PUnit×cK)⊕Bool)=>
   Sum.elim (fun (ku:PUnit×cK)=>
    (Fw n x1 x2 x3 x4 r6 ku n (0:Int)).bind fun (r38:PUnit⊕Bool)=>
    Sum.elim (fun (q39:PUnit)=>
     bif !((((x2.length:Nat):Int))==(0:Int)) then
      bif !((32:Int)==(0:Int)) then
       (su n ((r6,(⟨Int.tmod (IntKind.wrap IntKind.i64 x1) (32:Int),Int.tmod (IntKind.wrap IntKind.i64 x3) (((x2.length:Nat):Int)),x4.Day,x4.Floor,x4.ay,x4.ak,x4.Marks,x4.Gone,x4.dS,x4.aC,x4.dU,x4.bJ,x4.Seal⟩:Root)))).bind fun (yC:Root×Int)=>
       (fD (!(yC.2 !=(0:Int))) (uo n yC.1) false).bind fun (r42:Bool)=>
       bif bif yC.2 !=(0:Int) then true else !r42 then
        (qo n (())).bind fun (r43:Bool)=>
        some r43
       else
        (dx ku.2.dV (Int.tmod (IntKind.wrap IntKind.i64 x3) (((x2.length:Nat):Int)))).bind fun (r44:Root)=>
        (yA n (([r6],(r44,yC.1)))).bind fun (r45:Bool)=>
        (qp n yC.1).bind fun (mq:aJ)=>
        (dx ku.2.dV (Int.tmod (IntKind.wrap IntKind.i64 x3) (((x2.length:Nat):Int)))).bind fun (r47:Root)=>
        (qp n r47).bind fun (mD:aJ)=>
        bif !(r45==(!((mq.b0==mD.b0)&& ((mq.b1==mD.b1)&& ((mq.b2==mD.b2)&& ((mq.b3==mD.b3)&& ((mq.b4==mD.b4)&& ((mq.b5==mD.b5)&& ((mq.b6==mD.b6)&& ((mq.b7==mD.b7)&& ((mq.b8==mD.b8)&& ((mq.b9==mD.b9)&& ((mq.b10==mD.b10)&& ((mq.b11==mD.b11)&& ((mq.b12==mD.b12)&& ((mq.b13==mD.b13)&& ((mq.b14==mD.b14)&& ((mq.b15==mD.b15)&& true)))))))))))))))))) then
         some false
        else
         (qo n (())).bind fun (r49:Bool)=>
         bif r49 then
          bif !((Int.tmod (IntKind.wrap IntKind.i64 x3) (((x2.length:Nat):Int)))==(0:Int)) then
           (dx ku.2.dV (IntKind.wrap IntKind.i64 ((Int.tmod (IntKind.wrap IntKind.i64 x3) (((x2.length:Nat):Int)))-(1:Int)))).bind fun (r50:Root)=>
           (yB n (([r6],(r50,yC.1)))).bind fun (r51:Bool)=>
           (dx ku.2.dV (IntKind.wrap IntKind.i64 ((Int.tmod (IntKind.wrap IntKind.i64 x3) (((x2.length:Nat):Int)))-(1:Int)))).bind fun (r52:Root)=>
           (vY n ((r52,yC.1))).bind fun (r53:Int)=>
           some (r51==(r53 !=(0:Int)))
          else
           some true
         else
          some false
      else
       none
     else
      none)
     (fun (q40:Bool)=>
      some q40) r38)
    (fun (q26:Bool)=>
     some q26) r24
  else
   none:=by kernel_rfl
attribute [irreducible] Bv Bw wh Bz Fp Fq Fu BA wm Fv Fw
end Sh
