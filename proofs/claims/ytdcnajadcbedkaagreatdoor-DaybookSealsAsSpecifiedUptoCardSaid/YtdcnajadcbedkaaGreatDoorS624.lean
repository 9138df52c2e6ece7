/- Part of the proof of a law. -/
import Derived.Test.YtdcnajadcbedkaaGreatDoorS623
set_option linter.all false
set_option linter.unusedSimpArgs false
set_option linter.unusedSectionVars false
open Go Go.Proofs Aq
namespace Sh
set_option maxRecDepth 100000
set_option linter.unusedVariables false
theorem amV (n:Nat) (x1:Root):yA n x1=
 some (bif decide ((((x1.Marks.length:Nat):Int))≤(20:Int)) then true else bif decide ((((x1.Marks.length:Nat):Int))> (256:Int)) then decide ((((x1.Marks.length:Nat):Int))< (300:Int)) else false):=by kernel_rfl
theorem amW (n:Nat) (x1:Key):yB n x1=
 bif bif bif bif decide (x1.dL< (1:Int)) then true else decide (x1.dL> (2147483648:Int)) then true else decide (x1.bP< (1:Int)) then true else decide (x1.bP> (2147483648:Int)) then
  some false
 else
  some (bif bif bif bif decide ((((x1.fq.length:Nat):Int))≥(1:Int)) then decide ((((x1.fq.length:Nat):Int))≤(64:Int)) else false then decide (x1.From≥(0:Int)) else false then decide (x1.From<x1.To) else false then decide (x1.To≤(1048577:Int)) else false):=by kernel_rfl
theorem amX (n:Nat) (x1:Key) (x2:Key):BK n (x1,x2)=
 some (bif decide (x1.dL<x2.dL) then true else bif x1.dL==x2.dL then decide (x1.bP<x2.bP) else false):=by kernel_rfl
noncomputable def wC (n:Nat) (x1:List Key) (m:Nat) (p:Int):Option (PUnit⊕Bool):=
 eP (R:=R) 2 (aK ((bL Tryz.f11.body [1,0,1,0,0]).getD .skip)) (⟨[(0,TV.aj (T:=R.T) Cp.sh (Ty.st 4) x1)],[]⟩:MS R.T) (bV LB.loops 2).sh (bV LB.loops 2).outs (fun st k=>bS E R n false (LA n) aS LB ((bL Tryz.f11.body [1,0,1,0,0]).getD .skip) st k) m p
theorem abb (n:Nat) (x1:List Key) (m:Nat) (x2:Int):wC n x1 (m+1) x2=
 bif decide (x2< (((x1.length:Nat):Int))) then
  (dw x1 x2).bind fun (r3:Key)=>
  (yB n r3).bind fun (r4:Bool)=>
  bif !(!r4) then
   bif decide (x2> (0:Int)) then
    (dw x1 (IntKind.wrap IntKind.i64 (x2-(1:Int)))).bind fun (r5:Key)=>
    (dw x1 x2).bind fun (r6:Key)=>
    (BK n ((r5,r6))).bind fun (r7:Bool)=>
    bif !r7 then
     some (.inr false)
    else
     wC n x1 m (IntKind.wrap IntKind.i64 (x2+(1:Int)))
   else
    wC n x1 m (IntKind.wrap IntKind.i64 (x2+(1:Int)))
  else
   some (.inr false)
 else
  some (.inl (())):=by kernel_rfl
theorem amY (n:Nat) (x1:List Key):wu n x1=
 (wC n x1 n (0:Int)).bind fun (r8:PUnit⊕Bool)=>
 Sum.elim (fun (q9:PUnit)=>
  some (decide ((((x1.length:Nat):Int))≤(500:Int))))
  (fun (M0:Bool)=>
   some M0) r8:=by kernel_rfl
theorem amZ (n:Nat) (x1:Int) (x2:Int) (x3:Int):pE n (x1,(x2,x3))=
 some (bif decide (x1≥x2) then decide (x1≤x3) else false):=by kernel_rfl
theorem am0 (n:Nat) (x1:aI) (x2:aI):BM n (x1,x2)=
 (BL n (([x1.b0,x1.b1,x1.b2,x1.b3,x1.b4,x1.b5,x1.b6,x1.b7,x1.b8,x1.b9,x1.b10,x1.b11,x1.b12,x1.b13,x1.b14,x1.b15],[x2.b0,x2.b1,x2.b2,x2.b3,x2.b4,x2.b5,x2.b6,x2.b7,x2.b8,x2.b9,x2.b10,x2.b11,x2.b12,x2.b13,x2.b14,x2.b15]))).bind fun (r3:Int)=>
 some r3:=by kernel_rfl
noncomputable def Cn (n:Nat) (x1:Root) (m:Nat) (p:Int):Option (PUnit⊕Bool):=
 eP (R:=R) 2 (aK ((bL Tryz.f16.body [1,0,1,0,0]).getD .skip)) (⟨[(1,TV.ref 1 0),(7,TV.aj (T:=R.T) Cp.sh (Ty.st 2) x1.Marks),(8,TV.int IntKind.i64 (((x1.Marks.length:Nat):Int)))],[(1,Ob.ro (Ob.cells [TV.int IntKind.i64 x1.bN,TV.int IntKind.i64 x1.aZ,TV.int IntKind.i64 x1.Day,TV.int IntKind.i64 x1.Floor,TV.int IntKind.u8 x1.au.b0,TV.int IntKind.u8 x1.au.b1,TV.int IntKind.u8 x1.au.b2,TV.int IntKind.u8 x1.au.b3,TV.int IntKind.u8 x1.au.b4,TV.int IntKind.u8 x1.au.b5,TV.int IntKind.u8 x1.au.b6,TV.int IntKind.u8 x1.au.b7,TV.int IntKind.u8 x1.au.b8,TV.int IntKind.u8 x1.au.b9,TV.int IntKind.u8 x1.au.b10,TV.int IntKind.u8 x1.au.b11,TV.int IntKind.u8 x1.au.b12,TV.int IntKind.u8 x1.au.b13,TV.int IntKind.u8 x1.au.b14,TV.int IntKind.u8 x1.au.b15,TV.int IntKind.u8 x1.ak.b0,TV.int IntKind.u8 x1.ak.b1,TV.int IntKind.u8 x1.ak.b2,TV.int IntKind.u8 x1.ak.b3,TV.int IntKind.u8 x1.ak.b4,TV.int IntKind.u8 x1.ak.b5,TV.int IntKind.u8 x1.ak.b6,TV.int IntKind.u8 x1.ak.b7,TV.int IntKind.u8 x1.ak.b8,TV.int IntKind.u8 x1.ak.b9,TV.int IntKind.u8 x1.ak.b10,TV.int IntKind.u8 x1.ak.b11,TV.int IntKind.u8 x1.ak.b12,TV.int IntKind.u8 x1.ak.b13,TV.int IntKind.u8 x1.ak.b14,TV.int IntKind.u8 x1.ak.b15,TV.aj (T:=R.T) Cp.sh (Ty.st 2) x1.Marks,TV.int IntKind.u8 x1.Gone.b0,TV.int IntKind.u8 x1.Gone.b1,TV.int IntKind.u8 x1.Gone.b2,TV.int IntKind.u8 x1.Gone.b3,TV.int IntKind.u8 x1.Gone.b4,TV.int IntKind.u8 x1.Gone.b5,TV.int IntKind.u8 x1.Gone.b6,TV.int IntKind.u8 x1.Gone.b7,TV.int IntKind.u8 x1.Gone.b8,TV.int IntKind.u8 x1.Gone.b9,TV.int IntKind.u8 x1.Gone.b10,TV.int IntKind.u8 x1.Gone.b11,TV.int IntKind.u8 x1.Gone.b12,TV.int IntKind.u8 x1.Gone.b13,TV.int IntKind.u8 x1.Gone.b14,TV.int IntKind.u8 x1.Gone.b15,TV.int IntKind.i64 x1.fK,TV.int IntKind.u8 x1.ay.b0,TV.int IntKind.u8 x1.ay.b1,TV.int IntKind.u8 x1.ay.b2,TV.int IntKind.u8 x1.ay.b3,TV.int IntKind.u8 x1.ay.b4,TV.int IntKind.u8 x1.ay.b5,TV.int IntKind.u8 x1.ay.b6,TV.int IntKind.u8 x1.ay.b7,TV.int IntKind.u8 x1.ay.b8,TV.int IntKind.u8 x1.ay.b9,TV.int IntKind.u8 x1.ay.b10,TV.int IntKind.u8 x1.ay.b11,TV.int IntKind.u8 x1.ay.b12,TV.int IntKind.u8 x1.ay.b13,TV.int IntKind.u8 x1.ay.b14,TV.int IntKind.u8 x1.ay.b15,TV.int IntKind.i64 x1.fM,TV.int IntKind.i64 x1.bP,TV.int IntKind.u8 x1.Seal.b0,TV.int IntKind.u8 x1.Seal.b1,TV.int IntKind.u8 x1.Seal.b2,TV.int IntKind.u8 x1.Seal.b3,TV.int IntKind.u8 x1.Seal.b4,TV.int IntKind.u8 x1.Seal.b5,TV.int IntKind.u8 x1.Seal.b6,TV.int IntKind.u8 x1.Seal.b7,TV.int IntKind.u8 x1.Seal.b8,TV.int IntKind.u8 x1.Seal.b9,TV.int IntKind.u8 x1.Seal.b10,TV.int IntKind.u8 x1.Seal.b11,TV.int IntKind.u8 x1.Seal.b12,TV.int IntKind.u8 x1.Seal.b13,TV.int IntKind.u8 x1.Seal.b14,TV.int IntKind.u8 x1.Seal.b15]))]⟩:MS R.T) (bV LJ.loops 2).sh (bV LJ.loops 2).outs (fun st k=>bS E R n false (LH n) aS LJ ((bL Tryz.f16.body [1,0,1,0,0]).getD .skip) st k) m p
theorem abd (n:Nat) (x1:Root) (m:Nat) (x2:Int):Cn n x1 (m+1) x2=
 bif decide (x2< (((x1.Marks.length:Nat):Int))) then
  (dw x1.Marks x2).bind fun (r3:Mark)=>
  (pE n ((r3.Count,((1:Int),(4096:Int))))).bind fun (r4:Bool)=>
  bif !(!r4) then
   bif decide (x2> (0:Int)) then
    (dw x1.Marks (IntKind.wrap IntKind.i64 (x2-(1:Int)))).bind fun (r5:Mark)=>
    (BM n ((r5.aO,r3.aO))).bind fun (r6:Int)=>
    bif decide (r6≥(0:Int)) then
     some (.inr false)
    else
     Cn n x1 m (IntKind.wrap IntKind.i64 (x2+(1:Int)))
   else
    Cn n x1 m (IntKind.wrap IntKind.i64 (x2+(1:Int)))
  else
   some (.inr false)
 else
  some (.inl (())):=by kernel_rfl
theorem am1 (n:Nat) (x1:Root):sF n x1=
 (Cn n x1 n (0:Int)).bind fun (r7:PUnit⊕Bool)=>
 Sum.elim (fun (q8:PUnit)=>
  (pE n ((x1.bN,((0:Int),(31:Int))))).bind fun (cu:Bool)=>
  (eY cu (pE n ((x1.aZ,((0:Int),(1073741824:Int))))) false).bind fun (jc:Bool)=>
  (eY (bif cu then jc else false) (pE n ((x1.Day,((0:Int),(1048576:Int))))) false).bind fun (iA:Bool)=>
  (eY (bif bif cu then jc else false then iA else false) (pE n ((x1.Floor,((0:Int),x1.aZ)))) false).bind fun (fF:Bool)=>
  (eY (bif bif bif bif cu then jc else false then iA else false then fF else false then decide ((((x1.Marks.length:Nat):Int))≤(256:Int)) else false) (pE n ((x1.fK,((0:Int),(65536:Int))))) false).bind fun (fG:Bool)=>
  (eY (bif bif bif bif bif cu then jc else false then iA else false then fF else false then decide ((((x1.Marks.length:Nat):Int))≤(256:Int)) else false then fG else false) (pE n ((x1.fM,((0:Int),(65536:Int))))) false).bind fun (jw:Bool)=>
  (eY (bif bif bif bif bif bif cu then jc else false then iA else false then fF else false then decide ((((x1.Marks.length:Nat):Int))≤(256:Int)) else false then fG else false then jw else false) (pE n ((x1.bP,((0:Int),(2147483648:Int))))) false).bind fun (r16:Bool)=>
  some (bif bif bif bif bif bif bif cu then jc else false then iA else false then fF else false then decide ((((x1.Marks.length:Nat):Int))≤(256:Int)) else false then fG else false then jw else false then r16 else false))
  (fun (q9:Bool)=>
   some q9) r7:=by kernel_rfl
theorem am2 (n:Nat) (x1:Int) (x2:Int) (x3:Int):sG n (x1,(x2,x3))=
 some (bif decide (x1≥x2) then decide (x1≤x3) else false):=by kernel_rfl
theorem am3 (n:Nat) (x1:Key):BN n x1=
 (sG n ((x1.dL,((1:Int),(2147483648:Int))))).bind fun (r2:Bool)=>
 (eY r2 (sG n ((x1.bP,((1:Int),(2147483648:Int))))) false).bind fun (r3:Bool)=>
 (eY (bif r2 then r3 else false) (sG n ((((x1.fq.length:Nat):Int),((1:Int),(64:Int))))) false).bind fun (r4:Bool)=>
 (eY (bif bif r2 then r3 else false then r4 else false) (sG n ((x1.From,((0:Int),IntKind.wrap IntKind.i64 (x1.To-(1:Int)))))) false).bind fun (r5:Bool)=>
 some (bif bif bif bif bif r2 then r3 else false then r4 else false then r5 else false then decide (x1.To≤(1048577:Int)) else false then decide (x1.To> (0:Int)) else false):=by kernel_rfl
theorem am4 (n:Nat) (x1:Root):F3 n x1=
 some (((),(x1.bN,(x1.aZ,(x1.Day,(x1.Floor,(x1.au.b0,(x1.au.b1,(x1.au.b2,(x1.au.b3,(x1.au.b4,(x1.au.b5,(x1.au.b6,(x1.au.b7,(x1.au.b8,(x1.au.b9,(x1.au.b10,(x1.au.b11,(x1.au.b12,(x1.au.b13,(x1.au.b14,(x1.au.b15,(x1.ak.b0,(x1.ak.b1,(x1.ak.b2,(x1.ak.b3,(x1.ak.b4,(x1.ak.b5,(x1.ak.b6,(x1.ak.b7,(x1.ak.b8,(x1.ak.b9,(x1.ak.b10,(x1.ak.b11,(x1.ak.b12,(x1.ak.b13,(x1.ak.b14,(x1.ak.b15,(x1.Marks,(x1.Gone.b0,(x1.Gone.b1,(x1.Gone.b2,(x1.Gone.b3,(x1.Gone.b4,(x1.Gone.b5,(x1.Gone.b6,(x1.Gone.b7,(x1.Gone.b8,(x1.Gone.b9,(x1.Gone.b10,(x1.Gone.b11,(x1.Gone.b12,(x1.Gone.b13,(x1.Gone.b14,(x1.Gone.b15,(x1.fK,(x1.ay.b0,(x1.ay.b1,(x1.ay.b2,(x1.ay.b3,(x1.ay.b4,(x1.ay.b5,(x1.ay.b6,(x1.ay.b7,(x1.ay.b8,(x1.ay.b9,(x1.ay.b10,(x1.ay.b11,(x1.ay.b12,(x1.ay.b13,(x1.ay.b14,(x1.ay.b15,(x1.fM,(x1.bP,(x1.Seal.b0,(x1.Seal.b1,(x1.Seal.b2,(x1.Seal.b3,(x1.Seal.b4,(x1.Seal.b5,(x1.Seal.b6,(x1.Seal.b7,(x1.Seal.b8,(x1.Seal.b9,(x1.Seal.b10,(x1.Seal.b11,(x1.Seal.b12,(x1.Seal.b13,(x1.Seal.b14,x1.Seal.b15))))))))))))))))))))))))))))))))))))))))))))))))))))))))))))))))))))))))))))))))))))))))):=by kernel_rfl
noncomputable def Co (n:Nat) (x1:Root) (m:Nat) (p:(List Int)×Int):Option (List Int):=
 eP (R:=R) 3 (aK ((bL Tryz.f18.body [1,1,0,1,0,0]).getD .skip)) (⟨[(1,TV.ref 1 0),(2,TV.ref 2 0),(22,TV.aj (T:=R.T) Cp.sh (Ty.st 2) x1.Marks),(23,TV.int IntKind.i64 (((x1.Marks.length:Nat):Int)))],[(1,Ob.ro (Ob.cells [TV.int IntKind.i64 x1.bN,TV.int IntKind.i64 x1.aZ,TV.int IntKind.i64 x1.Day,TV.int IntKind.i64 x1.Floor,TV.int IntKind.u8 x1.au.b0,TV.int IntKind.u8 x1.au.b1,TV.int IntKind.u8 x1.au.b2,TV.int IntKind.u8 x1.au.b3,TV.int IntKind.u8 x1.au.b4,TV.int IntKind.u8 x1.au.b5,TV.int IntKind.u8 x1.au.b6,TV.int IntKind.u8 x1.au.b7,TV.int IntKind.u8 x1.au.b8,TV.int IntKind.u8 x1.au.b9,TV.int IntKind.u8 x1.au.b10,TV.int IntKind.u8 x1.au.b11,TV.int IntKind.u8 x1.au.b12,TV.int IntKind.u8 x1.au.b13,TV.int IntKind.u8 x1.au.b14,TV.int IntKind.u8 x1.au.b15,TV.int IntKind.u8 x1.ak.b0,TV.int IntKind.u8 x1.ak.b1,TV.int IntKind.u8 x1.ak.b2,TV.int IntKind.u8 x1.ak.b3,TV.int IntKind.u8 x1.ak.b4,TV.int IntKind.u8 x1.ak.b5,TV.int IntKind.u8 x1.ak.b6,TV.int IntKind.u8 x1.ak.b7,TV.int IntKind.u8 x1.ak.b8,TV.int IntKind.u8 x1.ak.b9,TV.int IntKind.u8 x1.ak.b10,TV.int IntKind.u8 x1.ak.b11,TV.int IntKind.u8 x1.ak.b12,TV.int IntKind.u8 x1.ak.b13,TV.int IntKind.u8 x1.ak.b14,TV.int IntKind.u8 x1.ak.b15,TV.aj (T:=R.T) Cp.sh (Ty.st 2) x1.Marks,TV.int IntKind.u8 x1.Gone.b0,TV.int IntKind.u8 x1.Gone.b1,TV.int IntKind.u8 x1.Gone.b2,TV.int IntKind.u8 x1.Gone.b3,TV.int IntKind.u8 x1.Gone.b4,TV.int IntKind.u8 x1.Gone.b5,TV.int IntKind.u8 x1.Gone.b6,TV.int IntKind.u8 x1.Gone.b7,TV.int IntKind.u8 x1.Gone.b8,TV.int IntKind.u8 x1.Gone.b9,TV.int IntKind.u8 x1.Gone.b10,TV.int IntKind.u8 x1.Gone.b11,TV.int IntKind.u8 x1.Gone.b12,TV.int IntKind.u8 x1.Gone.b13,TV.int IntKind.u8 x1.Gone.b14,TV.int IntKind.u8 x1.Gone.b15,TV.int IntKind.i64 x1.fK,TV.int IntKind.u8 x1.ay.b0,TV.int IntKind.u8 x1.ay.b1,TV.int IntKind.u8 x1.ay.b2,TV.int IntKind.u8 x1.ay.b3,TV.int IntKind.u8 x1.ay.b4,TV.int IntKind.u8 x1.ay.b5,TV.int IntKind.u8 x1.ay.b6,TV.int IntKind.u8 x1.ay.b7,TV.int IntKind.u8 x1.ay.b8,TV.int IntKind.u8 x1.ay.b9,TV.int IntKind.u8 x1.ay.b10,TV.int IntKind.u8 x1.ay.b11,TV.int IntKind.u8 x1.ay.b12,TV.int IntKind.u8 x1.ay.b13,TV.int IntKind.u8 x1.ay.b14,TV.int IntKind.u8 x1.ay.b15,TV.int IntKind.i64 x1.fM,TV.int IntKind.i64 x1.bP,TV.int IntKind.u8 x1.Seal.b0,TV.int IntKind.u8 x1.Seal.b1,TV.int IntKind.u8 x1.Seal.b2,TV.int IntKind.u8 x1.Seal.b3,TV.int IntKind.u8 x1.Seal.b4,TV.int IntKind.u8 x1.Seal.b5,TV.int IntKind.u8 x1.Seal.b6,TV.int IntKind.u8 x1.Seal.b7,TV.int IntKind.u8 x1.Seal.b8,TV.int IntKind.u8 x1.Seal.b9,TV.int IntKind.u8 x1.Seal.b10,TV.int IntKind.u8 x1.Seal.b11,TV.int IntKind.u8 x1.Seal.b12,TV.int IntKind.u8 x1.Seal.b13,TV.int IntKind.u8 x1.Seal.b14,TV.int IntKind.u8 x1.Seal.b15])),(2,Ob.ro (Ob.cells [TV.int IntKind.u8 (0:Int),TV.int IntKind.u8 (0:Int),TV.int IntKind.u8 (0:Int),TV.int IntKind.u8 (0:Int),TV.int IntKind.u8 (0:Int),TV.int IntKind.u8 (0:Int),TV.int IntKind.u8 (0:Int),TV.int IntKind.u8 (0:Int),TV.int IntKind.u8 (0:Int),TV.int IntKind.u8 (0:Int),TV.int IntKind.u8 (0:Int),TV.int IntKind.u8 (0:Int),TV.int IntKind.u8 (0:Int),TV.int IntKind.u8 (0:Int),TV.int IntKind.u8 (0:Int),TV.int IntKind.u8 (0:Int)]))]⟩:MS R.T) (bV yC.loops 3).sh (bV yC.loops 3).outs (fun st k=>bS E R n false (F4 n) aS yC ((bL Tryz.f18.body [1,1,0,1,0,0]).getD .skip) st k) m p
noncomputable def Cq (n:Nat) (xs:List aI) (p:PUnit×List (List UInt8)):Option (PUnit×List (List UInt8)):=
 Ac (R:=R) (X:=aB R.T Rc) 10 (wrR (bL Tryz.f18.body [1,1,1,1,0,1,0])) (⟨[(2,TV.ref 2 0),(6,TV.ref 6 0)],[(2,Ob.ro (Ob.cells [TV.int IntKind.u8 (0:Int),TV.int IntKind.u8 (0:Int),TV.int IntKind.u8 (0:Int),TV.int IntKind.u8 (0:Int),TV.int IntKind.u8 (0:Int),TV.int IntKind.u8 (0:Int),TV.int IntKind.u8 (0:Int),TV.int IntKind.u8 (0:Int),TV.int IntKind.u8 (0:Int),TV.int IntKind.u8 (0:Int),TV.int IntKind.u8 (0:Int),TV.int IntKind.u8 (0:Int),TV.int IntKind.u8 (0:Int),TV.int IntKind.u8 (0:Int),TV.int IntKind.u8 (0:Int),TV.int IntKind.u8 (0:Int)]))]⟩:MS R.T) (bV yC.loops 10).sh (bV yC.loops 10).outs (ahY E R n false (F4 n) aS yC (bL Tryz.f18.body [1,1,1,1,0,1,0]) Rc) xs p
theorem abe (n:Nat) (x1:Root) (m:Nat) (x2:List Int) (x3:Int):Co n x1 (m+1) (x2,x3)=
 bif decide (x3< (((x1.Marks.length:Nat):Int))) then
  (dw x1.Marks x3).bind fun (r4:Mark)=>
  bif dG (x2.length+([r4.Count].length)) 8 then
   Co n x1 m ((x2++[r4.Count],IntKind.wrap IntKind.i64 (x3+(1:Int))))
  else
   none
 else
  some x2:=by kernel_rfl
theorem am5 (n:Nat) (x9:List (List UInt8)):Cq n [] ((),x9)=
 some (((),x9)):=by kernel_rfl
theorem am6 (n:Nat) (x10:aI) (xs:List aI) (og:List (List UInt8)):Cq n (x10::xs) ((),og)=
 bif dG (og.length+(([List.map (fun n:Int=>UInt8.ofNat n.toNat) [x10.b0,x10.b1,x10.b2,x10.b3,x10.b4,x10.b5,x10.b6,x10.b7,x10.b8,x10.b9,x10.b10,x10.b11,x10.b12,x10.b13,x10.b14,x10.b15]]).length)) 16 then
  Cq n xs (((),og++([List.map (fun n:Int=>UInt8.ofNat n.toNat) [x10.b0,x10.b1,x10.b2,x10.b3,x10.b4,x10.b5,x10.b6,x10.b7,x10.b8,x10.b9,x10.b10,x10.b11,x10.b12,x10.b13,x10.b14,x10.b15]])))
 else
  none:=by kernel_rfl
theorem am7 (n:Nat) (x1:Root):sH n x1=
 (Co n x1 n (([x1.bN,x1.aZ,x1.Day,x1.Floor,x1.fK,x1.fM],(0:Int)))).bind fun (r5:List Int)=>
 (Bn n r5).bind fun (r6:List Int)=>
 (F3 n x1).bind fun (r7:PUnit×Int×Int×Int×Int×Int×Int×Int×Int×Int×Int×Int×Int×Int×Int×Int×Int×Int×Int×Int×Int×Int×Int×Int×Int×Int×Int×Int×Int×Int×Int×Int×Int×Int×Int×Int×Int×(List Mark)×Int×Int×Int×Int×Int×Int×Int×Int×Int×Int×Int×Int×Int×Int×Int×Int×Int×Int×Int×Int×Int×Int×Int×Int×Int×Int×Int×Int×Int×Int×Int×Int×Int×Int×Int×Int×Int×Int×Int×Int×Int×Int×Int×Int×Int×Int×Int×Int×Int×Int×Int)=>
 ((EA ((⟨r7.2.1,r7.2.2.1,r7.2.2.2.1,r7.2.2.2.2.1,(⟨r7.2.2.2.2.2.1,r7.2.2.2.2.2.2.1,r7.2.2.2.2.2.2.2.1,r7.2.2.2.2.2.2.2.2.1,r7.2.2.2.2.2.2.2.2.2.1,r7.2.2.2.2.2.2.2.2.2.2.1,r7.2.2.2.2.2.2.2.2.2.2.2.1,r7.2.2.2.2.2.2.2.2.2.2.2.2.1,r7.2.2.2.2.2.2.2.2.2.2.2.2.2.1,r7.2.2.2.2.2.2.2.2.2.2.2.2.2.2.1,r7.2.2.2.2.2.2.2.2.2.2.2.2.2.2.2.1,r7.2.2.2.2.2.2.2.2.2.2.2.2.2.2.2.2.1,r7.2.2.2.2.2.2.2.2.2.2.2.2.2.2.2.2.2.1,r7.2.2.2.2.2.2.2.2.2.2.2.2.2.2.2.2.2.2.1,r7.2.2.2.2.2.2.2.2.2.2.2.2.2.2.2.2.2.2.2.1,r7.2.2.2.2.2.2.2.2.2.2.2.2.2.2.2.2.2.2.2.2.1⟩:aI),(⟨r7.2.2.2.2.2.2.2.2.2.2.2.2.2.2.2.2.2.2.2.2.2.1,r7.2.2.2.2.2.2.2.2.2.2.2.2.2.2.2.2.2.2.2.2.2.2.1,r7.2.2.2.2.2.2.2.2.2.2.2.2.2.2.2.2.2.2.2.2.2.2.2.1,r7.2.2.2.2.2.2.2.2.2.2.2.2.2.2.2.2.2.2.2.2.2.2.2.2.1,r7.2.2.2.2.2.2.2.2.2.2.2.2.2.2.2.2.2.2.2.2.2.2.2.2.2.1,r7.2.2.2.2.2.2.2.2.2.2.2.2.2.2.2.2.2.2.2.2.2.2.2.2.2.2.1,r7.2.2.2.2.2.2.2.2.2.2.2.2.2.2.2.2.2.2.2.2.2.2.2.2.2.2.2.1,r7.2.2.2.2.2.2.2.2.2.2.2.2.2.2.2.2.2.2.2.2.2.2.2.2.2.2.2.2.1,r7.2.2.2.2.2.2.2.2.2.2.2.2.2.2.2.2.2.2.2.2.2.2.2.2.2.2.2.2.2.1,r7.2.2.2.2.2.2.2.2.2.2.2.2.2.2.2.2.2.2.2.2.2.2.2.2.2.2.2.2.2.2.1,r7.2.2.2.2.2.2.2.2.2.2.2.2.2.2.2.2.2.2.2.2.2.2.2.2.2.2.2.2.2.2.2.1,r7.2.2.2.2.2.2.2.2.2.2.2.2.2.2.2.2.2.2.2.2.2.2.2.2.2.2.2.2.2.2.2.2.1,r7.2.2.2.2.2.2.2.2.2.2.2.2.2.2.2.2.2.2.2.2.2.2.2.2.2.2.2.2.2.2.2.2.2.1,r7.2.2.2.2.2.2.2.2.2.2.2.2.2.2.2.2.2.2.2.2.2.2.2.2.2.2.2.2.2.2.2.2.2.2.1,r7.2.2.2.2.2.2.2.2.2.2.2.2.2.2.2.2.2.2.2.2.2.2.2.2.2.2.2.2.2.2.2.2.2.2.2.1,r7.2.2.2.2.2.2.2.2.2.2.2.2.2.2.2.2.2.2.2.2.2.2.2.2.2.2.2.2.2.2.2.2.2.2.2.2.1⟩:aI),r7.2.2.2.2.2.2.2.2.2.2.2.2.2.2.2.2.2.2.2.2.2.2.2.2.2.2.2.2.2.2.2.2.2.2.2.2.2.1,(⟨r7.2.2.2.2.2.2.2.2.2.2.2.2.2.2.2.2.2.2.2.2.2.2.2.2.2.2.2.2.2.2.2.2.2.2.2.2.2.2.1,r7.2.2.2.2.2.2.2.2.2.2.2.2.2.2.2.2.2.2.2.2.2.2.2.2.2.2.2.2.2.2.2.2.2.2.2.2.2.2.2.1,r7.2.2.2.2.2.2.2.2.2.2.2.2.2.2.2.2.2.2.2.2.2.2.2.2.2.2.2.2.2.2.2.2.2.2.2.2.2.2.2.2.1,r7.2.2.2.2.2.2.2.2.2.2.2.2.2.2.2.2.2.2.2.2.2.2.2.2.2.2.2.2.2.2.2.2.2.2.2.2.2.2.2.2.2.1,r7.2.2.2.2.2.2.2.2.2.2.2.2.2.2.2.2.2.2.2.2.2.2.2.2.2.2.2.2.2.2.2.2.2.2.2.2.2.2.2.2.2.2.1,r7.2.2.2.2.2.2.2.2.2.2.2.2.2.2.2.2.2.2.2.2.2.2.2.2.2.2.2.2.2.2.2.2.2.2.2.2.2.2.2.2.2.2.2.1,r7.2.2.2.2.2.2.2.2.2.2.2.2.2.2.2.2.2.2.2.2.2.2.2.2.2.2.2.2.2.2.2.2.2.2.2.2.2.2.2.2.2.2.2.2.1,r7.2.2.2.2.2.2.2.2.2.2.2.2.2.2.2.2.2.2.2.2.2.2.2.2.2.2.2.2.2.2.2.2.2.2.2.2.2.2.2.2.2.2.2.2.2.1,r7.2.2.2.2.2.2.2.2.2.2.2.2.2.2.2.2.2.2.2.2.2.2.2.2.2.2.2.2.2.2.2.2.2.2.2.2.2.2.2.2.2.2.2.2.2.2.1,r7.2.2.2.2.2.2.2.2.2.2.2.2.2.2.2.2.2.2.2.2.2.2.2.2.2.2.2.2.2.2.2.2.2.2.2.2.2.2.2.2.2.2.2.2.2.2.2.1,r7.2.2.2.2.2.2.2.2.2.2.2.2.2.2.2.2.2.2.2.2.2.2.2.2.2.2.2.2.2.2.2.2.2.2.2.2.2.2.2.2.2.2.2.2.2.2.2.2.1,r7.2.2.2.2.2.2.2.2.2.2.2.2.2.2.2.2.2.2.2.2.2.2.2.2.2.2.2.2.2.2.2.2.2.2.2.2.2.2.2.2.2.2.2.2.2.2.2.2.2.1,r7.2.2.2.2.2.2.2.2.2.2.2.2.2.2.2.2.2.2.2.2.2.2.2.2.2.2.2.2.2.2.2.2.2.2.2.2.2.2.2.2.2.2.2.2.2.2.2.2.2.2.1,r7.2.2.2.2.2.2.2.2.2.2.2.2.2.2.2.2.2.2.2.2.2.2.2.2.2.2.2.2.2.2.2.2.2.2.2.2.2.2.2.2.2.2.2.2.2.2.2.2.2.2.2.1,r7.2.2.2.2.2.2.2.2.2.2.2.2.2.2.2.2.2.2.2.2.2.2.2.2.2.2.2.2.2.2.2.2.2.2.2.2.2.2.2.2.2.2.2.2.2.2.2.2.2.2.2.2.1,r7.2.2.2.2.2.2.2.2.2.2.2.2.2.2.2.2.2.2.2.2.2.2.2.2.2.2.2.2.2.2.2.2.2.2.2.2.2.2.2.2.2.2.2.2.2.2.2.2.2.2.2.2.2.1⟩:aI),r7.2.2.2.2.2.2.2.2.2.2.2.2.2.2.2.2.2.2.2.2.2.2.2.2.2.2.2.2.2.2.2.2.2.2.2.2.2.2.2.2.2.2.2.2.2.2.2.2.2.2.2.2.2.2.1,(⟨r7.2.2.2.2.2.2.2.2.2.2.2.2.2.2.2.2.2.2.2.2.2.2.2.2.2.2.2.2.2.2.2.2.2.2.2.2.2.2.2.2.2.2.2.2.2.2.2.2.2.2.2.2.2.2.2.1,r7.2.2.2.2.2.2.2.2.2.2.2.2.2.2.2.2.2.2.2.2.2.2.2.2.2.2.2.2.2.2.2.2.2.2.2.2.2.2.2.2.2.2.2.2.2.2.2.2.2.2.2.2.2.2.2.2.1,r7.2.2.2.2.2.2.2.2.2.2.2.2.2.2.2.2.2.2.2.2.2.2.2.2.2.2.2.2.2.2.2.2.2.2.2.2.2.2.2.2.2.2.2.2.2.2.2.2.2.2.2.2.2.2.2.2.2.1,r7.2.2.2.2.2.2.2.2.2.2.2.2.2.2.2.2.2.2.2.2.2.2.2.2.2.2.2.2.2.2.2.2.2.2.2.2.2.2.2.2.2.2.2.2.2.2.2.2.2.2.2.2.2.2.2.2.2.2.1,r7.2.2.2.2.2.2.2.2.2.2.2.2.2.2.2.2.2.2.2.2.2.2.2.2.2.2.2.2.2.2.2.2.2.2.2.2.2.2.2.2.2.2.2.2.2.2.2.2.2.2.2.2.2.2.2.2.2.2.2.1,r7.2.2.2.2.2.2.2.2.2.2.2.2.2.2.2.2.2.2.2.2.2.2.2.2.2.2.2.2.2.2.2.2.2.2.2.2.2.2.2.2.2.2.2.2.2.2.2.2.2.2.2.2.2.2.2.2.2.2.2.2.1,r7.2.2.2.2.2.2.2.2.2.2.2.2.2.2.2.2.2.2.2.2.2.2.2.2.2.2.2.2.2.2.2.2.2.2.2.2.2.2.2.2.2.2.2.2.2.2.2.2.2.2.2.2.2.2.2.2.2.2.2.2.2.1,r7.2.2.2.2.2.2.2.2.2.2.2.2.2.2.2.2.2.2.2.2.2.2.2.2.2.2.2.2.2.2.2.2.2.2.2.2.2.2.2.2.2.2.2.2.2.2.2.2.2.2.2.2.2.2.2.2.2.2.2.2.2.2.1,r7.2.2.2.2.2.2.2.2.2.2.2.2.2.2.2.2.2.2.2.2.2.2.2.2.2.2.2.2.2.2.2.2.2.2.2.2.2.2.2.2.2.2.2.2.2.2.2.2.2.2.2.2.2.2.2.2.2.2.2.2.2.2.2.1,r7.2.2.2.2.2.2.2.2.2.2.2.2.2.2.2.2.2.2.2.2.2.2.2.2.2.2.2.2.2.2.2.2.2.2.2.2.2.2.2.2.2.2.2.2.2.2.2.2.2.2.2.2.2.2.2.2.2.2.2.2.2.2.2.2.1,r7.2.2.2.2.2.2.2.2.2.2.2.2.2.2.2.2.2.2.2.2.2.2.2.2.2.2.2.2.2.2.2.2.2.2.2.2.2.2.2.2.2.2.2.2.2.2.2.2.2.2.2.2.2.2.2.2.2.2.2.2.2.2.2.2.2.1,r7.2.2.2.2.2.2.2.2.2.2.2.2.2.2.2.2.2.2.2.2.2.2.2.2.2.2.2.2.2.2.2.2.2.2.2.2.2.2.2.2.2.2.2.2.2.2.2.2.2.2.2.2.2.2.2.2.2.2.2.2.2.2.2.2.2.2.1,r7.2.2.2.2.2.2.2.2.2.2.2.2.2.2.2.2.2.2.2.2.2.2.2.2.2.2.2.2.2.2.2.2.2.2.2.2.2.2.2.2.2.2.2.2.2.2.2.2.2.2.2.2.2.2.2.2.2.2.2.2.2.2.2.2.2.2.2.1,r7.2.2.2.2.2.2.2.2.2.2.2.2.2.2.2.2.2.2.2.2.2.2.2.2.2.2.2.2.2.2.2.2.2.2.2.2.2.2.2.2.2.2.2.2.2.2.2.2.2.2.2.2.2.2.2.2.2.2.2.2.2.2.2.2.2.2.2.2.1,r7.2.2.2.2.2.2.2.2.2.2.2.2.2.2.2.2.2.2.2.2.2.2.2.2.2.2.2.2.2.2.2.2.2.2.2.2.2.2.2.2.2.2.2.2.2.2.2.2.2.2.2.2.2.2.2.2.2.2.2.2.2.2.2.2.2.2.2.2.2.1,r7.2.2.2.2.2.2.2.2.2.2.2.2.2.2.2.2.2.2.2.2.2.2.2.2.2.2.2.2.2.2.2.2.2.2.2.2.2.2.2.2.2.2.2.2.2.2.2.2.2.2.2.2.2.2.2.2.2.2.2.2.2.2.2.2.2.2.2.2.2.2.1⟩:aI),r7.2.2.2.2.2.2.2.2.2.2.2.2.2.2.2.2.2.2.2.2.2.2.2.2.2.2.2.2.2.2.2.2.2.2.2.2.2.2.2.2.2.2.2.2.2.2.2.2.2.2.2.2.2.2.2.2.2.2.2.2.2.2.2.2.2.2.2.2.2.2.2.1,r7.2.2.2.2.2.2.2.2.2.2.2.2.2.2.2.2.2.2.2.2.2.2.2.2.2.2.2.2.2.2.2.2.2.2.2.2.2.2.2.2.2.2.2.2.2.2.2.2.2.2.2.2.2.2.2.2.2.2.2.2.2.2.2.2.2.2.2.2.2.2.2.2.1,(⟨r7.2.2.2.2.2.2.2.2.2.2.2.2.2.2.2.2.2.2.2.2.2.2.2.2.2.2.2.2.2.2.2.2.2.2.2.2.2.2.2.2.2.2.2.2.2.2.2.2.2.2.2.2.2.2.2.2.2.2.2.2.2.2.2.2.2.2.2.2.2.2.2.2.2.1,r7.2.2.2.2.2.2.2.2.2.2.2.2.2.2.2.2.2.2.2.2.2.2.2.2.2.2.2.2.2.2.2.2.2.2.2.2.2.2.2.2.2.2.2.2.2.2.2.2.2.2.2.2.2.2.2.2.2.2.2.2.2.2.2.2.2.2.2.2.2.2.2.2.2.2.1,r7.2.2.2.2.2.2.2.2.2.2.2.2.2.2.2.2.2.2.2.2.2.2.2.2.2.2.2.2.2.2.2.2.2.2.2.2.2.2.2.2.2.2.2.2.2.2.2.2.2.2.2.2.2.2.2.2.2.2.2.2.2.2.2.2.2.2.2.2.2.2.2.2.2.2.2.1,r7.2.2.2.2.2.2.2.2.2.2.2.2.2.2.2.2.2.2.2.2.2.2.2.2.2.2.2.2.2.2.2.2.2.2.2.2.2.2.2.2.2.2.2.2.2.2.2.2.2.2.2.2.2.2.2.2.2.2.2.2.2.2.2.2.2.2.2.2.2.2.2.2.2.2.2.2.1,r7.2.2.2.2.2.2.2.2.2.2.2.2.2.2.2.2.2.2.2.2.2.2.2.2.2.2.2.2.2.2.2.2.2.2.2.2.2.2.2.2.2.2.2.2.2.2.2.2.2.2.2.2.2.2.2.2.2.2.2.2.2.2.2.2.2.2.2.2.2.2.2.2.2.2.2.2.2.1,r7.2.2.2.2.2.2.2.2.2.2.2.2.2.2.2.2.2.2.2.2.2.2.2.2.2.2.2.2.2.2.2.2.2.2.2.2.2.2.2.2.2.2.2.2.2.2.2.2.2.2.2.2.2.2.2.2.2.2.2.2.2.2.2.2.2.2.2.2.2.2.2.2.2.2.2.2.2.2.1,r7.2.2.2.2.2.2.2.2.2.2.2.2.2.2.2.2.2.2.2.2.2.2.2.2.2.2.2.2.2.2.2.2.2.2.2.2.2.2.2.2.2.2.2.2.2.2.2.2.2.2.2.2.2.2.2.2.2.2.2.2.2.2.2.2.2.2.2.2.2.2.2.2.2.2.2.2.2.2.2.1,r7.2.2.2.2.2.2.2.2.2.2.2.2.2.2.2.2.2.2.2.2.2.2.2.2.2.2.2.2.2.2.2.2.2.2.2.2.2.2.2.2.2.2.2.2.2.2.2.2.2.2.2.2.2.2.2.2.2.2.2.2.2.2.2.2.2.2.2.2.2.2.2.2.2.2.2.2.2.2.2.2.1,r7.2.2.2.2.2.2.2.2.2.2.2.2.2.2.2.2.2.2.2.2.2.2.2.2.2.2.2.2.2.2.2.2.2.2.2.2.2.2.2.2.2.2.2.2.2.2.2.2.2.2.2.2.2.2.2.2.2.2.2.2.2.2.2.2.2.2.2.2.2.2.2.2.2.2.2.2.2.2.2.2.2.1,r7.2.2.2.2.2.2.2.2.2.2.2.2.2.2.2.2.2.2.2.2.2.2.2.2.2.2.2.2.2.2.2.2.2.2.2.2.2.2.2.2.2.2.2.2.2.2.2.2.2.2.2.2.2.2.2.2.2.2.2.2.2.2.2.2.2.2.2.2.2.2.2.2.2.2.2.2.2.2.2.2.2.2.1,r7.2.2.2.2.2.2.2.2.2.2.2.2.2.2.2.2.2.2.2.2.2.2.2.2.2.2.2.2.2.2.2.2.2.2.2.2.2.2.2.2.2.2.2.2.2.2.2.2.2.2.2.2.2.2.2.2.2.2.2.2.2.2.2.2.2.2.2.2.2.2.2.2.2.2.2.2.2.2.2.2.2.2.2.1,r7.2.2.2.2.2.2.2.2.2.2.2.2.2.2.2.2.2.2.2.2.2.2.2.2.2.2.2.2.2.2.2.2.2.2.2.2.2.2.2.2.2.2.2.2.2.2.2.2.2.2.2.2.2.2.2.2.2.2.2.2.2.2.2.2.2.2.2.2.2.2.2.2.2.2.2.2.2.2.2.2.2.2.2.2.1,r7.2.2.2.2.2.2.2.2.2.2.2.2.2.2.2.2.2.2.2.2.2.2.2.2.2.2.2.2.2.2.2.2.2.2.2.2.2.2.2.2.2.2.2.2.2.2.2.2.2.2.2.2.2.2.2.2.2.2.2.2.2.2.2.2.2.2.2.2.2.2.2.2.2.2.2.2.2.2.2.2.2.2.2.2.2.1,r7.2.2.2.2.2.2.2.2.2.2.2.2.2.2.2.2.2.2.2.2.2.2.2.2.2.2.2.2.2.2.2.2.2.2.2.2.2.2.2.2.2.2.2.2.2.2.2.2.2.2.2.2.2.2.2.2.2.2.2.2.2.2.2.2.2.2.2.2.2.2.2.2.2.2.2.2.2.2.2.2.2.2.2.2.2.2.1,r7.2.2.2.2.2.2.2.2.2.2.2.2.2.2.2.2.2.2.2.2.2.2.2.2.2.2.2.2.2.2.2.2.2.2.2.2.2.2.2.2.2.2.2.2.2.2.2.2.2.2.2.2.2.2.2.2.2.2.2.2.2.2.2.2.2.2.2.2.2.2.2.2.2.2.2.2.2.2.2.2.2.2.2.2.2.2.2.1,r7.2.2.2.2.2.2.2.2.2.2.2.2.2.2.2.2.2.2.2.2.2.2.2.2.2.2.2.2.2.2.2.2.2.2.2.2.2.2.2.2.2.2.2.2.2.2.2.2.2.2.2.2.2.2.2.2.2.2.2.2.2.2.2.2.2.2.2.2.2.2.2.2.2.2.2.2.2.2.2.2.2.2.2.2.2.2.2.2⟩:Seal)⟩:Root))).bind fun (r8:List aI)=>Cq n r8 (((),[List.map (fun n:Int=>UInt8.ofNat n.toNat) r6]))).bind fun (iA:PUnit×List (List UInt8))=>
 (xW n (((361:Int),iA.2))).bind fun (fF:aI)=>
 some fF:=by kernel_rfl
theorem am8 (n:Nat) (x1:Root):yD n x1=
 (sH n x1).bind fun (r2:aI)=>
 some (List.map (fun n:Int=>UInt8.ofNat n.toNat) [r2.b0,r2.b1,r2.b2,r2.b3,r2.b4,r2.b5,r2.b6,r2.b7,r2.b8,r2.b9,r2.b10,r2.b11,r2.b12,r2.b13,r2.b14,r2.b15]):=by kernel_rfl
noncomputable def GU (n:Nat) (x1:List (List (List UInt8))) (m:Nat) (p:Int×Int):Option (Int):=
 eP (R:=R) 3 (aK ((bL Tryz.f115.body [1,1,0,1,0,0]).getD .skip)) (⟨[(0,TV.aj (T:=R.T) Cp.sh (Ty.slice Ty.str) x1),(9,TV.aj (T:=R.T) Cp.sh (Ty.slice Ty.str) x1),(10,TV.int IntKind.i64 (((x1.length:Nat):Int)))],[]⟩:MS R.T) (bV yE.loops 3).sh (bV yE.loops 3).outs (fun st k=>bS E R n false (F7 n) aS yE ((bL Tryz.f115.body [1,1,0,1,0,0]).getD .skip) st k) m p
noncomputable def GV (n:Nat) (x1:List (List (List UInt8))) (m:Nat) (p:(List (List UInt8))×Int):Option (List (List UInt8)):=
 eP (R:=R) 11 (aK ((bL Tryz.f115.body [1,1,1,1,0,1,0,0]).getD .skip)) (⟨[(25,TV.aj (T:=R.T) Cp.sh (Ty.slice Ty.str) x1),(26,TV.int IntKind.i64 (((x1.length:Nat):Int)))],[]⟩:MS R.T) (bV yE.loops 11).sh (bV yE.loops 11).outs (fun st k=>bS E R n false (F7 n) aS yE ((bL Tryz.f115.body [1,1,1,1,0,1,0,0]).getD .skip) st k) m p
theorem abf (n:Nat) (x1:List (List (List UInt8))) (m:Nat) (x2:Int) (x3:Int):GU n x1 (m+1) (x2,x3)=
 bif decide (x3< (((x1.length:Nat):Int))) then
  (dw x1 x3).bind fun (r4:List (List UInt8))=>
  bif decide ((IntKind.wrap IntKind.i64 (x2+(((r4.length:Nat):Int))))< (0:Int)) then
   none
  else
   GU n x1 m ((IntKind.wrap IntKind.i64 (x2+(((r4.length:Nat):Int))),IntKind.wrap IntKind.i64 (x3+(1:Int))))
 else
  some x2:=by kernel_rfl
theorem abg (n:Nat) (x1:List (List (List UInt8))) (m:Nat) (x7:List (List UInt8)) (x8:Int):GV n x1 (m+1) (x7,x8)=
 bif decide (x8< (((x1.length:Nat):Int))) then
  (dw x1 x8).bind fun (r9:List (List UInt8))=>
  bif dG (x7.length+r9.length) 16 then
   GV n x1 m ((x7++r9,IntKind.wrap IntKind.i64 (x8+(1:Int))))
  else
   none
 else
  some x7:=by kernel_rfl
theorem am9 (n:Nat) (x1:List (List (List UInt8))):BP n x1=
 (GU n x1 n (((0:Int),(0:Int)))).bind fun (r5:Int)=>
 (AU (((),r5))).bind fun (r6:List (List UInt8))=>
 (GV n x1 n ((r6,(0:Int)))).bind fun (cu:List (List UInt8))=>
 some cu:=by kernel_rfl
theorem ana (n:Nat) (x1:Key) (x2:Int) (x3:List (List UInt8)):yF n (x1,(x2,x3))=
 (BP n ([[x1.fq],x3,[x1.fq]])).bind fun (r4:List (List UInt8))=>
 (xW n ((x2,r4))).bind fun (r5:aI)=>
 some ((⟨r5.b0,r5.b1,r5.b2,r5.b3,r5.b4,r5.b5,r5.b6,r5.b7,r5.b8,r5.b9,r5.b10,r5.b11,r5.b12,r5.b13,r5.b14,r5.b15⟩:Seal)):=by kernel_rfl
theorem anb (n:Nat) (x1:Key) (x2:Root):BQ n (x1,x2)=
 (sF n ((⟨x2.bN,x2.aZ,x2.Day,x2.Floor,x2.au,x2.ak,x2.Marks,x2.Gone,x2.fK,x2.ay,x2.fM,x1.bP,x2.Seal⟩:Root))).bind fun (r3:Bool)=>
 (eY (!(!r3)) (BN n x1) false).bind fun (r4:Bool)=>
 bif bif bif !r3 then true else !r4 then true else x1.dL !=(IntKind.wrap IntKind.i64 ((1073741824:Int)+x2.bN)) then
  some (((⟨(0:Int),(0:Int),(0:Int),(0:Int),(⟨(0:Int),(0:Int),(0:Int),(0:Int),(0:Int),(0:Int),(0:Int),(0:Int),(0:Int),(0:Int),(0:Int),(0:Int),(0:Int),(0:Int),(0:Int),(0:Int)⟩:aI),(⟨(0:Int),(0:Int),(0:Int),(0:Int),(0:Int),(0:Int),(0:Int),(0:Int),(0:Int),(0:Int),(0:Int),(0:Int),(0:Int),(0:Int),(0:Int),(0:Int)⟩:aI),[],(⟨(0:Int),(0:Int),(0:Int),(0:Int),(0:Int),(0:Int),(0:Int),(0:Int),(0:Int),(0:Int),(0:Int),(0:Int),(0:Int),(0:Int),(0:Int),(0:Int)⟩:aI),(0:Int),(⟨(0:Int),(0:Int),(0:Int),(0:Int),(0:Int),(0:Int),(0:Int),(0:Int),(0:Int),(0:Int),(0:Int),(0:Int),(0:Int),(0:Int),(0:Int),(0:Int)⟩:aI),(0:Int),(0:Int),(⟨(0:Int),(0:Int),(0:Int),(0:Int),(0:Int),(0:Int),(0:Int),(0:Int),(0:Int),(0:Int),(0:Int),(0:Int),(0:Int),(0:Int),(0:Int),(0:Int)⟩:Seal)⟩:Root),(1:Int)))
 else
  (BO n x2.Marks).bind fun (r5:List Mark)=>
  (yD n ((⟨x2.bN,x2.aZ,x2.Day,x2.Floor,x2.au,x2.ak,r5,x2.Gone,x2.fK,x2.ay,x2.fM,x1.bP,x2.Seal⟩:Root))).bind fun (r6:List UInt8)=>
  (yF n ((x1,((362:Int),[r6])))).bind fun (r7:Seal)=>
  some (((⟨x2.bN,x2.aZ,x2.Day,x2.Floor,x2.au,x2.ak,r5,x2.Gone,x2.fK,x2.ay,x2.fM,x1.bP,r7⟩:Root),(0:Int))):=by kernel_rfl
theorem anc (n:Nat) (x1:aI) (x2:aI):BR n (x1,x2)=
 some (Go.Op.bytesLess (List.map (fun n:Int=>UInt8.ofNat n.toNat) [x1.b0,x1.b1,x1.b2,x1.b3,x1.b4,x1.b5,x1.b6,x1.b7,x1.b8,x1.b9,x1.b10,x1.b11,x1.b12,x1.b13,x1.b14,x1.b15]) (List.map (fun n:Int=>UInt8.ofNat n.toNat) [x2.b0,x2.b1,x2.b2,x2.b3,x2.b4,x2.b5,x2.b6,x2.b7,x2.b8,x2.b9,x2.b10,x2.b11,x2.b12,x2.b13,x2.b14,x2.b15])):=by kernel_rfl
noncomputable def wD (n:Nat) (x1:Root) (m:Nat) (p:Int):Option (PUnit⊕Bool):=
 eP (R:=R) 4 (aK ((bL Tryz.f17.body [1,1,0,1,0,0]).getD .skip)) (⟨[(1,TV.ref 1 0)],[(1,Ob.ro (Ob.cells [TV.int IntKind.i64 x1.bN,TV.int IntKind.i64 x1.aZ,TV.int IntKind.i64 x1.Day,TV.int IntKind.i64 x1.Floor,TV.int IntKind.u8 x1.au.b0,TV.int IntKind.u8 x1.au.b1,TV.int IntKind.u8 x1.au.b2,TV.int IntKind.u8 x1.au.b3,TV.int IntKind.u8 x1.au.b4,TV.int IntKind.u8 x1.au.b5,TV.int IntKind.u8 x1.au.b6,TV.int IntKind.u8 x1.au.b7,TV.int IntKind.u8 x1.au.b8,TV.int IntKind.u8 x1.au.b9,TV.int IntKind.u8 x1.au.b10,TV.int IntKind.u8 x1.au.b11,TV.int IntKind.u8 x1.au.b12,TV.int IntKind.u8 x1.au.b13,TV.int IntKind.u8 x1.au.b14,TV.int IntKind.u8 x1.au.b15,TV.int IntKind.u8 x1.ak.b0,TV.int IntKind.u8 x1.ak.b1,TV.int IntKind.u8 x1.ak.b2,TV.int IntKind.u8 x1.ak.b3,TV.int IntKind.u8 x1.ak.b4,TV.int IntKind.u8 x1.ak.b5,TV.int IntKind.u8 x1.ak.b6,TV.int IntKind.u8 x1.ak.b7,TV.int IntKind.u8 x1.ak.b8,TV.int IntKind.u8 x1.ak.b9,TV.int IntKind.u8 x1.ak.b10,TV.int IntKind.u8 x1.ak.b11,TV.int IntKind.u8 x1.ak.b12,TV.int IntKind.u8 x1.ak.b13,TV.int IntKind.u8 x1.ak.b14,TV.int IntKind.u8 x1.ak.b15,TV.aj (T:=R.T) Cp.sh (Ty.st 2) x1.Marks,TV.int IntKind.u8 x1.Gone.b0,TV.int IntKind.u8 x1.Gone.b1,TV.int IntKind.u8 x1.Gone.b2,TV.int IntKind.u8 x1.Gone.b3,TV.int IntKind.u8 x1.Gone.b4,TV.int IntKind.u8 x1.Gone.b5,TV.int IntKind.u8 x1.Gone.b6,TV.int IntKind.u8 x1.Gone.b7,TV.int IntKind.u8 x1.Gone.b8,TV.int IntKind.u8 x1.Gone.b9,TV.int IntKind.u8 x1.Gone.b10,TV.int IntKind.u8 x1.Gone.b11,TV.int IntKind.u8 x1.Gone.b12,TV.int IntKind.u8 x1.Gone.b13,TV.int IntKind.u8 x1.Gone.b14,TV.int IntKind.u8 x1.Gone.b15,TV.int IntKind.i64 x1.fK,TV.int IntKind.u8 x1.ay.b0,TV.int IntKind.u8 x1.ay.b1,TV.int IntKind.u8 x1.ay.b2,TV.int IntKind.u8 x1.ay.b3,TV.int IntKind.u8 x1.ay.b4,TV.int IntKind.u8 x1.ay.b5,TV.int IntKind.u8 x1.ay.b6,TV.int IntKind.u8 x1.ay.b7,TV.int IntKind.u8 x1.ay.b8,TV.int IntKind.u8 x1.ay.b9,TV.int IntKind.u8 x1.ay.b10,TV.int IntKind.u8 x1.ay.b11,TV.int IntKind.u8 x1.ay.b12,TV.int IntKind.u8 x1.ay.b13,TV.int IntKind.u8 x1.ay.b14,TV.int IntKind.u8 x1.ay.b15,TV.int IntKind.i64 x1.fM,TV.int IntKind.i64 x1.bP,TV.int IntKind.u8 x1.Seal.b0,TV.int IntKind.u8 x1.Seal.b1,TV.int IntKind.u8 x1.Seal.b2,TV.int IntKind.u8 x1.Seal.b3,TV.int IntKind.u8 x1.Seal.b4,TV.int IntKind.u8 x1.Seal.b5,TV.int IntKind.u8 x1.Seal.b6,TV.int IntKind.u8 x1.Seal.b7,TV.int IntKind.u8 x1.Seal.b8,TV.int IntKind.u8 x1.Seal.b9,TV.int IntKind.u8 x1.Seal.b10,TV.int IntKind.u8 x1.Seal.b11,TV.int IntKind.u8 x1.Seal.b12,TV.int IntKind.u8 x1.Seal.b13,TV.int IntKind.u8 x1.Seal.b14,TV.int IntKind.u8 x1.Seal.b15]))]⟩:MS R.T) (bV L8.loops 4).sh (bV L8.loops 4).outs (fun st k=>bS E R n false (L6 n) aS L8 ((bL Tryz.f17.body [1,1,0,1,0,0]).getD .skip) st k) m p
theorem abh (n:Nat) (x1:Root) (m:Nat) (x2:Int):wD n x1 (m+1) x2=
 bif decide (x2< (((x1.Marks.length:Nat):Int))) then
  (dw x1.Marks x2).bind fun (r3:Mark)=>
  bif !(decide (r3.Count< (1:Int))) then
   (dw x1.Marks x2).bind fun (r4:Mark)=>
   bif !(decide (r4.Count> (4096:Int))) then
    bif decide (x2> (0:Int)) then
     (dw x1.Marks (IntKind.wrap IntKind.i64 (x2-(1:Int)))).bind fun (r5:Mark)=>
     (dw x1.Marks x2).bind fun (r6:Mark)=>
     (BR n ((r5.aO,r6.aO))).bind fun (r7:Bool)=>
     bif !r7 then
      some (.inr false)
     else
      wD n x1 m (IntKind.wrap IntKind.i64 (x2+(1:Int)))
    else
     wD n x1 m (IntKind.wrap IntKind.i64 (x2+(1:Int)))
   else
    some (.inr false)
  else
   some (.inr false)
 else
  some (.inl (())):=by kernel_rfl
theorem ane (n:Nat) (x1:Root):sI n x1=
 bif bif bif bif bif bif bif bif decide (x1.bN< (0:Int)) then true else decide (x1.bN≥(32:Int)) then true else decide (x1.aZ< (0:Int)) then true else decide (x1.aZ> (1073741824:Int)) then true else decide (x1.Day< (0:Int)) then true else decide (x1.Day> (1048576:Int)) then true else decide (x1.Floor< (0:Int)) then true else decide (x1.Floor>x1.aZ) then
  some false
 else
  (wD n x1 n (0:Int)).bind fun (r8:PUnit⊕Bool)=>
  Sum.elim (fun (q9:PUnit)=>
   some (bif bif bif bif bif bif decide ((((x1.Marks.length:Nat):Int))≤(256:Int)) then decide (x1.fK≥(0:Int)) else false then decide (x1.fK≤(65536:Int)) else false then decide (x1.fM≥(0:Int)) else false then decide (x1.fM≤(65536:Int)) else false then decide (x1.bP≥(0:Int)) else false then decide (x1.bP≤(2147483648:Int)) else false))
   (fun (M0:Bool)=>
    some M0) r8:=by kernel_rfl
noncomputable def GX (n:Nat) (x1:Root) (m:Nat) (p:(List Int)×(List (List UInt8))×Int):Option ((List Int)×List (List UInt8)):=
 eP (R:=R) 4 (aK ((bL Tryz.f19.body [1,1,1,0,1,0,0]).getD .skip)) (⟨[(1,TV.ref 1 0),(2,TV.ref 2 0)],[(1,Ob.ro (Ob.cells [TV.int IntKind.i64 x1.bN,TV.int IntKind.i64 x1.aZ,TV.int IntKind.i64 x1.Day,TV.int IntKind.i64 x1.Floor,TV.int IntKind.u8 x1.au.b0,TV.int IntKind.u8 x1.au.b1,TV.int IntKind.u8 x1.au.b2,TV.int IntKind.u8 x1.au.b3,TV.int IntKind.u8 x1.au.b4,TV.int IntKind.u8 x1.au.b5,TV.int IntKind.u8 x1.au.b6,TV.int IntKind.u8 x1.au.b7,TV.int IntKind.u8 x1.au.b8,TV.int IntKind.u8 x1.au.b9,TV.int IntKind.u8 x1.au.b10,TV.int IntKind.u8 x1.au.b11,TV.int IntKind.u8 x1.au.b12,TV.int IntKind.u8 x1.au.b13,TV.int IntKind.u8 x1.au.b14,TV.int IntKind.u8 x1.au.b15,TV.int IntKind.u8 x1.ak.b0,TV.int IntKind.u8 x1.ak.b1,TV.int IntKind.u8 x1.ak.b2,TV.int IntKind.u8 x1.ak.b3,TV.int IntKind.u8 x1.ak.b4,TV.int IntKind.u8 x1.ak.b5,TV.int IntKind.u8 x1.ak.b6,TV.int IntKind.u8 x1.ak.b7,TV.int IntKind.u8 x1.ak.b8,TV.int IntKind.u8 x1.ak.b9,TV.int IntKind.u8 x1.ak.b10,TV.int IntKind.u8 x1.ak.b11,TV.int IntKind.u8 x1.ak.b12,TV.int IntKind.u8 x1.ak.b13,TV.int IntKind.u8 x1.ak.b14,TV.int IntKind.u8 x1.ak.b15,TV.aj (T:=R.T) Cp.sh (Ty.st 2) x1.Marks,TV.int IntKind.u8 x1.Gone.b0,TV.int IntKind.u8 x1.Gone.b1,TV.int IntKind.u8 x1.Gone.b2,TV.int IntKind.u8 x1.Gone.b3,TV.int IntKind.u8 x1.Gone.b4,TV.int IntKind.u8 x1.Gone.b5,TV.int IntKind.u8 x1.Gone.b6,TV.int IntKind.u8 x1.Gone.b7,TV.int IntKind.u8 x1.Gone.b8,TV.int IntKind.u8 x1.Gone.b9,TV.int IntKind.u8 x1.Gone.b10,TV.int IntKind.u8 x1.Gone.b11,TV.int IntKind.u8 x1.Gone.b12,TV.int IntKind.u8 x1.Gone.b13,TV.int IntKind.u8 x1.Gone.b14,TV.int IntKind.u8 x1.Gone.b15,TV.int IntKind.i64 x1.fK,TV.int IntKind.u8 x1.ay.b0,TV.int IntKind.u8 x1.ay.b1,TV.int IntKind.u8 x1.ay.b2,TV.int IntKind.u8 x1.ay.b3,TV.int IntKind.u8 x1.ay.b4,TV.int IntKind.u8 x1.ay.b5,TV.int IntKind.u8 x1.ay.b6,TV.int IntKind.u8 x1.ay.b7,TV.int IntKind.u8 x1.ay.b8,TV.int IntKind.u8 x1.ay.b9,TV.int IntKind.u8 x1.ay.b10,TV.int IntKind.u8 x1.ay.b11,TV.int IntKind.u8 x1.ay.b12,TV.int IntKind.u8 x1.ay.b13,TV.int IntKind.u8 x1.ay.b14,TV.int IntKind.u8 x1.ay.b15,TV.int IntKind.i64 x1.fM,TV.int IntKind.i64 x1.bP,TV.int IntKind.u8 x1.Seal.b0,TV.int IntKind.u8 x1.Seal.b1,TV.int IntKind.u8 x1.Seal.b2,TV.int IntKind.u8 x1.Seal.b3,TV.int IntKind.u8 x1.Seal.b4,TV.int IntKind.u8 x1.Seal.b5,TV.int IntKind.u8 x1.Seal.b6,TV.int IntKind.u8 x1.Seal.b7,TV.int IntKind.u8 x1.Seal.b8,TV.int IntKind.u8 x1.Seal.b9,TV.int IntKind.u8 x1.Seal.b10,TV.int IntKind.u8 x1.Seal.b11,TV.int IntKind.u8 x1.Seal.b12,TV.int IntKind.u8 x1.Seal.b13,TV.int IntKind.u8 x1.Seal.b14,TV.int IntKind.u8 x1.Seal.b15])),(2,Ob.ro (Ob.cells [TV.int IntKind.u8 (0:Int),TV.int IntKind.u8 (0:Int),TV.int IntKind.u8 (0:Int),TV.int IntKind.u8 (0:Int),TV.int IntKind.u8 (0:Int),TV.int IntKind.u8 (0:Int),TV.int IntKind.u8 (0:Int),TV.int IntKind.u8 (0:Int),TV.int IntKind.u8 (0:Int),TV.int IntKind.u8 (0:Int),TV.int IntKind.u8 (0:Int),TV.int IntKind.u8 (0:Int),TV.int IntKind.u8 (0:Int),TV.int IntKind.u8 (0:Int),TV.int IntKind.u8 (0:Int),TV.int IntKind.u8 (0:Int)]))]⟩:MS R.T) (bV Mc.loops 4).sh (bV Mc.loops 4).outs (fun st k=>bS E R n false (Ma n) aS Mc ((bL Tryz.f19.body [1,1,1,0,1,0,0]).getD .skip) st k) m p
theorem abj (n:Nat) (x1:Root) (m:Nat) (x2:List Int) (x3:List (List UInt8)) (x4:Int):GX n x1 (m+1) (x2,(x3,x4))=
 bif decide (x4< (((x1.Marks.length:Nat):Int))) then
  (dw x1.Marks x4).bind fun (r5:Mark)=>
  bif dG (x2.length+([r5.Count].length)) 8 then
   bif dG (x3.length+(([List.map (fun n:Int=>UInt8.ofNat n.toNat) [r5.aO.b0,r5.aO.b1,r5.aO.b2,r5.aO.b3,r5.aO.b4,r5.aO.b5,r5.aO.b6,r5.aO.b7,r5.aO.b8,r5.aO.b9,r5.aO.b10,r5.aO.b11,r5.aO.b12,r5.aO.b13,r5.aO.b14,r5.aO.b15],List.map (fun n:Int=>UInt8.ofNat n.toNat) [r5.aT.b0,r5.aT.b1,r5.aT.b2,r5.aT.b3,r5.aT.b4,r5.aT.b5,r5.aT.b6,r5.aT.b7,r5.aT.b8,r5.aT.b9,r5.aT.b10,r5.aT.b11,r5.aT.b12,r5.aT.b13,r5.aT.b14,r5.aT.b15]]).length)) 16 then
    GX n x1 m ((x2++[r5.Count],(x3++([List.map (fun n:Int=>UInt8.ofNat n.toNat) [r5.aO.b0,r5.aO.b1,r5.aO.b2,r5.aO.b3,r5.aO.b4,r5.aO.b5,r5.aO.b6,r5.aO.b7,r5.aO.b8,r5.aO.b9,r5.aO.b10,r5.aO.b11,r5.aO.b12,r5.aO.b13,r5.aO.b14,r5.aO.b15],List.map (fun n:Int=>UInt8.ofNat n.toNat) [r5.aT.b0,r5.aT.b1,r5.aT.b2,r5.aT.b3,r5.aT.b4,r5.aT.b5,r5.aT.b6,r5.aT.b7,r5.aT.b8,r5.aT.b9,r5.aT.b10,r5.aT.b11,r5.aT.b12,r5.aT.b13,r5.aT.b14,r5.aT.b15]]),IntKind.wrap IntKind.i64 (x4+(1:Int)))))
   else
    none
  else
   none
 else
  some ((x2,x3)):=by kernel_rfl
theorem anf (n:Nat) (x1:Root):sJ n x1=
 (GX n x1 n (([x1.bN,x1.aZ,x1.Day,x1.Floor,x1.fK,x1.fM],([List.map (fun n:Int=>UInt8.ofNat n.toNat) [x1.au.b0,x1.au.b1,x1.au.b2,x1.au.b3,x1.au.b4,x1.au.b5,x1.au.b6,x1.au.b7,x1.au.b8,x1.au.b9,x1.au.b10,x1.au.b11,x1.au.b12,x1.au.b13,x1.au.b14,x1.au.b15],List.map (fun n:Int=>UInt8.ofNat n.toNat) [x1.ak.b0,x1.ak.b1,x1.ak.b2,x1.ak.b3,x1.ak.b4,x1.ak.b5,x1.ak.b6,x1.ak.b7,x1.ak.b8,x1.ak.b9,x1.ak.b10,x1.ak.b11,x1.ak.b12,x1.ak.b13,x1.ak.b14,x1.ak.b15],List.map (fun n:Int=>UInt8.ofNat n.toNat) [x1.Gone.b0,x1.Gone.b1,x1.Gone.b2,x1.Gone.b3,x1.Gone.b4,x1.Gone.b5,x1.Gone.b6,x1.Gone.b7,x1.Gone.b8,x1.Gone.b9,x1.Gone.b10,x1.Gone.b11,x1.Gone.b12,x1.Gone.b13,x1.Gone.b14,x1.Gone.b15],List.map (fun n:Int=>UInt8.ofNat n.toNat) [x1.ay.b0,x1.ay.b1,x1.ay.b2,x1.ay.b3,x1.ay.b4,x1.ay.b5,x1.ay.b6,x1.ay.b7,x1.ay.b8,x1.ay.b9,x1.ay.b10,x1.ay.b11,x1.ay.b12,x1.ay.b13,x1.ay.b14,x1.ay.b15]],(0:Int))))).bind fun (r6:(List Int)×List (List UInt8))=>
 (Bo n r6.1).bind fun (r7:List Int)=>
 bif dG (([List.map (fun n:Int=>UInt8.ofNat n.toNat) r7].length)+r6.2.length) 16 then
  (yg n (((361:Int),[List.map (fun n:Int=>UInt8.ofNat n.toNat) r7]++r6.2))).bind fun (r8:aI)=>
  some r8
 else
  none:=by kernel_rfl
theorem ang (n:Nat) (x1:Root):yG n x1=
 (sJ n x1).bind fun (r2:aI)=>
 some ([List.map (fun n:Int=>UInt8.ofNat n.toNat) [r2.b0,r2.b1,r2.b2,r2.b3,r2.b4,r2.b5,r2.b6,r2.b7,r2.b8,r2.b9,r2.b10,r2.b11,r2.b12,r2.b13,r2.b14,r2.b15]]):=by kernel_rfl
theorem anh (n:Nat) (x1:Key) (x2:Int) (x3:List (List UInt8)):yH n (x1,(x2,x3))=
 bif dG (([x1.fq].length)+x3.length) 16 then
  bif dG ((([x1.fq]++x3).length)+([x1.fq].length)) 16 then
   (yg n ((x2,([x1.fq]++x3)++[x1.fq]))).bind fun (r4:aI)=>
   some ((⟨r4.b0,r4.b1,r4.b2,r4.b3,r4.b4,r4.b5,r4.b6,r4.b7,r4.b8,r4.b9,r4.b10,r4.b11,r4.b12,r4.b13,r4.b14,r4.b15⟩:Seal))
  else
   none
 else
  none:=by kernel_rfl
theorem ani (n:Nat) (x1:Key) (x2:Root):BS n (x1,x2)=
 (sI n ((⟨x2.bN,x2.aZ,x2.Day,x2.Floor,x2.au,x2.ak,x2.Marks,x2.Gone,x2.fK,x2.ay,x2.fM,x1.bP,x2.Seal⟩:Root))).bind fun (r3:Bool)=>
 (eY (!(!r3)) (yB n x1) false).bind fun (r4:Bool)=>
 bif bif bif !r3 then true else !r4 then true else x1.dL !=(IntKind.wrap IntKind.i64 ((1073741824:Int)+x2.bN)) then
  some ((⟨(⟨(0:Int),(0:Int),(0:Int),(0:Int),(⟨(0:Int),(0:Int),(0:Int),(0:Int),(0:Int),(0:Int),(0:Int),(0:Int),(0:Int),(0:Int),(0:Int),(0:Int),(0:Int),(0:Int),(0:Int),(0:Int)⟩:aI),(⟨(0:Int),(0:Int),(0:Int),(0:Int),(0:Int),(0:Int),(0:Int),(0:Int),(0:Int),(0:Int),(0:Int),(0:Int),(0:Int),(0:Int),(0:Int),(0:Int)⟩:aI),[],(⟨(0:Int),(0:Int),(0:Int),(0:Int),(0:Int),(0:Int),(0:Int),(0:Int),(0:Int),(0:Int),(0:Int),(0:Int),(0:Int),(0:Int),(0:Int),(0:Int)⟩:aI),(0:Int),(⟨(0:Int),(0:Int),(0:Int),(0:Int),(0:Int),(0:Int),(0:Int),(0:Int),(0:Int),(0:Int),(0:Int),(0:Int),(0:Int),(0:Int),(0:Int),(0:Int)⟩:aI),(0:Int),(0:Int),(⟨(0:Int),(0:Int),(0:Int),(0:Int),(0:Int),(0:Int),(0:Int),(0:Int),(0:Int),(0:Int),(0:Int),(0:Int),(0:Int),(0:Int),(0:Int),(0:Int)⟩:Seal)⟩:Root),(1:Int)⟩:dW))
 else
  (yG n ((⟨x2.bN,x2.aZ,x2.Day,x2.Floor,x2.au,x2.ak,x2.Marks,x2.Gone,x2.fK,x2.ay,x2.fM,x1.bP,x2.Seal⟩:Root))).bind fun (r5:List (List UInt8))=>
  (yH n ((x1,((362:Int),r5)))).bind fun (r6:Seal)=>
  some ((⟨(⟨x2.bN,x2.aZ,x2.Day,x2.Floor,x2.au,x2.ak,x2.Marks,x2.Gone,x2.fK,x2.ay,x2.fM,x1.bP,r6⟩:Root),(0:Int)⟩:dW)):=by kernel_rfl
noncomputable def Cr (n:Nat) (x1:Root) (x2:Root) (m:Nat) (p:Int):Option (PUnit⊕Bool):=
 eP (R:=R) 4 (aK ((bL Tryz.f15.body [1,1,0,1,0,0]).getD .skip)) (⟨[(2,TV.ref 2 0),(3,TV.ref 3 0)],[(2,Ob.ro (Ob.cells [TV.int IntKind.i64 x1.bN,TV.int IntKind.i64 x1.aZ,TV.int IntKind.i64 x1.Day,TV.int IntKind.i64 x1.Floor,TV.int IntKind.u8 x1.au.b0,TV.int IntKind.u8 x1.au.b1,TV.int IntKind.u8 x1.au.b2,TV.int IntKind.u8 x1.au.b3,TV.int IntKind.u8 x1.au.b4,TV.int IntKind.u8 x1.au.b5,TV.int IntKind.u8 x1.au.b6,TV.int IntKind.u8 x1.au.b7,TV.int IntKind.u8 x1.au.b8,TV.int IntKind.u8 x1.au.b9,TV.int IntKind.u8 x1.au.b10,TV.int IntKind.u8 x1.au.b11,TV.int IntKind.u8 x1.au.b12,TV.int IntKind.u8 x1.au.b13,TV.int IntKind.u8 x1.au.b14,TV.int IntKind.u8 x1.au.b15,TV.int IntKind.u8 x1.ak.b0,TV.int IntKind.u8 x1.ak.b1,TV.int IntKind.u8 x1.ak.b2,TV.int IntKind.u8 x1.ak.b3,TV.int IntKind.u8 x1.ak.b4,TV.int IntKind.u8 x1.ak.b5,TV.int IntKind.u8 x1.ak.b6,TV.int IntKind.u8 x1.ak.b7,TV.int IntKind.u8 x1.ak.b8,TV.int IntKind.u8 x1.ak.b9,TV.int IntKind.u8 x1.ak.b10,TV.int IntKind.u8 x1.ak.b11,TV.int IntKind.u8 x1.ak.b12,TV.int IntKind.u8 x1.ak.b13,TV.int IntKind.u8 x1.ak.b14,TV.int IntKind.u8 x1.ak.b15,TV.aj (T:=R.T) Cp.sh (Ty.st 2) x1.Marks,TV.int IntKind.u8 x1.Gone.b0,TV.int IntKind.u8 x1.Gone.b1,TV.int IntKind.u8 x1.Gone.b2,TV.int IntKind.u8 x1.Gone.b3,TV.int IntKind.u8 x1.Gone.b4,TV.int IntKind.u8 x1.Gone.b5,TV.int IntKind.u8 x1.Gone.b6,TV.int IntKind.u8 x1.Gone.b7,TV.int IntKind.u8 x1.Gone.b8,TV.int IntKind.u8 x1.Gone.b9,TV.int IntKind.u8 x1.Gone.b10,TV.int IntKind.u8 x1.Gone.b11,TV.int IntKind.u8 x1.Gone.b12,TV.int IntKind.u8 x1.Gone.b13,TV.int IntKind.u8 x1.Gone.b14,TV.int IntKind.u8 x1.Gone.b15,TV.int IntKind.i64 x1.fK,TV.int IntKind.u8 x1.ay.b0,TV.int IntKind.u8 x1.ay.b1,TV.int IntKind.u8 x1.ay.b2,TV.int IntKind.u8 x1.ay.b3,TV.int IntKind.u8 x1.ay.b4,TV.int IntKind.u8 x1.ay.b5,TV.int IntKind.u8 x1.ay.b6,TV.int IntKind.u8 x1.ay.b7,TV.int IntKind.u8 x1.ay.b8,TV.int IntKind.u8 x1.ay.b9,TV.int IntKind.u8 x1.ay.b10,TV.int IntKind.u8 x1.ay.b11,TV.int IntKind.u8 x1.ay.b12,TV.int IntKind.u8 x1.ay.b13,TV.int IntKind.u8 x1.ay.b14,TV.int IntKind.u8 x1.ay.b15,TV.int IntKind.i64 x1.fM,TV.int IntKind.i64 x1.bP,TV.int IntKind.u8 x1.Seal.b0,TV.int IntKind.u8 x1.Seal.b1,TV.int IntKind.u8 x1.Seal.b2,TV.int IntKind.u8 x1.Seal.b3,TV.int IntKind.u8 x1.Seal.b4,TV.int IntKind.u8 x1.Seal.b5,TV.int IntKind.u8 x1.Seal.b6,TV.int IntKind.u8 x1.Seal.b7,TV.int IntKind.u8 x1.Seal.b8,TV.int IntKind.u8 x1.Seal.b9,TV.int IntKind.u8 x1.Seal.b10,TV.int IntKind.u8 x1.Seal.b11,TV.int IntKind.u8 x1.Seal.b12,TV.int IntKind.u8 x1.Seal.b13,TV.int IntKind.u8 x1.Seal.b14,TV.int IntKind.u8 x1.Seal.b15])),(3,Ob.ro (Ob.cells [TV.int IntKind.i64 x2.bN,TV.int IntKind.i64 x2.aZ,TV.int IntKind.i64 x2.Day,TV.int IntKind.i64 x2.Floor,TV.int IntKind.u8 x2.au.b0,TV.int IntKind.u8 x2.au.b1,TV.int IntKind.u8 x2.au.b2,TV.int IntKind.u8 x2.au.b3,TV.int IntKind.u8 x2.au.b4,TV.int IntKind.u8 x2.au.b5,TV.int IntKind.u8 x2.au.b6,TV.int IntKind.u8 x2.au.b7,TV.int IntKind.u8 x2.au.b8,TV.int IntKind.u8 x2.au.b9,TV.int IntKind.u8 x2.au.b10,TV.int IntKind.u8 x2.au.b11,TV.int IntKind.u8 x2.au.b12,TV.int IntKind.u8 x2.au.b13,TV.int IntKind.u8 x2.au.b14,TV.int IntKind.u8 x2.au.b15,TV.int IntKind.u8 x2.ak.b0,TV.int IntKind.u8 x2.ak.b1,TV.int IntKind.u8 x2.ak.b2,TV.int IntKind.u8 x2.ak.b3,TV.int IntKind.u8 x2.ak.b4,TV.int IntKind.u8 x2.ak.b5,TV.int IntKind.u8 x2.ak.b6,TV.int IntKind.u8 x2.ak.b7,TV.int IntKind.u8 x2.ak.b8,TV.int IntKind.u8 x2.ak.b9,TV.int IntKind.u8 x2.ak.b10,TV.int IntKind.u8 x2.ak.b11,TV.int IntKind.u8 x2.ak.b12,TV.int IntKind.u8 x2.ak.b13,TV.int IntKind.u8 x2.ak.b14,TV.int IntKind.u8 x2.ak.b15,TV.aj (T:=R.T) Cp.sh (Ty.st 2) x2.Marks,TV.int IntKind.u8 x2.Gone.b0,TV.int IntKind.u8 x2.Gone.b1,TV.int IntKind.u8 x2.Gone.b2,TV.int IntKind.u8 x2.Gone.b3,TV.int IntKind.u8 x2.Gone.b4,TV.int IntKind.u8 x2.Gone.b5,TV.int IntKind.u8 x2.Gone.b6,TV.int IntKind.u8 x2.Gone.b7,TV.int IntKind.u8 x2.Gone.b8,TV.int IntKind.u8 x2.Gone.b9,TV.int IntKind.u8 x2.Gone.b10,TV.int IntKind.u8 x2.Gone.b11,TV.int IntKind.u8 x2.Gone.b12,TV.int IntKind.u8 x2.Gone.b13,TV.int IntKind.u8 x2.Gone.b14,TV.int IntKind.u8 x2.Gone.b15,TV.int IntKind.i64 x2.fK,TV.int IntKind.u8 x2.ay.b0,TV.int IntKind.u8 x2.ay.b1,TV.int IntKind.u8 x2.ay.b2,TV.int IntKind.u8 x2.ay.b3,TV.int IntKind.u8 x2.ay.b4,TV.int IntKind.u8 x2.ay.b5,TV.int IntKind.u8 x2.ay.b6,TV.int IntKind.u8 x2.ay.b7,TV.int IntKind.u8 x2.ay.b8,TV.int IntKind.u8 x2.ay.b9,TV.int IntKind.u8 x2.ay.b10,TV.int IntKind.u8 x2.ay.b11,TV.int IntKind.u8 x2.ay.b12,TV.int IntKind.u8 x2.ay.b13,TV.int IntKind.u8 x2.ay.b14,TV.int IntKind.u8 x2.ay.b15,TV.int IntKind.i64 x2.fM,TV.int IntKind.i64 x2.bP,TV.int IntKind.u8 x2.Seal.b0,TV.int IntKind.u8 x2.Seal.b1,TV.int IntKind.u8 x2.Seal.b2,TV.int IntKind.u8 x2.Seal.b3,TV.int IntKind.u8 x2.Seal.b4,TV.int IntKind.u8 x2.Seal.b5,TV.int IntKind.u8 x2.Seal.b6,TV.int IntKind.u8 x2.Seal.b7,TV.int IntKind.u8 x2.Seal.b8,TV.int IntKind.u8 x2.Seal.b9,TV.int IntKind.u8 x2.Seal.b10,TV.int IntKind.u8 x2.Seal.b11,TV.int IntKind.u8 x2.Seal.b12,TV.int IntKind.u8 x2.Seal.b13,TV.int IntKind.u8 x2.Seal.b14,TV.int IntKind.u8 x2.Seal.b15]))]⟩:MS R.T) (bV Mi.loops 4).sh (bV Mi.loops 4).outs (fun st k=>bS E R n false (Mh n) aS Mi ((bL Tryz.f15.body [1,1,0,1,0,0]).getD .skip) st k) m p
theorem abk (n:Nat) (x1:Root) (x2:Root) (m:Nat) (x3:Int):Cr n x1 x2 (m+1) x3=
 bif decide (x3< (((x1.Marks.length:Nat):Int))) then
  (dw x1.Marks x3).bind fun (r4:Mark)=>
  (dw x2.Marks x3).bind fun (r5:Mark)=>
  bif !(((r4.aO.b0==r5.aO.b0)&& ((r4.aO.b1==r5.aO.b1)&& ((r4.aO.b2==r5.aO.b2)&& ((r4.aO.b3==r5.aO.b3)&& ((r4.aO.b4==r5.aO.b4)&& ((r4.aO.b5==r5.aO.b5)&& ((r4.aO.b6==r5.aO.b6)&& ((r4.aO.b7==r5.aO.b7)&& ((r4.aO.b8==r5.aO.b8)&& ((r4.aO.b9==r5.aO.b9)&& ((r4.aO.b10==r5.aO.b10)&& ((r4.aO.b11==r5.aO.b11)&& ((r4.aO.b12==r5.aO.b12)&& ((r4.aO.b13==r5.aO.b13)&& ((r4.aO.b14==r5.aO.b14)&& ((r4.aO.b15==r5.aO.b15)&& true))))))))))))))))&& (((r4.aT.b0==r5.aT.b0)&& ((r4.aT.b1==r5.aT.b1)&& ((r4.aT.b2==r5.aT.b2)&& ((r4.aT.b3==r5.aT.b3)&& ((r4.aT.b4==r5.aT.b4)&& ((r4.aT.b5==r5.aT.b5)&& ((r4.aT.b6==r5.aT.b6)&& ((r4.aT.b7==r5.aT.b7)&& ((r4.aT.b8==r5.aT.b8)&& ((r4.aT.b9==r5.aT.b9)&& ((r4.aT.b10==r5.aT.b10)&& ((r4.aT.b11==r5.aT.b11)&& ((r4.aT.b12==r5.aT.b12)&& ((r4.aT.b13==r5.aT.b13)&& ((r4.aT.b14==r5.aT.b14)&& ((r4.aT.b15==r5.aT.b15)&& true))))))))))))))))&& ((r4.Count==r5.Count)&& true))) then
   some (.inr false)
  else
   Cr n x1 x2 m (IntKind.wrap IntKind.i64 (x3+(1:Int)))
 else
  some (.inl (())):=by kernel_rfl
theorem anj (n:Nat) (x1:Root) (x2:Root):BU n (x1,x2)=
 bif (((x1.Marks.length:Nat):Int)) !=(((x2.Marks.length:Nat):Int)) then
  some false
 else
  (Cr n x1 x2 n (0:Int)).bind fun (r6:PUnit⊕Bool)=>
  Sum.elim (fun (q7:PUnit)=>
   bif bif bif bif bif bif x1.bN !=x2.bN then true else x1.aZ !=x2.aZ then true else x1.Day !=x2.Day then true else x1.Floor !=x2.Floor then true else !((x1.au.b0==x2.au.b0)&& ((x1.au.b1==x2.au.b1)&& ((x1.au.b2==x2.au.b2)&& ((x1.au.b3==x2.au.b3)&& ((x1.au.b4==x2.au.b4)&& ((x1.au.b5==x2.au.b5)&& ((x1.au.b6==x2.au.b6)&& ((x1.au.b7==x2.au.b7)&& ((x1.au.b8==x2.au.b8)&& ((x1.au.b9==x2.au.b9)&& ((x1.au.b10==x2.au.b10)&& ((x1.au.b11==x2.au.b11)&& ((x1.au.b12==x2.au.b12)&& ((x1.au.b13==x2.au.b13)&& ((x1.au.b14==x2.au.b14)&& ((x1.au.b15==x2.au.b15)&& true)))))))))))))))) then true else !((x1.ak.b0==x2.ak.b0)&& ((x1.ak.b1==x2.ak.b1)&& ((x1.ak.b2==x2.ak.b2)&& ((x1.ak.b3==x2.ak.b3)&& ((x1.ak.b4==x2.ak.b4)&& ((x1.ak.b5==x2.ak.b5)&& ((x1.ak.b6==x2.ak.b6)&& ((x1.ak.b7==x2.ak.b7)&& ((x1.ak.b8==x2.ak.b8)&& ((x1.ak.b9==x2.ak.b9)&& ((x1.ak.b10==x2.ak.b10)&& ((x1.ak.b11==x2.ak.b11)&& ((x1.ak.b12==x2.ak.b12)&& ((x1.ak.b13==x2.ak.b13)&& ((x1.ak.b14==x2.ak.b14)&& ((x1.ak.b15==x2.ak.b15)&& true)))))))))))))))) then
    some false
   else
    some (bif bif bif bif bif (x1.Gone.b0==x2.Gone.b0)&& ((x1.Gone.b1==x2.Gone.b1)&& ((x1.Gone.b2==x2.Gone.b2)&& ((x1.Gone.b3==x2.Gone.b3)&& ((x1.Gone.b4==x2.Gone.b4)&& ((x1.Gone.b5==x2.Gone.b5)&& ((x1.Gone.b6==x2.Gone.b6)&& ((x1.Gone.b7==x2.Gone.b7)&& ((x1.Gone.b8==x2.Gone.b8)&& ((x1.Gone.b9==x2.Gone.b9)&& ((x1.Gone.b10==x2.Gone.b10)&& ((x1.Gone.b11==x2.Gone.b11)&& ((x1.Gone.b12==x2.Gone.b12)&& ((x1.Gone.b13==x2.Gone.b13)&& ((x1.Gone.b14==x2.Gone.b14)&& ((x1.Gone.b15==x2.Gone.b15)&& true))))))))))))))) then x1.fK==x2.fK else false then (x1.ay.b0==x2.ay.b0)&& ((x1.ay.b1==x2.ay.b1)&& ((x1.ay.b2==x2.ay.b2)&& ((x1.ay.b3==x2.ay.b3)&& ((x1.ay.b4==x2.ay.b4)&& ((x1.ay.b5==x2.ay.b5)&& ((x1.ay.b6==x2.ay.b6)&& ((x1.ay.b7==x2.ay.b7)&& ((x1.ay.b8==x2.ay.b8)&& ((x1.ay.b9==x2.ay.b9)&& ((x1.ay.b10==x2.ay.b10)&& ((x1.ay.b11==x2.ay.b11)&& ((x1.ay.b12==x2.ay.b12)&& ((x1.ay.b13==x2.ay.b13)&& ((x1.ay.b14==x2.ay.b14)&& ((x1.ay.b15==x2.ay.b15)&& true))))))))))))))) else false then x1.fM==x2.fM else false then x1.bP==x2.bP else false then (x1.Seal.b0==x2.Seal.b0)&& ((x1.Seal.b1==x2.Seal.b1)&& ((x1.Seal.b2==x2.Seal.b2)&& ((x1.Seal.b3==x2.Seal.b3)&& ((x1.Seal.b4==x2.Seal.b4)&& ((x1.Seal.b5==x2.Seal.b5)&& ((x1.Seal.b6==x2.Seal.b6)&& ((x1.Seal.b7==x2.Seal.b7)&& ((x1.Seal.b8==x2.Seal.b8)&& ((x1.Seal.b9==x2.Seal.b9)&& ((x1.Seal.b10==x2.Seal.b10)&& ((x1.Seal.b11==x2.Seal.b11)&& ((x1.Seal.b12==x2.Seal.b12)&& ((x1.Seal.b13==x2.Seal.b13)&& ((x1.Seal.b14==x2.Seal.b14)&& ((x1.Seal.b15==x2.Seal.b15)&& true))))))))))))))) else false))
   (fun (q8:Bool)=>
    some q8) r6:=by kernel_rfl
theorem ank (n:Nat) (x1:Int):cmp_isNaN_int n x1=
 some (x1 !=x1):=by kernel_rfl
theorem anl (n:Nat) (x1:Int) (x2:Int):cmp_Compare_int n (x1,x2)=
 (cmp_isNaN_int n x1).bind fun (r3:Bool)=>
 (cmp_isNaN_int n x2).bind fun (r4:Bool)=>
 bif r3 then
  bif r4 then
   some (0:Int)
  else
   some (-1:Int)
 else
  bif r4 then
   some (1:Int)
  else
   bif decide (x1<x2) then
    some (-1:Int)
   else
    bif decide (x1>x2) then
     some (1:Int)
    else
     some (0:Int):=by kernel_rfl
noncomputable def GY (n:Nat) (x1:List Int) (m:Nat) (p:Int):Option (PUnit⊕Int):=
 eP (R:=R) 3 (aK ((bL Tryz.f217.body [1,1,0,1,0,0]).getD .skip)) (⟨[(3,TV.int IntKind.i64 (0:Int)),(6,TV.aj (T:=R.T) Cp.sh (Ty.int IntKind.i64) x1),(7,TV.int IntKind.i64 (((x1.length:Nat):Int)))],[]⟩:MS R.T) (bV Mr.loops 3).sh (bV Mr.loops 3).outs (fun st k=>bS E R n false (Mq n) aS Mr ((bL Tryz.f217.body [1,1,0,1,0,0]).getD .skip) st k) m p
theorem Tj (n:Nat) (x1:List Int) (m:Nat) (x2:Int):GY n x1 (m+1) x2=
 bif decide (x2< (((x1.length:Nat):Int))) then
  (dw x1 x2).bind fun (r3:Int)=>
  bif r3 !=(0:Int) then
   some (.inr r3)
  else
   GY n x1 m (IntKind.wrap IntKind.i64 (x2+(1:Int)))
 else
  some (.inl (())):=by kernel_rfl
theorem anm (n:Nat) (x1:List Int):BX n x1=
 (GY n x1 n (0:Int)).bind fun (r4:PUnit⊕Int)=>
 Sum.elim (fun (q5:PUnit)=>
  some (0:Int))
  (fun (q6:Int)=>
   some q6) r4:=by kernel_rfl
theorem ano (n:Nat) (x1:Key) (x2:Key):Gq n (x1,x2)=
 (cmp_Compare_int n ((x1.dL,x2.dL))).bind fun (r3:Int)=>
 (cmp_Compare_int n ((x1.bP,x2.bP))).bind fun (r4:Int)=>
 (BX n [r3,r4]).bind fun (r5:Int)=>
 some r5:=by kernel_rfl
theorem anp (n:Nat) (x1:Key) (x2:Key):yI n (x1,x2)=
 (Gq n ((x1,x2))).bind fun (r3:Int)=>
 some r3:=by kernel_rfl
noncomputable def Ct (n:Nat) (x1:List Key) (x2:Key) (m:Nat) (p:Int×Int):Option (Int):=
 eP (R:=R) 3 (aK ((bL Tryz.f203.body [1,1,1,0,0,0]).getD .skip)) (⟨[(0,TV.aj (T:=R.T) Cp.sh (Ty.st 4) x1),(2,TV.fn 204 [] []),(4,TV.ref 4 0),(8,TV.int IntKind.i64 (((x1.length:Nat):Int)))],[(4,Ob.ro (Ob.cells [TV.int IntKind.i64 x2.dL,TV.int IntKind.i64 x2.bP,TV.str x2.fq,TV.int IntKind.i64 x2.From,TV.int IntKind.i64 x2.To]))]⟩:MS R.T) (bV Mx.loops 3).sh (bV Mx.loops 3).outs (fun st k=>bS E R n false (Mw n) aS Mx ((bL Tryz.f203.body [1,1,1,0,0,0]).getD .skip) st k) m p
theorem M4 (n:Nat) (x1:List Key) (x2:Key) (m:Nat) (x3:Int) (x4:Int):Ct n x1 x2 (m+1) (x3,x4)=
 bif decide (x3<x4) then
  bif decide ((0:Int)≤(1:Int)) then
   (dw x1 (IntKind.wrap IntKind.i64 (gH IntKind.u64 (IntKind.wrap IntKind.u64 (IntKind.wrap IntKind.i64 (x3+x4))) (1:Int)))).bind fun (r5:Key)=>
   (yI n ((r5,x2))).bind fun (r6:Int)=>
   bif decide (r6< (0:Int)) then
    Ct n x1 x2 m ((IntKind.wrap IntKind.i64 ((IntKind.wrap IntKind.i64 (gH IntKind.u64 (IntKind.wrap IntKind.u64 (IntKind.wrap IntKind.i64 (x3+x4))) (1:Int)))+(1:Int)),x4))
   else
    Ct n x1 x2 m ((x3,IntKind.wrap IntKind.i64 (gH IntKind.u64 (IntKind.wrap IntKind.u64 (IntKind.wrap IntKind.i64 (x3+x4))) (1:Int))))
  else
   none
 else
  some x3:=by kernel_rfl
theorem anq (n:Nat) (x1:List Key) (x2:Key):Gt n (x1,(x2,((),())))=
 (Ct n x1 x2 n (((0:Int),((x1.length:Nat):Int)))).bind fun (r7:Int)=>
 bif decide (r7< (((x1.length:Nat):Int))) then
  (dw x1 r7).bind fun (r8:Key)=>
  (yI n ((r8,x2))).bind fun (r9:Int)=>
  some ((r7,r9==(0:Int)))
 else
  some ((r7,false)):=by kernel_rfl
theorem anr (n:Nat) (x1:List Key) (x2:Int) (x3:Int):BZ n (x1,(x2,x3))=
 (Gt n ((x1,((⟨x2,x3,[],(0:Int),(0:Int)⟩:Key),((),()))))).bind fun (r4:Int×Bool)=>
 some ((r4.1,r4.2)):=by kernel_rfl
theorem ant (n:Nat) (x1:List Key) (x2:Int) (x3:Int):Ca n (x1,(x2,x3))=
 (BZ n ((x1,(x2,x3)))).bind fun (r4:Int×Bool)=>
 bif !r4.2 then
  some (((⟨(0:Int),(0:Int),[],(0:Int),(0:Int)⟩:Key),(5:Int)))
 else
  (dw x1 r4.1).bind fun (r5:Key)=>
  some ((r5,(0:Int))):=by kernel_rfl
theorem anu (n:Nat) (x1:Key) (x2:Int):Cb n (x1,x2)=
 (sG n ((x2,(x1.From,IntKind.wrap IntKind.i64 (x1.To-(1:Int)))))).bind fun (r3:Bool)=>
 some r3:=by kernel_rfl
theorem anv (n:Nat) (x1:List Key) (x2:Int) (x3:Int) (x4:Int) (x5:List (List UInt8)) (x6:Seal) (x7:Int):Cc n (x1,(x2,(x3,(x4,(x5,(x6,x7))))))=
 (Ca n ((x1,(x2,x3)))).bind fun (r8:Key×Int)=>
 bif r8.2 !=(0:Int) then
  some r8.2
 else
  (Cb n ((r8.1,x7))).bind fun (r9:Bool)=>
  bif !r9 then
   some (9:Int)
  else
   (yF n ((r8.1,(x4,x5)))).bind fun (cu:Seal)=>
   bif !((cu.b0==x6.b0)&& ((cu.b1==x6.b1)&& ((cu.b2==x6.b2)&& ((cu.b3==x6.b3)&& ((cu.b4==x6.b4)&& ((cu.b5==x6.b5)&& ((cu.b6==x6.b6)&& ((cu.b7==x6.b7)&& ((cu.b8==x6.b8)&& ((cu.b9==x6.b9)&& ((cu.b10==x6.b10)&& ((cu.b11==x6.b11)&& ((cu.b12==x6.b12)&& ((cu.b13==x6.b13)&& ((cu.b14==x6.b14)&& ((cu.b15==x6.b15)&& true)))))))))))))))) then
    some (8:Int)
   else
    some (0:Int):=by kernel_rfl
theorem anw (n:Nat) (x1:List Key) (x2:Root):wB n (x1,x2)=
 (sF n x2).bind fun (r3:Bool)=>
 bif !r3 then
  some (1:Int)
 else
  (yD n x2).bind fun (r4:List UInt8)=>
  (Cc n ((x1,(IntKind.wrap IntKind.i64 ((1073741824:Int)+x2.bN),(x2.bP,((362:Int),([r4],(x2.Seal,x2.Day)))))))).bind fun (r5:Int)=>
  some r5:=by kernel_rfl
noncomputable def GZ (n:Nat) (x1:List Key) (x2:Int) (x3:Int) (m:Nat) (p:Int×dR):Option ((PUnit×dR)⊕(PUnit×dR)):=
 eP (R:=R) 2 (aK ((bL Tryz.f127.body [1,0,1,0,0]).getD .skip)) (⟨[(0,TV.aj (T:=R.T) Cp.sh (Ty.st 4) x1),(1,TV.int IntKind.i64 x2),(2,TV.int IntKind.i64 x3),(6,TV.ref 6 0)],[]⟩:MS R.T) (bV MJ.loops 2).sh (bV MJ.loops 2).outs (fun st k=>bS E R n false (MI n) aS MJ ((bL Tryz.f127.body [1,0,1,0,0]).getD .skip) st k) m p
theorem abl (n:Nat) (x1:List Key) (x2:Int) (x3:Int) (m:Nat) (x4:Int) (x5:dR):GZ n x1 x2 x3 (m+1) (x4,x5)=
 bif decide (x4< (((x1.length:Nat):Int))) then
  (dw x1 x4).bind fun (r6:Key)=>
  (eY (r6.dL==x2) (dw x1 x4) ((⟨(0:Int),(0:Int),[],(0:Int),(0:Int)⟩:Key))).bind fun (r7:Key)=>
  bif bif r6.dL==x2 then r7.bP==x3 else false then
   (dw x1 x4).bind fun (r8:Key)=>
   some (.inr (((),(⟨r8,(0:Int)⟩:dR))))
  else
   GZ n x1 x2 x3 m ((IntKind.wrap IntKind.i64 (x4+(1:Int)),(⟨x5.K,x5.E⟩:dR)))
 else
  some (.inl (((),(⟨x5.K,x5.E⟩:dR)))):=by kernel_rfl
theorem anx (n:Nat) (x1:List Key) (x2:Int) (x3:Int):Ce n (x1,(x2,x3))=
 (GZ n x1 x2 x3 n (((0:Int),(⟨(⟨(0:Int),(0:Int),[],(0:Int),(0:Int)⟩:Key),(0:Int)⟩:dR)))).bind fun (r9:(PUnit×dR)⊕(PUnit×dR))=>
 Sum.elim (fun (M0:PUnit×dR)=>
  some ((⟨(⟨(0:Int),(0:Int),[],(0:Int),(0:Int)⟩:Key),(5:Int)⟩:dR)))
  (fun (q11:PUnit×dR)=>
   some ((⟨q11.2.K,q11.2.E⟩:dR))) r9:=by kernel_rfl
theorem anz (n:Nat) (x1:Key) (x2:Int):Cg n (x1,x2)=
 some (bif decide (x1.From≤x2) then decide (x2<x1.To) else false):=by kernel_rfl
theorem anA (n:Nat) (x1:List Key) (x2:Int) (x3:Int) (x4:Int) (x5:List (List UInt8)) (x6:Seal) (x7:Int):Ch n (x1,(x2,(x3,(x4,(x5,(x6,x7))))))=
 (Ce n ((x1,(x2,x3)))).bind fun (r8:dR)=>
 bif r8.E !=(0:Int) then
  some r8.E
 else
  (Cg n ((r8.K,x7))).bind fun (r9:Bool)=>
  bif !r9 then
   some (9:Int)
  else
   (yH n ((r8.K,(x4,x5)))).bind fun (cu:Seal)=>
   bif !((cu.b0==x6.b0)&& ((cu.b1==x6.b1)&& ((cu.b2==x6.b2)&& ((cu.b3==x6.b3)&& ((cu.b4==x6.b4)&& ((cu.b5==x6.b5)&& ((cu.b6==x6.b6)&& ((cu.b7==x6.b7)&& ((cu.b8==x6.b8)&& ((cu.b9==x6.b9)&& ((cu.b10==x6.b10)&& ((cu.b11==x6.b11)&& ((cu.b12==x6.b12)&& ((cu.b13==x6.b13)&& ((cu.b14==x6.b14)&& ((cu.b15==x6.b15)&& true)))))))))))))))) then
    some (8:Int)
   else
    some (0:Int):=by kernel_rfl
theorem anB (n:Nat) (x1:List Key) (x2:Root):sK n (x1,x2)=
 (sI n x2).bind fun (r3:Bool)=>
 bif !r3 then
  some (1:Int)
 else
  (yG n x2).bind fun (r4:List (List UInt8))=>
  (Ch n ((x1,(IntKind.wrap IntKind.i64 ((1073741824:Int)+x2.bN),(x2.bP,((362:Int),(r4,(x2.Seal,x2.Day)))))))).bind fun (r5:Int)=>
  some r5:=by kernel_rfl
theorem anC (n:Nat) (x1:Root) (x2:Root):yJ n (x1,x2)=
 (sF n x1).bind fun (r3:Bool)=>
 (eY (!(!r3)) (sF n x2) false).bind fun (r4:Bool)=>
 bif bif bif !r3 then true else !r4 then true else x1.bN !=x2.bN then
  some (1:Int)
 else
  bif bif bif x2.aZ !=(IntKind.wrap IntKind.i64 (x1.aZ+(1:Int))) then true else decide (x2.Day<x1.Day) then true else decide (x2.Floor<x1.Floor) then
   some (9:Int)
  else
   bif !(!((x1.ak.b0==x2.ak.b0)&& ((x1.ak.b1==x2.ak.b1)&& ((x1.ak.b2==x2.ak.b2)&& ((x1.ak.b3==x2.ak.b3)&& ((x1.ak.b4==x2.ak.b4)&& ((x1.ak.b5==x2.ak.b5)&& ((x1.ak.b6==x2.ak.b6)&& ((x1.ak.b7==x2.ak.b7)&& ((x1.ak.b8==x2.ak.b8)&& ((x1.ak.b9==x2.ak.b9)&& ((x1.ak.b10==x2.ak.b10)&& ((x1.ak.b11==x2.ak.b11)&& ((x1.ak.b12==x2.ak.b12)&& ((x1.ak.b13==x2.ak.b13)&& ((x1.ak.b14==x2.ak.b14)&& ((x1.ak.b15==x2.ak.b15)&& true))))))))))))))))) then
    (sH n x1).bind fun (r5:aI)=>
    bif !((x2.au.b0==r5.b0)&& ((x2.au.b1==r5.b1)&& ((x2.au.b2==r5.b2)&& ((x2.au.b3==r5.b3)&& ((x2.au.b4==r5.b4)&& ((x2.au.b5==r5.b5)&& ((x2.au.b6==r5.b6)&& ((x2.au.b7==r5.b7)&& ((x2.au.b8==r5.b8)&& ((x2.au.b9==r5.b9)&& ((x2.au.b10==r5.b10)&& ((x2.au.b11==r5.b11)&& ((x2.au.b12==r5.b12)&& ((x2.au.b13==r5.b13)&& ((x2.au.b14==r5.b14)&& ((x2.au.b15==r5.b15)&& true)))))))))))))))) then
     some (3:Int)
    else
     some (0:Int)
   else
    some (3:Int):=by kernel_rfl
theorem anD (n:Nat) (x1:Root) (x2:Root):yK n (x1,x2)=
 (sI n x1).bind fun (r3:Bool)=>
 (eY (!(!r3)) (sI n x2) false).bind fun (r4:Bool)=>
 bif bif bif !r3 then true else !r4 then true else x1.bN !=x2.bN then
  some (1:Int)
 else
  bif bif bif x2.aZ !=(IntKind.wrap IntKind.i64 (x1.aZ+(1:Int))) then true else decide (x2.Day<x1.Day) then true else decide (x2.Floor<x1.Floor) then
   some (9:Int)
  else
   bif !(!((x1.ak.b0==x2.ak.b0)&& ((x1.ak.b1==x2.ak.b1)&& ((x1.ak.b2==x2.ak.b2)&& ((x1.ak.b3==x2.ak.b3)&& ((x1.ak.b4==x2.ak.b4)&& ((x1.ak.b5==x2.ak.b5)&& ((x1.ak.b6==x2.ak.b6)&& ((x1.ak.b7==x2.ak.b7)&& ((x1.ak.b8==x2.ak.b8)&& ((x1.ak.b9==x2.ak.b9)&& ((x1.ak.b10==x2.ak.b10)&& ((x1.ak.b11==x2.ak.b11)&& ((x1.ak.b12==x2.ak.b12)&& ((x1.ak.b13==x2.ak.b13)&& ((x1.ak.b14==x2.ak.b14)&& ((x1.ak.b15==x2.ak.b15)&& true))))))))))))))))) then
    (sJ n x1).bind fun (r5:aI)=>
    bif !((x2.au.b0==r5.b0)&& ((x2.au.b1==r5.b1)&& ((x2.au.b2==r5.b2)&& ((x2.au.b3==r5.b3)&& ((x2.au.b4==r5.b4)&& ((x2.au.b5==r5.b5)&& ((x2.au.b6==r5.b6)&& ((x2.au.b7==r5.b7)&& ((x2.au.b8==r5.b8)&& ((x2.au.b9==r5.b9)&& ((x2.au.b10==r5.b10)&& ((x2.au.b11==r5.b11)&& ((x2.au.b12==r5.b12)&& ((x2.au.b13==r5.b13)&& ((x2.au.b14==r5.b14)&& ((x2.au.b15==r5.b15)&& true)))))))))))))))) then
     some (3:Int)
    else
     some (0:Int)
   else
    some (3:Int):=by kernel_rfl
theorem anE (n:Nat) (x1:List Key) (x2:Root) (x3:Root):yL n (x1,(x2,x3))=
 (eY (x2.bN==x3.bN) (wB n ((x1,x2))) (0:Int)).bind fun (r4:Int)=>
 (eY (bif x2.bN==x3.bN then r4==(0:Int) else false) (wB n ((x1,x3))) (0:Int)).bind fun (r5:Int)=>
 some (bif bif x2.bN==x3.bN then r4==(0:Int) else false then r5==(0:Int) else false):=by kernel_rfl
theorem anF (n:Nat) (x1:List Key) (x2:Root) (x3:Root):Ci n (x1,(x2,x3))=
 bif x2.aZ==x3.aZ then
  (yL n ((x1,(x2,x3)))).bind fun (r4:Bool)=>
  bif r4 then
   (sH n x2).bind fun (r5:aI)=>
   (sH n x3).bind fun (r6:aI)=>
   some (!((r5.b0==r6.b0)&& ((r5.b1==r6.b1)&& ((r5.b2==r6.b2)&& ((r5.b3==r6.b3)&& ((r5.b4==r6.b4)&& ((r5.b5==r6.b5)&& ((r5.b6==r6.b6)&& ((r5.b7==r6.b7)&& ((r5.b8==r6.b8)&& ((r5.b9==r6.b9)&& ((r5.b10==r6.b10)&& ((r5.b11==r6.b11)&& ((r5.b12==r6.b12)&& ((r5.b13==r6.b13)&& ((r5.b14==r6.b14)&& ((r5.b15==r6.b15)&& true)))))))))))))))))
  else
   some false
 else
  some false:=by kernel_rfl
theorem anG (n:Nat) (x1:List Key) (x2:Root) (x3:Root):Cj n (x1,(x2,x3))=
 (sK n ((x1,x2))).bind fun (r4:Int)=>
 bif r4==(0:Int) then
  (sK n ((x1,x3))).bind fun (r5:Int)=>
  bif r5==(0:Int) then
   bif x2.bN==x3.bN then
    bif x2.aZ==x3.aZ then
     (sJ n x2).bind fun (r6:aI)=>
     (sJ n x3).bind fun (r7:aI)=>
     some (!((r6.b0==r7.b0)&& ((r6.b1==r7.b1)&& ((r6.b2==r7.b2)&& ((r6.b3==r7.b3)&& ((r6.b4==r7.b4)&& ((r6.b5==r7.b5)&& ((r6.b6==r7.b6)&& ((r6.b7==r7.b7)&& ((r6.b8==r7.b8)&& ((r6.b9==r7.b9)&& ((r6.b10==r7.b10)&& ((r6.b11==r7.b11)&& ((r6.b12==r7.b12)&& ((r6.b13==r7.b13)&& ((r6.b14==r7.b14)&& ((r6.b15==r7.b15)&& true)))))))))))))))))
    else
     some false
   else
    some false
  else
   some false
 else
  some false:=by kernel_rfl
theorem anH (n:Nat) (x1:List Key) (x2:Root) (x3:Root):Ck n (x1,(x2,x3))=
 (eY (x3.aZ==(IntKind.wrap IntKind.i64 (x2.aZ+(1:Int)))) (yL n ((x1,(x2,x3)))) false).bind fun (r4:Bool)=>
 (eY (bif x3.aZ==(IntKind.wrap IntKind.i64 (x2.aZ+(1:Int))) then r4 else false) (yJ n ((x2,x3))) (0:Int)).bind fun (r5:Int)=>
 some (bif bif x3.aZ==(IntKind.wrap IntKind.i64 (x2.aZ+(1:Int))) then r4 else false then r5 !=(0:Int) else false):=by kernel_rfl
theorem anI (n:Nat) (x1:List Key) (x2:Root) (x3:Root):Cm n (x1,(x2,x3))=
 (sK n ((x1,x2))).bind fun (r4:Int)=>
 (eY (r4==(0:Int)) (sK n ((x1,x3))) (0:Int)).bind fun (r5:Int)=>
 (eY (bif bif bif r4==(0:Int) then r5==(0:Int) else false then x2.bN==x3.bN else false then x3.aZ==(IntKind.wrap IntKind.i64 (x2.aZ+(1:Int))) else false) (yK n ((x2,x3))) (0:Int)).bind fun (r6:Int)=>
 some (bif bif bif bif r4==(0:Int) then r5==(0:Int) else false then x2.bN==x3.bN else false then x3.aZ==(IntKind.wrap IntKind.i64 (x2.aZ+(1:Int))) else false then r6 !=(0:Int) else false):=by kernel_rfl
theorem anJ (n:Nat) (x1:Root) (x2:Root) (x3:Key) (x4:List Key):MZ n (x1,(x2,(x3,x4)))=
 (yA n x1).bind fun (r5:Bool)=>
 (eY (!(!r5)) (yA n x2) false).bind fun (r6:Bool)=>
 (eY (!(bif bif bif !r5 then true else !r6 then true else decide ((((x3.fq.length:Nat):Int))> (300:Int)) then true else decide ((((x4.length:Nat):Int))> (20:Int)))) (wu n x4) false).bind fun (r7:Bool)=>
 bif bif bif bif bif !r5 then true else !r6 then true else decide ((((x3.fq.length:Nat):Int))> (300:Int)) then true else decide ((((x4.length:Nat):Int))> (20:Int)) then true else !r7 then
  (wz n (())).bind fun (r8:Bool)=>
  some r8
 else
  (BQ n ((x3,x1))).bind fun (r9:Root×Int)=>
  (BS n ((x3,x1))).bind fun (cu:dW)=>
  (BU n ((r9.1,cu.R))).bind fun (jc:Bool)=>
  bif !(!jc) then
   bif !(r9.2 !=cu.E) then
    (sF n x1).bind fun (iA:Bool)=>
    (sI n x1).bind fun (fF:Bool)=>
    bif !(!(iA==fF)) then
     (sH n x1).bind fun (fG:aI)=>
     (sJ n x1).bind fun (jw:aI)=>
     bif !(!((fG.b0==jw.b0)&& ((fG.b1==jw.b1)&& ((fG.b2==jw.b2)&& ((fG.b3==jw.b3)&& ((fG.b4==jw.b4)&& ((fG.b5==jw.b5)&& ((fG.b6==jw.b6)&& ((fG.b7==jw.b7)&& ((fG.b8==jw.b8)&& ((fG.b9==jw.b9)&& ((fG.b10==jw.b10)&& ((fG.b11==jw.b11)&& ((fG.b12==jw.b12)&& ((fG.b13==jw.b13)&& ((fG.b14==jw.b14)&& ((fG.b15==jw.b15)&& true))))))))))))))))) then
      (wB n ((x4,x1))).bind fun (r16:Int)=>
      (sK n ((x4,x1))).bind fun (RJ:Int)=>
      bif r16 !=RJ then
       some false
      else
       (wz n (())).bind fun (uy:Bool)=>
       bif uy then
        (yJ n ((x1,x2))).bind fun (r19:Int)=>
        (yK n ((x1,x2))).bind fun (r20:Int)=>
        bif r19==r20 then
         (Ci n ((x4,(x1,x2)))).bind fun (RL:Bool)=>
         (Cj n ((x4,(x1,x2)))).bind fun (r22:Bool)=>
         bif RL==r22 then
          (Ck n ((x4,(x1,x2)))).bind fun (r23:Bool)=>
          (Cm n ((x4,(x1,x2)))).bind fun (r24:Bool)=>
          some (r23==r24)
         else
          some false
        else
         some false
       else
        some false
     else
      some false
    else
     some false
   else
    some false
  else
   some false:=by kernel_rfl
attribute [irreducible] wC Cn Co Cq GU GV wD GX Cr GY Ct GZ
end Sh
