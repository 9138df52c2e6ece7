/- Part of the proof of a law. -/
import Derived.Test.YtdcnajadcbedkaaGreatDoorS823
set_option linter.all false
set_option linter.unusedSimpArgs false
set_option linter.unusedSectionVars false
open Go Go.Proofs Aq
namespace Sh
set_option maxRecDepth 100000
set_option linter.unusedVariables false
theorem ana (n:Nat) (x1:Root):A8 n x1=
 some (bif decide ((((x1.Marks.length:Nat):Int))≤(20:Int)) then true else bif decide ((((x1.Marks.length:Nat):Int))> (256:Int)) then decide ((((x1.Marks.length:Nat):Int))< (300:Int)) else false):=by kernel_rfl
theorem anb (n:Nat) (x1:Int) (x2:Int) (x3:Int):oW n (x1,(x2,x3))=
 some (bif decide (x1≥x2) then decide (x1≤x3) else false):=by kernel_rfl
theorem anc (n:Nat) (x1:aJ) (x2:aJ):Ba n (x1,x2)=
 (A9 n (([x1.b0,x1.b1,x1.b2,x1.b3,x1.b4,x1.b5,x1.b6,x1.b7,x1.b8,x1.b9,x1.b10,x1.b11,x1.b12,x1.b13,x1.b14,x1.b15],[x2.b0,x2.b1,x2.b2,x2.b3,x2.b4,x2.b5,x2.b6,x2.b7,x2.b8,x2.b9,x2.b10,x2.b11,x2.b12,x2.b13,x2.b14,x2.b15]))).bind fun (r3:Int)=>
 some r3:=by kernel_rfl
noncomputable def Bo (n:Nat) (x1:Root) (m:Nat) (p:Int):Option (PUnit⊕Bool):=
 eZ (R:=R) 2 (aK ((bS Tryz.f16.body [1,0,1,0,0]).getD .skip)) (⟨[(1,TV.ref 1 0),(7,TV.aj (T:=R.T) Cp.sh (Ty.st 2) x1.Marks),(8,TV.int IntKind.i64 (((x1.Marks.length:Nat):Int)))],[(1,Ob.ro (Ob.cells [TV.int IntKind.i64 x1.eT,TV.int IntKind.i64 x1.cZ,TV.int IntKind.i64 x1.Day,TV.int IntKind.i64 x1.Floor,TV.int IntKind.u8 x1.au.b0,TV.int IntKind.u8 x1.au.b1,TV.int IntKind.u8 x1.au.b2,TV.int IntKind.u8 x1.au.b3,TV.int IntKind.u8 x1.au.b4,TV.int IntKind.u8 x1.au.b5,TV.int IntKind.u8 x1.au.b6,TV.int IntKind.u8 x1.au.b7,TV.int IntKind.u8 x1.au.b8,TV.int IntKind.u8 x1.au.b9,TV.int IntKind.u8 x1.au.b10,TV.int IntKind.u8 x1.au.b11,TV.int IntKind.u8 x1.au.b12,TV.int IntKind.u8 x1.au.b13,TV.int IntKind.u8 x1.au.b14,TV.int IntKind.u8 x1.au.b15,TV.int IntKind.u8 x1.ak.b0,TV.int IntKind.u8 x1.ak.b1,TV.int IntKind.u8 x1.ak.b2,TV.int IntKind.u8 x1.ak.b3,TV.int IntKind.u8 x1.ak.b4,TV.int IntKind.u8 x1.ak.b5,TV.int IntKind.u8 x1.ak.b6,TV.int IntKind.u8 x1.ak.b7,TV.int IntKind.u8 x1.ak.b8,TV.int IntKind.u8 x1.ak.b9,TV.int IntKind.u8 x1.ak.b10,TV.int IntKind.u8 x1.ak.b11,TV.int IntKind.u8 x1.ak.b12,TV.int IntKind.u8 x1.ak.b13,TV.int IntKind.u8 x1.ak.b14,TV.int IntKind.u8 x1.ak.b15,TV.aj (T:=R.T) Cp.sh (Ty.st 2) x1.Marks,TV.int IntKind.u8 x1.Gone.b0,TV.int IntKind.u8 x1.Gone.b1,TV.int IntKind.u8 x1.Gone.b2,TV.int IntKind.u8 x1.Gone.b3,TV.int IntKind.u8 x1.Gone.b4,TV.int IntKind.u8 x1.Gone.b5,TV.int IntKind.u8 x1.Gone.b6,TV.int IntKind.u8 x1.Gone.b7,TV.int IntKind.u8 x1.Gone.b8,TV.int IntKind.u8 x1.Gone.b9,TV.int IntKind.u8 x1.Gone.b10,TV.int IntKind.u8 x1.Gone.b11,TV.int IntKind.u8 x1.Gone.b12,TV.int IntKind.u8 x1.Gone.b13,TV.int IntKind.u8 x1.Gone.b14,TV.int IntKind.u8 x1.Gone.b15,TV.int IntKind.i64 x1.iN,TV.int IntKind.u8 x1.ay.b0,TV.int IntKind.u8 x1.ay.b1,TV.int IntKind.u8 x1.ay.b2,TV.int IntKind.u8 x1.ay.b3,TV.int IntKind.u8 x1.ay.b4,TV.int IntKind.u8 x1.ay.b5,TV.int IntKind.u8 x1.ay.b6,TV.int IntKind.u8 x1.ay.b7,TV.int IntKind.u8 x1.ay.b8,TV.int IntKind.u8 x1.ay.b9,TV.int IntKind.u8 x1.ay.b10,TV.int IntKind.u8 x1.ay.b11,TV.int IntKind.u8 x1.ay.b12,TV.int IntKind.u8 x1.ay.b13,TV.int IntKind.u8 x1.ay.b14,TV.int IntKind.u8 x1.ay.b15,TV.int IntKind.i64 x1.iO,TV.int IntKind.i64 x1.iJ,TV.int IntKind.u8 x1.Seal.b0,TV.int IntKind.u8 x1.Seal.b1,TV.int IntKind.u8 x1.Seal.b2,TV.int IntKind.u8 x1.Seal.b3,TV.int IntKind.u8 x1.Seal.b4,TV.int IntKind.u8 x1.Seal.b5,TV.int IntKind.u8 x1.Seal.b6,TV.int IntKind.u8 x1.Seal.b7,TV.int IntKind.u8 x1.Seal.b8,TV.int IntKind.u8 x1.Seal.b9,TV.int IntKind.u8 x1.Seal.b10,TV.int IntKind.u8 x1.Seal.b11,TV.int IntKind.u8 x1.Seal.b12,TV.int IntKind.u8 x1.Seal.b13,TV.int IntKind.u8 x1.Seal.b14,TV.int IntKind.u8 x1.Seal.b15]))]⟩:MS R.T) (bY KI.loops 2).sh (bY KI.loops 2).outs (fun st k=>bU E R n false (KH n) aQ KI ((bS Tryz.f16.body [1,0,1,0,0]).getD .skip) st k) m p
theorem abg (n:Nat) (x1:Root) (m:Nat) (x2:Int):Bo n x1 (m+1) x2=
 bif decide (x2< (((x1.Marks.length:Nat):Int))) then
  (cO x1.Marks x2).bind fun (r3:Mark)=>
  (oW n ((r3.Count,((1:Int),(4096:Int))))).bind fun (r4:Bool)=>
  bif !(!r4) then
   bif decide (x2> (0:Int)) then
    (cO x1.Marks (IntKind.wrap IntKind.i64 (x2-(1:Int)))).bind fun (r5:Mark)=>
    (Ba n ((r5.aO,r3.aO))).bind fun (r6:Int)=>
    bif decide (r6≥(0:Int)) then
     some (.inr false)
    else
     Bo n x1 m (IntKind.wrap IntKind.i64 (x2+(1:Int)))
   else
    Bo n x1 m (IntKind.wrap IntKind.i64 (x2+(1:Int)))
  else
   some (.inr false)
 else
  some (.inl (())):=by kernel_rfl
theorem ane (n:Nat) (x1:Root):vO n x1=
 (Bo n x1 n (0:Int)).bind fun (r7:PUnit⊕Bool)=>
 Sum.elim (fun (q8:PUnit)=>
  (oW n ((x1.eT,((0:Int),(31:Int))))).bind fun (iA:Bool)=>
  (kH iA (oW n ((x1.cZ,((0:Int),(1073741824:Int))))) false).bind fun (gW:Bool)=>
  (kH (bif iA then gW else false) (oW n ((x1.Day,((0:Int),(1048576:Int))))) false).bind fun (gX:Bool)=>
  (kH (bif bif iA then gW else false then gX else false) (oW n ((x1.Floor,((0:Int),x1.cZ)))) false).bind fun (dR:Bool)=>
  (kH (bif bif bif bif iA then gW else false then gX else false then dR else false then decide ((((x1.Marks.length:Nat):Int))≤(256:Int)) else false) (oW n ((x1.iN,((0:Int),(65536:Int))))) false).bind fun (kJ:Bool)=>
  (kH (bif bif bif bif bif iA then gW else false then gX else false then dR else false then decide ((((x1.Marks.length:Nat):Int))≤(256:Int)) else false then kJ else false) (oW n ((x1.iO,((0:Int),(65536:Int))))) false).bind fun (tO:Bool)=>
  (kH (bif bif bif bif bif bif iA then gW else false then gX else false then dR else false then decide ((((x1.Marks.length:Nat):Int))≤(256:Int)) else false then kJ else false then tO else false) (oW n ((x1.iJ,((0:Int),(2147483648:Int))))) false).bind fun (r16:Bool)=>
  some (bif bif bif bif bif bif bif iA then gW else false then gX else false then dR else false then decide ((((x1.Marks.length:Nat):Int))≤(256:Int)) else false then kJ else false then tO else false then r16 else false))
  (fun (q9:Bool)=>
   some q9) r7:=by kernel_rfl
theorem anf (n:Nat) (x1:Root):EN n x1=
 some (((),(x1.eT,(x1.cZ,(x1.Day,(x1.Floor,(x1.au.b0,(x1.au.b1,(x1.au.b2,(x1.au.b3,(x1.au.b4,(x1.au.b5,(x1.au.b6,(x1.au.b7,(x1.au.b8,(x1.au.b9,(x1.au.b10,(x1.au.b11,(x1.au.b12,(x1.au.b13,(x1.au.b14,(x1.au.b15,(x1.ak.b0,(x1.ak.b1,(x1.ak.b2,(x1.ak.b3,(x1.ak.b4,(x1.ak.b5,(x1.ak.b6,(x1.ak.b7,(x1.ak.b8,(x1.ak.b9,(x1.ak.b10,(x1.ak.b11,(x1.ak.b12,(x1.ak.b13,(x1.ak.b14,(x1.ak.b15,(x1.Marks,(x1.Gone.b0,(x1.Gone.b1,(x1.Gone.b2,(x1.Gone.b3,(x1.Gone.b4,(x1.Gone.b5,(x1.Gone.b6,(x1.Gone.b7,(x1.Gone.b8,(x1.Gone.b9,(x1.Gone.b10,(x1.Gone.b11,(x1.Gone.b12,(x1.Gone.b13,(x1.Gone.b14,(x1.Gone.b15,(x1.iN,(x1.ay.b0,(x1.ay.b1,(x1.ay.b2,(x1.ay.b3,(x1.ay.b4,(x1.ay.b5,(x1.ay.b6,(x1.ay.b7,(x1.ay.b8,(x1.ay.b9,(x1.ay.b10,(x1.ay.b11,(x1.ay.b12,(x1.ay.b13,(x1.ay.b14,(x1.ay.b15,(x1.iO,(x1.iJ,(x1.Seal.b0,(x1.Seal.b1,(x1.Seal.b2,(x1.Seal.b3,(x1.Seal.b4,(x1.Seal.b5,(x1.Seal.b6,(x1.Seal.b7,(x1.Seal.b8,(x1.Seal.b9,(x1.Seal.b10,(x1.Seal.b11,(x1.Seal.b12,(x1.Seal.b13,(x1.Seal.b14,x1.Seal.b15))))))))))))))))))))))))))))))))))))))))))))))))))))))))))))))))))))))))))))))))))))))))):=by kernel_rfl
noncomputable def Bp (n:Nat) (x1:Root) (m:Nat) (p:(List Int)×Int):Option (List Int):=
 eZ (R:=R) 3 (aK ((bS Tryz.f18.body [1,1,0,1,0,0]).getD .skip)) (⟨[(1,TV.ref 1 0),(2,TV.ref 2 0),(22,TV.aj (T:=R.T) Cp.sh (Ty.st 2) x1.Marks),(23,TV.int IntKind.i64 (((x1.Marks.length:Nat):Int)))],[(1,Ob.ro (Ob.cells [TV.int IntKind.i64 x1.eT,TV.int IntKind.i64 x1.cZ,TV.int IntKind.i64 x1.Day,TV.int IntKind.i64 x1.Floor,TV.int IntKind.u8 x1.au.b0,TV.int IntKind.u8 x1.au.b1,TV.int IntKind.u8 x1.au.b2,TV.int IntKind.u8 x1.au.b3,TV.int IntKind.u8 x1.au.b4,TV.int IntKind.u8 x1.au.b5,TV.int IntKind.u8 x1.au.b6,TV.int IntKind.u8 x1.au.b7,TV.int IntKind.u8 x1.au.b8,TV.int IntKind.u8 x1.au.b9,TV.int IntKind.u8 x1.au.b10,TV.int IntKind.u8 x1.au.b11,TV.int IntKind.u8 x1.au.b12,TV.int IntKind.u8 x1.au.b13,TV.int IntKind.u8 x1.au.b14,TV.int IntKind.u8 x1.au.b15,TV.int IntKind.u8 x1.ak.b0,TV.int IntKind.u8 x1.ak.b1,TV.int IntKind.u8 x1.ak.b2,TV.int IntKind.u8 x1.ak.b3,TV.int IntKind.u8 x1.ak.b4,TV.int IntKind.u8 x1.ak.b5,TV.int IntKind.u8 x1.ak.b6,TV.int IntKind.u8 x1.ak.b7,TV.int IntKind.u8 x1.ak.b8,TV.int IntKind.u8 x1.ak.b9,TV.int IntKind.u8 x1.ak.b10,TV.int IntKind.u8 x1.ak.b11,TV.int IntKind.u8 x1.ak.b12,TV.int IntKind.u8 x1.ak.b13,TV.int IntKind.u8 x1.ak.b14,TV.int IntKind.u8 x1.ak.b15,TV.aj (T:=R.T) Cp.sh (Ty.st 2) x1.Marks,TV.int IntKind.u8 x1.Gone.b0,TV.int IntKind.u8 x1.Gone.b1,TV.int IntKind.u8 x1.Gone.b2,TV.int IntKind.u8 x1.Gone.b3,TV.int IntKind.u8 x1.Gone.b4,TV.int IntKind.u8 x1.Gone.b5,TV.int IntKind.u8 x1.Gone.b6,TV.int IntKind.u8 x1.Gone.b7,TV.int IntKind.u8 x1.Gone.b8,TV.int IntKind.u8 x1.Gone.b9,TV.int IntKind.u8 x1.Gone.b10,TV.int IntKind.u8 x1.Gone.b11,TV.int IntKind.u8 x1.Gone.b12,TV.int IntKind.u8 x1.Gone.b13,TV.int IntKind.u8 x1.Gone.b14,TV.int IntKind.u8 x1.Gone.b15,TV.int IntKind.i64 x1.iN,TV.int IntKind.u8 x1.ay.b0,TV.int IntKind.u8 x1.ay.b1,TV.int IntKind.u8 x1.ay.b2,TV.int IntKind.u8 x1.ay.b3,TV.int IntKind.u8 x1.ay.b4,TV.int IntKind.u8 x1.ay.b5,TV.int IntKind.u8 x1.ay.b6,TV.int IntKind.u8 x1.ay.b7,TV.int IntKind.u8 x1.ay.b8,TV.int IntKind.u8 x1.ay.b9,TV.int IntKind.u8 x1.ay.b10,TV.int IntKind.u8 x1.ay.b11,TV.int IntKind.u8 x1.ay.b12,TV.int IntKind.u8 x1.ay.b13,TV.int IntKind.u8 x1.ay.b14,TV.int IntKind.u8 x1.ay.b15,TV.int IntKind.i64 x1.iO,TV.int IntKind.i64 x1.iJ,TV.int IntKind.u8 x1.Seal.b0,TV.int IntKind.u8 x1.Seal.b1,TV.int IntKind.u8 x1.Seal.b2,TV.int IntKind.u8 x1.Seal.b3,TV.int IntKind.u8 x1.Seal.b4,TV.int IntKind.u8 x1.Seal.b5,TV.int IntKind.u8 x1.Seal.b6,TV.int IntKind.u8 x1.Seal.b7,TV.int IntKind.u8 x1.Seal.b8,TV.int IntKind.u8 x1.Seal.b9,TV.int IntKind.u8 x1.Seal.b10,TV.int IntKind.u8 x1.Seal.b11,TV.int IntKind.u8 x1.Seal.b12,TV.int IntKind.u8 x1.Seal.b13,TV.int IntKind.u8 x1.Seal.b14,TV.int IntKind.u8 x1.Seal.b15])),(2,Ob.ro (Ob.cells [TV.int IntKind.u8 (0:Int),TV.int IntKind.u8 (0:Int),TV.int IntKind.u8 (0:Int),TV.int IntKind.u8 (0:Int),TV.int IntKind.u8 (0:Int),TV.int IntKind.u8 (0:Int),TV.int IntKind.u8 (0:Int),TV.int IntKind.u8 (0:Int),TV.int IntKind.u8 (0:Int),TV.int IntKind.u8 (0:Int),TV.int IntKind.u8 (0:Int),TV.int IntKind.u8 (0:Int),TV.int IntKind.u8 (0:Int),TV.int IntKind.u8 (0:Int),TV.int IntKind.u8 (0:Int),TV.int IntKind.u8 (0:Int)]))]⟩:MS R.T) (bY xO.loops 3).sh (bY xO.loops 3).outs (fun st k=>bU E R n false (EO n) aQ xO ((bS Tryz.f18.body [1,1,0,1,0,0]).getD .skip) st k) m p
noncomputable def Bq (n:Nat) (xs:List aJ) (p:PUnit×List (List UInt8)):Option (PUnit×List (List UInt8)):=
 zy (R:=R) (X:=aA R.T Qj) 10 (wrR (bS Tryz.f18.body [1,1,1,1,0,1,0])) (⟨[(2,TV.ref 2 0),(6,TV.ref 6 0)],[(2,Ob.ro (Ob.cells [TV.int IntKind.u8 (0:Int),TV.int IntKind.u8 (0:Int),TV.int IntKind.u8 (0:Int),TV.int IntKind.u8 (0:Int),TV.int IntKind.u8 (0:Int),TV.int IntKind.u8 (0:Int),TV.int IntKind.u8 (0:Int),TV.int IntKind.u8 (0:Int),TV.int IntKind.u8 (0:Int),TV.int IntKind.u8 (0:Int),TV.int IntKind.u8 (0:Int),TV.int IntKind.u8 (0:Int),TV.int IntKind.u8 (0:Int),TV.int IntKind.u8 (0:Int),TV.int IntKind.u8 (0:Int),TV.int IntKind.u8 (0:Int)]))]⟩:MS R.T) (bY xO.loops 10).sh (bY xO.loops 10).outs (ahU E R n false (EO n) aQ xO (bS Tryz.f18.body [1,1,1,1,0,1,0]) Qj) xs p
theorem abh (n:Nat) (x1:Root) (m:Nat) (x2:List Int) (x3:Int):Bp n x1 (m+1) (x2,x3)=
 bif decide (x3< (((x1.Marks.length:Nat):Int))) then
  (cO x1.Marks x3).bind fun (r4:Mark)=>
  bif dD (x2.length+([r4.Count].length)) 8 then
   Bp n x1 m ((x2++[r4.Count],IntKind.wrap IntKind.i64 (x3+(1:Int))))
  else
   none
 else
  some x2:=by kernel_rfl
theorem ang (n:Nat) (x9:List (List UInt8)):Bq n [] ((),x9)=
 some (((),x9)):=by kernel_rfl
theorem anh (n:Nat) (x10:aJ) (xs:List aJ) (nV:List (List UInt8)):Bq n (x10::xs) ((),nV)=
 bif dD (nV.length+(([List.map (fun n:Int=>UInt8.ofNat n.toNat) [x10.b0,x10.b1,x10.b2,x10.b3,x10.b4,x10.b5,x10.b6,x10.b7,x10.b8,x10.b9,x10.b10,x10.b11,x10.b12,x10.b13,x10.b14,x10.b15]]).length)) 16 then
  Bq n xs (((),nV++([List.map (fun n:Int=>UInt8.ofNat n.toNat) [x10.b0,x10.b1,x10.b2,x10.b3,x10.b4,x10.b5,x10.b6,x10.b7,x10.b8,x10.b9,x10.b10,x10.b11,x10.b12,x10.b13,x10.b14,x10.b15]])))
 else
  none:=by kernel_rfl
theorem ani (n:Nat) (x1:Root):Bb n x1=
 (Bp n x1 n (([x1.eT,x1.cZ,x1.Day,x1.Floor,x1.iN,x1.iO],(0:Int)))).bind fun (r5:List Int)=>
 (Au n r5).bind fun (r6:List Int)=>
 (EN n x1).bind fun (r7:PUnit×Int×Int×Int×Int×Int×Int×Int×Int×Int×Int×Int×Int×Int×Int×Int×Int×Int×Int×Int×Int×Int×Int×Int×Int×Int×Int×Int×Int×Int×Int×Int×Int×Int×Int×Int×Int×(List Mark)×Int×Int×Int×Int×Int×Int×Int×Int×Int×Int×Int×Int×Int×Int×Int×Int×Int×Int×Int×Int×Int×Int×Int×Int×Int×Int×Int×Int×Int×Int×Int×Int×Int×Int×Int×Int×Int×Int×Int×Int×Int×Int×Int×Int×Int×Int×Int×Int×Int×Int×Int)=>
 ((Dx ((⟨r7.2.1,r7.2.2.1,r7.2.2.2.1,r7.2.2.2.2.1,(⟨r7.2.2.2.2.2.1,r7.2.2.2.2.2.2.1,r7.2.2.2.2.2.2.2.1,r7.2.2.2.2.2.2.2.2.1,r7.2.2.2.2.2.2.2.2.2.1,r7.2.2.2.2.2.2.2.2.2.2.1,r7.2.2.2.2.2.2.2.2.2.2.2.1,r7.2.2.2.2.2.2.2.2.2.2.2.2.1,r7.2.2.2.2.2.2.2.2.2.2.2.2.2.1,r7.2.2.2.2.2.2.2.2.2.2.2.2.2.2.1,r7.2.2.2.2.2.2.2.2.2.2.2.2.2.2.2.1,r7.2.2.2.2.2.2.2.2.2.2.2.2.2.2.2.2.1,r7.2.2.2.2.2.2.2.2.2.2.2.2.2.2.2.2.2.1,r7.2.2.2.2.2.2.2.2.2.2.2.2.2.2.2.2.2.2.1,r7.2.2.2.2.2.2.2.2.2.2.2.2.2.2.2.2.2.2.2.1,r7.2.2.2.2.2.2.2.2.2.2.2.2.2.2.2.2.2.2.2.2.1⟩:aJ),(⟨r7.2.2.2.2.2.2.2.2.2.2.2.2.2.2.2.2.2.2.2.2.2.1,r7.2.2.2.2.2.2.2.2.2.2.2.2.2.2.2.2.2.2.2.2.2.2.1,r7.2.2.2.2.2.2.2.2.2.2.2.2.2.2.2.2.2.2.2.2.2.2.2.1,r7.2.2.2.2.2.2.2.2.2.2.2.2.2.2.2.2.2.2.2.2.2.2.2.2.1,r7.2.2.2.2.2.2.2.2.2.2.2.2.2.2.2.2.2.2.2.2.2.2.2.2.2.1,r7.2.2.2.2.2.2.2.2.2.2.2.2.2.2.2.2.2.2.2.2.2.2.2.2.2.2.1,r7.2.2.2.2.2.2.2.2.2.2.2.2.2.2.2.2.2.2.2.2.2.2.2.2.2.2.2.1,r7.2.2.2.2.2.2.2.2.2.2.2.2.2.2.2.2.2.2.2.2.2.2.2.2.2.2.2.2.1,r7.2.2.2.2.2.2.2.2.2.2.2.2.2.2.2.2.2.2.2.2.2.2.2.2.2.2.2.2.2.1,r7.2.2.2.2.2.2.2.2.2.2.2.2.2.2.2.2.2.2.2.2.2.2.2.2.2.2.2.2.2.2.1,r7.2.2.2.2.2.2.2.2.2.2.2.2.2.2.2.2.2.2.2.2.2.2.2.2.2.2.2.2.2.2.2.1,r7.2.2.2.2.2.2.2.2.2.2.2.2.2.2.2.2.2.2.2.2.2.2.2.2.2.2.2.2.2.2.2.2.1,r7.2.2.2.2.2.2.2.2.2.2.2.2.2.2.2.2.2.2.2.2.2.2.2.2.2.2.2.2.2.2.2.2.2.1,r7.2.2.2.2.2.2.2.2.2.2.2.2.2.2.2.2.2.2.2.2.2.2.2.2.2.2.2.2.2.2.2.2.2.2.1,r7.2.2.2.2.2.2.2.2.2.2.2.2.2.2.2.2.2.2.2.2.2.2.2.2.2.2.2.2.2.2.2.2.2.2.2.1,r7.2.2.2.2.2.2.2.2.2.2.2.2.2.2.2.2.2.2.2.2.2.2.2.2.2.2.2.2.2.2.2.2.2.2.2.2.1⟩:aJ),r7.2.2.2.2.2.2.2.2.2.2.2.2.2.2.2.2.2.2.2.2.2.2.2.2.2.2.2.2.2.2.2.2.2.2.2.2.2.1,(⟨r7.2.2.2.2.2.2.2.2.2.2.2.2.2.2.2.2.2.2.2.2.2.2.2.2.2.2.2.2.2.2.2.2.2.2.2.2.2.2.1,r7.2.2.2.2.2.2.2.2.2.2.2.2.2.2.2.2.2.2.2.2.2.2.2.2.2.2.2.2.2.2.2.2.2.2.2.2.2.2.2.1,r7.2.2.2.2.2.2.2.2.2.2.2.2.2.2.2.2.2.2.2.2.2.2.2.2.2.2.2.2.2.2.2.2.2.2.2.2.2.2.2.2.1,r7.2.2.2.2.2.2.2.2.2.2.2.2.2.2.2.2.2.2.2.2.2.2.2.2.2.2.2.2.2.2.2.2.2.2.2.2.2.2.2.2.2.1,r7.2.2.2.2.2.2.2.2.2.2.2.2.2.2.2.2.2.2.2.2.2.2.2.2.2.2.2.2.2.2.2.2.2.2.2.2.2.2.2.2.2.2.1,r7.2.2.2.2.2.2.2.2.2.2.2.2.2.2.2.2.2.2.2.2.2.2.2.2.2.2.2.2.2.2.2.2.2.2.2.2.2.2.2.2.2.2.2.1,r7.2.2.2.2.2.2.2.2.2.2.2.2.2.2.2.2.2.2.2.2.2.2.2.2.2.2.2.2.2.2.2.2.2.2.2.2.2.2.2.2.2.2.2.2.1,r7.2.2.2.2.2.2.2.2.2.2.2.2.2.2.2.2.2.2.2.2.2.2.2.2.2.2.2.2.2.2.2.2.2.2.2.2.2.2.2.2.2.2.2.2.2.1,r7.2.2.2.2.2.2.2.2.2.2.2.2.2.2.2.2.2.2.2.2.2.2.2.2.2.2.2.2.2.2.2.2.2.2.2.2.2.2.2.2.2.2.2.2.2.2.1,r7.2.2.2.2.2.2.2.2.2.2.2.2.2.2.2.2.2.2.2.2.2.2.2.2.2.2.2.2.2.2.2.2.2.2.2.2.2.2.2.2.2.2.2.2.2.2.2.1,r7.2.2.2.2.2.2.2.2.2.2.2.2.2.2.2.2.2.2.2.2.2.2.2.2.2.2.2.2.2.2.2.2.2.2.2.2.2.2.2.2.2.2.2.2.2.2.2.2.1,r7.2.2.2.2.2.2.2.2.2.2.2.2.2.2.2.2.2.2.2.2.2.2.2.2.2.2.2.2.2.2.2.2.2.2.2.2.2.2.2.2.2.2.2.2.2.2.2.2.2.1,r7.2.2.2.2.2.2.2.2.2.2.2.2.2.2.2.2.2.2.2.2.2.2.2.2.2.2.2.2.2.2.2.2.2.2.2.2.2.2.2.2.2.2.2.2.2.2.2.2.2.2.1,r7.2.2.2.2.2.2.2.2.2.2.2.2.2.2.2.2.2.2.2.2.2.2.2.2.2.2.2.2.2.2.2.2.2.2.2.2.2.2.2.2.2.2.2.2.2.2.2.2.2.2.2.1,r7.2.2.2.2.2.2.2.2.2.2.2.2.2.2.2.2.2.2.2.2.2.2.2.2.2.2.2.2.2.2.2.2.2.2.2.2.2.2.2.2.2.2.2.2.2.2.2.2.2.2.2.2.1,r7.2.2.2.2.2.2.2.2.2.2.2.2.2.2.2.2.2.2.2.2.2.2.2.2.2.2.2.2.2.2.2.2.2.2.2.2.2.2.2.2.2.2.2.2.2.2.2.2.2.2.2.2.2.1⟩:aJ),r7.2.2.2.2.2.2.2.2.2.2.2.2.2.2.2.2.2.2.2.2.2.2.2.2.2.2.2.2.2.2.2.2.2.2.2.2.2.2.2.2.2.2.2.2.2.2.2.2.2.2.2.2.2.2.1,(⟨r7.2.2.2.2.2.2.2.2.2.2.2.2.2.2.2.2.2.2.2.2.2.2.2.2.2.2.2.2.2.2.2.2.2.2.2.2.2.2.2.2.2.2.2.2.2.2.2.2.2.2.2.2.2.2.2.1,r7.2.2.2.2.2.2.2.2.2.2.2.2.2.2.2.2.2.2.2.2.2.2.2.2.2.2.2.2.2.2.2.2.2.2.2.2.2.2.2.2.2.2.2.2.2.2.2.2.2.2.2.2.2.2.2.2.1,r7.2.2.2.2.2.2.2.2.2.2.2.2.2.2.2.2.2.2.2.2.2.2.2.2.2.2.2.2.2.2.2.2.2.2.2.2.2.2.2.2.2.2.2.2.2.2.2.2.2.2.2.2.2.2.2.2.2.1,r7.2.2.2.2.2.2.2.2.2.2.2.2.2.2.2.2.2.2.2.2.2.2.2.2.2.2.2.2.2.2.2.2.2.2.2.2.2.2.2.2.2.2.2.2.2.2.2.2.2.2.2.2.2.2.2.2.2.2.1,r7.2.2.2.2.2.2.2.2.2.2.2.2.2.2.2.2.2.2.2.2.2.2.2.2.2.2.2.2.2.2.2.2.2.2.2.2.2.2.2.2.2.2.2.2.2.2.2.2.2.2.2.2.2.2.2.2.2.2.2.1,r7.2.2.2.2.2.2.2.2.2.2.2.2.2.2.2.2.2.2.2.2.2.2.2.2.2.2.2.2.2.2.2.2.2.2.2.2.2.2.2.2.2.2.2.2.2.2.2.2.2.2.2.2.2.2.2.2.2.2.2.2.1,r7.2.2.2.2.2.2.2.2.2.2.2.2.2.2.2.2.2.2.2.2.2.2.2.2.2.2.2.2.2.2.2.2.2.2.2.2.2.2.2.2.2.2.2.2.2.2.2.2.2.2.2.2.2.2.2.2.2.2.2.2.2.1,r7.2.2.2.2.2.2.2.2.2.2.2.2.2.2.2.2.2.2.2.2.2.2.2.2.2.2.2.2.2.2.2.2.2.2.2.2.2.2.2.2.2.2.2.2.2.2.2.2.2.2.2.2.2.2.2.2.2.2.2.2.2.2.1,r7.2.2.2.2.2.2.2.2.2.2.2.2.2.2.2.2.2.2.2.2.2.2.2.2.2.2.2.2.2.2.2.2.2.2.2.2.2.2.2.2.2.2.2.2.2.2.2.2.2.2.2.2.2.2.2.2.2.2.2.2.2.2.2.1,r7.2.2.2.2.2.2.2.2.2.2.2.2.2.2.2.2.2.2.2.2.2.2.2.2.2.2.2.2.2.2.2.2.2.2.2.2.2.2.2.2.2.2.2.2.2.2.2.2.2.2.2.2.2.2.2.2.2.2.2.2.2.2.2.2.1,r7.2.2.2.2.2.2.2.2.2.2.2.2.2.2.2.2.2.2.2.2.2.2.2.2.2.2.2.2.2.2.2.2.2.2.2.2.2.2.2.2.2.2.2.2.2.2.2.2.2.2.2.2.2.2.2.2.2.2.2.2.2.2.2.2.2.1,r7.2.2.2.2.2.2.2.2.2.2.2.2.2.2.2.2.2.2.2.2.2.2.2.2.2.2.2.2.2.2.2.2.2.2.2.2.2.2.2.2.2.2.2.2.2.2.2.2.2.2.2.2.2.2.2.2.2.2.2.2.2.2.2.2.2.2.1,r7.2.2.2.2.2.2.2.2.2.2.2.2.2.2.2.2.2.2.2.2.2.2.2.2.2.2.2.2.2.2.2.2.2.2.2.2.2.2.2.2.2.2.2.2.2.2.2.2.2.2.2.2.2.2.2.2.2.2.2.2.2.2.2.2.2.2.2.1,r7.2.2.2.2.2.2.2.2.2.2.2.2.2.2.2.2.2.2.2.2.2.2.2.2.2.2.2.2.2.2.2.2.2.2.2.2.2.2.2.2.2.2.2.2.2.2.2.2.2.2.2.2.2.2.2.2.2.2.2.2.2.2.2.2.2.2.2.2.1,r7.2.2.2.2.2.2.2.2.2.2.2.2.2.2.2.2.2.2.2.2.2.2.2.2.2.2.2.2.2.2.2.2.2.2.2.2.2.2.2.2.2.2.2.2.2.2.2.2.2.2.2.2.2.2.2.2.2.2.2.2.2.2.2.2.2.2.2.2.2.1,r7.2.2.2.2.2.2.2.2.2.2.2.2.2.2.2.2.2.2.2.2.2.2.2.2.2.2.2.2.2.2.2.2.2.2.2.2.2.2.2.2.2.2.2.2.2.2.2.2.2.2.2.2.2.2.2.2.2.2.2.2.2.2.2.2.2.2.2.2.2.2.1⟩:aJ),r7.2.2.2.2.2.2.2.2.2.2.2.2.2.2.2.2.2.2.2.2.2.2.2.2.2.2.2.2.2.2.2.2.2.2.2.2.2.2.2.2.2.2.2.2.2.2.2.2.2.2.2.2.2.2.2.2.2.2.2.2.2.2.2.2.2.2.2.2.2.2.2.1,r7.2.2.2.2.2.2.2.2.2.2.2.2.2.2.2.2.2.2.2.2.2.2.2.2.2.2.2.2.2.2.2.2.2.2.2.2.2.2.2.2.2.2.2.2.2.2.2.2.2.2.2.2.2.2.2.2.2.2.2.2.2.2.2.2.2.2.2.2.2.2.2.2.1,(⟨r7.2.2.2.2.2.2.2.2.2.2.2.2.2.2.2.2.2.2.2.2.2.2.2.2.2.2.2.2.2.2.2.2.2.2.2.2.2.2.2.2.2.2.2.2.2.2.2.2.2.2.2.2.2.2.2.2.2.2.2.2.2.2.2.2.2.2.2.2.2.2.2.2.2.1,r7.2.2.2.2.2.2.2.2.2.2.2.2.2.2.2.2.2.2.2.2.2.2.2.2.2.2.2.2.2.2.2.2.2.2.2.2.2.2.2.2.2.2.2.2.2.2.2.2.2.2.2.2.2.2.2.2.2.2.2.2.2.2.2.2.2.2.2.2.2.2.2.2.2.2.1,r7.2.2.2.2.2.2.2.2.2.2.2.2.2.2.2.2.2.2.2.2.2.2.2.2.2.2.2.2.2.2.2.2.2.2.2.2.2.2.2.2.2.2.2.2.2.2.2.2.2.2.2.2.2.2.2.2.2.2.2.2.2.2.2.2.2.2.2.2.2.2.2.2.2.2.2.1,r7.2.2.2.2.2.2.2.2.2.2.2.2.2.2.2.2.2.2.2.2.2.2.2.2.2.2.2.2.2.2.2.2.2.2.2.2.2.2.2.2.2.2.2.2.2.2.2.2.2.2.2.2.2.2.2.2.2.2.2.2.2.2.2.2.2.2.2.2.2.2.2.2.2.2.2.2.1,r7.2.2.2.2.2.2.2.2.2.2.2.2.2.2.2.2.2.2.2.2.2.2.2.2.2.2.2.2.2.2.2.2.2.2.2.2.2.2.2.2.2.2.2.2.2.2.2.2.2.2.2.2.2.2.2.2.2.2.2.2.2.2.2.2.2.2.2.2.2.2.2.2.2.2.2.2.2.1,r7.2.2.2.2.2.2.2.2.2.2.2.2.2.2.2.2.2.2.2.2.2.2.2.2.2.2.2.2.2.2.2.2.2.2.2.2.2.2.2.2.2.2.2.2.2.2.2.2.2.2.2.2.2.2.2.2.2.2.2.2.2.2.2.2.2.2.2.2.2.2.2.2.2.2.2.2.2.2.1,r7.2.2.2.2.2.2.2.2.2.2.2.2.2.2.2.2.2.2.2.2.2.2.2.2.2.2.2.2.2.2.2.2.2.2.2.2.2.2.2.2.2.2.2.2.2.2.2.2.2.2.2.2.2.2.2.2.2.2.2.2.2.2.2.2.2.2.2.2.2.2.2.2.2.2.2.2.2.2.2.1,r7.2.2.2.2.2.2.2.2.2.2.2.2.2.2.2.2.2.2.2.2.2.2.2.2.2.2.2.2.2.2.2.2.2.2.2.2.2.2.2.2.2.2.2.2.2.2.2.2.2.2.2.2.2.2.2.2.2.2.2.2.2.2.2.2.2.2.2.2.2.2.2.2.2.2.2.2.2.2.2.2.1,r7.2.2.2.2.2.2.2.2.2.2.2.2.2.2.2.2.2.2.2.2.2.2.2.2.2.2.2.2.2.2.2.2.2.2.2.2.2.2.2.2.2.2.2.2.2.2.2.2.2.2.2.2.2.2.2.2.2.2.2.2.2.2.2.2.2.2.2.2.2.2.2.2.2.2.2.2.2.2.2.2.2.1,r7.2.2.2.2.2.2.2.2.2.2.2.2.2.2.2.2.2.2.2.2.2.2.2.2.2.2.2.2.2.2.2.2.2.2.2.2.2.2.2.2.2.2.2.2.2.2.2.2.2.2.2.2.2.2.2.2.2.2.2.2.2.2.2.2.2.2.2.2.2.2.2.2.2.2.2.2.2.2.2.2.2.2.1,r7.2.2.2.2.2.2.2.2.2.2.2.2.2.2.2.2.2.2.2.2.2.2.2.2.2.2.2.2.2.2.2.2.2.2.2.2.2.2.2.2.2.2.2.2.2.2.2.2.2.2.2.2.2.2.2.2.2.2.2.2.2.2.2.2.2.2.2.2.2.2.2.2.2.2.2.2.2.2.2.2.2.2.2.1,r7.2.2.2.2.2.2.2.2.2.2.2.2.2.2.2.2.2.2.2.2.2.2.2.2.2.2.2.2.2.2.2.2.2.2.2.2.2.2.2.2.2.2.2.2.2.2.2.2.2.2.2.2.2.2.2.2.2.2.2.2.2.2.2.2.2.2.2.2.2.2.2.2.2.2.2.2.2.2.2.2.2.2.2.2.1,r7.2.2.2.2.2.2.2.2.2.2.2.2.2.2.2.2.2.2.2.2.2.2.2.2.2.2.2.2.2.2.2.2.2.2.2.2.2.2.2.2.2.2.2.2.2.2.2.2.2.2.2.2.2.2.2.2.2.2.2.2.2.2.2.2.2.2.2.2.2.2.2.2.2.2.2.2.2.2.2.2.2.2.2.2.2.1,r7.2.2.2.2.2.2.2.2.2.2.2.2.2.2.2.2.2.2.2.2.2.2.2.2.2.2.2.2.2.2.2.2.2.2.2.2.2.2.2.2.2.2.2.2.2.2.2.2.2.2.2.2.2.2.2.2.2.2.2.2.2.2.2.2.2.2.2.2.2.2.2.2.2.2.2.2.2.2.2.2.2.2.2.2.2.2.1,r7.2.2.2.2.2.2.2.2.2.2.2.2.2.2.2.2.2.2.2.2.2.2.2.2.2.2.2.2.2.2.2.2.2.2.2.2.2.2.2.2.2.2.2.2.2.2.2.2.2.2.2.2.2.2.2.2.2.2.2.2.2.2.2.2.2.2.2.2.2.2.2.2.2.2.2.2.2.2.2.2.2.2.2.2.2.2.2.1,r7.2.2.2.2.2.2.2.2.2.2.2.2.2.2.2.2.2.2.2.2.2.2.2.2.2.2.2.2.2.2.2.2.2.2.2.2.2.2.2.2.2.2.2.2.2.2.2.2.2.2.2.2.2.2.2.2.2.2.2.2.2.2.2.2.2.2.2.2.2.2.2.2.2.2.2.2.2.2.2.2.2.2.2.2.2.2.2.2⟩:Seal)⟩:Root))).bind fun (r8:List aJ)=>Bq n r8 (((),[List.map (fun n:Int=>UInt8.ofNat n.toNat) r6]))).bind fun (gX:PUnit×List (List UInt8))=>
 (Ah n (((361:Int),gX.2))).bind fun (dR:aJ)=>
 some dR:=by kernel_rfl
theorem anj (n:Nat) (x1:aJ) (x2:aJ):Bc n (x1,x2)=
 some (Go.Op.bytesLess (List.map (fun n:Int=>UInt8.ofNat n.toNat) [x1.b0,x1.b1,x1.b2,x1.b3,x1.b4,x1.b5,x1.b6,x1.b7,x1.b8,x1.b9,x1.b10,x1.b11,x1.b12,x1.b13,x1.b14,x1.b15]) (List.map (fun n:Int=>UInt8.ofNat n.toNat) [x2.b0,x2.b1,x2.b2,x2.b3,x2.b4,x2.b5,x2.b6,x2.b7,x2.b8,x2.b9,x2.b10,x2.b11,x2.b12,x2.b13,x2.b14,x2.b15])):=by kernel_rfl
noncomputable def vR (n:Nat) (x1:Root) (m:Nat) (p:Int):Option (PUnit⊕Bool):=
 eZ (R:=R) 4 (aK ((bS Tryz.f17.body [1,1,0,1,0,0]).getD .skip)) (⟨[(1,TV.ref 1 0)],[(1,Ob.ro (Ob.cells [TV.int IntKind.i64 x1.eT,TV.int IntKind.i64 x1.cZ,TV.int IntKind.i64 x1.Day,TV.int IntKind.i64 x1.Floor,TV.int IntKind.u8 x1.au.b0,TV.int IntKind.u8 x1.au.b1,TV.int IntKind.u8 x1.au.b2,TV.int IntKind.u8 x1.au.b3,TV.int IntKind.u8 x1.au.b4,TV.int IntKind.u8 x1.au.b5,TV.int IntKind.u8 x1.au.b6,TV.int IntKind.u8 x1.au.b7,TV.int IntKind.u8 x1.au.b8,TV.int IntKind.u8 x1.au.b9,TV.int IntKind.u8 x1.au.b10,TV.int IntKind.u8 x1.au.b11,TV.int IntKind.u8 x1.au.b12,TV.int IntKind.u8 x1.au.b13,TV.int IntKind.u8 x1.au.b14,TV.int IntKind.u8 x1.au.b15,TV.int IntKind.u8 x1.ak.b0,TV.int IntKind.u8 x1.ak.b1,TV.int IntKind.u8 x1.ak.b2,TV.int IntKind.u8 x1.ak.b3,TV.int IntKind.u8 x1.ak.b4,TV.int IntKind.u8 x1.ak.b5,TV.int IntKind.u8 x1.ak.b6,TV.int IntKind.u8 x1.ak.b7,TV.int IntKind.u8 x1.ak.b8,TV.int IntKind.u8 x1.ak.b9,TV.int IntKind.u8 x1.ak.b10,TV.int IntKind.u8 x1.ak.b11,TV.int IntKind.u8 x1.ak.b12,TV.int IntKind.u8 x1.ak.b13,TV.int IntKind.u8 x1.ak.b14,TV.int IntKind.u8 x1.ak.b15,TV.aj (T:=R.T) Cp.sh (Ty.st 2) x1.Marks,TV.int IntKind.u8 x1.Gone.b0,TV.int IntKind.u8 x1.Gone.b1,TV.int IntKind.u8 x1.Gone.b2,TV.int IntKind.u8 x1.Gone.b3,TV.int IntKind.u8 x1.Gone.b4,TV.int IntKind.u8 x1.Gone.b5,TV.int IntKind.u8 x1.Gone.b6,TV.int IntKind.u8 x1.Gone.b7,TV.int IntKind.u8 x1.Gone.b8,TV.int IntKind.u8 x1.Gone.b9,TV.int IntKind.u8 x1.Gone.b10,TV.int IntKind.u8 x1.Gone.b11,TV.int IntKind.u8 x1.Gone.b12,TV.int IntKind.u8 x1.Gone.b13,TV.int IntKind.u8 x1.Gone.b14,TV.int IntKind.u8 x1.Gone.b15,TV.int IntKind.i64 x1.iN,TV.int IntKind.u8 x1.ay.b0,TV.int IntKind.u8 x1.ay.b1,TV.int IntKind.u8 x1.ay.b2,TV.int IntKind.u8 x1.ay.b3,TV.int IntKind.u8 x1.ay.b4,TV.int IntKind.u8 x1.ay.b5,TV.int IntKind.u8 x1.ay.b6,TV.int IntKind.u8 x1.ay.b7,TV.int IntKind.u8 x1.ay.b8,TV.int IntKind.u8 x1.ay.b9,TV.int IntKind.u8 x1.ay.b10,TV.int IntKind.u8 x1.ay.b11,TV.int IntKind.u8 x1.ay.b12,TV.int IntKind.u8 x1.ay.b13,TV.int IntKind.u8 x1.ay.b14,TV.int IntKind.u8 x1.ay.b15,TV.int IntKind.i64 x1.iO,TV.int IntKind.i64 x1.iJ,TV.int IntKind.u8 x1.Seal.b0,TV.int IntKind.u8 x1.Seal.b1,TV.int IntKind.u8 x1.Seal.b2,TV.int IntKind.u8 x1.Seal.b3,TV.int IntKind.u8 x1.Seal.b4,TV.int IntKind.u8 x1.Seal.b5,TV.int IntKind.u8 x1.Seal.b6,TV.int IntKind.u8 x1.Seal.b7,TV.int IntKind.u8 x1.Seal.b8,TV.int IntKind.u8 x1.Seal.b9,TV.int IntKind.u8 x1.Seal.b10,TV.int IntKind.u8 x1.Seal.b11,TV.int IntKind.u8 x1.Seal.b12,TV.int IntKind.u8 x1.Seal.b13,TV.int IntKind.u8 x1.Seal.b14,TV.int IntKind.u8 x1.Seal.b15]))]⟩:MS R.T) (bY KW.loops 4).sh (bY KW.loops 4).outs (fun st k=>bU E R n false (KV n) aQ KW ((bS Tryz.f17.body [1,1,0,1,0,0]).getD .skip) st k) m p
theorem abj (n:Nat) (x1:Root) (m:Nat) (x2:Int):vR n x1 (m+1) x2=
 bif decide (x2< (((x1.Marks.length:Nat):Int))) then
  (cO x1.Marks x2).bind fun (r3:Mark)=>
  bif !(decide (r3.Count< (1:Int))) then
   (cO x1.Marks x2).bind fun (r4:Mark)=>
   bif !(decide (r4.Count> (4096:Int))) then
    bif decide (x2> (0:Int)) then
     (cO x1.Marks (IntKind.wrap IntKind.i64 (x2-(1:Int)))).bind fun (r5:Mark)=>
     (cO x1.Marks x2).bind fun (r6:Mark)=>
     (Bc n ((r5.aO,r6.aO))).bind fun (r7:Bool)=>
     bif !r7 then
      some (.inr false)
     else
      vR n x1 m (IntKind.wrap IntKind.i64 (x2+(1:Int)))
    else
     vR n x1 m (IntKind.wrap IntKind.i64 (x2+(1:Int)))
   else
    some (.inr false)
  else
   some (.inr false)
 else
  some (.inl (())):=by kernel_rfl
theorem ank (n:Nat) (x1:Root):vP n x1=
 bif bif bif bif bif bif bif bif decide (x1.eT< (0:Int)) then true else decide (x1.eT≥(32:Int)) then true else decide (x1.cZ< (0:Int)) then true else decide (x1.cZ> (1073741824:Int)) then true else decide (x1.Day< (0:Int)) then true else decide (x1.Day> (1048576:Int)) then true else decide (x1.Floor< (0:Int)) then true else decide (x1.Floor>x1.cZ) then
  some false
 else
  (vR n x1 n (0:Int)).bind fun (r8:PUnit⊕Bool)=>
  Sum.elim (fun (q9:PUnit)=>
   some (bif bif bif bif bif bif decide ((((x1.Marks.length:Nat):Int))≤(256:Int)) then decide (x1.iN≥(0:Int)) else false then decide (x1.iN≤(65536:Int)) else false then decide (x1.iO≥(0:Int)) else false then decide (x1.iO≤(65536:Int)) else false then decide (x1.iJ≥(0:Int)) else false then decide (x1.iJ≤(2147483648:Int)) else false))
   (fun (q10:Bool)=>
    some q10) r8:=by kernel_rfl
noncomputable def F4 (n:Nat) (x1:Root) (m:Nat) (p:(List Int)×(List (List UInt8))×Int):Option ((List Int)×List (List UInt8)):=
 eZ (R:=R) 4 (aK ((bS Tryz.f19.body [1,1,1,0,1,0,0]).getD .skip)) (⟨[(1,TV.ref 1 0),(2,TV.ref 2 0)],[(1,Ob.ro (Ob.cells [TV.int IntKind.i64 x1.eT,TV.int IntKind.i64 x1.cZ,TV.int IntKind.i64 x1.Day,TV.int IntKind.i64 x1.Floor,TV.int IntKind.u8 x1.au.b0,TV.int IntKind.u8 x1.au.b1,TV.int IntKind.u8 x1.au.b2,TV.int IntKind.u8 x1.au.b3,TV.int IntKind.u8 x1.au.b4,TV.int IntKind.u8 x1.au.b5,TV.int IntKind.u8 x1.au.b6,TV.int IntKind.u8 x1.au.b7,TV.int IntKind.u8 x1.au.b8,TV.int IntKind.u8 x1.au.b9,TV.int IntKind.u8 x1.au.b10,TV.int IntKind.u8 x1.au.b11,TV.int IntKind.u8 x1.au.b12,TV.int IntKind.u8 x1.au.b13,TV.int IntKind.u8 x1.au.b14,TV.int IntKind.u8 x1.au.b15,TV.int IntKind.u8 x1.ak.b0,TV.int IntKind.u8 x1.ak.b1,TV.int IntKind.u8 x1.ak.b2,TV.int IntKind.u8 x1.ak.b3,TV.int IntKind.u8 x1.ak.b4,TV.int IntKind.u8 x1.ak.b5,TV.int IntKind.u8 x1.ak.b6,TV.int IntKind.u8 x1.ak.b7,TV.int IntKind.u8 x1.ak.b8,TV.int IntKind.u8 x1.ak.b9,TV.int IntKind.u8 x1.ak.b10,TV.int IntKind.u8 x1.ak.b11,TV.int IntKind.u8 x1.ak.b12,TV.int IntKind.u8 x1.ak.b13,TV.int IntKind.u8 x1.ak.b14,TV.int IntKind.u8 x1.ak.b15,TV.aj (T:=R.T) Cp.sh (Ty.st 2) x1.Marks,TV.int IntKind.u8 x1.Gone.b0,TV.int IntKind.u8 x1.Gone.b1,TV.int IntKind.u8 x1.Gone.b2,TV.int IntKind.u8 x1.Gone.b3,TV.int IntKind.u8 x1.Gone.b4,TV.int IntKind.u8 x1.Gone.b5,TV.int IntKind.u8 x1.Gone.b6,TV.int IntKind.u8 x1.Gone.b7,TV.int IntKind.u8 x1.Gone.b8,TV.int IntKind.u8 x1.Gone.b9,TV.int IntKind.u8 x1.Gone.b10,TV.int IntKind.u8 x1.Gone.b11,TV.int IntKind.u8 x1.Gone.b12,TV.int IntKind.u8 x1.Gone.b13,TV.int IntKind.u8 x1.Gone.b14,TV.int IntKind.u8 x1.Gone.b15,TV.int IntKind.i64 x1.iN,TV.int IntKind.u8 x1.ay.b0,TV.int IntKind.u8 x1.ay.b1,TV.int IntKind.u8 x1.ay.b2,TV.int IntKind.u8 x1.ay.b3,TV.int IntKind.u8 x1.ay.b4,TV.int IntKind.u8 x1.ay.b5,TV.int IntKind.u8 x1.ay.b6,TV.int IntKind.u8 x1.ay.b7,TV.int IntKind.u8 x1.ay.b8,TV.int IntKind.u8 x1.ay.b9,TV.int IntKind.u8 x1.ay.b10,TV.int IntKind.u8 x1.ay.b11,TV.int IntKind.u8 x1.ay.b12,TV.int IntKind.u8 x1.ay.b13,TV.int IntKind.u8 x1.ay.b14,TV.int IntKind.u8 x1.ay.b15,TV.int IntKind.i64 x1.iO,TV.int IntKind.i64 x1.iJ,TV.int IntKind.u8 x1.Seal.b0,TV.int IntKind.u8 x1.Seal.b1,TV.int IntKind.u8 x1.Seal.b2,TV.int IntKind.u8 x1.Seal.b3,TV.int IntKind.u8 x1.Seal.b4,TV.int IntKind.u8 x1.Seal.b5,TV.int IntKind.u8 x1.Seal.b6,TV.int IntKind.u8 x1.Seal.b7,TV.int IntKind.u8 x1.Seal.b8,TV.int IntKind.u8 x1.Seal.b9,TV.int IntKind.u8 x1.Seal.b10,TV.int IntKind.u8 x1.Seal.b11,TV.int IntKind.u8 x1.Seal.b12,TV.int IntKind.u8 x1.Seal.b13,TV.int IntKind.u8 x1.Seal.b14,TV.int IntKind.u8 x1.Seal.b15])),(2,Ob.ro (Ob.cells [TV.int IntKind.u8 (0:Int),TV.int IntKind.u8 (0:Int),TV.int IntKind.u8 (0:Int),TV.int IntKind.u8 (0:Int),TV.int IntKind.u8 (0:Int),TV.int IntKind.u8 (0:Int),TV.int IntKind.u8 (0:Int),TV.int IntKind.u8 (0:Int),TV.int IntKind.u8 (0:Int),TV.int IntKind.u8 (0:Int),TV.int IntKind.u8 (0:Int),TV.int IntKind.u8 (0:Int),TV.int IntKind.u8 (0:Int),TV.int IntKind.u8 (0:Int),TV.int IntKind.u8 (0:Int),TV.int IntKind.u8 (0:Int)]))]⟩:MS R.T) (bY KZ.loops 4).sh (bY KZ.loops 4).outs (fun st k=>bU E R n false (KY n) aQ KZ ((bS Tryz.f19.body [1,1,1,0,1,0,0]).getD .skip) st k) m p
theorem abk (n:Nat) (x1:Root) (m:Nat) (x2:List Int) (x3:List (List UInt8)) (x4:Int):F4 n x1 (m+1) (x2,(x3,x4))=
 bif decide (x4< (((x1.Marks.length:Nat):Int))) then
  (cO x1.Marks x4).bind fun (r5:Mark)=>
  bif dD (x2.length+([r5.Count].length)) 8 then
   bif dD (x3.length+(([List.map (fun n:Int=>UInt8.ofNat n.toNat) [r5.aO.b0,r5.aO.b1,r5.aO.b2,r5.aO.b3,r5.aO.b4,r5.aO.b5,r5.aO.b6,r5.aO.b7,r5.aO.b8,r5.aO.b9,r5.aO.b10,r5.aO.b11,r5.aO.b12,r5.aO.b13,r5.aO.b14,r5.aO.b15],List.map (fun n:Int=>UInt8.ofNat n.toNat) [r5.aT.b0,r5.aT.b1,r5.aT.b2,r5.aT.b3,r5.aT.b4,r5.aT.b5,r5.aT.b6,r5.aT.b7,r5.aT.b8,r5.aT.b9,r5.aT.b10,r5.aT.b11,r5.aT.b12,r5.aT.b13,r5.aT.b14,r5.aT.b15]]).length)) 16 then
    F4 n x1 m ((x2++[r5.Count],(x3++([List.map (fun n:Int=>UInt8.ofNat n.toNat) [r5.aO.b0,r5.aO.b1,r5.aO.b2,r5.aO.b3,r5.aO.b4,r5.aO.b5,r5.aO.b6,r5.aO.b7,r5.aO.b8,r5.aO.b9,r5.aO.b10,r5.aO.b11,r5.aO.b12,r5.aO.b13,r5.aO.b14,r5.aO.b15],List.map (fun n:Int=>UInt8.ofNat n.toNat) [r5.aT.b0,r5.aT.b1,r5.aT.b2,r5.aT.b3,r5.aT.b4,r5.aT.b5,r5.aT.b6,r5.aT.b7,r5.aT.b8,r5.aT.b9,r5.aT.b10,r5.aT.b11,r5.aT.b12,r5.aT.b13,r5.aT.b14,r5.aT.b15]]),IntKind.wrap IntKind.i64 (x4+(1:Int)))))
   else
    none
  else
   none
 else
  some ((x2,x3)):=by kernel_rfl
theorem anm (n:Nat) (x1:Root):Bd n x1=
 (F4 n x1 n (([x1.eT,x1.cZ,x1.Day,x1.Floor,x1.iN,x1.iO],([List.map (fun n:Int=>UInt8.ofNat n.toNat) [x1.au.b0,x1.au.b1,x1.au.b2,x1.au.b3,x1.au.b4,x1.au.b5,x1.au.b6,x1.au.b7,x1.au.b8,x1.au.b9,x1.au.b10,x1.au.b11,x1.au.b12,x1.au.b13,x1.au.b14,x1.au.b15],List.map (fun n:Int=>UInt8.ofNat n.toNat) [x1.ak.b0,x1.ak.b1,x1.ak.b2,x1.ak.b3,x1.ak.b4,x1.ak.b5,x1.ak.b6,x1.ak.b7,x1.ak.b8,x1.ak.b9,x1.ak.b10,x1.ak.b11,x1.ak.b12,x1.ak.b13,x1.ak.b14,x1.ak.b15],List.map (fun n:Int=>UInt8.ofNat n.toNat) [x1.Gone.b0,x1.Gone.b1,x1.Gone.b2,x1.Gone.b3,x1.Gone.b4,x1.Gone.b5,x1.Gone.b6,x1.Gone.b7,x1.Gone.b8,x1.Gone.b9,x1.Gone.b10,x1.Gone.b11,x1.Gone.b12,x1.Gone.b13,x1.Gone.b14,x1.Gone.b15],List.map (fun n:Int=>UInt8.ofNat n.toNat) [x1.ay.b0,x1.ay.b1,x1.ay.b2,x1.ay.b3,x1.ay.b4,x1.ay.b5,x1.ay.b6,x1.ay.b7,x1.ay.b8,x1.ay.b9,x1.ay.b10,x1.ay.b11,x1.ay.b12,x1.ay.b13,x1.ay.b14,x1.ay.b15]],(0:Int))))).bind fun (r6:(List Int)×List (List UInt8))=>
 (Av n r6.1).bind fun (r7:List Int)=>
 bif dD (([List.map (fun n:Int=>UInt8.ofNat n.toNat) r7].length)+r6.2.length) 16 then
  (Ar n (((361:Int),[List.map (fun n:Int=>UInt8.ofNat n.toNat) r7]++r6.2))).bind fun (r8:aJ)=>
  some r8
 else
  none:=by kernel_rfl
noncomputable def Br (n:Nat) (x1:Root) (x2:Root) (m:Nat) (p:Int):Option (PUnit⊕Bool):=
 eZ (R:=R) 4 (aK ((bS Tryz.f15.body [1,1,0,1,0,0]).getD .skip)) (⟨[(2,TV.ref 2 0),(3,TV.ref 3 0)],[(2,Ob.ro (Ob.cells [TV.int IntKind.i64 x1.eT,TV.int IntKind.i64 x1.cZ,TV.int IntKind.i64 x1.Day,TV.int IntKind.i64 x1.Floor,TV.int IntKind.u8 x1.au.b0,TV.int IntKind.u8 x1.au.b1,TV.int IntKind.u8 x1.au.b2,TV.int IntKind.u8 x1.au.b3,TV.int IntKind.u8 x1.au.b4,TV.int IntKind.u8 x1.au.b5,TV.int IntKind.u8 x1.au.b6,TV.int IntKind.u8 x1.au.b7,TV.int IntKind.u8 x1.au.b8,TV.int IntKind.u8 x1.au.b9,TV.int IntKind.u8 x1.au.b10,TV.int IntKind.u8 x1.au.b11,TV.int IntKind.u8 x1.au.b12,TV.int IntKind.u8 x1.au.b13,TV.int IntKind.u8 x1.au.b14,TV.int IntKind.u8 x1.au.b15,TV.int IntKind.u8 x1.ak.b0,TV.int IntKind.u8 x1.ak.b1,TV.int IntKind.u8 x1.ak.b2,TV.int IntKind.u8 x1.ak.b3,TV.int IntKind.u8 x1.ak.b4,TV.int IntKind.u8 x1.ak.b5,TV.int IntKind.u8 x1.ak.b6,TV.int IntKind.u8 x1.ak.b7,TV.int IntKind.u8 x1.ak.b8,TV.int IntKind.u8 x1.ak.b9,TV.int IntKind.u8 x1.ak.b10,TV.int IntKind.u8 x1.ak.b11,TV.int IntKind.u8 x1.ak.b12,TV.int IntKind.u8 x1.ak.b13,TV.int IntKind.u8 x1.ak.b14,TV.int IntKind.u8 x1.ak.b15,TV.aj (T:=R.T) Cp.sh (Ty.st 2) x1.Marks,TV.int IntKind.u8 x1.Gone.b0,TV.int IntKind.u8 x1.Gone.b1,TV.int IntKind.u8 x1.Gone.b2,TV.int IntKind.u8 x1.Gone.b3,TV.int IntKind.u8 x1.Gone.b4,TV.int IntKind.u8 x1.Gone.b5,TV.int IntKind.u8 x1.Gone.b6,TV.int IntKind.u8 x1.Gone.b7,TV.int IntKind.u8 x1.Gone.b8,TV.int IntKind.u8 x1.Gone.b9,TV.int IntKind.u8 x1.Gone.b10,TV.int IntKind.u8 x1.Gone.b11,TV.int IntKind.u8 x1.Gone.b12,TV.int IntKind.u8 x1.Gone.b13,TV.int IntKind.u8 x1.Gone.b14,TV.int IntKind.u8 x1.Gone.b15,TV.int IntKind.i64 x1.iN,TV.int IntKind.u8 x1.ay.b0,TV.int IntKind.u8 x1.ay.b1,TV.int IntKind.u8 x1.ay.b2,TV.int IntKind.u8 x1.ay.b3,TV.int IntKind.u8 x1.ay.b4,TV.int IntKind.u8 x1.ay.b5,TV.int IntKind.u8 x1.ay.b6,TV.int IntKind.u8 x1.ay.b7,TV.int IntKind.u8 x1.ay.b8,TV.int IntKind.u8 x1.ay.b9,TV.int IntKind.u8 x1.ay.b10,TV.int IntKind.u8 x1.ay.b11,TV.int IntKind.u8 x1.ay.b12,TV.int IntKind.u8 x1.ay.b13,TV.int IntKind.u8 x1.ay.b14,TV.int IntKind.u8 x1.ay.b15,TV.int IntKind.i64 x1.iO,TV.int IntKind.i64 x1.iJ,TV.int IntKind.u8 x1.Seal.b0,TV.int IntKind.u8 x1.Seal.b1,TV.int IntKind.u8 x1.Seal.b2,TV.int IntKind.u8 x1.Seal.b3,TV.int IntKind.u8 x1.Seal.b4,TV.int IntKind.u8 x1.Seal.b5,TV.int IntKind.u8 x1.Seal.b6,TV.int IntKind.u8 x1.Seal.b7,TV.int IntKind.u8 x1.Seal.b8,TV.int IntKind.u8 x1.Seal.b9,TV.int IntKind.u8 x1.Seal.b10,TV.int IntKind.u8 x1.Seal.b11,TV.int IntKind.u8 x1.Seal.b12,TV.int IntKind.u8 x1.Seal.b13,TV.int IntKind.u8 x1.Seal.b14,TV.int IntKind.u8 x1.Seal.b15])),(3,Ob.ro (Ob.cells [TV.int IntKind.i64 x2.eT,TV.int IntKind.i64 x2.cZ,TV.int IntKind.i64 x2.Day,TV.int IntKind.i64 x2.Floor,TV.int IntKind.u8 x2.au.b0,TV.int IntKind.u8 x2.au.b1,TV.int IntKind.u8 x2.au.b2,TV.int IntKind.u8 x2.au.b3,TV.int IntKind.u8 x2.au.b4,TV.int IntKind.u8 x2.au.b5,TV.int IntKind.u8 x2.au.b6,TV.int IntKind.u8 x2.au.b7,TV.int IntKind.u8 x2.au.b8,TV.int IntKind.u8 x2.au.b9,TV.int IntKind.u8 x2.au.b10,TV.int IntKind.u8 x2.au.b11,TV.int IntKind.u8 x2.au.b12,TV.int IntKind.u8 x2.au.b13,TV.int IntKind.u8 x2.au.b14,TV.int IntKind.u8 x2.au.b15,TV.int IntKind.u8 x2.ak.b0,TV.int IntKind.u8 x2.ak.b1,TV.int IntKind.u8 x2.ak.b2,TV.int IntKind.u8 x2.ak.b3,TV.int IntKind.u8 x2.ak.b4,TV.int IntKind.u8 x2.ak.b5,TV.int IntKind.u8 x2.ak.b6,TV.int IntKind.u8 x2.ak.b7,TV.int IntKind.u8 x2.ak.b8,TV.int IntKind.u8 x2.ak.b9,TV.int IntKind.u8 x2.ak.b10,TV.int IntKind.u8 x2.ak.b11,TV.int IntKind.u8 x2.ak.b12,TV.int IntKind.u8 x2.ak.b13,TV.int IntKind.u8 x2.ak.b14,TV.int IntKind.u8 x2.ak.b15,TV.aj (T:=R.T) Cp.sh (Ty.st 2) x2.Marks,TV.int IntKind.u8 x2.Gone.b0,TV.int IntKind.u8 x2.Gone.b1,TV.int IntKind.u8 x2.Gone.b2,TV.int IntKind.u8 x2.Gone.b3,TV.int IntKind.u8 x2.Gone.b4,TV.int IntKind.u8 x2.Gone.b5,TV.int IntKind.u8 x2.Gone.b6,TV.int IntKind.u8 x2.Gone.b7,TV.int IntKind.u8 x2.Gone.b8,TV.int IntKind.u8 x2.Gone.b9,TV.int IntKind.u8 x2.Gone.b10,TV.int IntKind.u8 x2.Gone.b11,TV.int IntKind.u8 x2.Gone.b12,TV.int IntKind.u8 x2.Gone.b13,TV.int IntKind.u8 x2.Gone.b14,TV.int IntKind.u8 x2.Gone.b15,TV.int IntKind.i64 x2.iN,TV.int IntKind.u8 x2.ay.b0,TV.int IntKind.u8 x2.ay.b1,TV.int IntKind.u8 x2.ay.b2,TV.int IntKind.u8 x2.ay.b3,TV.int IntKind.u8 x2.ay.b4,TV.int IntKind.u8 x2.ay.b5,TV.int IntKind.u8 x2.ay.b6,TV.int IntKind.u8 x2.ay.b7,TV.int IntKind.u8 x2.ay.b8,TV.int IntKind.u8 x2.ay.b9,TV.int IntKind.u8 x2.ay.b10,TV.int IntKind.u8 x2.ay.b11,TV.int IntKind.u8 x2.ay.b12,TV.int IntKind.u8 x2.ay.b13,TV.int IntKind.u8 x2.ay.b14,TV.int IntKind.u8 x2.ay.b15,TV.int IntKind.i64 x2.iO,TV.int IntKind.i64 x2.iJ,TV.int IntKind.u8 x2.Seal.b0,TV.int IntKind.u8 x2.Seal.b1,TV.int IntKind.u8 x2.Seal.b2,TV.int IntKind.u8 x2.Seal.b3,TV.int IntKind.u8 x2.Seal.b4,TV.int IntKind.u8 x2.Seal.b5,TV.int IntKind.u8 x2.Seal.b6,TV.int IntKind.u8 x2.Seal.b7,TV.int IntKind.u8 x2.Seal.b8,TV.int IntKind.u8 x2.Seal.b9,TV.int IntKind.u8 x2.Seal.b10,TV.int IntKind.u8 x2.Seal.b11,TV.int IntKind.u8 x2.Seal.b12,TV.int IntKind.u8 x2.Seal.b13,TV.int IntKind.u8 x2.Seal.b14,TV.int IntKind.u8 x2.Seal.b15]))]⟩:MS R.T) (bY K9.loops 4).sh (bY K9.loops 4).outs (fun st k=>bU E R n false (K8 n) aQ K9 ((bS Tryz.f15.body [1,1,0,1,0,0]).getD .skip) st k) m p
theorem abl (n:Nat) (x1:Root) (x2:Root) (m:Nat) (x3:Int):Br n x1 x2 (m+1) x3=
 bif decide (x3< (((x1.Marks.length:Nat):Int))) then
  (cO x1.Marks x3).bind fun (r4:Mark)=>
  (cO x2.Marks x3).bind fun (r5:Mark)=>
  bif !(((r4.aO.b0==r5.aO.b0)&& ((r4.aO.b1==r5.aO.b1)&& ((r4.aO.b2==r5.aO.b2)&& ((r4.aO.b3==r5.aO.b3)&& ((r4.aO.b4==r5.aO.b4)&& ((r4.aO.b5==r5.aO.b5)&& ((r4.aO.b6==r5.aO.b6)&& ((r4.aO.b7==r5.aO.b7)&& ((r4.aO.b8==r5.aO.b8)&& ((r4.aO.b9==r5.aO.b9)&& ((r4.aO.b10==r5.aO.b10)&& ((r4.aO.b11==r5.aO.b11)&& ((r4.aO.b12==r5.aO.b12)&& ((r4.aO.b13==r5.aO.b13)&& ((r4.aO.b14==r5.aO.b14)&& ((r4.aO.b15==r5.aO.b15)&& true))))))))))))))))&& (((r4.aT.b0==r5.aT.b0)&& ((r4.aT.b1==r5.aT.b1)&& ((r4.aT.b2==r5.aT.b2)&& ((r4.aT.b3==r5.aT.b3)&& ((r4.aT.b4==r5.aT.b4)&& ((r4.aT.b5==r5.aT.b5)&& ((r4.aT.b6==r5.aT.b6)&& ((r4.aT.b7==r5.aT.b7)&& ((r4.aT.b8==r5.aT.b8)&& ((r4.aT.b9==r5.aT.b9)&& ((r4.aT.b10==r5.aT.b10)&& ((r4.aT.b11==r5.aT.b11)&& ((r4.aT.b12==r5.aT.b12)&& ((r4.aT.b13==r5.aT.b13)&& ((r4.aT.b14==r5.aT.b14)&& ((r4.aT.b15==r5.aT.b15)&& true))))))))))))))))&& ((r4.Count==r5.Count)&& true))) then
   some (.inr false)
  else
   Br n x1 x2 m (IntKind.wrap IntKind.i64 (x3+(1:Int)))
 else
  some (.inl (())):=by kernel_rfl
theorem ano (n:Nat) (x1:Root) (x2:Root):vQ n (x1,x2)=
 bif (((x1.Marks.length:Nat):Int)) !=(((x2.Marks.length:Nat):Int)) then
  some false
 else
  (Br n x1 x2 n (0:Int)).bind fun (r6:PUnit⊕Bool)=>
  Sum.elim (fun (q7:PUnit)=>
   bif bif bif bif bif bif x1.eT !=x2.eT then true else x1.cZ !=x2.cZ then true else x1.Day !=x2.Day then true else x1.Floor !=x2.Floor then true else !((x1.au.b0==x2.au.b0)&& ((x1.au.b1==x2.au.b1)&& ((x1.au.b2==x2.au.b2)&& ((x1.au.b3==x2.au.b3)&& ((x1.au.b4==x2.au.b4)&& ((x1.au.b5==x2.au.b5)&& ((x1.au.b6==x2.au.b6)&& ((x1.au.b7==x2.au.b7)&& ((x1.au.b8==x2.au.b8)&& ((x1.au.b9==x2.au.b9)&& ((x1.au.b10==x2.au.b10)&& ((x1.au.b11==x2.au.b11)&& ((x1.au.b12==x2.au.b12)&& ((x1.au.b13==x2.au.b13)&& ((x1.au.b14==x2.au.b14)&& ((x1.au.b15==x2.au.b15)&& true)))))))))))))))) then true else !((x1.ak.b0==x2.ak.b0)&& ((x1.ak.b1==x2.ak.b1)&& ((x1.ak.b2==x2.ak.b2)&& ((x1.ak.b3==x2.ak.b3)&& ((x1.ak.b4==x2.ak.b4)&& ((x1.ak.b5==x2.ak.b5)&& ((x1.ak.b6==x2.ak.b6)&& ((x1.ak.b7==x2.ak.b7)&& ((x1.ak.b8==x2.ak.b8)&& ((x1.ak.b9==x2.ak.b9)&& ((x1.ak.b10==x2.ak.b10)&& ((x1.ak.b11==x2.ak.b11)&& ((x1.ak.b12==x2.ak.b12)&& ((x1.ak.b13==x2.ak.b13)&& ((x1.ak.b14==x2.ak.b14)&& ((x1.ak.b15==x2.ak.b15)&& true)))))))))))))))) then
    some false
   else
    some (bif bif bif bif bif (x1.Gone.b0==x2.Gone.b0)&& ((x1.Gone.b1==x2.Gone.b1)&& ((x1.Gone.b2==x2.Gone.b2)&& ((x1.Gone.b3==x2.Gone.b3)&& ((x1.Gone.b4==x2.Gone.b4)&& ((x1.Gone.b5==x2.Gone.b5)&& ((x1.Gone.b6==x2.Gone.b6)&& ((x1.Gone.b7==x2.Gone.b7)&& ((x1.Gone.b8==x2.Gone.b8)&& ((x1.Gone.b9==x2.Gone.b9)&& ((x1.Gone.b10==x2.Gone.b10)&& ((x1.Gone.b11==x2.Gone.b11)&& ((x1.Gone.b12==x2.Gone.b12)&& ((x1.Gone.b13==x2.Gone.b13)&& ((x1.Gone.b14==x2.Gone.b14)&& ((x1.Gone.b15==x2.Gone.b15)&& true))))))))))))))) then x1.iN==x2.iN else false then (x1.ay.b0==x2.ay.b0)&& ((x1.ay.b1==x2.ay.b1)&& ((x1.ay.b2==x2.ay.b2)&& ((x1.ay.b3==x2.ay.b3)&& ((x1.ay.b4==x2.ay.b4)&& ((x1.ay.b5==x2.ay.b5)&& ((x1.ay.b6==x2.ay.b6)&& ((x1.ay.b7==x2.ay.b7)&& ((x1.ay.b8==x2.ay.b8)&& ((x1.ay.b9==x2.ay.b9)&& ((x1.ay.b10==x2.ay.b10)&& ((x1.ay.b11==x2.ay.b11)&& ((x1.ay.b12==x2.ay.b12)&& ((x1.ay.b13==x2.ay.b13)&& ((x1.ay.b14==x2.ay.b14)&& ((x1.ay.b15==x2.ay.b15)&& true))))))))))))))) else false then x1.iO==x2.iO else false then x1.iJ==x2.iJ else false then (x1.Seal.b0==x2.Seal.b0)&& ((x1.Seal.b1==x2.Seal.b1)&& ((x1.Seal.b2==x2.Seal.b2)&& ((x1.Seal.b3==x2.Seal.b3)&& ((x1.Seal.b4==x2.Seal.b4)&& ((x1.Seal.b5==x2.Seal.b5)&& ((x1.Seal.b6==x2.Seal.b6)&& ((x1.Seal.b7==x2.Seal.b7)&& ((x1.Seal.b8==x2.Seal.b8)&& ((x1.Seal.b9==x2.Seal.b9)&& ((x1.Seal.b10==x2.Seal.b10)&& ((x1.Seal.b11==x2.Seal.b11)&& ((x1.Seal.b12==x2.Seal.b12)&& ((x1.Seal.b13==x2.Seal.b13)&& ((x1.Seal.b14==x2.Seal.b14)&& ((x1.Seal.b15==x2.Seal.b15)&& true))))))))))))))) else false))
   (fun (q8:Bool)=>
    some q8) r6:=by kernel_rfl
theorem anp (n:Nat) (x1:Root) (x2:Root):Bf n (x1,x2)=
 (vO n x1).bind fun (r3:Bool)=>
 (kH (!(!r3)) (vO n x2) false).bind fun (r4:Bool)=>
 bif bif bif !r3 then true else !r4 then true else x1.eT !=x2.eT then
  some (1:Int)
 else
  bif bif bif x2.cZ !=(IntKind.wrap IntKind.i64 (x1.cZ+(1:Int))) then true else decide (x2.Day<x1.Day) then true else decide (x2.Floor<x1.Floor) then
   some (9:Int)
  else
   bif !(!((x1.ak.b0==x2.ak.b0)&& ((x1.ak.b1==x2.ak.b1)&& ((x1.ak.b2==x2.ak.b2)&& ((x1.ak.b3==x2.ak.b3)&& ((x1.ak.b4==x2.ak.b4)&& ((x1.ak.b5==x2.ak.b5)&& ((x1.ak.b6==x2.ak.b6)&& ((x1.ak.b7==x2.ak.b7)&& ((x1.ak.b8==x2.ak.b8)&& ((x1.ak.b9==x2.ak.b9)&& ((x1.ak.b10==x2.ak.b10)&& ((x1.ak.b11==x2.ak.b11)&& ((x1.ak.b12==x2.ak.b12)&& ((x1.ak.b13==x2.ak.b13)&& ((x1.ak.b14==x2.ak.b14)&& ((x1.ak.b15==x2.ak.b15)&& true))))))))))))))))) then
    (Bb n x1).bind fun (r5:aJ)=>
    bif !((x2.au.b0==r5.b0)&& ((x2.au.b1==r5.b1)&& ((x2.au.b2==r5.b2)&& ((x2.au.b3==r5.b3)&& ((x2.au.b4==r5.b4)&& ((x2.au.b5==r5.b5)&& ((x2.au.b6==r5.b6)&& ((x2.au.b7==r5.b7)&& ((x2.au.b8==r5.b8)&& ((x2.au.b9==r5.b9)&& ((x2.au.b10==r5.b10)&& ((x2.au.b11==r5.b11)&& ((x2.au.b12==r5.b12)&& ((x2.au.b13==r5.b13)&& ((x2.au.b14==r5.b14)&& ((x2.au.b15==r5.b15)&& true)))))))))))))))) then
     some (3:Int)
    else
     some (0:Int)
   else
    some (3:Int):=by kernel_rfl
theorem anq (n:Nat) (x1:Root) (x2:Root):Bg n (x1,x2)=
 (vP n x1).bind fun (r3:Bool)=>
 (kH (!(!r3)) (vP n x2) false).bind fun (r4:Bool)=>
 bif bif bif !r3 then true else !r4 then true else x1.eT !=x2.eT then
  some (1:Int)
 else
  bif bif bif x2.cZ !=(IntKind.wrap IntKind.i64 (x1.cZ+(1:Int))) then true else decide (x2.Day<x1.Day) then true else decide (x2.Floor<x1.Floor) then
   some (9:Int)
  else
   bif !(!((x1.ak.b0==x2.ak.b0)&& ((x1.ak.b1==x2.ak.b1)&& ((x1.ak.b2==x2.ak.b2)&& ((x1.ak.b3==x2.ak.b3)&& ((x1.ak.b4==x2.ak.b4)&& ((x1.ak.b5==x2.ak.b5)&& ((x1.ak.b6==x2.ak.b6)&& ((x1.ak.b7==x2.ak.b7)&& ((x1.ak.b8==x2.ak.b8)&& ((x1.ak.b9==x2.ak.b9)&& ((x1.ak.b10==x2.ak.b10)&& ((x1.ak.b11==x2.ak.b11)&& ((x1.ak.b12==x2.ak.b12)&& ((x1.ak.b13==x2.ak.b13)&& ((x1.ak.b14==x2.ak.b14)&& ((x1.ak.b15==x2.ak.b15)&& true))))))))))))))))) then
    (Bd n x1).bind fun (r5:aJ)=>
    bif !((x2.au.b0==r5.b0)&& ((x2.au.b1==r5.b1)&& ((x2.au.b2==r5.b2)&& ((x2.au.b3==r5.b3)&& ((x2.au.b4==r5.b4)&& ((x2.au.b5==r5.b5)&& ((x2.au.b6==r5.b6)&& ((x2.au.b7==r5.b7)&& ((x2.au.b8==r5.b8)&& ((x2.au.b9==r5.b9)&& ((x2.au.b10==r5.b10)&& ((x2.au.b11==r5.b11)&& ((x2.au.b12==r5.b12)&& ((x2.au.b13==r5.b13)&& ((x2.au.b14==r5.b14)&& ((x2.au.b15==r5.b15)&& true)))))))))))))))) then
     some (3:Int)
    else
     some (0:Int)
   else
    some (3:Int):=by kernel_rfl
theorem anr (n:Nat) (x1:dK) (x2:Root):Bh n (x1,x2)=
 bif decide ((((x1.dY.length:Nat):Int))≥(65536:Int)) then
  some ((x1,(2:Int)))
 else
  (vO n x2).bind fun (r3:Bool)=>
  bif !r3 then
   some ((x1,(1:Int)))
  else
   bif decide ((((x1.dY.length:Nat):Int))> (0:Int)) then
    (cO x1.dY (IntKind.wrap IntKind.i64 ((((x1.dY.length:Nat):Int))-(1:Int)))).bind fun (r4:Root)=>
    (Bf n ((r4,x2))).bind fun (r5:Int)=>
    bif r5 !=(0:Int) then
     some ((x1,r5))
    else
     bif (fI (((x1.dY.length:Nat):Int)) x1.dY.length)&& ((fI (((x1.dY.length:Nat):Int)) (Int.toNat (((x1.dY.length:Nat):Int))))&& ((((x1.dY.length:Nat):Int))==(((x1.dY.length:Nat):Int)))) then
      bif dD (((List.take (Int.toNat (((x1.dY.length:Nat):Int))) x1.dY).length)+([x2].length)) 160 then
       some (((⟨(List.take (Int.toNat (((x1.dY.length:Nat):Int))) x1.dY)++[x2]⟩:dK),(0:Int)))
      else
       none
     else
      none
   else
    bif (fI (((x1.dY.length:Nat):Int)) x1.dY.length)&& ((fI (((x1.dY.length:Nat):Int)) (Int.toNat (((x1.dY.length:Nat):Int))))&& ((((x1.dY.length:Nat):Int))==(((x1.dY.length:Nat):Int)))) then
     bif dD (((List.take (Int.toNat (((x1.dY.length:Nat):Int))) x1.dY).length)+([x2].length)) 160 then
      some (((⟨(List.take (Int.toNat (((x1.dY.length:Nat):Int))) x1.dY)++[x2]⟩:dK),(0:Int)))
     else
      none
    else
     none:=by kernel_rfl
theorem ant (n:Nat) (x1:dK) (x2:Root):Bj n (x1,x2)=
 bif decide ((((x1.dY.length:Nat):Int))≥(65536:Int)) then
  some (2:Int)
 else
  (vP n x2).bind fun (r3:Bool)=>
  bif !r3 then
   some (1:Int)
  else
   bif (((x1.dY.length:Nat):Int))==(0:Int) then
    some (0:Int)
   else
    (cO x1.dY (IntKind.wrap IntKind.i64 ((((x1.dY.length:Nat):Int))-(1:Int)))).bind fun (r4:Root)=>
    (Bg n ((r4,x2))).bind fun (r5:Int)=>
    some r5:=by kernel_rfl
theorem anu (n:Nat) (x1:Root) (x2:Int):FX n (x1,x2)=
 some (x1.cZ==x2):=by kernel_rfl
noncomputable def F5 (n:Nat) (x1:List Root) (x2:Int) (m:Nat) (p:Int):Option (PUnit⊕Int):=
 eZ (R:=R) 2 (aK ((bS Tryz.f77.body [1,0,1,0,0]).getD .skip)) (⟨[(0,TV.aj (T:=R.T) Cp.sh (Ty.st 3) x1),(1,TV.fn 78 [] ([TV.aI [TV.int IntKind.i64 x2] 0])),(7,TV.int IntKind.i64 (((x1.length:Nat):Int)))],[]⟩:MS R.T) (bY LV.loops 2).sh (bY LV.loops 2).outs (fun st k=>bU E R n false (LU n) aQ LV ((bS Tryz.f77.body [1,0,1,0,0]).getD .skip) st k) m p
theorem abm (n:Nat) (x1:List Root) (x2:Int) (m:Nat) (x3:Int):F5 n x1 x2 (m+1) x3=
 bif decide (x3< (((x1.length:Nat):Int))) then
  (cO x1 x3).bind fun (r4:Root)=>
  (FX n ((r4,x2))).bind fun (r5:Bool)=>
  bif r5 then
   some (.inr x3)
  else
   F5 n x1 x2 m (IntKind.wrap IntKind.i64 (x3+(1:Int)))
 else
  some (.inl (())):=by kernel_rfl
theorem abn (n:Nat) (x1:List Root) (x2:Int):xP n (x1,((),x2))=
 (F5 n x1 x2 n (0:Int)).bind fun (r6:PUnit⊕Int)=>
 Sum.elim (fun (q7:PUnit)=>
  some (-1:Int))
  (fun (q8:Int)=>
   some q8) r6:=by kernel_rfl
theorem anv (n:Nat) (x1:dK) (x2:Int):Bl n (x1,x2)=
 (xP n ((x1.dY,((),x2)))).bind fun (r3:Int)=>
 bif decide (r3< (0:Int)) then
  some (((⟨(0:Int),(0:Int),(0:Int),(0:Int),(⟨(0:Int),(0:Int),(0:Int),(0:Int),(0:Int),(0:Int),(0:Int),(0:Int),(0:Int),(0:Int),(0:Int),(0:Int),(0:Int),(0:Int),(0:Int),(0:Int)⟩:aJ),(⟨(0:Int),(0:Int),(0:Int),(0:Int),(0:Int),(0:Int),(0:Int),(0:Int),(0:Int),(0:Int),(0:Int),(0:Int),(0:Int),(0:Int),(0:Int),(0:Int)⟩:aJ),[],(⟨(0:Int),(0:Int),(0:Int),(0:Int),(0:Int),(0:Int),(0:Int),(0:Int),(0:Int),(0:Int),(0:Int),(0:Int),(0:Int),(0:Int),(0:Int),(0:Int)⟩:aJ),(0:Int),(⟨(0:Int),(0:Int),(0:Int),(0:Int),(0:Int),(0:Int),(0:Int),(0:Int),(0:Int),(0:Int),(0:Int),(0:Int),(0:Int),(0:Int),(0:Int),(0:Int)⟩:aJ),(0:Int),(0:Int),(⟨(0:Int),(0:Int),(0:Int),(0:Int),(0:Int),(0:Int),(0:Int),(0:Int),(0:Int),(0:Int),(0:Int),(0:Int),(0:Int),(0:Int),(0:Int),(0:Int)⟩:Seal)⟩:Root),(5:Int)))
 else
  (cO x1.dY r3).bind fun (r4:Root)=>
  some ((r4,(0:Int))):=by kernel_rfl
noncomputable def F6 (n:Nat) (x1:dK) (x2:Int) (m:Nat) (p:Int×dh):Option ((PUnit×dh)⊕(PUnit×dh)):=
 eZ (R:=R) 2 (aK ((bS Tryz.f32.body [1,0,1,0,0]).getD .skip)) (⟨[(1,TV.int IntKind.i64 x2),(2,TV.ref 2 0),(4,TV.ref 4 0)],[(2,Ob.ro (Ob.cells [TV.aj (T:=R.T) Cp.sh (Ty.st 3) x1.dY]))]⟩:MS R.T) (bY LZ.loops 2).sh (bY LZ.loops 2).outs (fun st k=>bU E R n false (LY n) aQ LZ ((bS Tryz.f32.body [1,0,1,0,0]).getD .skip) st k) m p
theorem abo (n:Nat) (x1:dK) (x2:Int) (m:Nat) (x3:Int) (x4:dh):F6 n x1 x2 (m+1) (x3,x4)=
 bif decide (x3< (((x1.dY.length:Nat):Int))) then
  (cO x1.dY x3).bind fun (r5:Root)=>
  bif r5.cZ==x2 then
   (cO x1.dY x3).bind fun (r6:Root)=>
   some (.inr (((),(⟨r6,(0:Int)⟩:dh))))
  else
   F6 n x1 x2 m ((IntKind.wrap IntKind.i64 (x3+(1:Int)),(⟨x4.R,x4.E⟩:dh)))
 else
  some (.inl (((),(⟨x4.R,x4.E⟩:dh)))):=by kernel_rfl
theorem anw (n:Nat) (x1:dK) (x2:Int):Bn n (x1,x2)=
 (F6 n x1 x2 n (((0:Int),(⟨(⟨(0:Int),(0:Int),(0:Int),(0:Int),(⟨(0:Int),(0:Int),(0:Int),(0:Int),(0:Int),(0:Int),(0:Int),(0:Int),(0:Int),(0:Int),(0:Int),(0:Int),(0:Int),(0:Int),(0:Int),(0:Int)⟩:aJ),(⟨(0:Int),(0:Int),(0:Int),(0:Int),(0:Int),(0:Int),(0:Int),(0:Int),(0:Int),(0:Int),(0:Int),(0:Int),(0:Int),(0:Int),(0:Int),(0:Int)⟩:aJ),[],(⟨(0:Int),(0:Int),(0:Int),(0:Int),(0:Int),(0:Int),(0:Int),(0:Int),(0:Int),(0:Int),(0:Int),(0:Int),(0:Int),(0:Int),(0:Int),(0:Int)⟩:aJ),(0:Int),(⟨(0:Int),(0:Int),(0:Int),(0:Int),(0:Int),(0:Int),(0:Int),(0:Int),(0:Int),(0:Int),(0:Int),(0:Int),(0:Int),(0:Int),(0:Int),(0:Int)⟩:aJ),(0:Int),(0:Int),(⟨(0:Int),(0:Int),(0:Int),(0:Int),(0:Int),(0:Int),(0:Int),(0:Int),(0:Int),(0:Int),(0:Int),(0:Int),(0:Int),(0:Int),(0:Int),(0:Int)⟩:Seal)⟩:Root),(0:Int)⟩:dh)))).bind fun (r7:(PUnit×dh)⊕(PUnit×dh))=>
 Sum.elim (fun (q8:PUnit×dh)=>
  some ((⟨(⟨(0:Int),(0:Int),(0:Int),(0:Int),(⟨(0:Int),(0:Int),(0:Int),(0:Int),(0:Int),(0:Int),(0:Int),(0:Int),(0:Int),(0:Int),(0:Int),(0:Int),(0:Int),(0:Int),(0:Int),(0:Int)⟩:aJ),(⟨(0:Int),(0:Int),(0:Int),(0:Int),(0:Int),(0:Int),(0:Int),(0:Int),(0:Int),(0:Int),(0:Int),(0:Int),(0:Int),(0:Int),(0:Int),(0:Int)⟩:aJ),[],(⟨(0:Int),(0:Int),(0:Int),(0:Int),(0:Int),(0:Int),(0:Int),(0:Int),(0:Int),(0:Int),(0:Int),(0:Int),(0:Int),(0:Int),(0:Int),(0:Int)⟩:aJ),(0:Int),(⟨(0:Int),(0:Int),(0:Int),(0:Int),(0:Int),(0:Int),(0:Int),(0:Int),(0:Int),(0:Int),(0:Int),(0:Int),(0:Int),(0:Int),(0:Int),(0:Int)⟩:aJ),(0:Int),(0:Int),(⟨(0:Int),(0:Int),(0:Int),(0:Int),(0:Int),(0:Int),(0:Int),(0:Int),(0:Int),(0:Int),(0:Int),(0:Int),(0:Int),(0:Int),(0:Int),(0:Int)⟩:Seal)⟩:Root),(5:Int)⟩:dh)))
  (fun (q9:PUnit×dh)=>
   some ((⟨q9.2.R,q9.2.E⟩:dh))) r7:=by kernel_rfl
noncomputable def vS (n:Nat) (x1:List Root) (x2:Int) (m:Nat) (p:(Int×Int)×dK):Option ((PUnit×dK)⊕Bool):=
 eZ (R:=R) 6 (aK ((bS Tryz.f5.body [1,1,1,1,0,1,0,0]).getD .skip)) (⟨[(0,TV.aj (T:=R.T) Cp.sh (Ty.st 3) x1),(1,TV.int IntKind.i64 x2),(5,TV.ref 5 0)],[]⟩:MS R.T) (bY L8.loops 6).sh (bY L8.loops 6).outs (fun st k=>bU E R n false (Te n) aQ L8 ((bS Tryz.f5.body [1,1,1,1,0,1,0,0]).getD .skip) st k) m p
theorem abp (n:Nat) (x1:List Root) (x2:Int) (m:Nat) (x4:Int) (x5:Int) (x6:dK):vS n x1 x2 (m+1) ((x4,x5),x6)=
 bif decide (x5< (((x1.length:Nat):Int))) then
  (cO x1 x5).bind fun (r7:Root)=>
  (A8 n r7).bind fun (r8:Bool)=>
  bif !r8 then
   (uj n (())).bind fun (r9:Bool)=>
   some (.inr r9)
  else
   (cO x1 x5).bind fun (iA:Root)=>
   (Bj n ((x6,iA))).bind fun (gW:Int)=>
   (cO x1 x5).bind fun (gX:Root)=>
   (Bh n ((x6,gX))).bind fun (dR:dK×Int)=>
   bif gW==(0:Int) then
    bif !(dR.2 !=gW) then
     bif !((((dR.1.dY.length:Nat):Int)) !=(IntKind.wrap IntKind.i64 (x4+(1:Int)))) then
      bif gW==(0:Int) then
       (cO dR.1.dY (IntKind.wrap IntKind.i64 ((IntKind.wrap IntKind.i64 (x4+(1:Int)))-(1:Int)))).bind fun (kJ:Root)=>
       (cO x1 x5).bind fun (tO:Root)=>
       (vQ n ((kJ,tO))).bind fun (r16:Bool)=>
       bif !r16 then
        some (.inr false)
       else
        vS n x1 x2 m (((IntKind.wrap IntKind.i64 (x4+(1:Int)),IntKind.wrap IntKind.i64 (x5+(1:Int))),dR.1))
      else
       vS n x1 x2 m (((IntKind.wrap IntKind.i64 (x4+(1:Int)),IntKind.wrap IntKind.i64 (x5+(1:Int))),dR.1))
     else
      some (.inr false)
    else
     some (.inr false)
   else
    bif !(dR.2 !=gW) then
     bif !((((dR.1.dY.length:Nat):Int)) !=x4) then
      bif gW==(0:Int) then
       (cO dR.1.dY (IntKind.wrap IntKind.i64 (x4-(1:Int)))).bind fun (QM:Root)=>
       (cO x1 x5).bind fun (tQ:Root)=>
       (vQ n ((QM,tQ))).bind fun (r19:Bool)=>
       bif !r19 then
        some (.inr false)
       else
        vS n x1 x2 m (((x4,IntKind.wrap IntKind.i64 (x5+(1:Int))),dR.1))
      else
       vS n x1 x2 m (((x4,IntKind.wrap IntKind.i64 (x5+(1:Int))),dR.1))
     else
      some (.inr false)
    else
     some (.inr false)
 else
  some (.inl (((),x6))):=by kernel_rfl
theorem anz (n:Nat) (x1:List Root) (x2:Int):L9 n (x1,x2)=
 bif decide ((((x1.length:Nat):Int))> (12:Int)) then
  (uj n (())).bind fun (r3:Bool)=>
  some r3
 else
  (vS n x1 x2 n ((((0:Int),(0:Int)),(⟨[]⟩:dK)))).bind fun (r20:(PUnit×dK)⊕Bool)=>
  Sum.elim (fun (q21:PUnit×dK)=>
   (Bl n ((q21.2,x2))).bind fun (r23:Root×Int)=>
   (Bn n ((q21.2,x2))).bind fun (r24:dh)=>
   (uj n (())).bind fun (r25:Bool)=>
   (kH r25 (vQ n ((r23.1,r24.R))) false).bind fun (r26:Bool)=>
   some (bif bif r25 then r26 else false then r23.2==r24.E else false))
   (fun (q22:Bool)=>
    some q22) r20:=by kernel_rfl
attribute [irreducible] Bo Bp Bq vR F4 Br F5 F6 vS
end Sh
