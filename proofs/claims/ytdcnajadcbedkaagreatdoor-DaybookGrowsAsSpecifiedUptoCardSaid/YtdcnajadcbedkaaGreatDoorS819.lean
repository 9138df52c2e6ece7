/- Part of the proof of a law. -/
import Derived.Test.YtdcnajadcbedkaaGreatDoorS818
set_option linter.all false
set_option linter.unusedSimpArgs false
set_option linter.unusedSectionVars false
open Go Go.Proofs Aq
namespace Sh
set_option maxRecDepth 100000
set_option linter.unusedVariables false
def bY (l:List (Nat×Note)) (k:Nat):Note:=match look l k with
 |some q=>q
 |none=>⟨[],[],⟨[],[]⟩,[]⟩
theorem ajF (n:Nat):z8 n ()=
 some ((Vec.lit 8 [(1779033703:Int),(3144134277:Int),(1013904242:Int),(2773480762:Int),(1359893119:Int),(2600822924:Int),(528734635:Int),(1541459225:Int)],(Vec.lit 64 [(0:Int),(0:Int),(0:Int),(0:Int),(0:Int),(0:Int),(0:Int),(0:Int),(0:Int),(0:Int),(0:Int),(0:Int),(0:Int),(0:Int),(0:Int),(0:Int),(0:Int),(0:Int),(0:Int),(0:Int),(0:Int),(0:Int),(0:Int),(0:Int),(0:Int),(0:Int),(0:Int),(0:Int),(0:Int),(0:Int),(0:Int),(0:Int),(0:Int),(0:Int),(0:Int),(0:Int),(0:Int),(0:Int),(0:Int),(0:Int),(0:Int),(0:Int),(0:Int),(0:Int),(0:Int),(0:Int),(0:Int),(0:Int),(0:Int),(0:Int),(0:Int),(0:Int),(0:Int),(0:Int),(0:Int),(0:Int),(0:Int),(0:Int),(0:Int),(0:Int),(0:Int),(0:Int),(0:Int),(0:Int)],(0:Int)))):=by kernel_rfl
theorem ajG (n:Nat) (x1:Int) (x2:Int):qd n (x1,x2)=
 bif decide ((0:Int)≤(fA IntKind.u64 (IntKind.wrap IntKind.u64 x2) (31:Int))) then
  bif decide ((0:Int)≤(IntKind.wrap IntKind.u64 ((32:Int)-(fA IntKind.u64 (IntKind.wrap IntKind.u64 x2) (31:Int))))) then
   some (iM IntKind.u32 (jF IntKind.u32 x1 (fA IntKind.u64 (IntKind.wrap IntKind.u64 x2) (31:Int))) (iW IntKind.u32 x1 (IntKind.wrap IntKind.u64 ((32:Int)-(fA IntKind.u64 (IntKind.wrap IntKind.u64 x2) (31:Int))))))
  else
   none
 else
  none:=by kernel_rfl
noncomputable def xH (n:Nat) (x1:List Int) (x2:Int) (m:Nat) (p:Int×Vec 64):Option (PUnit×Vec 64):=
 eZ (R:=R) 7 (aK ((bS Tryz.f198.body [1,1,0,1,0,0,1,1,0,0,1,0,1,0,0,1,0,0]).getD .skip)) (⟨[(0,TV.aj (T:=R.T) Cp.sh (Ty.int IntKind.u8) x1),(2,TV.ref 2 0),(3,TV.ref 3 0),(4,TV.int IntKind.i64 x2),(11,TV.int IntKind.i64 x2),(22,TV.aj (T:=R.T) Cp.any (Ty.int IntKind.u8) (List.drop (Int.toNat (IntKind.wrap IntKind.i64 ((4:Int)*x2))) (List.take (Int.toNat (IntKind.wrap IntKind.i64 ((IntKind.wrap IntKind.i64 ((4:Int)*x2))+(4:Int)))) x1))),(23,TV.int IntKind.i64 ((((List.drop (Int.toNat (IntKind.wrap IntKind.i64 ((4:Int)*x2))) (List.take (Int.toNat (IntKind.wrap IntKind.i64 ((IntKind.wrap IntKind.i64 ((4:Int)*x2))+(4:Int)))) x1)).length:Nat):Int)))],[(2,Ob.ro (Ob.ro (Ob.sg [Sg.a IntKind.u32 64 (Vec.rep 64 (0:Int))])))]⟩:MS R.T) (bY xA.loops 7).sh (bY xA.loops 7).outs (fun st k=>bU E R n false (DF n) aQ xA ((bS Tryz.f198.body [1,1,0,1,0,0,1,1,0,0,1,0,1,0,0,1,0,0]).getD .skip) st k) m p
noncomputable def xI (n:Nat) (x1:List Int) (m:Nat) (p:Int×Vec 64):Option (PUnit×Vec 64):=
 eZ (R:=R) 3 (aK ((bS Tryz.f198.body [1,1,0,1,0,0]).getD .skip)) (⟨[(0,TV.aj (T:=R.T) Cp.sh (Ty.int IntKind.u8) x1),(2,TV.ref 2 0),(3,TV.ref 3 0)],[(2,Ob.ro (Ob.sg [Sg.a IntKind.u32 64 (Vec.rep 64 (0:Int))]))]⟩:MS R.T) (bY xA.loops 3).sh (bY xA.loops 3).outs (fun st k=>bU E R n false (DF n) aQ xA ((bS Tryz.f198.body [1,1,0,1,0,0]).getD .skip) st k) m p
theorem Zv (n:Nat) (x1:List Int) (x2:Int) (m:Nat) (x4:Int) (x5:Vec 64):xH n x1 x2 (m+1) (x4,x5)=
 bif decide (x4< ((((List.drop (Int.toNat (IntKind.wrap IntKind.i64 ((4:Int)*x2))) (List.take (Int.toNat (IntKind.wrap IntKind.i64 ((IntKind.wrap IntKind.i64 ((4:Int)*x2))+(4:Int)))) x1)).length:Nat):Int))) then
  (cO (List.drop (Int.toNat (IntKind.wrap IntKind.i64 ((4:Int)*x2))) (List.take (Int.toNat (IntKind.wrap IntKind.i64 ((IntKind.wrap IntKind.i64 ((4:Int)*x2))+(4:Int)))) x1)) x4).bind fun (r6:Int)=>
  bif bq x2 64 then
   bif decide ((0:Int)≤(8:Int)) then
    bif bq x2 64 then
     xH n x1 x2 m ((IntKind.wrap IntKind.i64 (x4+(1:Int)),x5.set x2 (iM IntKind.u32 (jF IntKind.u32 (x5.at' x2) (8:Int)) (IntKind.wrap IntKind.u32 r6))))
    else
     none
   else
    none
  else
   none
 else
  some (((),x5)):=by kernel_rfl
theorem QK (n:Nat) (x1:List Int) (m:Nat) (x2:Int) (x3:Vec 64):xI n x1 (m+1) (x2,x3)=
 bif decide (x2< (64:Int)) then
  bif decide (x2< (16:Int)) then
   bif (fI (IntKind.wrap IntKind.i64 ((IntKind.wrap IntKind.i64 ((4:Int)*x2))+(4:Int))) x1.length)&& (fI (IntKind.wrap IntKind.i64 ((4:Int)*x2)) (Int.toNat (IntKind.wrap IntKind.i64 ((IntKind.wrap IntKind.i64 ((4:Int)*x2))+(4:Int))))) then
    (xH n x1 x2 n (((0:Int),x3))).bind fun (r7:PUnit×Vec 64)=>
    xI n x1 m ((IntKind.wrap IntKind.i64 (x2+(1:Int)),r7.2))
   else
    none
  else
   bif bq (IntKind.wrap IntKind.i64 (x2-(15:Int))) 64 then
    bif bq (IntKind.wrap IntKind.i64 (x2-(2:Int))) 64 then
     (qd n ((x3.at' (IntKind.wrap IntKind.i64 (x2-(15:Int))),(-7:Int)))).bind fun (r8:Int)=>
     (qd n ((x3.at' (IntKind.wrap IntKind.i64 (x2-(15:Int))),(-18:Int)))).bind fun (r9:Int)=>
     bif decide ((0:Int)≤(3:Int)) then
      (qd n ((x3.at' (IntKind.wrap IntKind.i64 (x2-(2:Int))),(-17:Int)))).bind fun (iA:Int)=>
      (qd n ((x3.at' (IntKind.wrap IntKind.i64 (x2-(2:Int))),(-19:Int)))).bind fun (gW:Int)=>
      bif decide ((0:Int)≤(10:Int)) then
       bif bq (IntKind.wrap IntKind.i64 (x2-(16:Int))) 64 then
        bif bq (IntKind.wrap IntKind.i64 (x2-(7:Int))) 64 then
         bif bq x2 64 then
          xI n x1 m ((IntKind.wrap IntKind.i64 (x2+(1:Int)),x3.set x2 (IntKind.wrap IntKind.u32 ((IntKind.wrap IntKind.u32 ((IntKind.wrap IntKind.u32 ((x3.at' (IntKind.wrap IntKind.i64 (x2-(16:Int))))+(bX IntKind.u32 (bX IntKind.u32 r8 r9) (iW IntKind.u32 (x3.at' (IntKind.wrap IntKind.i64 (x2-(15:Int)))) (3:Int)))))+(x3.at' (IntKind.wrap IntKind.i64 (x2-(7:Int))))))+(bX IntKind.u32 (bX IntKind.u32 iA gW) (iW IntKind.u32 (x3.at' (IntKind.wrap IntKind.i64 (x2-(2:Int)))) (10:Int)))))))
         else
          none
        else
         none
       else
        none
      else
       none
     else
      none
    else
     none
   else
    none
 else
  some (((),x3)):=by kernel_rfl
theorem ajH (n:Nat) (x1:List Int):Aa n x1=
 (xI n x1 n (((0:Int),Vec.rep 64 (0:Int)))).bind fun (gX:PUnit×Vec 64)=>
 some gX.2:=by kernel_rfl
theorem ajI (n:Nat) (x1:Int) (x2:Int) (x3:Int) (x4:Int):xB n (x1,(x2,(x3,x4)))=
 (qd n ((x1,IntKind.wrap IntKind.i64 ((0:Int)-x2)))).bind fun (r5:Int)=>
 (qd n ((x1,IntKind.wrap IntKind.i64 ((0:Int)-x3)))).bind fun (r6:Int)=>
 (qd n ((x1,IntKind.wrap IntKind.i64 ((0:Int)-x4)))).bind fun (r7:Int)=>
 some (bX IntKind.u32 (bX IntKind.u32 r5 r6) r7):=by kernel_rfl
noncomputable def Aw (n:Nat) (x1:Vec 8) (r3:Vec 64) (m:Nat) (p:Int×(Vec 4)×Vec 4):Option (PUnit×(Vec 4)×Vec 4):=
 eZ (R:=R) 4 (aK ((bS Tryz.f169.body [1,1,1,0,1,0,0]).getD .skip)) (⟨[(2,TV.ref 2 0),(4,TV.ref 4 0),(5,TV.ref 5 0),(6,TV.ref 6 0),(7,TV.ref 7 0),(21,TV.sg [Sg.a IntKind.u32 64 rM])],[(2,Ob.ro (Ob.sg [Sg.a IntKind.u32 8 x1])),(4,Ob.ro (Ob.sg [Sg.a IntKind.u32 8 (Vec.rep 8 (0:Int))])),(5,Ob.ro (Ob.sg [Sg.a IntKind.u32 64 r3]))]⟩:MS R.T) (bY xC.loops 4).sh (bY xC.loops 4).outs (fun st k=>bU E R n false (DK n) aQ xC ((bS Tryz.f169.body [1,1,1,0,1,0,0]).getD .skip) st k) m p
noncomputable def Ay (n:Nat) (r9:PUnit×(Vec 4)×Vec 4) (m:Nat) (p:Int×Vec 8):Option (PUnit×Vec 8):=
 eZ (R:=R) 12 (aK ((bS Tryz.f169.body [1,1,1,1,0,1,0,0]).getD .skip)) (⟨[(2,TV.ref 2 0),(4,TV.ref 4 0),(6,TV.ref 6 0),(7,TV.ref 7 0)],[(4,Ob.ro (Ob.sg [Sg.a IntKind.u32 8 (Vec.rep 8 (0:Int))])),(6,Ob.ro (Ob.sg [Sg.a IntKind.u32 4 r9.2.1])),(7,Ob.ro (Ob.sg [Sg.a IntKind.u32 4 r9.2.2]))]⟩:MS R.T) (bY xC.loops 12).sh (bY xC.loops 12).outs (fun st k=>bU E R n false (DK n) aQ xC ((bS Tryz.f169.body [1,1,1,1,0,1,0,0]).getD .skip) st k) m p
theorem Zw (n:Nat) (x1:Vec 8) (r3:Vec 64) (m:Nat) (x4:Int) (x5:Vec 4) (x6:Vec 4):Aw n x1 r3 (m+1) (x4,(x5,x6))=
 bif decide (x4< (64:Int)) then
  bif bq x4 64 then
   bif bq (3:Int) 4 then
    bif bq (0:Int) 4 then
     (xB n ((x6.at' (0:Int),((6:Int),((11:Int),(25:Int)))))).bind fun (r7:Int)=>
     bif bq (0:Int) 4 then
      bif bq (1:Int) 4 then
       bif bq (0:Int) 4 then
        bif bq (2:Int) 4 then
         bif bq x4 64 then
          bif bq (0:Int) 4 then
           (xB n ((x5.at' (0:Int),((2:Int),((13:Int),(22:Int)))))).bind fun (r8:Int)=>
           bif bq (0:Int) 4 then
            bif bq (1:Int) 4 then
             bif bq (0:Int) 4 then
              bif bq (2:Int) 4 then
               bif bq (1:Int) 4 then
                bif bq (2:Int) 4 then
                 bif bq (3:Int) 4 then
                  bif bq (0:Int) 4 then
                   bif bq (1:Int) 4 then
                    bif bq (2:Int) 4 then
                     bif bq (0:Int) 4 then
                      bif bq (1:Int) 4 then
                       bif bq (2:Int) 4 then
                        Aw n x1 r3 m ((IntKind.wrap IntKind.i64 (x4+(1:Int)),(Vec.lit 4 [IntKind.wrap IntKind.u32 ((IntKind.wrap IntKind.u32 ((IntKind.wrap IntKind.u32 ((IntKind.wrap IntKind.u32 ((IntKind.wrap IntKind.u32 ((x6.at' (3:Int))+r7))+(bX IntKind.u32 (fA IntKind.u32 (x6.at' (0:Int)) (x6.at' (1:Int))) (fA IntKind.u32 (bX IntKind.u32 (4294967295:Int) (x6.at' (0:Int))) (x6.at' (2:Int))))))+(rM.at' x4)))+(r3.at' x4)))+(IntKind.wrap IntKind.u32 (r8+(bX IntKind.u32 (bX IntKind.u32 (fA IntKind.u32 (x5.at' (0:Int)) (x5.at' (1:Int))) (fA IntKind.u32 (x5.at' (0:Int)) (x5.at' (2:Int)))) (fA IntKind.u32 (x5.at' (1:Int)) (x5.at' (2:Int))))))),x5.at' (0:Int),x5.at' (1:Int),x5.at' (2:Int)],Vec.lit 4 [IntKind.wrap IntKind.u32 ((x5.at' (3:Int))+(IntKind.wrap IntKind.u32 ((IntKind.wrap IntKind.u32 ((IntKind.wrap IntKind.u32 ((IntKind.wrap IntKind.u32 ((x6.at' (3:Int))+r7))+(bX IntKind.u32 (fA IntKind.u32 (x6.at' (0:Int)) (x6.at' (1:Int))) (fA IntKind.u32 (bX IntKind.u32 (4294967295:Int) (x6.at' (0:Int))) (x6.at' (2:Int))))))+(rM.at' x4)))+(r3.at' x4)))),x6.at' (0:Int),x6.at' (1:Int),x6.at' (2:Int)])))
                       else
                        none
                      else
                       none
                     else
                      none
                    else
                     none
                   else
                    none
                  else
                   none
                 else
                  none
                else
                 none
               else
                none
              else
               none
             else
              none
            else
             none
           else
            none
          else
           none
         else
          none
        else
         none
       else
        none
      else
       none
     else
      none
    else
     none
   else
    none
  else
   none
 else
  some (((),(x5,x6))):=by kernel_rfl
theorem Zx (n:Nat) (r9:PUnit×(Vec 4)×Vec 4) (m:Nat) (x10:Int) (nV:Vec 8):Ay n r9 (m+1) (x10,nV)=
 bif decide (x10< (4:Int)) then
  bif bq x10 8 then
   bif bq x10 4 then
    bif bq x10 8 then
     bif bq (IntKind.wrap IntKind.i64 (x10+(4:Int))) 8 then
      bif bq x10 4 then
       bif bq (IntKind.wrap IntKind.i64 (x10+(4:Int))) 8 then
        Ay n r9 m ((IntKind.wrap IntKind.i64 (x10+(1:Int)),(nV.set x10 (IntKind.wrap IntKind.u32 ((nV.at' x10)+(r9.2.1.at' x10)))).set (IntKind.wrap IntKind.i64 (x10+(4:Int))) (IntKind.wrap IntKind.u32 (((nV.set x10 (IntKind.wrap IntKind.u32 ((nV.at' x10)+(r9.2.1.at' x10)))).at' (IntKind.wrap IntKind.i64 (x10+(4:Int))))+(r9.2.2.at' x10)))))
       else
        none
      else
       none
     else
      none
    else
     none
   else
    none
  else
   none
 else
  some (((),nV)):=by kernel_rfl
theorem ajJ (n:Nat) (x1:Vec 8) (x2:List Int):Ab n (x1,x2)=
 (Aa n x2).bind fun (r3:Vec 64)=>
 bif lX 8 none (some (4:Int)) then
  bif decide (0<4∧((4:Nat):Int)≤(4:Int)-(0:Int)) then
   bif lX 8 (some (4:Int)) none then
    bif decide (0<4∧((4:Nat):Int)≤(8:Int)-(4:Int)) then
     (Aw n x1 r3 n (((0:Int),(x1.slc (0:Int) 4,x1.slc (4:Int) 4)))).bind fun (r9:PUnit×(Vec 4)×Vec 4)=>
     (Ay n r9 n (((0:Int),x1))).bind fun (gX:PUnit×Vec 8)=>
     some gX.2
    else
     none
   else
    none
  else
   none
 else
  none:=by kernel_rfl
noncomputable def Az (n:Nat) (m:Nat) (p:(List UInt8)×(Vec 8)×(Vec 64)×Int):Option (PUnit×(Vec 8)×(Vec 64)×Int):=
 eZ (R:=R) 1 (aK ((bS Tryz.f120.body [1,0,0,0]).getD .skip)) (⟨[(2,TV.ref 2 0),(4,TV.ref 4 0)],[(4,Ob.ro (Ob.sg [Sg.a IntKind.u32 8 (Vec.rep 8 (0:Int)),Sg.a IntKind.u8 64 (Vec.rep 64 (0:Int)),Sg.i IntKind.u64 (0:Int)]))]⟩:MS R.T) (bY JI.loops 1).sh (bY JI.loops 1).outs (fun st k=>bU E R n false (JH n) aQ JI ((bS Tryz.f120.body [1,0,0,0]).getD .skip) st k) m p
theorem QL (n:Nat) (m:Nat) (x5:List UInt8) (x6:Vec 8) (x7:Vec 64) (x8:Int):Az n (m+1) (x5,(x6,(x7,x8)))=
 bif !(x5==[]) then
  bif !((64:Int)==(0:Int)) then
   bif lX 64 (some (IntKind.wrap IntKind.i64 (Int.tmod x8 (64:Int)))) none then
    bif fI ((((List.take (Int.toNat ((64:Int)-(IntKind.wrap IntKind.i64 (Int.tmod x8 (64:Int))))) (List.map (fun b:UInt8=>((b.toNat:Nat):Int)) x5)).length:Nat):Int)) x5.length then
     bif (IntKind.wrap IntKind.i64 ((IntKind.wrap IntKind.i64 (Int.tmod x8 (64:Int)))+((((List.take (Int.toNat ((64:Int)-(IntKind.wrap IntKind.i64 (Int.tmod x8 (64:Int))))) (List.map (fun b:UInt8=>((b.toNat:Nat):Int)) x5)).length:Nat):Int))))==(64:Int) then
      (Ab n ((x6,(x7.pK (IntKind.wrap IntKind.i64 (Int.tmod x8 (64:Int))) (List.take (Int.toNat ((64:Int)-(IntKind.wrap IntKind.i64 (Int.tmod x8 (64:Int))))) (List.map (fun b:UInt8=>((b.toNat:Nat):Int)) x5))).l))).bind fun (r9:Vec 8)=>
      Az n m ((List.drop (Int.toNat ((((List.take (Int.toNat ((64:Int)-(IntKind.wrap IntKind.i64 (Int.tmod x8 (64:Int))))) (List.map (fun b:UInt8=>((b.toNat:Nat):Int)) x5)).length:Nat):Int))) x5,(r9,(x7.pK (IntKind.wrap IntKind.i64 (Int.tmod x8 (64:Int))) (List.take (Int.toNat ((64:Int)-(IntKind.wrap IntKind.i64 (Int.tmod x8 (64:Int))))) (List.map (fun b:UInt8=>((b.toNat:Nat):Int)) x5)),IntKind.wrap IntKind.u64 (x8+(IntKind.wrap IntKind.u64 ((((List.take (Int.toNat ((64:Int)-(IntKind.wrap IntKind.i64 (Int.tmod x8 (64:Int))))) (List.map (fun b:UInt8=>((b.toNat:Nat):Int)) x5)).length:Nat):Int))))))))
     else
      Az n m ((List.drop (Int.toNat ((((List.take (Int.toNat ((64:Int)-(IntKind.wrap IntKind.i64 (Int.tmod x8 (64:Int))))) (List.map (fun b:UInt8=>((b.toNat:Nat):Int)) x5)).length:Nat):Int))) x5,(x6,(x7.pK (IntKind.wrap IntKind.i64 (Int.tmod x8 (64:Int))) (List.take (Int.toNat ((64:Int)-(IntKind.wrap IntKind.i64 (Int.tmod x8 (64:Int))))) (List.map (fun b:UInt8=>((b.toNat:Nat):Int)) x5)),IntKind.wrap IntKind.u64 (x8+(IntKind.wrap IntKind.u64 ((((List.take (Int.toNat ((64:Int)-(IntKind.wrap IntKind.i64 (Int.tmod x8 (64:Int))))) (List.map (fun b:UInt8=>((b.toNat:Nat):Int)) x5)).length:Nat):Int))))))))
    else
     none
   else
    none
  else
   none
 else
  some (((),(x6,(x7,x8)))):=by kernel_rfl
theorem ajK (n:Nat) (x1:Vec 8) (x2:Vec 64) (x3:Int) (x4:List UInt8):tK n ((x1,(x2,x3)),x4)=
 (Az n n ((x4,(x1,(x2,x3))))).bind fun (iA:PUnit×(Vec 8)×(Vec 64)×Int)=>
 some ((iA.2.1,(iA.2.2.1,iA.2.2.2))):=by kernel_rfl
noncomputable def AA (n:Nat) (m:Nat) (p:Int×List Int):Option (Int×List Int):=
 eZ (R:=R) 3 (aK ((bS Tryz.f90.body [1,1,1,0,0,0]).getD .skip)) (⟨[],[]⟩:MS R.T) (bY JL.loops 3).sh (bY JL.loops 3).outs (fun st k=>bU E R n false (JK n) aQ JL ((bS Tryz.f90.body [1,1,1,0,0,0]).getD .skip) st k) m p
theorem Zy (n:Nat) (m:Nat) (x2:Int) (x3:List Int):AA n (m+1) (x2,x3)=
 bif decide (x2> (127:Int)) then
  bif dD (x3.length+([iM IntKind.u8 (IntKind.wrap IntKind.u8 x2) (128:Int)].length)) 1 then
   bif decide ((0:Int)≤(7:Int)) then
    AA n m ((iW IntKind.u64 x2 (7:Int),x3++[iM IntKind.u8 (IntKind.wrap IntKind.u8 x2) (128:Int)]))
   else
    none
  else
   none
 else
  some ((x2,x3)):=by kernel_rfl
theorem ajL (n:Nat) (x1:Int):tL n x1=
 bif decide ((0:Int)≤(1:Int)) then
  bif decide ((0:Int)≤(63:Int)) then
   (AA n n ((bX IntKind.u64 (jF IntKind.u64 (IntKind.wrap IntKind.u64 x1) (1:Int)) (IntKind.wrap IntKind.u64 (iW IntKind.i64 x1 (63:Int))),[]))).bind fun (r4:Int×List Int)=>
   bif dD (r4.2.length+([IntKind.wrap IntKind.u8 r4.1].length)) 1 then
    some (r4.2++[IntKind.wrap IntKind.u8 r4.1])
   else
    none
  else
   none
 else
  none:=by kernel_rfl
theorem ajM (n:Nat) (x1:List UInt8):Ad n x1=
 (tL n (((x1.length:Nat):Int))).bind fun (r2:List Int)=>
 bif dD (r2.length+((List.map (fun b:UInt8=>((b.toNat:Nat):Int)) x1).length)) 1 then
  some (r2++(List.map (fun b:UInt8=>((b.toNat:Nat):Int)) x1))
 else
  none:=by kernel_rfl
noncomputable def Ee (n:Nat) (x1:Vec 8) (x2:Vec 64) (x3:Int) (m:Nat) (p:List Int):Option (List Int):=
 eZ (R:=R) 3 (aK ((bS Tryz.f122.body [1,1,1,0,0,0]).getD .skip)) (⟨[(1,TV.ref 1 0),(2,TV.ref 2 0),(3,TV.int IntKind.u64 (IntKind.wrap IntKind.u64 ((8:Int)*x3)))],[(1,Ob.ro (Ob.sg [Sg.a IntKind.u32 8 x1,Sg.a IntKind.u8 64 x2,Sg.i IntKind.u64 x3])),(2,Ob.ro (Ob.sg [Sg.a IntKind.u8 32 (Vec.rep 32 (0:Int))]))]⟩:MS R.T) (bY rP.loops 3).sh (bY rP.loops 3).outs (fun st k=>bU E R n false (Ae n) aQ rP ((bS Tryz.f122.body [1,1,1,0,0,0]).getD .skip) st k) m p
noncomputable def AB (n:Nat) (x1:Vec 8) (x2:Vec 64) (x3:Int) (m:Nat) (p:(List Int)×Int):Option (List Int):=
 eZ (R:=R) 6 (aK ((bS Tryz.f122.body [1,1,1,1,0,1,0,0]).getD .skip)) (⟨[(1,TV.ref 1 0),(2,TV.ref 2 0),(3,TV.int IntKind.u64 (IntKind.wrap IntKind.u64 ((8:Int)*x3)))],[(1,Ob.ro (Ob.sg [Sg.a IntKind.u32 8 x1,Sg.a IntKind.u8 64 x2,Sg.i IntKind.u64 x3])),(2,Ob.ro (Ob.sg [Sg.a IntKind.u8 32 (Vec.rep 32 (0:Int))]))]⟩:MS R.T) (bY rP.loops 6).sh (bY rP.loops 6).outs (fun st k=>bU E R n false (Ae n) aQ rP ((bS Tryz.f122.body [1,1,1,1,0,1,0,0]).getD .skip) st k) m p
noncomputable def AJ (n:Nat) (r9:(Vec 8)×(Vec 64)×Int) (m:Nat) (p:Int×Vec 32):Option (PUnit×Vec 32):=
 eZ (R:=R) 13 (aK ((bS Tryz.f122.body [1,1,1,1,1,1,1,0,1,0,0]).getD .skip)) (⟨[(1,TV.ref 1 0),(2,TV.ref 2 0),(6,TV.ref 6 0)],[(1,Ob.ro (Ob.sg [Sg.a IntKind.u32 8 r9.1,Sg.a IntKind.u8 64 r9.2.1,Sg.i IntKind.u64 r9.2.2])),(2,Ob.ro (Ob.sg [Sg.a IntKind.u8 32 (Vec.rep 32 (0:Int))]))]⟩:MS R.T) (bY rP.loops 13).sh (bY rP.loops 13).outs (fun st k=>bU E R n false (Ae n) aQ rP ((bS Tryz.f122.body [1,1,1,1,1,1,1,0,1,0,0]).getD .skip) st k) m p
theorem Zz (n:Nat) (x1:Vec 8) (x2:Vec 64) (x3:Int) (m:Nat) (x4:List Int):Ee n x1 x2 x3 (m+1) x4=
 bif !((64:Int)==(0:Int)) then
  bif (Int.tmod (IntKind.wrap IntKind.i64 ((IntKind.wrap IntKind.i64 x3)+(((x4.length:Nat):Int)))) (64:Int)) !=(56:Int) then
   bif dD (x4.length+([(0:Int)].length)) 1 then
    Ee n x1 x2 x3 m (x4++[(0:Int)])
   else
    none
  else
   some x4
 else
  none:=by kernel_rfl
theorem ZA (n:Nat) (x1:Vec 8) (x2:Vec 64) (x3:Int) (m:Nat) (x6:List Int) (x7:Int):AB n x1 x2 x3 (m+1) (x6,x7)=
 bif decide (x7< (8:Int)) then
  bif decide ((0:Int)≤(IntKind.wrap IntKind.i64 ((56:Int)-(IntKind.wrap IntKind.i64 ((8:Int)*x7))))) then
   bif dD (x6.length+([IntKind.wrap IntKind.u8 (iW IntKind.u64 (IntKind.wrap IntKind.u64 ((8:Int)*x3)) (IntKind.wrap IntKind.i64 ((56:Int)-(IntKind.wrap IntKind.i64 ((8:Int)*x7)))))].length)) 1 then
    AB n x1 x2 x3 m ((x6++[IntKind.wrap IntKind.u8 (iW IntKind.u64 (IntKind.wrap IntKind.u64 ((8:Int)*x3)) (IntKind.wrap IntKind.i64 ((56:Int)-(IntKind.wrap IntKind.i64 ((8:Int)*x7)))))],IntKind.wrap IntKind.i64 (x7+(1:Int))))
   else
    none
  else
   none
 else
  some x6:=by kernel_rfl
theorem ZB (n:Nat) (r9:(Vec 8)×(Vec 64)×Int) (m:Nat) (x10:Int) (nV:Vec 32):AJ n r9 (m+1) (x10,nV)=
 bif decide (x10< (32:Int)) then
  bif !((4:Int)==(0:Int)) then
   bif bq (IntKind.wrap IntKind.i64 (Int.tdiv x10 (4:Int))) 8 then
    bif !((4:Int)==(0:Int)) then
     bif decide ((0:Int)≤(IntKind.wrap IntKind.i64 ((24:Int)-(IntKind.wrap IntKind.i64 ((8:Int)*(Int.tmod x10 (4:Int))))))) then
      bif bq x10 32 then
       AJ n r9 m ((IntKind.wrap IntKind.i64 (x10+(1:Int)),nV.set x10 (IntKind.wrap IntKind.u8 (iW IntKind.u32 (r9.1.at' (IntKind.wrap IntKind.i64 (Int.tdiv x10 (4:Int)))) (IntKind.wrap IntKind.i64 ((24:Int)-(IntKind.wrap IntKind.i64 ((8:Int)*(Int.tmod x10 (4:Int))))))))))
      else
       none
     else
      none
    else
     none
   else
    none
  else
   none
 else
  some (((),nV)):=by kernel_rfl
theorem ajN (n:Nat) (x1:Vec 8) (x2:Vec 64) (x3:Int):Af n (x1,(x2,x3))=
 (Ee n x1 x2 x3 n [(128:Int)]).bind fun (r5:List Int)=>
 (AB n x1 x2 x3 n ((r5,(0:Int)))).bind fun (r8:List Int)=>
 (tK n (((x1,(x2,x3)),List.map (fun n:Int=>UInt8.ofNat n.toNat) r8))).bind fun (r9:(Vec 8)×(Vec 64)×Int)=>
 (AJ n r9 n (((0:Int),Vec.rep 32 (0:Int)))).bind fun (gX:PUnit×Vec 32)=>
 some gX.2:=by kernel_rfl
noncomputable def Ef (n:Nat) (x2:List (List UInt8)) (m:Nat) (p:Int×(Vec 8)×(Vec 64)×Int):Option (PUnit×(Vec 8)×(Vec 64)×Int):=
 eZ (R:=R) 3 (aK ((bS Tryz.f71.body [1,1,0,1,0,0]).getD .skip)) (⟨[(4,TV.ref 4 0),(5,TV.ref 5 0),(15,TV.aj (T:=R.T) Cp.sh Ty.str x2),(16,TV.int IntKind.i64 (((x2.length:Nat):Int)))],[(4,Ob.ro (Ob.cells [TV.int IntKind.u8 (0:Int),TV.int IntKind.u8 (0:Int),TV.int IntKind.u8 (0:Int),TV.int IntKind.u8 (0:Int),TV.int IntKind.u8 (0:Int),TV.int IntKind.u8 (0:Int),TV.int IntKind.u8 (0:Int),TV.int IntKind.u8 (0:Int),TV.int IntKind.u8 (0:Int),TV.int IntKind.u8 (0:Int),TV.int IntKind.u8 (0:Int),TV.int IntKind.u8 (0:Int),TV.int IntKind.u8 (0:Int),TV.int IntKind.u8 (0:Int),TV.int IntKind.u8 (0:Int),TV.int IntKind.u8 (0:Int)]))]⟩:MS R.T) (bY JQ.loops 3).sh (bY JQ.loops 3).outs (fun st k=>bU E R n false (JO n) aQ JQ ((bS Tryz.f71.body [1,1,0,1,0,0]).getD .skip) st k) m p
theorem ZC (n:Nat) (x2:List (List UInt8)) (m:Nat) (x5:Int) (x6:Vec 8) (x7:Vec 64) (x8:Int):Ef n x2 (m+1) (x5,(x6,(x7,x8)))=
 bif decide (x5< (((x2.length:Nat):Int))) then
  (cO x2 x5).bind fun (r9:List UInt8)=>
  (Ad n r9).bind fun (iA:List Int)=>
  (tK n (((x6,(x7,x8)),List.map (fun n:Int=>UInt8.ofNat n.toNat) iA))).bind fun (gW:(Vec 8)×(Vec 64)×Int)=>
  Ef n x2 m ((IntKind.wrap IntKind.i64 (x5+(1:Int)),(gW.1,(gW.2.1,gW.2.2))))
 else
  some (((),(x6,(x7,x8)))):=by kernel_rfl
theorem ajO (n:Nat) (x1:Int) (x2:List (List UInt8)):Ah n (x1,x2)=
 (z8 n (())).bind fun (r3:(Vec 8)×(Vec 64)×Int)=>
 (tK n (((r3.1,(r3.2.1,r3.2.2)),List.map (fun n:Int=>UInt8.ofNat n.toNat) [IntKind.wrap IntKind.u8 x1]))).bind fun (r4:(Vec 8)×(Vec 64)×Int)=>
 (Ef n x2 n (((0:Int),(r4.1,(r4.2.1,r4.2.2))))).bind fun (gX:PUnit×(Vec 8)×(Vec 64)×Int)=>
 (Af n ((gX.2.1,(gX.2.2.1,gX.2.2.2)))).bind fun (dR:Vec 32)=>
 bif lX 32 none (some (16:Int)) then
  bif decide (0<16∧((16:Nat):Int)≤(16:Int)-(0:Int)) then
   some ((⟨dR.nth 0,dR.nth 1,dR.nth 2,dR.nth 3,dR.nth 4,dR.nth 5,dR.nth 6,dR.nth 7,dR.nth 8,dR.nth 9,dR.nth 10,dR.nth 11,dR.nth 12,dR.nth 13,dR.nth 14,dR.nth 15⟩:aJ))
  else
   none
 else
  none:=by kernel_rfl
noncomputable def AL (n:Nat) (m:Nat) (p:Int×List Int):Option (Int×List Int):=
 eZ (R:=R) 5 (aK ((bS Tryz.f93.body [1,1,1,1,0,0,0]).getD .skip)) (⟨[],[]⟩:MS R.T) (bY JV.loops 5).sh (bY JV.loops 5).outs (fun st k=>bU E R n false (JU n) aQ JV ((bS Tryz.f93.body [1,1,1,1,0,0,0]).getD .skip) st k) m p
theorem ZE (n:Nat) (m:Nat) (x2:Int) (x3:List Int):AL n (m+1) (x2,x3)=
 bif decide (x2≥(128:Int)) then
  bif !((128:Int)==(0:Int)) then
   bif dD (x3.length+([IntKind.wrap IntKind.u8 ((IntKind.wrap IntKind.u8 (Int.tmod x2 (128:Int)))+(128:Int))].length)) 1 then
    bif !((128:Int)==(0:Int)) then
     AL n m ((IntKind.wrap IntKind.u64 (Int.tdiv x2 (128:Int)),x3++[IntKind.wrap IntKind.u8 ((IntKind.wrap IntKind.u8 (Int.tmod x2 (128:Int)))+(128:Int))]))
    else
     none
   else
    none
  else
   none
 else
  some ((x2,x3)):=by kernel_rfl
theorem ajP (n:Nat) (x1:Int):tN n x1=
 bif decide (x1< (0:Int)) then
  (AL n n ((IntKind.wrap IntKind.u64 ((IntKind.wrap IntKind.u64 ((IntKind.wrap IntKind.u64 (IntKind.wrap IntKind.i64 ((-1:Int)-x1)))*(2:Int)))+(1:Int)),[]))).bind fun (r4:Int×List Int)=>
  bif dD (r4.2.length+([IntKind.wrap IntKind.u8 r4.1].length)) 1 then
   some (r4.2++[IntKind.wrap IntKind.u8 r4.1])
  else
   none
 else
  (AL n n ((IntKind.wrap IntKind.u64 ((IntKind.wrap IntKind.u64 x1)*(2:Int)),[]))).bind fun (r5:Int×List Int)=>
  bif dD (r5.2.length+([IntKind.wrap IntKind.u8 r5.1].length)) 1 then
   some (r5.2++[IntKind.wrap IntKind.u8 r5.1])
  else
   none:=by kernel_rfl
theorem ajQ (n:Nat) (x1:List UInt8):Aj n x1=
 (tN n (((x1.length:Nat):Int))).bind fun (r2:List Int)=>
 bif dD (r2.length+((List.map (fun b:UInt8=>((b.toNat:Nat):Int)) x1).length)) 1 then
  some (r2++(List.map (fun b:UInt8=>((b.toNat:Nat):Int)) x1))
 else
  none:=by kernel_rfl
noncomputable def Eh (n:Nat) (x2:List (List UInt8)) (m:Nat) (p:(List Int)×Int):Option (List Int):=
 eZ (R:=R) 3 (aK ((bS Tryz.f124.body [1,1,0,1,0,0]).getD .skip)) (⟨[(1,TV.aj (T:=R.T) Cp.sh Ty.str x2)],[]⟩:MS R.T) (bY JY.loops 3).sh (bY JY.loops 3).outs (fun st k=>bU E R n false (JX n) aQ JY ((bS Tryz.f124.body [1,1,0,1,0,0]).getD .skip) st k) m p
theorem ZF (n:Nat) (x2:List (List UInt8)) (m:Nat) (x3:List Int) (x4:Int):Eh n x2 (m+1) (x3,x4)=
 bif decide (x4< (((x2.length:Nat):Int))) then
  (cO x2 x4).bind fun (r5:List UInt8)=>
  (Aj n r5).bind fun (r6:List Int)=>
  bif dD (x3.length+r6.length) 1 then
   Eh n x2 m ((x3++r6,IntKind.wrap IntKind.i64 (x4+(1:Int))))
  else
   none
 else
  some x3:=by kernel_rfl
theorem ajR (n:Nat) (x1:Int) (x2:List (List UInt8)):Ak n (x1,x2)=
 (Eh n x2 n (([IntKind.wrap IntKind.u8 x1],(0:Int)))).bind fun (r7:List Int)=>
 some r7:=by kernel_rfl
noncomputable def Ei (n:Nat) (x1:List Int) (m:Nat) (p:List Int):Option (List Int):=
 eZ (R:=R) 3 (aK ((bS Tryz.f200.body [1,1,1,0,0,0]).getD .skip)) (⟨[(0,TV.aj (T:=R.T) Cp.sh (Ty.int IntKind.u8) x1)],[]⟩:MS R.T) (bY xD.loops 3).sh (bY xD.loops 3).outs (fun st k=>bU E R n false (DX n) aQ xD ((bS Tryz.f200.body [1,1,1,0,0,0]).getD .skip) st k) m p
noncomputable def AO (n:Nat) (x1:List Int) (m:Nat) (p:(List Int)×Int):Option (List Int):=
 eZ (R:=R) 7 (aK ((bS Tryz.f200.body [1,1,1,1,1,0,1,0,0]).getD .skip)) (⟨[(4,TV.int IntKind.u64 (IntKind.wrap IntKind.u64 ((8:Int)*(IntKind.wrap IntKind.u64 (((x1.length:Nat):Int))))))],[]⟩:MS R.T) (bY xD.loops 7).sh (bY xD.loops 7).outs (fun st k=>bU E R n false (DX n) aQ xD ((bS Tryz.f200.body [1,1,1,1,1,0,1,0,0]).getD .skip) st k) m p
theorem ZG (n:Nat) (x1:List Int) (m:Nat) (x2:List Int):Ei n x1 (m+1) x2=
 bif !((64:Int)==(0:Int)) then
  bif (Int.tmod (((x2.length:Nat):Int)) (64:Int)) !=(56:Int) then
   bif dD (x2.length+([(0:Int)].length)) 1 then
    Ei n x1 m (x2++[(0:Int)])
   else
    none
  else
   some x2
 else
  none:=by kernel_rfl
theorem ZH (n:Nat) (x1:List Int) (m:Nat) (x4:List Int) (x5:Int):AO n x1 (m+1) (x4,x5)=
 bif decide (x5< (8:Int)) then
  bif decide ((0:Int)≤(IntKind.wrap IntKind.i64 ((56:Int)-(IntKind.wrap IntKind.i64 ((8:Int)*x5))))) then
   bif dD (x4.length+([IntKind.wrap IntKind.u8 (iW IntKind.u64 (IntKind.wrap IntKind.u64 ((8:Int)*(IntKind.wrap IntKind.u64 (((x1.length:Nat):Int))))) (IntKind.wrap IntKind.i64 ((56:Int)-(IntKind.wrap IntKind.i64 ((8:Int)*x5)))))].length)) 1 then
    AO n x1 m ((x4++[IntKind.wrap IntKind.u8 (iW IntKind.u64 (IntKind.wrap IntKind.u64 ((8:Int)*(IntKind.wrap IntKind.u64 (((x1.length:Nat):Int))))) (IntKind.wrap IntKind.i64 ((56:Int)-(IntKind.wrap IntKind.i64 ((8:Int)*x5)))))],IntKind.wrap IntKind.i64 (x5+(1:Int))))
   else
    none
  else
   none
 else
  some x4:=by kernel_rfl
theorem ajS (n:Nat) (x1:List Int):Al n x1=
 bif dD (((0:Nat))+x1.length) 1 then
  bif dD ((([]++x1).length)+([(128:Int)].length)) 1 then
   (Ei n x1 n (([]++x1)++[(128:Int)])).bind fun (r3:List Int)=>
   (AO n x1 n ((r3,(0:Int)))).bind fun (r6:List Int)=>
   some r6
  else
   none
 else
  none:=by kernel_rfl
theorem ajT (n:Nat) (x1:Int) (x2:Int):mZ n (x1,x2)=
 bif decide ((0:Int)≤x2) then
  bif decide ((0:Int)≤(IntKind.wrap IntKind.i64 ((32:Int)-x2))) then
   some (iM IntKind.u32 (iW IntKind.u32 x1 x2) (jF IntKind.u32 x1 (IntKind.wrap IntKind.i64 ((32:Int)-x2))))
  else
   none
 else
  none:=by kernel_rfl
noncomputable def Ej (n:Nat) (x1:List Int) (m:Nat) (p:Int×Vec 64):Option (PUnit×Vec 64):=
 eZ (R:=R) 3 (aK ((bS Tryz.f201.body [1,1,0,1,0,0]).getD .skip)) (⟨[(0,TV.aj (T:=R.T) Cp.sh (Ty.int IntKind.u8) x1),(2,TV.ref 2 0),(3,TV.ref 3 0)],[(2,Ob.ro (Ob.sg [Sg.a IntKind.u32 64 (Vec.rep 64 (0:Int))]))]⟩:MS R.T) (bY xE.loops 3).sh (bY xE.loops 3).outs (fun st k=>bU E R n false (D5 n) aQ xE ((bS Tryz.f201.body [1,1,0,1,0,0]).getD .skip) st k) m p
noncomputable def AP (n:Nat) (m:Nat) (p:Int×Vec 64):Option (PUnit×Vec 64):=
 eZ (R:=R) 7 (aK ((bS Tryz.f201.body [1,1,1,0,1,0,0]).getD .skip)) (⟨[(2,TV.ref 2 0),(3,TV.ref 3 0)],[(2,Ob.ro (Ob.sg [Sg.a IntKind.u32 64 (Vec.rep 64 (0:Int))]))]⟩:MS R.T) (bY xE.loops 7).sh (bY xE.loops 7).outs (fun st k=>bU E R n false (D5 n) aQ xE ((bS Tryz.f201.body [1,1,1,0,1,0,0]).getD .skip) st k) m p
theorem ZI (n:Nat) (x1:List Int) (m:Nat) (x2:Int) (x3:Vec 64):Ej n x1 (m+1) (x2,x3)=
 bif decide (x2< (16:Int)) then
  (cO x1 (IntKind.wrap IntKind.i64 ((4:Int)*x2))).bind fun (r4:Int)=>
  bif decide ((0:Int)≤(24:Int)) then
   (cO x1 (IntKind.wrap IntKind.i64 ((IntKind.wrap IntKind.i64 ((4:Int)*x2))+(1:Int)))).bind fun (r5:Int)=>
   bif decide ((0:Int)≤(16:Int)) then
    (cO x1 (IntKind.wrap IntKind.i64 ((IntKind.wrap IntKind.i64 ((4:Int)*x2))+(2:Int)))).bind fun (r6:Int)=>
    bif decide ((0:Int)≤(8:Int)) then
     (cO x1 (IntKind.wrap IntKind.i64 ((IntKind.wrap IntKind.i64 ((4:Int)*x2))+(3:Int)))).bind fun (r7:Int)=>
     bif bq x2 64 then
      Ej n x1 m ((IntKind.wrap IntKind.i64 (x2+(1:Int)),x3.set x2 (iM IntKind.u32 (iM IntKind.u32 (iM IntKind.u32 (jF IntKind.u32 (IntKind.wrap IntKind.u32 r4) (24:Int)) (jF IntKind.u32 (IntKind.wrap IntKind.u32 r5) (16:Int))) (jF IntKind.u32 (IntKind.wrap IntKind.u32 r6) (8:Int))) (IntKind.wrap IntKind.u32 r7))))
     else
      none
    else
     none
   else
    none
  else
   none
 else
  some (((),x3)):=by kernel_rfl
theorem ZJ (n:Nat) (m:Nat) (x9:Int) (x10:Vec 64):AP n (m+1) (x9,x10)=
 bif decide (x9< (64:Int)) then
  bif bq (IntKind.wrap IntKind.i64 (x9-(15:Int))) 64 then
   (mZ n ((x10.at' (IntKind.wrap IntKind.i64 (x9-(15:Int))),(7:Int)))).bind fun (gW:Int)=>
   bif bq (IntKind.wrap IntKind.i64 (x9-(15:Int))) 64 then
    (mZ n ((x10.at' (IntKind.wrap IntKind.i64 (x9-(15:Int))),(18:Int)))).bind fun (gX:Int)=>
    bif bq (IntKind.wrap IntKind.i64 (x9-(15:Int))) 64 then
     bif decide ((0:Int)≤(3:Int)) then
      bif bq (IntKind.wrap IntKind.i64 (x9-(2:Int))) 64 then
       (mZ n ((x10.at' (IntKind.wrap IntKind.i64 (x9-(2:Int))),(17:Int)))).bind fun (dR:Int)=>
       bif bq (IntKind.wrap IntKind.i64 (x9-(2:Int))) 64 then
        (mZ n ((x10.at' (IntKind.wrap IntKind.i64 (x9-(2:Int))),(19:Int)))).bind fun (kJ:Int)=>
        bif bq (IntKind.wrap IntKind.i64 (x9-(2:Int))) 64 then
         bif decide ((0:Int)≤(10:Int)) then
          bif bq (IntKind.wrap IntKind.i64 (x9-(16:Int))) 64 then
           bif bq (IntKind.wrap IntKind.i64 (x9-(7:Int))) 64 then
            bif bq x9 64 then
             AP n m ((IntKind.wrap IntKind.i64 (x9+(1:Int)),x10.set x9 (IntKind.wrap IntKind.u32 ((IntKind.wrap IntKind.u32 ((IntKind.wrap IntKind.u32 ((x10.at' (IntKind.wrap IntKind.i64 (x9-(16:Int))))+(bX IntKind.u32 (bX IntKind.u32 gW gX) (iW IntKind.u32 (x10.at' (IntKind.wrap IntKind.i64 (x9-(15:Int)))) (3:Int)))))+(x10.at' (IntKind.wrap IntKind.i64 (x9-(7:Int))))))+(bX IntKind.u32 (bX IntKind.u32 dR kJ) (iW IntKind.u32 (x10.at' (IntKind.wrap IntKind.i64 (x9-(2:Int)))) (10:Int)))))))
            else
             none
           else
            none
          else
           none
         else
          none
        else
         none
       else
        none
      else
       none
     else
      none
    else
     none
   else
    none
  else
   none
 else
  some (((),x10)):=by kernel_rfl
theorem ajU (n:Nat) (x1:List Int):Am n x1=
 (Ej n x1 n (((0:Int),Vec.rep 64 (0:Int)))).bind fun (r8:PUnit×Vec 64)=>
 (AP n n (((16:Int),r8.2))).bind fun (tO:PUnit×Vec 64)=>
 some tO.2:=by kernel_rfl
noncomputable def AQ (n:Nat) (r2:List Int) (x3:Int) (x4:Vec 8) (r5:Vec 64) (m:Nat) (p:Int×Vec 8):Option (PUnit×Vec 8):=
 eZ (R:=R) 9 (aK ((bS Tryz.f170.body [1,1,1,0,1,0,0,1,0,0,1,1,0,1,0,0]).getD .skip)) (⟨[(2,TV.ref 2 0),(3,TV.ref 3 0),(4,TV.aj (T:=R.T) Cp.sh (Ty.int IntKind.u8) r2),(5,TV.int IntKind.i64 x3),(6,TV.ref 6 0),(7,TV.ref 7 0)],[(2,Ob.ro (Ob.ro (Ob.sg [Sg.a IntKind.u8 32 (Vec.rep 32 (0:Int))]))),(3,Ob.ro (Ob.sg [Sg.a IntKind.u32 8 x4])),(6,Ob.ro (Ob.sg [Sg.a IntKind.u32 64 r5]))]⟩:MS R.T) (bY oO.loops 9).sh (bY oO.loops 9).outs (fun st k=>bU E R n false (xG n) aQ oO ((bS Tryz.f170.body [1,1,1,0,1,0,0,1,0,0,1,1,0,1,0,0]).getD .skip) st k) m p
noncomputable def AU (n:Nat) (r2:List Int) (x3:Int) (kJ:PUnit×Vec 8) (m:Nat) (p:Int×Vec 8):Option (PUnit×Vec 8):=
 eZ (R:=R) 15 (aK ((bS Tryz.f170.body [1,1,1,0,1,0,0,1,0,0,1,1,1,1,0,0]).getD .skip)) (⟨[(2,TV.ref 2 0),(3,TV.ref 3 0),(4,TV.aj (T:=R.T) Cp.sh (Ty.int IntKind.u8) r2),(5,TV.int IntKind.i64 x3),(7,TV.ref 7 0)],[(2,Ob.ro (Ob.ro (Ob.sg [Sg.a IntKind.u8 32 (Vec.rep 32 (0:Int))]))),(7,Ob.ro (Ob.sg [Sg.a IntKind.u32 8 kJ.2]))]⟩:MS R.T) (bY oO.loops 15).sh (bY oO.loops 15).outs (fun st k=>bU E R n false (xG n) aQ oO ((bS Tryz.f170.body [1,1,1,0,1,0,0,1,0,0,1,1,1,1,0,0]).getD .skip) st k) m p
noncomputable def AV (n:Nat) (r2:List Int) (m:Nat) (p:Int×Vec 8):Option (PUnit×Vec 8):=
 eZ (R:=R) 4 (aK ((bS Tryz.f170.body [1,1,1,0,1,0,0]).getD .skip)) (⟨[(2,TV.ref 2 0),(3,TV.ref 3 0),(4,TV.aj (T:=R.T) Cp.sh (Ty.int IntKind.u8) r2)],[(2,Ob.ro (Ob.sg [Sg.a IntKind.u8 32 (Vec.rep 32 (0:Int))]))]⟩:MS R.T) (bY oO.loops 4).sh (bY oO.loops 4).outs (fun st k=>bU E R n false (xG n) aQ oO ((bS Tryz.f170.body [1,1,1,0,1,0,0]).getD .skip) st k) m p
noncomputable def AX (n:Nat) (tQ:PUnit×Vec 8) (m:Nat) (p:Int×Vec 32):Option (PUnit×Vec 32):=
 eZ (R:=R) 20 (aK ((bS Tryz.f170.body [1,1,1,1,1,0,1,0,0]).getD .skip)) (⟨[(2,TV.ref 2 0),(3,TV.ref 3 0),(12,TV.ref 12 0)],[(2,Ob.ro (Ob.sg [Sg.a IntKind.u8 32 (Vec.rep 32 (0:Int))])),(3,Ob.ro (Ob.sg [Sg.a IntKind.u32 8 tQ.2]))]⟩:MS R.T) (bY oO.loops 20).sh (bY oO.loops 20).outs (fun st k=>bU E R n false (xG n) aQ oO ((bS Tryz.f170.body [1,1,1,1,1,0,1,0,0]).getD .skip) st k) m p
theorem ZK (n:Nat) (r2:List Int) (x3:Int) (x4:Vec 8) (r5:Vec 64) (m:Nat) (x6:Int) (x7:Vec 8):AQ n r2 x3 x4 r5 (m+1) (x6,x7)=
 bif decide (x6< (64:Int)) then
  bif bq (7:Int) 8 then
   bif bq (4:Int) 8 then
    (mZ n ((x7.at' (4:Int),(6:Int)))).bind fun (r8:Int)=>
    bif bq (4:Int) 8 then
     (mZ n ((x7.at' (4:Int),(11:Int)))).bind fun (r9:Int)=>
     bif bq (4:Int) 8 then
      (mZ n ((x7.at' (4:Int),(25:Int)))).bind fun (iA:Int)=>
      bif bq (4:Int) 8 then
       bif bq (5:Int) 8 then
        bif bq (4:Int) 8 then
         bif bq (6:Int) 8 then
          bif bq x6 64 then
           bif bq x6 64 then
            bif bq (0:Int) 8 then
             (mZ n ((x7.at' (0:Int),(2:Int)))).bind fun (gW:Int)=>
             bif bq (0:Int) 8 then
              (mZ n ((x7.at' (0:Int),(13:Int)))).bind fun (gX:Int)=>
              bif bq (0:Int) 8 then
               (mZ n ((x7.at' (0:Int),(22:Int)))).bind fun (dR:Int)=>
               bif bq (0:Int) 8 then
                bif bq (1:Int) 8 then
                 bif bq (0:Int) 8 then
                  bif bq (2:Int) 8 then
                   bif bq (1:Int) 8 then
                    bif bq (2:Int) 8 then
                     bif bq (0:Int) 8 then
                      bif bq (1:Int) 8 then
                       bif bq (2:Int) 8 then
                        bif bq (3:Int) 8 then
                         bif bq (4:Int) 8 then
                          bif bq (5:Int) 8 then
                           bif bq (6:Int) 8 then
                            AQ n r2 x3 x4 r5 m ((IntKind.wrap IntKind.i64 (x6+(1:Int)),Vec.lit 8 [IntKind.wrap IntKind.u32 ((IntKind.wrap IntKind.u32 ((IntKind.wrap IntKind.u32 ((IntKind.wrap IntKind.u32 ((IntKind.wrap IntKind.u32 ((x7.at' (7:Int))+(bX IntKind.u32 (bX IntKind.u32 r8 r9) iA)))+(bX IntKind.u32 (fA IntKind.u32 (x7.at' (4:Int)) (x7.at' (5:Int))) (fA IntKind.u32 (bX IntKind.u32 (x7.at' (4:Int)) (4294967295:Int)) (x7.at' (6:Int))))))+(rM.at' x6)))+(r5.at' x6)))+(IntKind.wrap IntKind.u32 ((bX IntKind.u32 (bX IntKind.u32 gW gX) dR)+(bX IntKind.u32 (bX IntKind.u32 (fA IntKind.u32 (x7.at' (0:Int)) (x7.at' (1:Int))) (fA IntKind.u32 (x7.at' (0:Int)) (x7.at' (2:Int)))) (fA IntKind.u32 (x7.at' (1:Int)) (x7.at' (2:Int))))))),x7.at' (0:Int),x7.at' (1:Int),x7.at' (2:Int),IntKind.wrap IntKind.u32 ((x7.at' (3:Int))+(IntKind.wrap IntKind.u32 ((IntKind.wrap IntKind.u32 ((IntKind.wrap IntKind.u32 ((IntKind.wrap IntKind.u32 ((x7.at' (7:Int))+(bX IntKind.u32 (bX IntKind.u32 r8 r9) iA)))+(bX IntKind.u32 (fA IntKind.u32 (x7.at' (4:Int)) (x7.at' (5:Int))) (fA IntKind.u32 (bX IntKind.u32 (x7.at' (4:Int)) (4294967295:Int)) (x7.at' (6:Int))))))+(rM.at' x6)))+(r5.at' x6)))),x7.at' (4:Int),x7.at' (5:Int),x7.at' (6:Int)]))
                           else
                            none
                          else
                           none
                         else
                          none
                        else
                         none
                       else
                        none
                      else
                       none
                     else
                      none
                    else
                     none
                   else
                    none
                  else
                   none
                 else
                  none
                else
                 none
               else
                none
              else
               none
             else
              none
            else
             none
           else
            none
          else
           none
         else
          none
        else
         none
       else
        none
      else
       none
     else
      none
    else
     none
   else
    none
  else
   none
 else
  some (((),x7)):=by kernel_rfl
theorem ZL (n:Nat) (r2:List Int) (x3:Int) (kJ:PUnit×Vec 8) (m:Nat) (tT:Int) (Ki:Vec 8):AU n r2 x3 kJ (m+1) (tT,Ki)=
 bif decide (tT< (8:Int)) then
  bif bq tT 8 then
   bif bq tT 8 then
    bif bq tT 8 then
     AU n r2 x3 kJ m ((IntKind.wrap IntKind.i64 (tT+(1:Int)),Ki.set tT (IntKind.wrap IntKind.u32 ((Ki.at' tT)+(kJ.2.at' tT)))))
    else
     none
   else
    none
  else
   none
 else
  some (((),Ki)):=by kernel_rfl
theorem ZM (n:Nat) (r2:List Int) (m:Nat) (x3:Int) (x4:Vec 8):AV n r2 (m+1) (x3,x4)=
 bif decide (x3< (((r2.length:Nat):Int))) then
  bif (fI (IntKind.wrap IntKind.i64 (x3+(64:Int))) r2.length)&& (fI x3 (Int.toNat (IntKind.wrap IntKind.i64 (x3+(64:Int))))) then
   (Am n (List.drop (Int.toNat x3) (List.take (Int.toNat (IntKind.wrap IntKind.i64 (x3+(64:Int)))) r2))).bind fun (r5:Vec 64)=>
   (AQ n r2 x3 x4 r5 n (((0:Int),x4))).bind fun (kJ:PUnit×Vec 8)=>
   (AU n r2 x3 kJ n (((0:Int),x4))).bind fun (QM:PUnit×Vec 8)=>
   AV n r2 m ((IntKind.wrap IntKind.i64 (x3+(64:Int)),QM.2))
  else
   none
 else
  some (((),x4)):=by kernel_rfl
theorem ZN (n:Nat) (tQ:PUnit×Vec 8) (m:Nat) (tV:Int) (x20:Vec 32):AX n tQ (m+1) (tV,x20)=
 bif decide (tV< (32:Int)) then
  bif !((4:Int)==(0:Int)) then
   bif bq (IntKind.wrap IntKind.i64 (Int.tdiv tV (4:Int))) 8 then
    bif !((4:Int)==(0:Int)) then
     bif decide ((0:Int)≤(IntKind.wrap IntKind.i64 ((24:Int)-(IntKind.wrap IntKind.i64 ((8:Int)*(Int.tmod tV (4:Int))))))) then
      bif bq tV 32 then
       AX n tQ m ((IntKind.wrap IntKind.i64 (tV+(1:Int)),x20.set tV (IntKind.wrap IntKind.u8 (iW IntKind.u32 (tQ.2.at' (IntKind.wrap IntKind.i64 (Int.tdiv tV (4:Int)))) (IntKind.wrap IntKind.i64 ((24:Int)-(IntKind.wrap IntKind.i64 ((8:Int)*(Int.tmod tV (4:Int))))))))))
      else
       none
     else
      none
    else
     none
   else
    none
  else
   none
 else
  some (((),x20)):=by kernel_rfl
theorem ajV (n:Nat) (x1:List Int):Ao n x1=
 (Al n x1).bind fun (r2:List Int)=>
 (AV n r2 n (((0:Int),Vec.lit 8 [(1779033703:Int),(3144134277:Int),(1013904242:Int),(2773480762:Int),(1359893119:Int),(2600822924:Int),(528734635:Int),(1541459225:Int)]))).bind fun (tQ:PUnit×Vec 8)=>
 (AX n tQ n (((0:Int),Vec.rep 32 (0:Int)))).bind fun (r21:PUnit×Vec 32)=>
 some r21.2:=by kernel_rfl
theorem ajX (n:Nat) (x1:Int) (x2:List (List UInt8)):Ar n (x1,x2)=
 (Ak n ((x1,x2))).bind fun (r3:List Int)=>
 (Ap n r3).bind fun (r4:aJ)=>
 some r4:=by kernel_rfl
noncomputable def El (n:Nat) (x1:List Int) (m:Nat) (p:(List Int)×Int):Option (List Int):=
 eZ (R:=R) 3 (aK ((bS Tryz.f117.body [1,1,0,1,0,0]).getD .skip)) (⟨[(1,TV.fn 90 [] []),(11,TV.aj (T:=R.T) Cp.sh (Ty.int IntKind.i64) x1),(12,TV.int IntKind.i64 (((x1.length:Nat):Int)))],[]⟩:MS R.T) (bY J9.loops 3).sh (bY J9.loops 3).outs (fun st k=>bU E R n false (J8 n) aQ J9 ((bS Tryz.f117.body [1,1,0,1,0,0]).getD .skip) st k) m p
theorem ZO (n:Nat) (x1:List Int) (m:Nat) (x3:List Int) (x4:Int):El n x1 (m+1) (x3,x4)=
 bif decide (x4< (((x1.length:Nat):Int))) then
  (cO x1 x4).bind fun (r5:Int)=>
  (tL n r5).bind fun (r6:List Int)=>
  bif dD (x3.length+r6.length) 1 then
   El n x1 m ((x3++r6,IntKind.wrap IntKind.i64 (x4+(1:Int))))
  else
   none
 else
  some x3:=by kernel_rfl
theorem ajY (n:Nat) (x1:List Int):Eb n (x1,((),()))=
 (tL n (((x1.length:Nat):Int))).bind fun (r2:List Int)=>
 (El n x1 n ((r2,(0:Int)))).bind fun (r7:List Int)=>
 some r7:=by kernel_rfl
theorem ajZ (n:Nat) (x1:List Int):Au n x1=
 (Eb n ((x1,((),())))).bind fun (r2:List Int)=>
 some r2:=by kernel_rfl
noncomputable def Em (n:Nat) (x1:List Int) (m:Nat) (p:(List Int)×Int):Option (List Int):=
 eZ (R:=R) 3 (aK ((bS Tryz.f73.body [1,1,0,1,0,0]).getD .skip)) (⟨[(0,TV.aj (T:=R.T) Cp.sh (Ty.int IntKind.i64) x1)],[]⟩:MS R.T) (bY Kg.loops 3).sh (bY Kg.loops 3).outs (fun st k=>bU E R n false (Ke n) aQ Kg ((bS Tryz.f73.body [1,1,0,1,0,0]).getD .skip) st k) m p
theorem ZP (n:Nat) (x1:List Int) (m:Nat) (x3:List Int) (x4:Int):Em n x1 (m+1) (x3,x4)=
 bif decide (x4< (((x1.length:Nat):Int))) then
  (cO x1 x4).bind fun (r5:Int)=>
  (tN n r5).bind fun (r6:List Int)=>
  bif dD (x3.length+r6.length) 1 then
   Em n x1 m ((x3++r6,IntKind.wrap IntKind.i64 (x4+(1:Int))))
  else
   none
 else
  some x3:=by kernel_rfl
theorem aj0 (n:Nat) (x1:List Int):Av n x1=
 (tN n (((x1.length:Nat):Int))).bind fun (r2:List Int)=>
 (Em n x1 n ((r2,(0:Int)))).bind fun (r7:List Int)=>
 some r7:=by kernel_rfl
attribute [irreducible] xH xI Aw Ay Az AA Ee AB AJ Ef AL Eh Ei AO Ej AP AQ AU AV AX El Em
end Sh
