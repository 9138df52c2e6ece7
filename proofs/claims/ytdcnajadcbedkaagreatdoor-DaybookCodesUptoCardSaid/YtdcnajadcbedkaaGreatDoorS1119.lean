/- Part of the proof of a law. -/
import Derived.Test.YtdcnajadcbedkaaGreatDoorS1118
set_option linter.all false
set_option linter.unusedSimpArgs false
set_option linter.unusedSectionVars false
open Go Go.Proofs Aq
namespace Sh
set_option maxRecDepth 100000
set_option linter.unusedVariables false
def bZ (l:List (Nat×Note)) (k:Nat):Note:=match look l k with
 |some q=>q
 |none=>⟨[],[],⟨[],[]⟩,[]⟩
theorem ahF (n:Nat):BS n ()=
 some ((Vec.lit 8 [(1779033703:Int),(3144134277:Int),(1013904242:Int),(2773480762:Int),(1359893119:Int),(2600822924:Int),(528734635:Int),(1541459225:Int)],(Vec.lit 64 [(0:Int),(0:Int),(0:Int),(0:Int),(0:Int),(0:Int),(0:Int),(0:Int),(0:Int),(0:Int),(0:Int),(0:Int),(0:Int),(0:Int),(0:Int),(0:Int),(0:Int),(0:Int),(0:Int),(0:Int),(0:Int),(0:Int),(0:Int),(0:Int),(0:Int),(0:Int),(0:Int),(0:Int),(0:Int),(0:Int),(0:Int),(0:Int),(0:Int),(0:Int),(0:Int),(0:Int),(0:Int),(0:Int),(0:Int),(0:Int),(0:Int),(0:Int),(0:Int),(0:Int),(0:Int),(0:Int),(0:Int),(0:Int),(0:Int),(0:Int),(0:Int),(0:Int),(0:Int),(0:Int),(0:Int),(0:Int),(0:Int),(0:Int),(0:Int),(0:Int),(0:Int),(0:Int),(0:Int),(0:Int)],(0:Int)))):=by kernel_rfl
theorem ahG (n:Nat) (x1:Int) (x2:Int):rZ n (x1,x2)=
 bif decide ((0:Int)≤(fA IntKind.u64 (IntKind.wrap IntKind.u64 x2) (31:Int))) then
  bif decide ((0:Int)≤(IntKind.wrap IntKind.u64 ((32:Int)-(fA IntKind.u64 (IntKind.wrap IntKind.u64 x2) (31:Int))))) then
   some (iZ IntKind.u32 (jP IntKind.u32 x1 (fA IntKind.u64 (IntKind.wrap IntKind.u64 x2) (31:Int))) (jQ IntKind.u32 x1 (IntKind.wrap IntKind.u64 ((32:Int)-(fA IntKind.u64 (IntKind.wrap IntKind.u64 x2) (31:Int))))))
  else
   none
 else
  none:=by kernel_rfl
noncomputable def yO (n:Nat) (x1:List Int) (x2:Int) (m:Nat) (p:Int×Vec 64):Option (PUnit×Vec 64):=
 gB (R:=R) 7 (aM ((bU Tryz.f198.body [1,1,0,1,0,0,1,1,0,0,1,0,1,0,0,1,0,0]).getD .skip)) (⟨[(0,TV.aj (T:=R.T) Cp.sh (Ty.int IntKind.u8) x1),(2,TV.ref 2 0),(3,TV.ref 3 0),(4,TV.int IntKind.i64 x2),(11,TV.int IntKind.i64 x2),(22,TV.aj (T:=R.T) Cp.any (Ty.int IntKind.u8) (List.drop (Int.toNat (IntKind.wrap IntKind.i64 ((4:Int)*x2))) (List.take (Int.toNat (IntKind.wrap IntKind.i64 ((IntKind.wrap IntKind.i64 ((4:Int)*x2))+(4:Int)))) x1))),(23,TV.int IntKind.i64 ((((List.drop (Int.toNat (IntKind.wrap IntKind.i64 ((4:Int)*x2))) (List.take (Int.toNat (IntKind.wrap IntKind.i64 ((IntKind.wrap IntKind.i64 ((4:Int)*x2))+(4:Int)))) x1)).length:Nat):Int)))],[(2,Ob.ro (Ob.ro (Ob.sg [Sg.a IntKind.u32 64 (Vec.rep 64 (0:Int))])))]⟩:MS R.T) (bZ yK.loops 7).sh (bZ yK.loops 7).outs (fun st k=>bR E R n false (EW n) bL yK ((bU Tryz.f198.body [1,1,0,1,0,0,1,1,0,0,1,0,1,0,0,1,0,0]).getD .skip) st k) m p
noncomputable def yP (n:Nat) (x1:List Int) (m:Nat) (p:Int×Vec 64):Option (PUnit×Vec 64):=
 gB (R:=R) 3 (aM ((bU Tryz.f198.body [1,1,0,1,0,0]).getD .skip)) (⟨[(0,TV.aj (T:=R.T) Cp.sh (Ty.int IntKind.u8) x1),(2,TV.ref 2 0),(3,TV.ref 3 0)],[(2,Ob.ro (Ob.sg [Sg.a IntKind.u32 64 (Vec.rep 64 (0:Int))]))]⟩:MS R.T) (bZ yK.loops 3).sh (bZ yK.loops 3).outs (fun st k=>bR E R n false (EW n) bL yK ((bU Tryz.f198.body [1,1,0,1,0,0]).getD .skip) st k) m p
theorem XE (n:Nat) (x1:List Int) (x2:Int) (m:Nat) (x4:Int) (x5:Vec 64):yO n x1 x2 (m+1) (x4,x5)=
 bif decide (x4< ((((List.drop (Int.toNat (IntKind.wrap IntKind.i64 ((4:Int)*x2))) (List.take (Int.toNat (IntKind.wrap IntKind.i64 ((IntKind.wrap IntKind.i64 ((4:Int)*x2))+(4:Int)))) x1)).length:Nat):Int))) then
  (aQ (List.drop (Int.toNat (IntKind.wrap IntKind.i64 ((4:Int)*x2))) (List.take (Int.toNat (IntKind.wrap IntKind.i64 ((IntKind.wrap IntKind.i64 ((4:Int)*x2))+(4:Int)))) x1)) x4).bind fun (r6:Int)=>
  bif dQ x2 64 then
   bif decide ((0:Int)≤(8:Int)) then
    bif dQ x2 64 then
     yO n x1 x2 m ((IntKind.wrap IntKind.i64 (x4+(1:Int)),x5.set x2 (iZ IntKind.u32 (jP IntKind.u32 (x5.at' x2) (8:Int)) (IntKind.wrap IntKind.u32 r6))))
    else
     none
   else
    none
  else
   none
 else
  some (((),x5)):=by kernel_rfl
theorem Qn (n:Nat) (x1:List Int) (m:Nat) (x2:Int) (x3:Vec 64):yP n x1 (m+1) (x2,x3)=
 bif decide (x2< (64:Int)) then
  bif decide (x2< (16:Int)) then
   bif (fB (IntKind.wrap IntKind.i64 ((IntKind.wrap IntKind.i64 ((4:Int)*x2))+(4:Int))) x1.length)&& (fB (IntKind.wrap IntKind.i64 ((4:Int)*x2)) (Int.toNat (IntKind.wrap IntKind.i64 ((IntKind.wrap IntKind.i64 ((4:Int)*x2))+(4:Int))))) then
    (yO n x1 x2 n (((0:Int),x3))).bind fun (r7:PUnit×Vec 64)=>
    yP n x1 m ((IntKind.wrap IntKind.i64 (x2+(1:Int)),r7.2))
   else
    none
  else
   bif dQ (IntKind.wrap IntKind.i64 (x2-(15:Int))) 64 then
    bif dQ (IntKind.wrap IntKind.i64 (x2-(2:Int))) 64 then
     (rZ n ((x3.at' (IntKind.wrap IntKind.i64 (x2-(15:Int))),(-7:Int)))).bind fun (r8:Int)=>
     (rZ n ((x3.at' (IntKind.wrap IntKind.i64 (x2-(15:Int))),(-18:Int)))).bind fun (r9:Int)=>
     bif decide ((0:Int)≤(3:Int)) then
      (rZ n ((x3.at' (IntKind.wrap IntKind.i64 (x2-(2:Int))),(-17:Int)))).bind fun (kS:Int)=>
      (rZ n ((x3.at' (IntKind.wrap IntKind.i64 (x2-(2:Int))),(-19:Int)))).bind fun (eD:Int)=>
      bif decide ((0:Int)≤(10:Int)) then
       bif dQ (IntKind.wrap IntKind.i64 (x2-(16:Int))) 64 then
        bif dQ (IntKind.wrap IntKind.i64 (x2-(7:Int))) 64 then
         bif dQ x2 64 then
          yP n x1 m ((IntKind.wrap IntKind.i64 (x2+(1:Int)),x3.set x2 (IntKind.wrap IntKind.u32 ((IntKind.wrap IntKind.u32 ((IntKind.wrap IntKind.u32 ((x3.at' (IntKind.wrap IntKind.i64 (x2-(16:Int))))+(dh IntKind.u32 (dh IntKind.u32 r8 r9) (jQ IntKind.u32 (x3.at' (IntKind.wrap IntKind.i64 (x2-(15:Int)))) (3:Int)))))+(x3.at' (IntKind.wrap IntKind.i64 (x2-(7:Int))))))+(dh IntKind.u32 (dh IntKind.u32 kS eD) (jQ IntKind.u32 (x3.at' (IntKind.wrap IntKind.i64 (x2-(2:Int)))) (10:Int)))))))
         else
          none
        else
         none
       else
        none
      else
       none
     else
      none
    else
     none
   else
    none
 else
  some (((),x3)):=by kernel_rfl
theorem ahH (n:Nat) (x1:List Int):BU n x1=
 (yP n x1 n (((0:Int),Vec.rep 64 (0:Int)))).bind fun (dS:PUnit×Vec 64)=>
 some dS.2:=by kernel_rfl
theorem ahI (n:Nat) (x1:Int) (x2:Int) (x3:Int) (x4:Int):yL n (x1,(x2,(x3,x4)))=
 (rZ n ((x1,IntKind.wrap IntKind.i64 ((0:Int)-x2)))).bind fun (r5:Int)=>
 (rZ n ((x1,IntKind.wrap IntKind.i64 ((0:Int)-x3)))).bind fun (r6:Int)=>
 (rZ n ((x1,IntKind.wrap IntKind.i64 ((0:Int)-x4)))).bind fun (r7:Int)=>
 some (dh IntKind.u32 (dh IntKind.u32 r5 r6) r7):=by kernel_rfl
noncomputable def Ci (n:Nat) (x1:Vec 8) (r3:Vec 64) (m:Nat) (p:Int×(Vec 4)×Vec 4):Option (PUnit×(Vec 4)×Vec 4):=
 gB (R:=R) 4 (aM ((bU Tryz.f169.body [1,1,1,0,1,0,0]).getD .skip)) (⟨[(2,TV.ref 2 0),(4,TV.ref 4 0),(5,TV.ref 5 0),(6,TV.ref 6 0),(7,TV.ref 7 0),(21,TV.sg [Sg.a IntKind.u32 64 xg])],[(2,Ob.ro (Ob.sg [Sg.a IntKind.u32 8 x1])),(4,Ob.ro (Ob.sg [Sg.a IntKind.u32 8 (Vec.rep 8 (0:Int))])),(5,Ob.ro (Ob.sg [Sg.a IntKind.u32 64 r3]))]⟩:MS R.T) (bZ yM.loops 4).sh (bZ yM.loops 4).outs (fun st k=>bR E R n false (EZ n) bL yM ((bU Tryz.f169.body [1,1,1,0,1,0,0]).getD .skip) st k) m p
noncomputable def Cj (n:Nat) (r9:PUnit×(Vec 4)×Vec 4) (m:Nat) (p:Int×Vec 8):Option (PUnit×Vec 8):=
 gB (R:=R) 12 (aM ((bU Tryz.f169.body [1,1,1,1,0,1,0,0]).getD .skip)) (⟨[(2,TV.ref 2 0),(4,TV.ref 4 0),(6,TV.ref 6 0),(7,TV.ref 7 0)],[(4,Ob.ro (Ob.sg [Sg.a IntKind.u32 8 (Vec.rep 8 (0:Int))])),(6,Ob.ro (Ob.sg [Sg.a IntKind.u32 4 r9.2.1])),(7,Ob.ro (Ob.sg [Sg.a IntKind.u32 4 r9.2.2]))]⟩:MS R.T) (bZ yM.loops 12).sh (bZ yM.loops 12).outs (fun st k=>bR E R n false (EZ n) bL yM ((bU Tryz.f169.body [1,1,1,1,0,1,0,0]).getD .skip) st k) m p
theorem XF (n:Nat) (x1:Vec 8) (r3:Vec 64) (m:Nat) (x4:Int) (x5:Vec 4) (x6:Vec 4):Ci n x1 r3 (m+1) (x4,(x5,x6))=
 bif decide (x4< (64:Int)) then
  bif dQ x4 64 then
   bif dQ (3:Int) 4 then
    bif dQ (0:Int) 4 then
     (yL n ((x6.at' (0:Int),((6:Int),((11:Int),(25:Int)))))).bind fun (r7:Int)=>
     bif dQ (0:Int) 4 then
      bif dQ (1:Int) 4 then
       bif dQ (0:Int) 4 then
        bif dQ (2:Int) 4 then
         bif dQ x4 64 then
          bif dQ (0:Int) 4 then
           (yL n ((x5.at' (0:Int),((2:Int),((13:Int),(22:Int)))))).bind fun (r8:Int)=>
           bif dQ (0:Int) 4 then
            bif dQ (1:Int) 4 then
             bif dQ (0:Int) 4 then
              bif dQ (2:Int) 4 then
               bif dQ (1:Int) 4 then
                bif dQ (2:Int) 4 then
                 bif dQ (3:Int) 4 then
                  bif dQ (0:Int) 4 then
                   bif dQ (1:Int) 4 then
                    bif dQ (2:Int) 4 then
                     bif dQ (0:Int) 4 then
                      bif dQ (1:Int) 4 then
                       bif dQ (2:Int) 4 then
                        Ci n x1 r3 m ((IntKind.wrap IntKind.i64 (x4+(1:Int)),(Vec.lit 4 [IntKind.wrap IntKind.u32 ((IntKind.wrap IntKind.u32 ((IntKind.wrap IntKind.u32 ((IntKind.wrap IntKind.u32 ((IntKind.wrap IntKind.u32 ((x6.at' (3:Int))+r7))+(dh IntKind.u32 (fA IntKind.u32 (x6.at' (0:Int)) (x6.at' (1:Int))) (fA IntKind.u32 (dh IntKind.u32 (4294967295:Int) (x6.at' (0:Int))) (x6.at' (2:Int))))))+(xg.at' x4)))+(r3.at' x4)))+(IntKind.wrap IntKind.u32 (r8+(dh IntKind.u32 (dh IntKind.u32 (fA IntKind.u32 (x5.at' (0:Int)) (x5.at' (1:Int))) (fA IntKind.u32 (x5.at' (0:Int)) (x5.at' (2:Int)))) (fA IntKind.u32 (x5.at' (1:Int)) (x5.at' (2:Int))))))),x5.at' (0:Int),x5.at' (1:Int),x5.at' (2:Int)],Vec.lit 4 [IntKind.wrap IntKind.u32 ((x5.at' (3:Int))+(IntKind.wrap IntKind.u32 ((IntKind.wrap IntKind.u32 ((IntKind.wrap IntKind.u32 ((IntKind.wrap IntKind.u32 ((x6.at' (3:Int))+r7))+(dh IntKind.u32 (fA IntKind.u32 (x6.at' (0:Int)) (x6.at' (1:Int))) (fA IntKind.u32 (dh IntKind.u32 (4294967295:Int) (x6.at' (0:Int))) (x6.at' (2:Int))))))+(xg.at' x4)))+(r3.at' x4)))),x6.at' (0:Int),x6.at' (1:Int),x6.at' (2:Int)])))
                       else
                        none
                      else
                       none
                     else
                      none
                    else
                     none
                   else
                    none
                  else
                   none
                 else
                  none
                else
                 none
               else
                none
              else
               none
             else
              none
            else
             none
           else
            none
          else
           none
         else
          none
        else
         none
       else
        none
      else
       none
     else
      none
    else
     none
   else
    none
  else
   none
 else
  some (((),(x5,x6))):=by kernel_rfl
theorem XG (n:Nat) (r9:PUnit×(Vec 4)×Vec 4) (m:Nat) (x10:Int) (mU:Vec 8):Cj n r9 (m+1) (x10,mU)=
 bif decide (x10< (4:Int)) then
  bif dQ x10 8 then
   bif dQ x10 4 then
    bif dQ x10 8 then
     bif dQ (IntKind.wrap IntKind.i64 (x10+(4:Int))) 8 then
      bif dQ x10 4 then
       bif dQ (IntKind.wrap IntKind.i64 (x10+(4:Int))) 8 then
        Cj n r9 m ((IntKind.wrap IntKind.i64 (x10+(1:Int)),(mU.set x10 (IntKind.wrap IntKind.u32 ((mU.at' x10)+(r9.2.1.at' x10)))).set (IntKind.wrap IntKind.i64 (x10+(4:Int))) (IntKind.wrap IntKind.u32 (((mU.set x10 (IntKind.wrap IntKind.u32 ((mU.at' x10)+(r9.2.1.at' x10)))).at' (IntKind.wrap IntKind.i64 (x10+(4:Int))))+(r9.2.2.at' x10)))))
       else
        none
      else
       none
     else
      none
    else
     none
   else
    none
  else
   none
 else
  some (((),mU)):=by kernel_rfl
theorem ahJ (n:Nat) (x1:Vec 8) (x2:List Int):BX n (x1,x2)=
 (BU n x2).bind fun (r3:Vec 64)=>
 bif l6 8 none (some (4:Int)) then
  bif decide (0<4∧((4:Nat):Int)≤(4:Int)-(0:Int)) then
   bif l6 8 (some (4:Int)) none then
    bif decide (0<4∧((4:Nat):Int)≤(8:Int)-(4:Int)) then
     (Ci n x1 r3 n (((0:Int),(x1.slc (0:Int) 4,x1.slc (4:Int) 4)))).bind fun (r9:PUnit×(Vec 4)×Vec 4)=>
     (Cj n r9 n (((0:Int),x1))).bind fun (dS:PUnit×Vec 8)=>
     some dS.2
    else
     none
   else
    none
  else
   none
 else
  none:=by kernel_rfl
noncomputable def Ck (n:Nat) (m:Nat) (p:(List UInt8)×(Vec 8)×(Vec 64)×Int):Option (PUnit×(Vec 8)×(Vec 64)×Int):=
 gB (R:=R) 1 (aM ((bU Tryz.f120.body [1,0,0,0]).getD .skip)) (⟨[(2,TV.ref 2 0),(4,TV.ref 4 0)],[(4,Ob.ro (Ob.sg [Sg.a IntKind.u32 8 (Vec.rep 8 (0:Int)),Sg.a IntKind.u8 64 (Vec.rep 64 (0:Int)),Sg.i IntKind.u64 (0:Int)]))]⟩:MS R.T) (bZ J4.loops 1).sh (bZ J4.loops 1).outs (fun st k=>bR E R n false (J3 n) bL J4 ((bU Tryz.f120.body [1,0,0,0]).getD .skip) st k) m p
theorem Qo (n:Nat) (m:Nat) (x5:List UInt8) (x6:Vec 8) (x7:Vec 64) (x8:Int):Ck n (m+1) (x5,(x6,(x7,x8)))=
 bif !(x5==[]) then
  bif !((64:Int)==(0:Int)) then
   bif l6 64 (some (IntKind.wrap IntKind.i64 (Int.tmod x8 (64:Int)))) none then
    bif fB ((((List.take (Int.toNat ((64:Int)-(IntKind.wrap IntKind.i64 (Int.tmod x8 (64:Int))))) (List.map (fun b:UInt8=>((b.toNat:Nat):Int)) x5)).length:Nat):Int)) x5.length then
     bif (IntKind.wrap IntKind.i64 ((IntKind.wrap IntKind.i64 (Int.tmod x8 (64:Int)))+((((List.take (Int.toNat ((64:Int)-(IntKind.wrap IntKind.i64 (Int.tmod x8 (64:Int))))) (List.map (fun b:UInt8=>((b.toNat:Nat):Int)) x5)).length:Nat):Int))))==(64:Int) then
      (BX n ((x6,(x7.rM (IntKind.wrap IntKind.i64 (Int.tmod x8 (64:Int))) (List.take (Int.toNat ((64:Int)-(IntKind.wrap IntKind.i64 (Int.tmod x8 (64:Int))))) (List.map (fun b:UInt8=>((b.toNat:Nat):Int)) x5))).l))).bind fun (r9:Vec 8)=>
      Ck n m ((List.drop (Int.toNat ((((List.take (Int.toNat ((64:Int)-(IntKind.wrap IntKind.i64 (Int.tmod x8 (64:Int))))) (List.map (fun b:UInt8=>((b.toNat:Nat):Int)) x5)).length:Nat):Int))) x5,(r9,(x7.rM (IntKind.wrap IntKind.i64 (Int.tmod x8 (64:Int))) (List.take (Int.toNat ((64:Int)-(IntKind.wrap IntKind.i64 (Int.tmod x8 (64:Int))))) (List.map (fun b:UInt8=>((b.toNat:Nat):Int)) x5)),IntKind.wrap IntKind.u64 (x8+(IntKind.wrap IntKind.u64 ((((List.take (Int.toNat ((64:Int)-(IntKind.wrap IntKind.i64 (Int.tmod x8 (64:Int))))) (List.map (fun b:UInt8=>((b.toNat:Nat):Int)) x5)).length:Nat):Int))))))))
     else
      Ck n m ((List.drop (Int.toNat ((((List.take (Int.toNat ((64:Int)-(IntKind.wrap IntKind.i64 (Int.tmod x8 (64:Int))))) (List.map (fun b:UInt8=>((b.toNat:Nat):Int)) x5)).length:Nat):Int))) x5,(x6,(x7.rM (IntKind.wrap IntKind.i64 (Int.tmod x8 (64:Int))) (List.take (Int.toNat ((64:Int)-(IntKind.wrap IntKind.i64 (Int.tmod x8 (64:Int))))) (List.map (fun b:UInt8=>((b.toNat:Nat):Int)) x5)),IntKind.wrap IntKind.u64 (x8+(IntKind.wrap IntKind.u64 ((((List.take (Int.toNat ((64:Int)-(IntKind.wrap IntKind.i64 (Int.tmod x8 (64:Int))))) (List.map (fun b:UInt8=>((b.toNat:Nat):Int)) x5)).length:Nat):Int))))))))
    else
     none
   else
    none
  else
   none
 else
  some (((),(x6,(x7,x8)))):=by kernel_rfl
theorem ahK (n:Nat) (x1:Vec 8) (x2:Vec 64) (x3:Int) (x4:List UInt8):vK n ((x1,(x2,x3)),x4)=
 (Ck n n ((x4,(x1,(x2,x3))))).bind fun (kS:PUnit×(Vec 8)×(Vec 64)×Int)=>
 some ((kS.2.1,(kS.2.2.1,kS.2.2.2))):=by kernel_rfl
noncomputable def Cm (n:Nat) (m:Nat) (p:Int×List Int):Option (Int×List Int):=
 gB (R:=R) 3 (aM ((bU Tryz.f90.body [1,1,1,0,0,0]).getD .skip)) (⟨[],[]⟩:MS R.T) (bZ J7.loops 3).sh (bZ J7.loops 3).outs (fun st k=>bR E R n false (J6 n) bL J7 ((bU Tryz.f90.body [1,1,1,0,0,0]).getD .skip) st k) m p
theorem XH (n:Nat) (m:Nat) (x2:Int) (x3:List Int):Cm n (m+1) (x2,x3)=
 bif decide (x2> (127:Int)) then
  bif bX (x3.length+([iZ IntKind.u8 (IntKind.wrap IntKind.u8 x2) (128:Int)].length)) 1 then
   bif decide ((0:Int)≤(7:Int)) then
    Cm n m ((jQ IntKind.u64 x2 (7:Int),x3++[iZ IntKind.u8 (IntKind.wrap IntKind.u8 x2) (128:Int)]))
   else
    none
  else
   none
 else
  some ((x2,x3)):=by kernel_rfl
theorem ahL (n:Nat) (x1:Int):uE n x1=
 bif decide ((0:Int)≤(1:Int)) then
  bif decide ((0:Int)≤(63:Int)) then
   (Cm n n ((dh IntKind.u64 (jP IntKind.u64 (IntKind.wrap IntKind.u64 x1) (1:Int)) (IntKind.wrap IntKind.u64 (jQ IntKind.i64 x1 (63:Int))),[]))).bind fun (r4:Int×List Int)=>
   bif bX (r4.2.length+([IntKind.wrap IntKind.u8 r4.1].length)) 1 then
    some (r4.2++[IntKind.wrap IntKind.u8 r4.1])
   else
    none
  else
   none
 else
  none:=by kernel_rfl
theorem ahM (n:Nat) (x1:List UInt8):Ca n x1=
 (uE n (((x1.length:Nat):Int))).bind fun (r2:List Int)=>
 bif bX (r2.length+((List.map (fun b:UInt8=>((b.toNat:Nat):Int)) x1).length)) 1 then
  some (r2++(List.map (fun b:UInt8=>((b.toNat:Nat):Int)) x1))
 else
  none:=by kernel_rfl
noncomputable def Fg (n:Nat) (x1:Vec 8) (x2:Vec 64) (x3:Int) (m:Nat) (p:List Int):Option (List Int):=
 gB (R:=R) 3 (aM ((bU Tryz.f122.body [1,1,1,0,0,0]).getD .skip)) (⟨[(1,TV.ref 1 0),(2,TV.ref 2 0),(3,TV.int IntKind.u64 (IntKind.wrap IntKind.u64 ((8:Int)*x3)))],[(1,Ob.ro (Ob.sg [Sg.a IntKind.u32 8 x1,Sg.a IntKind.u8 64 x2,Sg.i IntKind.u64 x3])),(2,Ob.ro (Ob.sg [Sg.a IntKind.u8 32 (Vec.rep 32 (0:Int))]))]⟩:MS R.T) (bZ uG.loops 3).sh (bZ uG.loops 3).outs (fun st k=>bR E R n false (Cb n) bL uG ((bU Tryz.f122.body [1,1,1,0,0,0]).getD .skip) st k) m p
noncomputable def Cn (n:Nat) (x1:Vec 8) (x2:Vec 64) (x3:Int) (m:Nat) (p:(List Int)×Int):Option (List Int):=
 gB (R:=R) 6 (aM ((bU Tryz.f122.body [1,1,1,1,0,1,0,0]).getD .skip)) (⟨[(1,TV.ref 1 0),(2,TV.ref 2 0),(3,TV.int IntKind.u64 (IntKind.wrap IntKind.u64 ((8:Int)*x3)))],[(1,Ob.ro (Ob.sg [Sg.a IntKind.u32 8 x1,Sg.a IntKind.u8 64 x2,Sg.i IntKind.u64 x3])),(2,Ob.ro (Ob.sg [Sg.a IntKind.u8 32 (Vec.rep 32 (0:Int))]))]⟩:MS R.T) (bZ uG.loops 6).sh (bZ uG.loops 6).outs (fun st k=>bR E R n false (Cb n) bL uG ((bU Tryz.f122.body [1,1,1,1,0,1,0,0]).getD .skip) st k) m p
noncomputable def Co (n:Nat) (r9:(Vec 8)×(Vec 64)×Int) (m:Nat) (p:Int×Vec 32):Option (PUnit×Vec 32):=
 gB (R:=R) 13 (aM ((bU Tryz.f122.body [1,1,1,1,1,1,1,0,1,0,0]).getD .skip)) (⟨[(1,TV.ref 1 0),(2,TV.ref 2 0),(6,TV.ref 6 0)],[(1,Ob.ro (Ob.sg [Sg.a IntKind.u32 8 r9.1,Sg.a IntKind.u8 64 r9.2.1,Sg.i IntKind.u64 r9.2.2])),(2,Ob.ro (Ob.sg [Sg.a IntKind.u8 32 (Vec.rep 32 (0:Int))]))]⟩:MS R.T) (bZ uG.loops 13).sh (bZ uG.loops 13).outs (fun st k=>bR E R n false (Cb n) bL uG ((bU Tryz.f122.body [1,1,1,1,1,1,1,0,1,0,0]).getD .skip) st k) m p
theorem XI (n:Nat) (x1:Vec 8) (x2:Vec 64) (x3:Int) (m:Nat) (x4:List Int):Fg n x1 x2 x3 (m+1) x4=
 bif !((64:Int)==(0:Int)) then
  bif (Int.tmod (IntKind.wrap IntKind.i64 ((IntKind.wrap IntKind.i64 x3)+(((x4.length:Nat):Int)))) (64:Int)) !=(56:Int) then
   bif bX (x4.length+([(0:Int)].length)) 1 then
    Fg n x1 x2 x3 m (x4++[(0:Int)])
   else
    none
  else
   some x4
 else
  none:=by kernel_rfl
theorem XJ (n:Nat) (x1:Vec 8) (x2:Vec 64) (x3:Int) (m:Nat) (x6:List Int) (x7:Int):Cn n x1 x2 x3 (m+1) (x6,x7)=
 bif decide (x7< (8:Int)) then
  bif decide ((0:Int)≤(IntKind.wrap IntKind.i64 ((56:Int)-(IntKind.wrap IntKind.i64 ((8:Int)*x7))))) then
   bif bX (x6.length+([IntKind.wrap IntKind.u8 (jQ IntKind.u64 (IntKind.wrap IntKind.u64 ((8:Int)*x3)) (IntKind.wrap IntKind.i64 ((56:Int)-(IntKind.wrap IntKind.i64 ((8:Int)*x7)))))].length)) 1 then
    Cn n x1 x2 x3 m ((x6++[IntKind.wrap IntKind.u8 (jQ IntKind.u64 (IntKind.wrap IntKind.u64 ((8:Int)*x3)) (IntKind.wrap IntKind.i64 ((56:Int)-(IntKind.wrap IntKind.i64 ((8:Int)*x7)))))],IntKind.wrap IntKind.i64 (x7+(1:Int))))
   else
    none
  else
   none
 else
  some x6:=by kernel_rfl
theorem XK (n:Nat) (r9:(Vec 8)×(Vec 64)×Int) (m:Nat) (x10:Int) (mU:Vec 32):Co n r9 (m+1) (x10,mU)=
 bif decide (x10< (32:Int)) then
  bif !((4:Int)==(0:Int)) then
   bif dQ (IntKind.wrap IntKind.i64 (Int.tdiv x10 (4:Int))) 8 then
    bif !((4:Int)==(0:Int)) then
     bif decide ((0:Int)≤(IntKind.wrap IntKind.i64 ((24:Int)-(IntKind.wrap IntKind.i64 ((8:Int)*(Int.tmod x10 (4:Int))))))) then
      bif dQ x10 32 then
       Co n r9 m ((IntKind.wrap IntKind.i64 (x10+(1:Int)),mU.set x10 (IntKind.wrap IntKind.u8 (jQ IntKind.u32 (r9.1.at' (IntKind.wrap IntKind.i64 (Int.tdiv x10 (4:Int)))) (IntKind.wrap IntKind.i64 ((24:Int)-(IntKind.wrap IntKind.i64 ((8:Int)*(Int.tmod x10 (4:Int))))))))))
      else
       none
     else
      none
    else
     none
   else
    none
  else
   none
 else
  some (((),mU)):=by kernel_rfl
theorem ahN (n:Nat) (x1:Vec 8) (x2:Vec 64) (x3:Int):Cc n (x1,(x2,x3))=
 (Fg n x1 x2 x3 n [(128:Int)]).bind fun (r5:List Int)=>
 (Cn n x1 x2 x3 n ((r5,(0:Int)))).bind fun (r8:List Int)=>
 (vK n (((x1,(x2,x3)),List.map (fun n:Int=>UInt8.ofNat n.toNat) r8))).bind fun (r9:(Vec 8)×(Vec 64)×Int)=>
 (Co n r9 n (((0:Int),Vec.rep 32 (0:Int)))).bind fun (dS:PUnit×Vec 32)=>
 some dS.2:=by kernel_rfl
noncomputable def Fh (n:Nat) (x2:List (List UInt8)) (m:Nat) (p:Int×(Vec 8)×(Vec 64)×Int):Option (PUnit×(Vec 8)×(Vec 64)×Int):=
 gB (R:=R) 3 (aM ((bU Tryz.f71.body [1,1,0,1,0,0]).getD .skip)) (⟨[(4,TV.ref 4 0),(5,TV.ref 5 0),(15,TV.aj (T:=R.T) Cp.sh Ty.str x2),(16,TV.int IntKind.i64 (((x2.length:Nat):Int)))],[(4,Ob.ro (Ob.cells [TV.int IntKind.u8 (0:Int),TV.int IntKind.u8 (0:Int),TV.int IntKind.u8 (0:Int),TV.int IntKind.u8 (0:Int),TV.int IntKind.u8 (0:Int),TV.int IntKind.u8 (0:Int),TV.int IntKind.u8 (0:Int),TV.int IntKind.u8 (0:Int),TV.int IntKind.u8 (0:Int),TV.int IntKind.u8 (0:Int),TV.int IntKind.u8 (0:Int),TV.int IntKind.u8 (0:Int),TV.int IntKind.u8 (0:Int),TV.int IntKind.u8 (0:Int),TV.int IntKind.u8 (0:Int),TV.int IntKind.u8 (0:Int)]))]⟩:MS R.T) (bZ Kc.loops 3).sh (bZ Kc.loops 3).outs (fun st k=>bR E R n false (Ka n) bL Kc ((bU Tryz.f71.body [1,1,0,1,0,0]).getD .skip) st k) m p
theorem XL (n:Nat) (x2:List (List UInt8)) (m:Nat) (x5:Int) (x6:Vec 8) (x7:Vec 64) (x8:Int):Fh n x2 (m+1) (x5,(x6,(x7,x8)))=
 bif decide (x5< (((x2.length:Nat):Int))) then
  (aQ x2 x5).bind fun (r9:List UInt8)=>
  (Ca n r9).bind fun (kS:List Int)=>
  (vK n (((x6,(x7,x8)),List.map (fun n:Int=>UInt8.ofNat n.toNat) kS))).bind fun (eD:(Vec 8)×(Vec 64)×Int)=>
  Fh n x2 m ((IntKind.wrap IntKind.i64 (x5+(1:Int)),(eD.1,(eD.2.1,eD.2.2))))
 else
  some (((),(x6,(x7,x8)))):=by kernel_rfl
theorem ahO (n:Nat) (x1:Int) (x2:List (List UInt8)):Fe n (x1,x2)=
 (BS n (())).bind fun (r3:(Vec 8)×(Vec 64)×Int)=>
 (vK n (((r3.1,(r3.2.1,r3.2.2)),List.map (fun n:Int=>UInt8.ofNat n.toNat) [IntKind.wrap IntKind.u8 x1]))).bind fun (r4:(Vec 8)×(Vec 64)×Int)=>
 (Fh n x2 n (((0:Int),(r4.1,(r4.2.1,r4.2.2))))).bind fun (dS:PUnit×(Vec 8)×(Vec 64)×Int)=>
 (Cc n ((dS.2.1,(dS.2.2.1,dS.2.2.2)))).bind fun (dn:Vec 32)=>
 bif l6 32 none (some (16:Int)) then
  bif decide (0<16∧((16:Nat):Int)≤(16:Int)-(0:Int)) then
   some ((⟨dn.nth 0,dn.nth 1,dn.nth 2,dn.nth 3,dn.nth 4,dn.nth 5,dn.nth 6,dn.nth 7,dn.nth 8,dn.nth 9,dn.nth 10,dn.nth 11,dn.nth 12,dn.nth 13,dn.nth 14,dn.nth 15⟩:aA))
  else
   none
 else
  none:=by kernel_rfl
noncomputable def Fj (n:Nat) (x1:List Int) (m:Nat) (p:(List Int)×Int):Option (List Int):=
 gB (R:=R) 3 (aM ((bU Tryz.f117.body [1,1,0,1,0,0]).getD .skip)) (⟨[(1,TV.fn 90 [] []),(11,TV.aj (T:=R.T) Cp.sh (Ty.int IntKind.i64) x1),(12,TV.int IntKind.i64 (((x1.length:Nat):Int)))],[]⟩:MS R.T) (bZ Kh.loops 3).sh (bZ Kh.loops 3).outs (fun st k=>bR E R n false (Kg n) bL Kh ((bU Tryz.f117.body [1,1,0,1,0,0]).getD .skip) st k) m p
theorem XM (n:Nat) (x1:List Int) (m:Nat) (x3:List Int) (x4:Int):Fj n x1 (m+1) (x3,x4)=
 bif decide (x4< (((x1.length:Nat):Int))) then
  (aQ x1 x4).bind fun (r5:Int)=>
  (uE n r5).bind fun (r6:List Int)=>
  bif bX (x3.length+r6.length) 1 then
   Fj n x1 m ((x3++r6,IntKind.wrap IntKind.i64 (x4+(1:Int))))
  else
   none
 else
  some x3:=by kernel_rfl
theorem ahP (n:Nat) (x1:List Int):Cg n (x1,((),()))=
 (uE n (((x1.length:Nat):Int))).bind fun (r2:List Int)=>
 (Fj n x1 n ((r2,(0:Int)))).bind fun (r7:List Int)=>
 some r7:=by kernel_rfl
theorem ahQ (n:Nat) (x1:List Int):yN n x1=
 (Cg n ((x1,((),())))).bind fun (r2:List Int)=>
 some r2:=by kernel_rfl
attribute [irreducible] yO yP Ci Cj Ck Cm Fg Cn Co Fh Fj
end Sh
