/- Part of the proof of a law. -/
import Derived.Test.YtdcnajadcbedkaaGreatDoorS1217
set_option linter.all false
open Go Go.Proofs Aq
namespace Sh
set_option maxRecDepth 100000
def aU (l:List (Nat×Note)) (k:Nat):Note:=match look l k with
 |some q=>q
 |none=>⟨[],[],⟨[],[]⟩,[]⟩
theorem ak7 (n:Nat):Dz n ()=
 some ((Vec.lit 8 [(1779033703:Int),(3144134277:Int),(1013904242:Int),(2773480762:Int),(1359893119:Int),(2600822924:Int),(528734635:Int),(1541459225:Int)],(Vec.lit 64 [(0:Int),(0:Int),(0:Int),(0:Int),(0:Int),(0:Int),(0:Int),(0:Int),(0:Int),(0:Int),(0:Int),(0:Int),(0:Int),(0:Int),(0:Int),(0:Int),(0:Int),(0:Int),(0:Int),(0:Int),(0:Int),(0:Int),(0:Int),(0:Int),(0:Int),(0:Int),(0:Int),(0:Int),(0:Int),(0:Int),(0:Int),(0:Int),(0:Int),(0:Int),(0:Int),(0:Int),(0:Int),(0:Int),(0:Int),(0:Int),(0:Int),(0:Int),(0:Int),(0:Int),(0:Int),(0:Int),(0:Int),(0:Int),(0:Int),(0:Int),(0:Int),(0:Int),(0:Int),(0:Int),(0:Int),(0:Int),(0:Int),(0:Int),(0:Int),(0:Int),(0:Int),(0:Int),(0:Int),(0:Int)],(0:Int)))):=by kernel_rfl
theorem ak8 (n:Nat) (x1:Int) (x2:Int):sj n (x1,x2)=
 bif decide ((0:Int)<=(jr IntKind.u64 (IntKind.wrap .u64 x2) (31:Int))) then
  bif decide ((0:Int)<=(IntKind.wrap .u64 ((32:Int)-(jr IntKind.u64 (IntKind.wrap .u64 x2) (31:Int))))) then
   some (kR IntKind.u32 (mQ IntKind.u32 x1 (jr IntKind.u64 (IntKind.wrap .u64 x2) (31:Int))) (aD IntKind.u32 x1 (IntKind.wrap .u64 ((32:Int)-(jr IntKind.u64 (IntKind.wrap .u64 x2) (31:Int))))))
  else
   none
 else
  none:=by kernel_rfl
noncomputable def zZ (n:Nat) (x1:List Int) (x2:Int) (m:Nat) (p:Int×Vec 64):Option (PUnit×Vec 64):=
 dA (R:=R) 7 (aJ ((aT Tryz.f198.body [1,1,0,1,0,0,1,1,0,0,1,0,1,0,0,1,0,0]).getD .skip)) (⟨[(0,TV.aj (T:=R.T) Cp.sh (Ty.int IntKind.u8) x1),(2,TV.ref 2 0),(3,TV.ref 3 0),(4,TV.int IntKind.i64 x2),(11,TV.int IntKind.i64 x2),(22,TV.aj (T:=R.T) Cp.any (Ty.int IntKind.u8) (List.drop (Int.toNat (IntKind.wrap .i64 ((4:Int)*x2))) (List.take (Int.toNat (IntKind.wrap .i64 ((IntKind.wrap .i64 ((4:Int)*x2))+(4:Int)))) x1))),(23,TV.int IntKind.i64 ((((List.drop (Int.toNat (IntKind.wrap .i64 ((4:Int)*x2))) (List.take (Int.toNat (IntKind.wrap .i64 ((IntKind.wrap .i64 ((4:Int)*x2))+(4:Int)))) x1)).length:Nat):Int)))],[(2,Ob.ro (Ob.ro (Ob.sg [Sg.a IntKind.u32 64 (Vec.rep 64 (0:Int))])))]⟩:MS R.T) (aU zV.loops 7).sh (aU zV.loops 7).outs (fun st k=>bA E R n false (Hf n) aZ zV ((aT Tryz.f198.body [1,1,0,1,0,0,1,1,0,0,1,0,1,0,0,1,0,0]).getD .skip) st k) m p
noncomputable def z8 (n:Nat) (x1:List Int) (m:Nat) (p:Int×Vec 64):Option (PUnit×Vec 64):=
 dA (R:=R) 3 (aJ ((aT Tryz.f198.body [1,1,0,1,0,0]).getD .skip)) (⟨[(0,TV.aj (T:=R.T) Cp.sh (Ty.int IntKind.u8) x1),(2,TV.ref 2 0),(3,TV.ref 3 0)],[(2,Ob.ro (Ob.sg [Sg.a IntKind.u32 64 (Vec.rep 64 (0:Int))]))]⟩:MS R.T) (aU zV.loops 3).sh (aU zV.loops 3).outs (fun st k=>bA E R n false (Hf n) aZ zV ((aT Tryz.f198.body [1,1,0,1,0,0]).getD .skip) st k) m p
theorem aa2 (n:Nat) (x1:List Int) (x2:Int) (m:Nat) (x4:Int) (x5:Vec 64):zZ n x1 x2 (m+1) (x4,x5)=
 bif decide (x4< ((((List.drop (Int.toNat (IntKind.wrap .i64 ((4:Int)*x2))) (List.take (Int.toNat (IntKind.wrap .i64 ((IntKind.wrap .i64 ((4:Int)*x2))+(4:Int)))) x1)).length:Nat):Int))) then
  (aB (List.drop (Int.toNat (IntKind.wrap .i64 ((4:Int)*x2))) (List.take (Int.toNat (IntKind.wrap .i64 ((IntKind.wrap .i64 ((4:Int)*x2))+(4:Int)))) x1)) x4).bind fun (r6:Int)=>
  bif eX x2 64 then
   bif decide ((0:Int)<=(8:Int)) then
    bif eX x2 64 then
     zZ n x1 x2 m ((IntKind.wrap .i64 (x4+(1:Int)),x5.set x2 (kR IntKind.u32 (mQ IntKind.u32 (x5.at' x2) (8:Int)) (IntKind.wrap .u32 r6))))
    else
     none
   else
    none
  else
   none
 else
  some (((),x5)):=by kernel_rfl
theorem Ui (n:Nat) (x1:List Int) (m:Nat) (x2:Int) (x3:Vec 64):z8 n x1 (m+1) (x2,x3)=
 bif decide (x2< (64:Int)) then
  bif decide (x2< (16:Int)) then
   bif (kF (IntKind.wrap .i64 ((IntKind.wrap .i64 ((4:Int)*x2))+(4:Int))) x1.length)&& (kF (IntKind.wrap .i64 ((4:Int)*x2)) (Int.toNat (IntKind.wrap .i64 ((IntKind.wrap .i64 ((4:Int)*x2))+(4:Int))))) then
    (zZ n x1 x2 n (((0:Int),x3))).bind fun (r7:PUnit×Vec 64)=>
    z8 n x1 m ((IntKind.wrap .i64 (x2+(1:Int)),r7.2))
   else
    none
  else
   bif eX (IntKind.wrap .i64 (x2-(15:Int))) 64 then
    bif eX (IntKind.wrap .i64 (x2-(2:Int))) 64 then
     (sj n ((x3.at' (IntKind.wrap .i64 (x2-(15:Int))),(-7:Int)))).bind fun (r8:Int)=>
     (sj n ((x3.at' (IntKind.wrap .i64 (x2-(15:Int))),(-18:Int)))).bind fun (r9:Int)=>
     bif decide ((0:Int)<=(3:Int)) then
      (sj n ((x3.at' (IntKind.wrap .i64 (x2-(2:Int))),(-17:Int)))).bind fun (bW:Int)=>
      (sj n ((x3.at' (IntKind.wrap .i64 (x2-(2:Int))),(-19:Int)))).bind fun (dw:Int)=>
      bif decide ((0:Int)<=(10:Int)) then
       bif eX (IntKind.wrap .i64 (x2-(16:Int))) 64 then
        bif eX (IntKind.wrap .i64 (x2-(7:Int))) 64 then
         bif eX x2 64 then
          z8 n x1 m ((IntKind.wrap .i64 (x2+(1:Int)),x3.set x2 (IntKind.wrap .u32 ((IntKind.wrap .u32 ((IntKind.wrap .u32 ((x3.at' (IntKind.wrap .i64 (x2-(16:Int))))+(eD IntKind.u32 (eD IntKind.u32 r8 r9) (aD IntKind.u32 (x3.at' (IntKind.wrap .i64 (x2-(15:Int)))) (3:Int)))))+(x3.at' (IntKind.wrap .i64 (x2-(7:Int))))))+(eD IntKind.u32 (eD IntKind.u32 bW dw) (aD IntKind.u32 (x3.at' (IntKind.wrap .i64 (x2-(2:Int)))) (10:Int)))))))
         else
          none
        else
         none
       else
        none
      else
       none
     else
      none
    else
     none
   else
    none
 else
  some (((),x3)):=by kernel_rfl
theorem ak9 (n:Nat) (x1:List Int):DC n x1=
 (z8 n x1 n (((0:Int),Vec.rep 64 (0:Int)))).bind fun (gM:PUnit×Vec 64)=>
 some gM.2:=by kernel_rfl
theorem ala (n:Nat) (x1:Int) (x2:Int) (x3:Int) (x4:Int):zW n (x1,(x2,(x3,x4)))=
 (sj n ((x1,IntKind.wrap .i64 ((0:Int)-x2)))).bind fun (r5:Int)=>
 (sj n ((x1,IntKind.wrap .i64 ((0:Int)-x3)))).bind fun (r6:Int)=>
 (sj n ((x1,IntKind.wrap .i64 ((0:Int)-x4)))).bind fun (r7:Int)=>
 some (eD IntKind.u32 (eD IntKind.u32 r5 r6) r7):=by kernel_rfl
noncomputable def DT (n:Nat) (x1:Vec 8) (r3:Vec 64) (m:Nat) (p:Int×(Vec 4)×Vec 4):Option (PUnit×(Vec 4)×Vec 4):=
 dA (R:=R) 4 (aJ ((aT Tryz.f169.body [1,1,1,0,1,0,0]).getD .skip)) (⟨[(2,TV.ref 2 0),(4,TV.ref 4 0),(5,TV.ref 5 0),(6,TV.ref 6 0),(7,TV.ref 7 0),(21,TV.sg [Sg.a IntKind.u32 64 yA])],[(2,Ob.ro (Ob.sg [Sg.a IntKind.u32 8 x1])),(4,Ob.ro (Ob.sg [Sg.a IntKind.u32 8 (Vec.rep 8 (0:Int))])),(5,Ob.ro (Ob.sg [Sg.a IntKind.u32 64 r3]))]⟩:MS R.T) (aU zX.loops 4).sh (aU zX.loops 4).outs (fun st k=>bA E R n false (Ho n) aZ zX ((aT Tryz.f169.body [1,1,1,0,1,0,0]).getD .skip) st k) m p
noncomputable def DU (n:Nat) (r9:PUnit×(Vec 4)×Vec 4) (m:Nat) (p:Int×Vec 8):Option (PUnit×Vec 8):=
 dA (R:=R) 12 (aJ ((aT Tryz.f169.body [1,1,1,1,0,1,0,0]).getD .skip)) (⟨[(2,TV.ref 2 0),(4,TV.ref 4 0),(6,TV.ref 6 0),(7,TV.ref 7 0)],[(4,Ob.ro (Ob.sg [Sg.a IntKind.u32 8 (Vec.rep 8 (0:Int))])),(6,Ob.ro (Ob.sg [Sg.a IntKind.u32 4 r9.2.1])),(7,Ob.ro (Ob.sg [Sg.a IntKind.u32 4 r9.2.2]))]⟩:MS R.T) (aU zX.loops 12).sh (aU zX.loops 12).outs (fun st k=>bA E R n false (Ho n) aZ zX ((aT Tryz.f169.body [1,1,1,1,0,1,0,0]).getD .skip) st k) m p
theorem aa3 (n:Nat) (x1:Vec 8) (r3:Vec 64) (m:Nat) (x4:Int) (x5:Vec 4) (x6:Vec 4):DT n x1 r3 (m+1) (x4,(x5,x6))=
 bif decide (x4< (64:Int)) then
  bif eX x4 64 then
   bif eX (3:Int) 4 then
    bif eX (0:Int) 4 then
     (zW n ((x6.at' (0:Int),((6:Int),((11:Int),(25:Int)))))).bind fun (r7:Int)=>
     bif eX (0:Int) 4 then
      bif eX (1:Int) 4 then
       bif eX (0:Int) 4 then
        bif eX (2:Int) 4 then
         bif eX x4 64 then
          bif eX (0:Int) 4 then
           (zW n ((x5.at' (0:Int),((2:Int),((13:Int),(22:Int)))))).bind fun (r8:Int)=>
           bif eX (0:Int) 4 then
            bif eX (1:Int) 4 then
             bif eX (0:Int) 4 then
              bif eX (2:Int) 4 then
               bif eX (1:Int) 4 then
                bif eX (2:Int) 4 then
                 bif eX (3:Int) 4 then
                  bif eX (0:Int) 4 then
                   bif eX (1:Int) 4 then
                    bif eX (2:Int) 4 then
                     bif eX (0:Int) 4 then
                      bif eX (1:Int) 4 then
                       bif eX (2:Int) 4 then
                        DT n x1 r3 m ((IntKind.wrap .i64 (x4+(1:Int)),(Vec.lit 4 [IntKind.wrap .u32 ((IntKind.wrap .u32 ((IntKind.wrap .u32 ((IntKind.wrap .u32 ((IntKind.wrap .u32 ((x6.at' (3:Int))+r7))+(eD IntKind.u32 (jr IntKind.u32 (x6.at' (0:Int)) (x6.at' (1:Int))) (jr IntKind.u32 (eD IntKind.u32 (4294967295:Int) (x6.at' (0:Int))) (x6.at' (2:Int))))))+(yA.at' x4)))+(r3.at' x4)))+(IntKind.wrap .u32 (r8+(eD IntKind.u32 (eD IntKind.u32 (jr IntKind.u32 (x5.at' (0:Int)) (x5.at' (1:Int))) (jr IntKind.u32 (x5.at' (0:Int)) (x5.at' (2:Int)))) (jr IntKind.u32 (x5.at' (1:Int)) (x5.at' (2:Int))))))),x5.at' (0:Int),x5.at' (1:Int),x5.at' (2:Int)],Vec.lit 4 [IntKind.wrap .u32 ((x5.at' (3:Int))+(IntKind.wrap .u32 ((IntKind.wrap .u32 ((IntKind.wrap .u32 ((IntKind.wrap .u32 ((x6.at' (3:Int))+r7))+(eD IntKind.u32 (jr IntKind.u32 (x6.at' (0:Int)) (x6.at' (1:Int))) (jr IntKind.u32 (eD IntKind.u32 (4294967295:Int) (x6.at' (0:Int))) (x6.at' (2:Int))))))+(yA.at' x4)))+(r3.at' x4)))),x6.at' (0:Int),x6.at' (1:Int),x6.at' (2:Int)])))
                       else
                        none
                      else
                       none
                     else
                      none
                    else
                     none
                   else
                    none
                  else
                   none
                 else
                  none
                else
                 none
               else
                none
              else
               none
             else
              none
            else
             none
           else
            none
          else
           none
         else
          none
        else
         none
       else
        none
      else
       none
     else
      none
    else
     none
   else
    none
  else
   none
 else
  some (((),(x5,x6))):=by kernel_rfl
theorem aa4 (n:Nat) (r9:PUnit×(Vec 4)×Vec 4) (m:Nat) (x10:Int) (bD:Vec 8):DU n r9 (m+1) (x10,bD)=
 bif decide (x10< (4:Int)) then
  bif eX x10 8 then
   bif eX x10 4 then
    bif eX x10 8 then
     bif eX (IntKind.wrap .i64 (x10+(4:Int))) 8 then
      bif eX x10 4 then
       bif eX (IntKind.wrap .i64 (x10+(4:Int))) 8 then
        DU n r9 m ((IntKind.wrap .i64 (x10+(1:Int)),(bD.set x10 (IntKind.wrap .u32 ((bD.at' x10)+(r9.2.1.at' x10)))).set (IntKind.wrap .i64 (x10+(4:Int))) (IntKind.wrap .u32 (((bD.set x10 (IntKind.wrap .u32 ((bD.at' x10)+(r9.2.1.at' x10)))).at' (IntKind.wrap .i64 (x10+(4:Int))))+(r9.2.2.at' x10)))))
       else
        none
      else
       none
     else
      none
    else
     none
   else
    none
  else
   none
 else
  some (((),bD)):=by kernel_rfl
theorem alb (n:Nat) (x1:Vec 8) (x2:List Int):DF n (x1,x2)=
 (DC n x2).bind fun (r3:Vec 64)=>
 bif ni 8 none (some (4:Int)) then
  bif decide (0<4/\((4:Nat):Int)<=(4:Int)-(0:Int)) then
   bif ni 8 (some (4:Int)) none then
    bif decide (0<4/\((4:Nat):Int)<=(8:Int)-(4:Int)) then
     (DT n x1 r3 n (((0:Int),(x1.slc (0:Int) 4,x1.slc (4:Int) 4)))).bind fun (r9:PUnit×(Vec 4)×Vec 4)=>
     (DU n r9 n (((0:Int),x1))).bind fun (gM:PUnit×Vec 8)=>
     some gM.2
    else
     none
   else
    none
  else
   none
 else
  none:=by kernel_rfl
noncomputable def DV (n:Nat) (m:Nat) (p:(List UInt8)×(Vec 8)×(Vec 64)×Int):Option (PUnit×(Vec 8)×(Vec 64)×Int):=
 dA (R:=R) 1 (aJ ((aT Tryz.f120.body [1,0,0,0]).getD .skip)) (⟨[(2,TV.ref 2 0),(4,TV.ref 4 0)],[(4,Ob.ro (Ob.sg [Sg.a IntKind.u32 8 (Vec.rep 8 (0:Int)),Sg.a IntKind.u8 64 (Vec.rep 64 (0:Int)),Sg.i IntKind.u64 (0:Int)]))]⟩:MS R.T) (aU MU.loops 1).sh (aU MU.loops 1).outs (fun st k=>bA E R n false (MR n) aZ MU ((aT Tryz.f120.body [1,0,0,0]).getD .skip) st k) m p
theorem Uj (n:Nat) (m:Nat) (x5:List UInt8) (x6:Vec 8) (x7:Vec 64) (x8:Int):DV n (m+1) (x5,(x6,(x7,x8)))=
 bif !(x5==[]) then
  bif !((64:Int)==(0:Int)) then
   bif ni 64 (some (IntKind.wrap .i64 (Int.tmod x8 (64:Int)))) none then
    bif kF ((((List.take (Int.toNat ((64:Int)-(IntKind.wrap .i64 (Int.tmod x8 (64:Int))))) (List.map (fun b:UInt8=>((b.toNat:Nat):Int)) x5)).length:Nat):Int)) x5.length then
     bif (IntKind.wrap .i64 ((IntKind.wrap .i64 (Int.tmod x8 (64:Int)))+((((List.take (Int.toNat ((64:Int)-(IntKind.wrap .i64 (Int.tmod x8 (64:Int))))) (List.map (fun b:UInt8=>((b.toNat:Nat):Int)) x5)).length:Nat):Int))))==(64:Int) then
      (DF n ((x6,(x7.rO (IntKind.wrap .i64 (Int.tmod x8 (64:Int))) (List.take (Int.toNat ((64:Int)-(IntKind.wrap .i64 (Int.tmod x8 (64:Int))))) (List.map (fun b:UInt8=>((b.toNat:Nat):Int)) x5))).l))).bind fun (r9:Vec 8)=>
      DV n m ((List.drop (Int.toNat ((((List.take (Int.toNat ((64:Int)-(IntKind.wrap .i64 (Int.tmod x8 (64:Int))))) (List.map (fun b:UInt8=>((b.toNat:Nat):Int)) x5)).length:Nat):Int))) x5,(r9,(x7.rO (IntKind.wrap .i64 (Int.tmod x8 (64:Int))) (List.take (Int.toNat ((64:Int)-(IntKind.wrap .i64 (Int.tmod x8 (64:Int))))) (List.map (fun b:UInt8=>((b.toNat:Nat):Int)) x5)),IntKind.wrap .u64 (x8+(IntKind.wrap .u64 ((((List.take (Int.toNat ((64:Int)-(IntKind.wrap .i64 (Int.tmod x8 (64:Int))))) (List.map (fun b:UInt8=>((b.toNat:Nat):Int)) x5)).length:Nat):Int))))))))
     else
      DV n m ((List.drop (Int.toNat ((((List.take (Int.toNat ((64:Int)-(IntKind.wrap .i64 (Int.tmod x8 (64:Int))))) (List.map (fun b:UInt8=>((b.toNat:Nat):Int)) x5)).length:Nat):Int))) x5,(x6,(x7.rO (IntKind.wrap .i64 (Int.tmod x8 (64:Int))) (List.take (Int.toNat ((64:Int)-(IntKind.wrap .i64 (Int.tmod x8 (64:Int))))) (List.map (fun b:UInt8=>((b.toNat:Nat):Int)) x5)),IntKind.wrap .u64 (x8+(IntKind.wrap .u64 ((((List.take (Int.toNat ((64:Int)-(IntKind.wrap .i64 (Int.tmod x8 (64:Int))))) (List.map (fun b:UInt8=>((b.toNat:Nat):Int)) x5)).length:Nat):Int))))))))
    else
     none
   else
    none
  else
   none
 else
  some (((),(x6,(x7,x8)))):=by kernel_rfl
theorem alc (n:Nat) (x1:Vec 8) (x2:Vec 64) (x3:Int) (x4:List UInt8):wz n ((x1,(x2,x3)),x4)=
 (DV n n ((x4,(x1,(x2,x3))))).bind fun (bW:PUnit×(Vec 8)×(Vec 64)×Int)=>
 some ((bW.2.1,(bW.2.2.1,bW.2.2.2))):=by kernel_rfl
noncomputable def DW (n:Nat) (m:Nat) (p:Int×List Int):Option (Int×List Int):=
 dA (R:=R) 3 (aJ ((aT Tryz.f90.body [1,1,1,0,0,0]).getD .skip)) (⟨[],[]⟩:MS R.T) (aU MX.loops 3).sh (aU MX.loops 3).outs (fun st k=>bA E R n false (MW n) aZ MX ((aT Tryz.f90.body [1,1,1,0,0,0]).getD .skip) st k) m p
theorem aa5 (n:Nat) (m:Nat) (x2:Int) (x3:List Int):DW n (m+1) (x2,x3)=
 bif decide (x2> (127:Int)) then
  bif bJ (x3.length+([kR IntKind.u8 (IntKind.wrap .u8 x2) (128:Int)].length)) 1 then
   bif decide ((0:Int)<=(7:Int)) then
    DW n m ((aD IntKind.u64 x2 (7:Int),x3++[kR IntKind.u8 (IntKind.wrap .u8 x2) (128:Int)]))
   else
    none
  else
   none
 else
  some ((x2,x3)):=by kernel_rfl
theorem ald (n:Nat) (x1:Int):zY n x1=
 bif decide ((0:Int)<=(1:Int)) then
  bif decide ((0:Int)<=(63:Int)) then
   (DW n n ((eD IntKind.u64 (mQ IntKind.u64 (IntKind.wrap .u64 x1) (1:Int)) (IntKind.wrap .u64 (aD IntKind.i64 x1 (63:Int))),[]))).bind fun (r4:Int×List Int)=>
   bif bJ (r4.2.length+([IntKind.wrap .u8 r4.1].length)) 1 then
    some (r4.2++[IntKind.wrap .u8 r4.1])
   else
    none
  else
   none
 else
  none:=by kernel_rfl
theorem ale (n:Nat) (x1:List UInt8):DJ n x1=
 (zY n (((x1.length:Nat):Int))).bind fun (r2:List Int)=>
 bif bJ (r2.length+((List.map (fun b:UInt8=>((b.toNat:Nat):Int)) x1).length)) 1 then
  some (r2++(List.map (fun b:UInt8=>((b.toNat:Nat):Int)) x1))
 else
  none:=by kernel_rfl
noncomputable def Hz (n:Nat) (x1:Vec 8) (x2:Vec 64) (x3:Int) (m:Nat) (p:List Int):Option (List Int):=
 dA (R:=R) 3 (aJ ((aT Tryz.f122.body [1,1,1,0,0,0]).getD .skip)) (⟨[(1,TV.ref 1 0),(2,TV.ref 2 0),(3,TV.int IntKind.u64 (IntKind.wrap .u64 ((8:Int)*x3)))],[(1,Ob.ro (Ob.sg [Sg.a IntKind.u32 8 x1,Sg.a IntKind.u8 64 x2,Sg.i IntKind.u64 x3])),(2,Ob.ro (Ob.sg [Sg.a IntKind.u8 32 (Vec.rep 32 (0:Int))]))]⟩:MS R.T) (aU uN.loops 3).sh (aU uN.loops 3).outs (fun st k=>bA E R n false (DK n) aZ uN ((aT Tryz.f122.body [1,1,1,0,0,0]).getD .skip) st k) m p
noncomputable def DX (n:Nat) (x1:Vec 8) (x2:Vec 64) (x3:Int) (m:Nat) (p:(List Int)×Int):Option (List Int):=
 dA (R:=R) 6 (aJ ((aT Tryz.f122.body [1,1,1,1,0,1,0,0]).getD .skip)) (⟨[(1,TV.ref 1 0),(2,TV.ref 2 0),(3,TV.int IntKind.u64 (IntKind.wrap .u64 ((8:Int)*x3)))],[(1,Ob.ro (Ob.sg [Sg.a IntKind.u32 8 x1,Sg.a IntKind.u8 64 x2,Sg.i IntKind.u64 x3])),(2,Ob.ro (Ob.sg [Sg.a IntKind.u8 32 (Vec.rep 32 (0:Int))]))]⟩:MS R.T) (aU uN.loops 6).sh (aU uN.loops 6).outs (fun st k=>bA E R n false (DK n) aZ uN ((aT Tryz.f122.body [1,1,1,1,0,1,0,0]).getD .skip) st k) m p
noncomputable def DY (n:Nat) (r9:(Vec 8)×(Vec 64)×Int) (m:Nat) (p:Int×Vec 32):Option (PUnit×Vec 32):=
 dA (R:=R) 13 (aJ ((aT Tryz.f122.body [1,1,1,1,1,1,1,0,1,0,0]).getD .skip)) (⟨[(1,TV.ref 1 0),(2,TV.ref 2 0),(6,TV.ref 6 0)],[(1,Ob.ro (Ob.sg [Sg.a IntKind.u32 8 r9.1,Sg.a IntKind.u8 64 r9.2.1,Sg.i IntKind.u64 r9.2.2])),(2,Ob.ro (Ob.sg [Sg.a IntKind.u8 32 (Vec.rep 32 (0:Int))]))]⟩:MS R.T) (aU uN.loops 13).sh (aU uN.loops 13).outs (fun st k=>bA E R n false (DK n) aZ uN ((aT Tryz.f122.body [1,1,1,1,1,1,1,0,1,0,0]).getD .skip) st k) m p
theorem aa6 (n:Nat) (x1:Vec 8) (x2:Vec 64) (x3:Int) (m:Nat) (x4:List Int):Hz n x1 x2 x3 (m+1) x4=
 bif !((64:Int)==(0:Int)) then
  bif (Int.tmod (IntKind.wrap .i64 ((IntKind.wrap .i64 x3)+(((x4.length:Nat):Int)))) (64:Int)) !=(56:Int) then
   bif bJ (x4.length+([(0:Int)].length)) 1 then
    Hz n x1 x2 x3 m (x4++[(0:Int)])
   else
    none
  else
   some x4
 else
  none:=by kernel_rfl
theorem aa7 (n:Nat) (x1:Vec 8) (x2:Vec 64) (x3:Int) (m:Nat) (x6:List Int) (x7:Int):DX n x1 x2 x3 (m+1) (x6,x7)=
 bif decide (x7< (8:Int)) then
  bif decide ((0:Int)<=(IntKind.wrap .i64 ((56:Int)-(IntKind.wrap .i64 ((8:Int)*x7))))) then
   bif bJ (x6.length+([IntKind.wrap .u8 (aD IntKind.u64 (IntKind.wrap .u64 ((8:Int)*x3)) (IntKind.wrap .i64 ((56:Int)-(IntKind.wrap .i64 ((8:Int)*x7)))))].length)) 1 then
    DX n x1 x2 x3 m ((x6++[IntKind.wrap .u8 (aD IntKind.u64 (IntKind.wrap .u64 ((8:Int)*x3)) (IntKind.wrap .i64 ((56:Int)-(IntKind.wrap .i64 ((8:Int)*x7)))))],IntKind.wrap .i64 (x7+(1:Int))))
   else
    none
  else
   none
 else
  some x6:=by kernel_rfl
theorem aa8 (n:Nat) (r9:(Vec 8)×(Vec 64)×Int) (m:Nat) (x10:Int) (bD:Vec 32):DY n r9 (m+1) (x10,bD)=
 bif decide (x10< (32:Int)) then
  bif !((4:Int)==(0:Int)) then
   bif eX (IntKind.wrap .i64 (Int.tdiv x10 (4:Int))) 8 then
    bif !((4:Int)==(0:Int)) then
     bif decide ((0:Int)<=(IntKind.wrap .i64 ((24:Int)-(IntKind.wrap .i64 ((8:Int)*(Int.tmod x10 (4:Int))))))) then
      bif eX x10 32 then
       DY n r9 m ((IntKind.wrap .i64 (x10+(1:Int)),bD.set x10 (IntKind.wrap .u8 (aD IntKind.u32 (r9.1.at' (IntKind.wrap .i64 (Int.tdiv x10 (4:Int)))) (IntKind.wrap .i64 ((24:Int)-(IntKind.wrap .i64 ((8:Int)*(Int.tmod x10 (4:Int))))))))))
      else
       none
     else
      none
    else
     none
   else
    none
  else
   none
 else
  some (((),bD)):=by kernel_rfl
theorem alf (n:Nat) (x1:Vec 8) (x2:Vec 64) (x3:Int):DL n (x1,(x2,x3))=
 (Hz n x1 x2 x3 n [(128:Int)]).bind fun (r5:List Int)=>
 (DX n x1 x2 x3 n ((r5,(0:Int)))).bind fun (r8:List Int)=>
 (wz n (((x1,(x2,x3)),List.map (fun n:Int=>UInt8.ofNat n.toNat) r8))).bind fun (r9:(Vec 8)×(Vec 64)×Int)=>
 (DY n r9 n (((0:Int),Vec.rep 32 (0:Int)))).bind fun (gM:PUnit×Vec 32)=>
 some gM.2:=by kernel_rfl
noncomputable def HV (n:Nat) (x2:List (List UInt8)) (m:Nat) (p:Int×(Vec 8)×(Vec 64)×Int):Option (PUnit×(Vec 8)×(Vec 64)×Int):=
 dA (R:=R) 3 (aJ ((aT Tryz.f71.body [1,1,0,1,0,0]).getD .skip)) (⟨[(4,TV.ref 4 0),(5,TV.ref 5 0),(15,TV.aj (T:=R.T) Cp.sh Ty.str x2),(16,TV.int IntKind.i64 (((x2.length:Nat):Int)))],[(4,Ob.ro (Ob.cells [TV.int IntKind.u8 (0:Int),TV.int IntKind.u8 (0:Int),TV.int IntKind.u8 (0:Int),TV.int IntKind.u8 (0:Int),TV.int IntKind.u8 (0:Int),TV.int IntKind.u8 (0:Int),TV.int IntKind.u8 (0:Int),TV.int IntKind.u8 (0:Int),TV.int IntKind.u8 (0:Int),TV.int IntKind.u8 (0:Int),TV.int IntKind.u8 (0:Int),TV.int IntKind.u8 (0:Int),TV.int IntKind.u8 (0:Int),TV.int IntKind.u8 (0:Int),TV.int IntKind.u8 (0:Int),TV.int IntKind.u8 (0:Int)]))]⟩:MS R.T) (aU M5.loops 3).sh (aU M5.loops 3).outs (fun st k=>bA E R n false (M4 n) aZ M5 ((aT Tryz.f71.body [1,1,0,1,0,0]).getD .skip) st k) m p
theorem aa9 (n:Nat) (x2:List (List UInt8)) (m:Nat) (x5:Int) (x6:Vec 8) (x7:Vec 64) (x8:Int):HV n x2 (m+1) (x5,(x6,(x7,x8)))=
 bif decide (x5< (((x2.length:Nat):Int))) then
  (aB x2 x5).bind fun (r9:List UInt8)=>
  (DJ n r9).bind fun (bW:List Int)=>
  (wz n (((x6,(x7,x8)),List.map (fun n:Int=>UInt8.ofNat n.toNat) bW))).bind fun (dw:(Vec 8)×(Vec 64)×Int)=>
  HV n x2 m ((IntKind.wrap .i64 (x5+(1:Int)),(dw.1,(dw.2.1,dw.2.2))))
 else
  some (((),(x6,(x7,x8)))):=by kernel_rfl
theorem alg (n:Nat) (x1:Int) (x2:List (List UInt8)):Hy n (x1,x2)=
 (Dz n (())).bind fun (r3:(Vec 8)×(Vec 64)×Int)=>
 (wz n (((r3.1,(r3.2.1,r3.2.2)),List.map (fun n:Int=>UInt8.ofNat n.toNat) [IntKind.wrap .u8 x1]))).bind fun (r4:(Vec 8)×(Vec 64)×Int)=>
 (HV n x2 n (((0:Int),(r4.1,(r4.2.1,r4.2.2))))).bind fun (gM:PUnit×(Vec 8)×(Vec 64)×Int)=>
 (DL n ((gM.2.1,(gM.2.2.1,gM.2.2.2)))).bind fun (eG:Vec 32)=>
 bif ni 32 none (some (16:Int)) then
  bif decide (0<16/\((16:Nat):Int)<=(16:Int)-(0:Int)) then
   some ((⟨eG.nth 0,eG.nth 1,eG.nth 2,eG.nth 3,eG.nth 4,eG.nth 5,eG.nth 6,eG.nth 7,eG.nth 8,eG.nth 9,eG.nth 10,eG.nth 11,eG.nth 12,eG.nth 13,eG.nth 14,eG.nth 15⟩:bK))
  else
   none
 else
  none:=by kernel_rfl
attribute [irreducible] zZ z8 DT DU DV DW Hz DX DY HV
end Sh
