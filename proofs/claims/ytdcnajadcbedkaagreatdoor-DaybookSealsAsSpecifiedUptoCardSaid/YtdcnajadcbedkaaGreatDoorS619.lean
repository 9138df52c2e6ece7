/- Part of the proof of a law. -/
import Derived.Test.YtdcnajadcbedkaaGreatDoorS618
set_option linter.all false
set_option linter.unusedSimpArgs false
set_option linter.unusedSectionVars false
open Go Go.Proofs Aq
namespace Sh
set_option maxRecDepth 100000
set_option linter.unusedVariables false
def bV (l:List (Nat×Note)) (k:Nat):Note:=match look l k with
 |some q=>q
 |none=>⟨[],[],⟨[],[]⟩,[]⟩
theorem ajJ (n:Nat):AX n ()=
 some ((Vec.lit 8 [(1779033703:Int),(3144134277:Int),(1013904242:Int),(2773480762:Int),(1359893119:Int),(2600822924:Int),(528734635:Int),(1541459225:Int)],(Vec.lit 64 [(0:Int),(0:Int),(0:Int),(0:Int),(0:Int),(0:Int),(0:Int),(0:Int),(0:Int),(0:Int),(0:Int),(0:Int),(0:Int),(0:Int),(0:Int),(0:Int),(0:Int),(0:Int),(0:Int),(0:Int),(0:Int),(0:Int),(0:Int),(0:Int),(0:Int),(0:Int),(0:Int),(0:Int),(0:Int),(0:Int),(0:Int),(0:Int),(0:Int),(0:Int),(0:Int),(0:Int),(0:Int),(0:Int),(0:Int),(0:Int),(0:Int),(0:Int),(0:Int),(0:Int),(0:Int),(0:Int),(0:Int),(0:Int),(0:Int),(0:Int),(0:Int),(0:Int),(0:Int),(0:Int),(0:Int),(0:Int),(0:Int),(0:Int),(0:Int),(0:Int),(0:Int),(0:Int),(0:Int),(0:Int)],(0:Int)))):=by kernel_rfl
theorem ajK (n:Nat) (x1:Int) (x2:Int):qp n (x1,x2)=
 bif decide ((0:Int)≤(fE IntKind.u64 (IntKind.wrap IntKind.u64 x2) (31:Int))) then
  bif decide ((0:Int)≤(IntKind.wrap IntKind.u64 ((32:Int)-(fE IntKind.u64 (IntKind.wrap IntKind.u64 x2) (31:Int))))) then
   some (iQ IntKind.u32 (jM IntKind.u32 x1 (fE IntKind.u64 (IntKind.wrap IntKind.u64 x2) (31:Int))) (gH IntKind.u32 x1 (IntKind.wrap IntKind.u64 ((32:Int)-(fE IntKind.u64 (IntKind.wrap IntKind.u64 x2) (31:Int))))))
  else
   none
 else
  none:=by kernel_rfl
noncomputable def yh (n:Nat) (x1:List Int) (x2:Int) (m:Nat) (p:Int×Vec 64):Option (PUnit×Vec 64):=
 eP (R:=R) 7 (aK ((bL Tryz.f198.body [1,1,0,1,0,0,1,1,0,0,1,0,1,0,0,1,0,0]).getD .skip)) (⟨[(0,TV.aj (T:=R.T) Cp.sh (Ty.int IntKind.u8) x1),(2,TV.ref 2 0),(3,TV.ref 3 0),(4,TV.int IntKind.i64 x2),(11,TV.int IntKind.i64 x2),(22,TV.aj (T:=R.T) Cp.any (Ty.int IntKind.u8) (List.drop (Int.toNat (IntKind.wrap IntKind.i64 ((4:Int)*x2))) (List.take (Int.toNat (IntKind.wrap IntKind.i64 ((IntKind.wrap IntKind.i64 ((4:Int)*x2))+(4:Int)))) x1))),(23,TV.int IntKind.i64 ((((List.drop (Int.toNat (IntKind.wrap IntKind.i64 ((4:Int)*x2))) (List.take (Int.toNat (IntKind.wrap IntKind.i64 ((IntKind.wrap IntKind.i64 ((4:Int)*x2))+(4:Int)))) x1)).length:Nat):Int)))],[(2,Ob.ro (Ob.ro (Ob.sg [Sg.a IntKind.u32 64 (Vec.rep 64 (0:Int))])))]⟩:MS R.T) (bV xS.loops 7).sh (bV xS.loops 7).outs (fun st k=>bS E R n false (EF n) aS xS ((bL Tryz.f198.body [1,1,0,1,0,0,1,1,0,0,1,0,1,0,0,1,0,0]).getD .skip) st k) m p
noncomputable def yj (n:Nat) (x1:List Int) (m:Nat) (p:Int×Vec 64):Option (PUnit×Vec 64):=
 eP (R:=R) 3 (aK ((bL Tryz.f198.body [1,1,0,1,0,0]).getD .skip)) (⟨[(0,TV.aj (T:=R.T) Cp.sh (Ty.int IntKind.u8) x1),(2,TV.ref 2 0),(3,TV.ref 3 0)],[(2,Ob.ro (Ob.sg [Sg.a IntKind.u32 64 (Vec.rep 64 (0:Int))]))]⟩:MS R.T) (bV xS.loops 3).sh (bV xS.loops 3).outs (fun st k=>bS E R n false (EF n) aS xS ((bL Tryz.f198.body [1,1,0,1,0,0]).getD .skip) st k) m p
theorem ZB (n:Nat) (x1:List Int) (x2:Int) (m:Nat) (x4:Int) (x5:Vec 64):yh n x1 x2 (m+1) (x4,x5)=
 bif decide (x4< ((((List.drop (Int.toNat (IntKind.wrap IntKind.i64 ((4:Int)*x2))) (List.take (Int.toNat (IntKind.wrap IntKind.i64 ((IntKind.wrap IntKind.i64 ((4:Int)*x2))+(4:Int)))) x1)).length:Nat):Int))) then
  (dw (List.drop (Int.toNat (IntKind.wrap IntKind.i64 ((4:Int)*x2))) (List.take (Int.toNat (IntKind.wrap IntKind.i64 ((IntKind.wrap IntKind.i64 ((4:Int)*x2))+(4:Int)))) x1)) x4).bind fun (r6:Int)=>
  bif bq x2 64 then
   bif decide ((0:Int)≤(8:Int)) then
    bif bq x2 64 then
     yh n x1 x2 m ((IntKind.wrap IntKind.i64 (x4+(1:Int)),x5.set x2 (iQ IntKind.u32 (jM IntKind.u32 (x5.at' x2) (8:Int)) (IntKind.wrap IntKind.u32 r6))))
    else
     none
   else
    none
  else
   none
 else
  some (((),x5)):=by kernel_rfl
theorem RH (n:Nat) (x1:List Int) (m:Nat) (x2:Int) (x3:Vec 64):yj n x1 (m+1) (x2,x3)=
 bif decide (x2< (64:Int)) then
  bif decide (x2< (16:Int)) then
   bif (jr (IntKind.wrap IntKind.i64 ((IntKind.wrap IntKind.i64 ((4:Int)*x2))+(4:Int))) x1.length)&& (jr (IntKind.wrap IntKind.i64 ((4:Int)*x2)) (Int.toNat (IntKind.wrap IntKind.i64 ((IntKind.wrap IntKind.i64 ((4:Int)*x2))+(4:Int))))) then
    (yh n x1 x2 n (((0:Int),x3))).bind fun (r7:PUnit×Vec 64)=>
    yj n x1 m ((IntKind.wrap IntKind.i64 (x2+(1:Int)),r7.2))
   else
    none
  else
   bif bq (IntKind.wrap IntKind.i64 (x2-(15:Int))) 64 then
    bif bq (IntKind.wrap IntKind.i64 (x2-(2:Int))) 64 then
     (qp n ((x3.at' (IntKind.wrap IntKind.i64 (x2-(15:Int))),(-7:Int)))).bind fun (r8:Int)=>
     (qp n ((x3.at' (IntKind.wrap IntKind.i64 (x2-(15:Int))),(-18:Int)))).bind fun (r9:Int)=>
     bif decide ((0:Int)≤(3:Int)) then
      (qp n ((x3.at' (IntKind.wrap IntKind.i64 (x2-(2:Int))),(-17:Int)))).bind fun (cu:Int)=>
      (qp n ((x3.at' (IntKind.wrap IntKind.i64 (x2-(2:Int))),(-19:Int)))).bind fun (jc:Int)=>
      bif decide ((0:Int)≤(10:Int)) then
       bif bq (IntKind.wrap IntKind.i64 (x2-(16:Int))) 64 then
        bif bq (IntKind.wrap IntKind.i64 (x2-(7:Int))) 64 then
         bif bq x2 64 then
          yj n x1 m ((IntKind.wrap IntKind.i64 (x2+(1:Int)),x3.set x2 (IntKind.wrap IntKind.u32 ((IntKind.wrap IntKind.u32 ((IntKind.wrap IntKind.u32 ((x3.at' (IntKind.wrap IntKind.i64 (x2-(16:Int))))+(cK IntKind.u32 (cK IntKind.u32 r8 r9) (gH IntKind.u32 (x3.at' (IntKind.wrap IntKind.i64 (x2-(15:Int)))) (3:Int)))))+(x3.at' (IntKind.wrap IntKind.i64 (x2-(7:Int))))))+(cK IntKind.u32 (cK IntKind.u32 cu jc) (gH IntKind.u32 (x3.at' (IntKind.wrap IntKind.i64 (x2-(2:Int)))) (10:Int)))))))
         else
          none
        else
         none
       else
        none
      else
       none
     else
      none
    else
     none
   else
    none
 else
  some (((),x3)):=by kernel_rfl
theorem ajL (n:Nat) (x1:List Int):AY n x1=
 (yj n x1 n (((0:Int),Vec.rep 64 (0:Int)))).bind fun (iA:PUnit×Vec 64)=>
 some iA.2:=by kernel_rfl
theorem ajM (n:Nat) (x1:Int) (x2:Int) (x3:Int) (x4:Int):xU n (x1,(x2,(x3,x4)))=
 (qp n ((x1,IntKind.wrap IntKind.i64 ((0:Int)-x2)))).bind fun (r5:Int)=>
 (qp n ((x1,IntKind.wrap IntKind.i64 ((0:Int)-x3)))).bind fun (r6:Int)=>
 (qp n ((x1,IntKind.wrap IntKind.i64 ((0:Int)-x4)))).bind fun (r7:Int)=>
 some (cK IntKind.u32 (cK IntKind.u32 r5 r6) r7):=by kernel_rfl
noncomputable def Bp (n:Nat) (x1:Vec 8) (r3:Vec 64) (m:Nat) (p:Int×(Vec 4)×Vec 4):Option (PUnit×(Vec 4)×Vec 4):=
 eP (R:=R) 4 (aK ((bL Tryz.f169.body [1,1,1,0,1,0,0]).getD .skip)) (⟨[(2,TV.ref 2 0),(4,TV.ref 4 0),(5,TV.ref 5 0),(6,TV.ref 6 0),(7,TV.ref 7 0),(21,TV.sg [Sg.a IntKind.u32 64 rX])],[(2,Ob.ro (Ob.sg [Sg.a IntKind.u32 8 x1])),(4,Ob.ro (Ob.sg [Sg.a IntKind.u32 8 (Vec.rep 8 (0:Int))])),(5,Ob.ro (Ob.sg [Sg.a IntKind.u32 64 r3]))]⟩:MS R.T) (bV xV.loops 4).sh (bV xV.loops 4).outs (fun st k=>bS E R n false (EI n) aS xV ((bL Tryz.f169.body [1,1,1,0,1,0,0]).getD .skip) st k) m p
noncomputable def Bq (n:Nat) (r9:PUnit×(Vec 4)×Vec 4) (m:Nat) (p:Int×Vec 8):Option (PUnit×Vec 8):=
 eP (R:=R) 12 (aK ((bL Tryz.f169.body [1,1,1,1,0,1,0,0]).getD .skip)) (⟨[(2,TV.ref 2 0),(4,TV.ref 4 0),(6,TV.ref 6 0),(7,TV.ref 7 0)],[(4,Ob.ro (Ob.sg [Sg.a IntKind.u32 8 (Vec.rep 8 (0:Int))])),(6,Ob.ro (Ob.sg [Sg.a IntKind.u32 4 r9.2.1])),(7,Ob.ro (Ob.sg [Sg.a IntKind.u32 4 r9.2.2]))]⟩:MS R.T) (bV xV.loops 12).sh (bV xV.loops 12).outs (fun st k=>bS E R n false (EI n) aS xV ((bL Tryz.f169.body [1,1,1,1,0,1,0,0]).getD .skip) st k) m p
theorem ZC (n:Nat) (x1:Vec 8) (r3:Vec 64) (m:Nat) (x4:Int) (x5:Vec 4) (x6:Vec 4):Bp n x1 r3 (m+1) (x4,(x5,x6))=
 bif decide (x4< (64:Int)) then
  bif bq x4 64 then
   bif bq (3:Int) 4 then
    bif bq (0:Int) 4 then
     (xU n ((x6.at' (0:Int),((6:Int),((11:Int),(25:Int)))))).bind fun (r7:Int)=>
     bif bq (0:Int) 4 then
      bif bq (1:Int) 4 then
       bif bq (0:Int) 4 then
        bif bq (2:Int) 4 then
         bif bq x4 64 then
          bif bq (0:Int) 4 then
           (xU n ((x5.at' (0:Int),((2:Int),((13:Int),(22:Int)))))).bind fun (r8:Int)=>
           bif bq (0:Int) 4 then
            bif bq (1:Int) 4 then
             bif bq (0:Int) 4 then
              bif bq (2:Int) 4 then
               bif bq (1:Int) 4 then
                bif bq (2:Int) 4 then
                 bif bq (3:Int) 4 then
                  bif bq (0:Int) 4 then
                   bif bq (1:Int) 4 then
                    bif bq (2:Int) 4 then
                     bif bq (0:Int) 4 then
                      bif bq (1:Int) 4 then
                       bif bq (2:Int) 4 then
                        Bp n x1 r3 m ((IntKind.wrap IntKind.i64 (x4+(1:Int)),(Vec.lit 4 [IntKind.wrap IntKind.u32 ((IntKind.wrap IntKind.u32 ((IntKind.wrap IntKind.u32 ((IntKind.wrap IntKind.u32 ((IntKind.wrap IntKind.u32 ((x6.at' (3:Int))+r7))+(cK IntKind.u32 (fE IntKind.u32 (x6.at' (0:Int)) (x6.at' (1:Int))) (fE IntKind.u32 (cK IntKind.u32 (4294967295:Int) (x6.at' (0:Int))) (x6.at' (2:Int))))))+(rX.at' x4)))+(r3.at' x4)))+(IntKind.wrap IntKind.u32 (r8+(cK IntKind.u32 (cK IntKind.u32 (fE IntKind.u32 (x5.at' (0:Int)) (x5.at' (1:Int))) (fE IntKind.u32 (x5.at' (0:Int)) (x5.at' (2:Int)))) (fE IntKind.u32 (x5.at' (1:Int)) (x5.at' (2:Int))))))),x5.at' (0:Int),x5.at' (1:Int),x5.at' (2:Int)],Vec.lit 4 [IntKind.wrap IntKind.u32 ((x5.at' (3:Int))+(IntKind.wrap IntKind.u32 ((IntKind.wrap IntKind.u32 ((IntKind.wrap IntKind.u32 ((IntKind.wrap IntKind.u32 ((x6.at' (3:Int))+r7))+(cK IntKind.u32 (fE IntKind.u32 (x6.at' (0:Int)) (x6.at' (1:Int))) (fE IntKind.u32 (cK IntKind.u32 (4294967295:Int) (x6.at' (0:Int))) (x6.at' (2:Int))))))+(rX.at' x4)))+(r3.at' x4)))),x6.at' (0:Int),x6.at' (1:Int),x6.at' (2:Int)])))
                       else
                        none
                      else
                       none
                     else
                      none
                    else
                     none
                   else
                    none
                  else
                   none
                 else
                  none
                else
                 none
               else
                none
              else
               none
             else
              none
            else
             none
           else
            none
          else
           none
         else
          none
        else
         none
       else
        none
      else
       none
     else
      none
    else
     none
   else
    none
  else
   none
 else
  some (((),(x5,x6))):=by kernel_rfl
theorem ZE (n:Nat) (r9:PUnit×(Vec 4)×Vec 4) (m:Nat) (x10:Int) (og:Vec 8):Bq n r9 (m+1) (x10,og)=
 bif decide (x10< (4:Int)) then
  bif bq x10 8 then
   bif bq x10 4 then
    bif bq x10 8 then
     bif bq (IntKind.wrap IntKind.i64 (x10+(4:Int))) 8 then
      bif bq x10 4 then
       bif bq (IntKind.wrap IntKind.i64 (x10+(4:Int))) 8 then
        Bq n r9 m ((IntKind.wrap IntKind.i64 (x10+(1:Int)),(og.set x10 (IntKind.wrap IntKind.u32 ((og.at' x10)+(r9.2.1.at' x10)))).set (IntKind.wrap IntKind.i64 (x10+(4:Int))) (IntKind.wrap IntKind.u32 (((og.set x10 (IntKind.wrap IntKind.u32 ((og.at' x10)+(r9.2.1.at' x10)))).at' (IntKind.wrap IntKind.i64 (x10+(4:Int))))+(r9.2.2.at' x10)))))
       else
        none
      else
       none
     else
      none
    else
     none
   else
    none
  else
   none
 else
  some (((),og)):=by kernel_rfl
theorem ajN (n:Nat) (x1:Vec 8) (x2:List Int):AZ n (x1,x2)=
 (AY n x2).bind fun (r3:Vec 64)=>
 bif l9 8 none (some (4:Int)) then
  bif decide (0<4∧((4:Nat):Int)≤(4:Int)-(0:Int)) then
   bif l9 8 (some (4:Int)) none then
    bif decide (0<4∧((4:Nat):Int)≤(8:Int)-(4:Int)) then
     (Bp n x1 r3 n (((0:Int),(x1.slc (0:Int) 4,x1.slc (4:Int) 4)))).bind fun (r9:PUnit×(Vec 4)×Vec 4)=>
     (Bq n r9 n (((0:Int),x1))).bind fun (iA:PUnit×Vec 8)=>
     some iA.2
    else
     none
   else
    none
  else
   none
 else
  none:=by kernel_rfl
noncomputable def Br (n:Nat) (m:Nat) (p:(List UInt8)×(Vec 8)×(Vec 64)×Int):Option (PUnit×(Vec 8)×(Vec 64)×Int):=
 eP (R:=R) 1 (aK ((bL Tryz.f120.body [1,0,0,0]).getD .skip)) (⟨[(2,TV.ref 2 0),(4,TV.ref 4 0)],[(4,Ob.ro (Ob.sg [Sg.a IntKind.u32 8 (Vec.rep 8 (0:Int)),Sg.a IntKind.u8 64 (Vec.rep 64 (0:Int)),Sg.i IntKind.u64 (0:Int)]))]⟩:MS R.T) (bV KF.loops 1).sh (bV KF.loops 1).outs (fun st k=>bS E R n false (KE n) aS KF ((bL Tryz.f120.body [1,0,0,0]).getD .skip) st k) m p
theorem RI (n:Nat) (m:Nat) (x5:List UInt8) (x6:Vec 8) (x7:Vec 64) (x8:Int):Br n (m+1) (x5,(x6,(x7,x8)))=
 bif !(x5==[]) then
  bif !((64:Int)==(0:Int)) then
   bif l9 64 (some (IntKind.wrap IntKind.i64 (Int.tmod x8 (64:Int)))) none then
    bif jr ((((List.take (Int.toNat ((64:Int)-(IntKind.wrap IntKind.i64 (Int.tmod x8 (64:Int))))) (List.map (fun b:UInt8=>((b.toNat:Nat):Int)) x5)).length:Nat):Int)) x5.length then
     bif (IntKind.wrap IntKind.i64 ((IntKind.wrap IntKind.i64 (Int.tmod x8 (64:Int)))+((((List.take (Int.toNat ((64:Int)-(IntKind.wrap IntKind.i64 (Int.tmod x8 (64:Int))))) (List.map (fun b:UInt8=>((b.toNat:Nat):Int)) x5)).length:Nat):Int))))==(64:Int) then
      (AZ n ((x6,(x7.pX (IntKind.wrap IntKind.i64 (Int.tmod x8 (64:Int))) (List.take (Int.toNat ((64:Int)-(IntKind.wrap IntKind.i64 (Int.tmod x8 (64:Int))))) (List.map (fun b:UInt8=>((b.toNat:Nat):Int)) x5))).l))).bind fun (r9:Vec 8)=>
      Br n m ((List.drop (Int.toNat ((((List.take (Int.toNat ((64:Int)-(IntKind.wrap IntKind.i64 (Int.tmod x8 (64:Int))))) (List.map (fun b:UInt8=>((b.toNat:Nat):Int)) x5)).length:Nat):Int))) x5,(r9,(x7.pX (IntKind.wrap IntKind.i64 (Int.tmod x8 (64:Int))) (List.take (Int.toNat ((64:Int)-(IntKind.wrap IntKind.i64 (Int.tmod x8 (64:Int))))) (List.map (fun b:UInt8=>((b.toNat:Nat):Int)) x5)),IntKind.wrap IntKind.u64 (x8+(IntKind.wrap IntKind.u64 ((((List.take (Int.toNat ((64:Int)-(IntKind.wrap IntKind.i64 (Int.tmod x8 (64:Int))))) (List.map (fun b:UInt8=>((b.toNat:Nat):Int)) x5)).length:Nat):Int))))))))
     else
      Br n m ((List.drop (Int.toNat ((((List.take (Int.toNat ((64:Int)-(IntKind.wrap IntKind.i64 (Int.tmod x8 (64:Int))))) (List.map (fun b:UInt8=>((b.toNat:Nat):Int)) x5)).length:Nat):Int))) x5,(x6,(x7.pX (IntKind.wrap IntKind.i64 (Int.tmod x8 (64:Int))) (List.take (Int.toNat ((64:Int)-(IntKind.wrap IntKind.i64 (Int.tmod x8 (64:Int))))) (List.map (fun b:UInt8=>((b.toNat:Nat):Int)) x5)),IntKind.wrap IntKind.u64 (x8+(IntKind.wrap IntKind.u64 ((((List.take (Int.toNat ((64:Int)-(IntKind.wrap IntKind.i64 (Int.tmod x8 (64:Int))))) (List.map (fun b:UInt8=>((b.toNat:Nat):Int)) x5)).length:Nat):Int))))))))
    else
     none
   else
    none
  else
   none
 else
  some (((),(x6,(x7,x8)))):=by kernel_rfl
theorem ajO (n:Nat) (x1:Vec 8) (x2:Vec 64) (x3:Int) (x4:List UInt8):uo n ((x1,(x2,x3)),x4)=
 (Br n n ((x4,(x1,(x2,x3))))).bind fun (cu:PUnit×(Vec 8)×(Vec 64)×Int)=>
 some ((cu.2.1,(cu.2.2.1,cu.2.2.2))):=by kernel_rfl
noncomputable def Bt (n:Nat) (m:Nat) (p:Int×List Int):Option (Int×List Int):=
 eP (R:=R) 3 (aK ((bL Tryz.f90.body [1,1,1,0,0,0]).getD .skip)) (⟨[],[]⟩:MS R.T) (bV KI.loops 3).sh (bV KI.loops 3).outs (fun st k=>bS E R n false (KH n) aS KI ((bL Tryz.f90.body [1,1,1,0,0,0]).getD .skip) st k) m p
theorem ZF (n:Nat) (m:Nat) (x2:Int) (x3:List Int):Bt n (m+1) (x2,x3)=
 bif decide (x2> (127:Int)) then
  bif dG (x3.length+([iQ IntKind.u8 (IntKind.wrap IntKind.u8 x2) (128:Int)].length)) 1 then
   bif decide ((0:Int)≤(7:Int)) then
    Bt n m ((gH IntKind.u64 x2 (7:Int),x3++[iQ IntKind.u8 (IntKind.wrap IntKind.u8 x2) (128:Int)]))
   else
    none
  else
   none
 else
  some ((x2,x3)):=by kernel_rfl
theorem ajP (n:Nat) (x1:Int):uq n x1=
 bif decide ((0:Int)≤(1:Int)) then
  bif decide ((0:Int)≤(63:Int)) then
   (Bt n n ((cK IntKind.u64 (jM IntKind.u64 (IntKind.wrap IntKind.u64 x1) (1:Int)) (IntKind.wrap IntKind.u64 (gH IntKind.i64 x1 (63:Int))),[]))).bind fun (r4:Int×List Int)=>
   bif dG (r4.2.length+([IntKind.wrap IntKind.u8 r4.1].length)) 1 then
    some (r4.2++[IntKind.wrap IntKind.u8 r4.1])
   else
    none
  else
   none
 else
  none:=by kernel_rfl
theorem ajQ (n:Nat) (x1:List UInt8):A9 n x1=
 (uq n (((x1.length:Nat):Int))).bind fun (r2:List Int)=>
 bif dG (r2.length+((List.map (fun b:UInt8=>((b.toNat:Nat):Int)) x1).length)) 1 then
  some (r2++(List.map (fun b:UInt8=>((b.toNat:Nat):Int)) x1))
 else
  none:=by kernel_rfl
noncomputable def Fb (n:Nat) (x1:Vec 8) (x2:Vec 64) (x3:Int) (m:Nat) (p:List Int):Option (List Int):=
 eP (R:=R) 3 (aK ((bL Tryz.f122.body [1,1,1,0,0,0]).getD .skip)) (⟨[(1,TV.ref 1 0),(2,TV.ref 2 0),(3,TV.int IntKind.u64 (IntKind.wrap IntKind.u64 ((8:Int)*x3)))],[(1,Ob.ro (Ob.sg [Sg.a IntKind.u32 8 x1,Sg.a IntKind.u8 64 x2,Sg.i IntKind.u64 x3])),(2,Ob.ro (Ob.sg [Sg.a IntKind.u8 32 (Vec.rep 32 (0:Int))]))]⟩:MS R.T) (bV rZ.loops 3).sh (bV rZ.loops 3).outs (fun st k=>bS E R n false (Ba n) aS rZ ((bL Tryz.f122.body [1,1,1,0,0,0]).getD .skip) st k) m p
noncomputable def Bu (n:Nat) (x1:Vec 8) (x2:Vec 64) (x3:Int) (m:Nat) (p:(List Int)×Int):Option (List Int):=
 eP (R:=R) 6 (aK ((bL Tryz.f122.body [1,1,1,1,0,1,0,0]).getD .skip)) (⟨[(1,TV.ref 1 0),(2,TV.ref 2 0),(3,TV.int IntKind.u64 (IntKind.wrap IntKind.u64 ((8:Int)*x3)))],[(1,Ob.ro (Ob.sg [Sg.a IntKind.u32 8 x1,Sg.a IntKind.u8 64 x2,Sg.i IntKind.u64 x3])),(2,Ob.ro (Ob.sg [Sg.a IntKind.u8 32 (Vec.rep 32 (0:Int))]))]⟩:MS R.T) (bV rZ.loops 6).sh (bV rZ.loops 6).outs (fun st k=>bS E R n false (Ba n) aS rZ ((bL Tryz.f122.body [1,1,1,1,0,1,0,0]).getD .skip) st k) m p
noncomputable def Bv (n:Nat) (r9:(Vec 8)×(Vec 64)×Int) (m:Nat) (p:Int×Vec 32):Option (PUnit×Vec 32):=
 eP (R:=R) 13 (aK ((bL Tryz.f122.body [1,1,1,1,1,1,1,0,1,0,0]).getD .skip)) (⟨[(1,TV.ref 1 0),(2,TV.ref 2 0),(6,TV.ref 6 0)],[(1,Ob.ro (Ob.sg [Sg.a IntKind.u32 8 r9.1,Sg.a IntKind.u8 64 r9.2.1,Sg.i IntKind.u64 r9.2.2])),(2,Ob.ro (Ob.sg [Sg.a IntKind.u8 32 (Vec.rep 32 (0:Int))]))]⟩:MS R.T) (bV rZ.loops 13).sh (bV rZ.loops 13).outs (fun st k=>bS E R n false (Ba n) aS rZ ((bL Tryz.f122.body [1,1,1,1,1,1,1,0,1,0,0]).getD .skip) st k) m p
theorem ZG (n:Nat) (x1:Vec 8) (x2:Vec 64) (x3:Int) (m:Nat) (x4:List Int):Fb n x1 x2 x3 (m+1) x4=
 bif !((64:Int)==(0:Int)) then
  bif (Int.tmod (IntKind.wrap IntKind.i64 ((IntKind.wrap IntKind.i64 x3)+(((x4.length:Nat):Int)))) (64:Int)) !=(56:Int) then
   bif dG (x4.length+([(0:Int)].length)) 1 then
    Fb n x1 x2 x3 m (x4++[(0:Int)])
   else
    none
  else
   some x4
 else
  none:=by kernel_rfl
theorem ZH (n:Nat) (x1:Vec 8) (x2:Vec 64) (x3:Int) (m:Nat) (x6:List Int) (x7:Int):Bu n x1 x2 x3 (m+1) (x6,x7)=
 bif decide (x7< (8:Int)) then
  bif decide ((0:Int)≤(IntKind.wrap IntKind.i64 ((56:Int)-(IntKind.wrap IntKind.i64 ((8:Int)*x7))))) then
   bif dG (x6.length+([IntKind.wrap IntKind.u8 (gH IntKind.u64 (IntKind.wrap IntKind.u64 ((8:Int)*x3)) (IntKind.wrap IntKind.i64 ((56:Int)-(IntKind.wrap IntKind.i64 ((8:Int)*x7)))))].length)) 1 then
    Bu n x1 x2 x3 m ((x6++[IntKind.wrap IntKind.u8 (gH IntKind.u64 (IntKind.wrap IntKind.u64 ((8:Int)*x3)) (IntKind.wrap IntKind.i64 ((56:Int)-(IntKind.wrap IntKind.i64 ((8:Int)*x7)))))],IntKind.wrap IntKind.i64 (x7+(1:Int))))
   else
    none
  else
   none
 else
  some x6:=by kernel_rfl
theorem ZI (n:Nat) (r9:(Vec 8)×(Vec 64)×Int) (m:Nat) (x10:Int) (og:Vec 32):Bv n r9 (m+1) (x10,og)=
 bif decide (x10< (32:Int)) then
  bif !((4:Int)==(0:Int)) then
   bif bq (IntKind.wrap IntKind.i64 (Int.tdiv x10 (4:Int))) 8 then
    bif !((4:Int)==(0:Int)) then
     bif decide ((0:Int)≤(IntKind.wrap IntKind.i64 ((24:Int)-(IntKind.wrap IntKind.i64 ((8:Int)*(Int.tmod x10 (4:Int))))))) then
      bif bq x10 32 then
       Bv n r9 m ((IntKind.wrap IntKind.i64 (x10+(1:Int)),og.set x10 (IntKind.wrap IntKind.u8 (gH IntKind.u32 (r9.1.at' (IntKind.wrap IntKind.i64 (Int.tdiv x10 (4:Int)))) (IntKind.wrap IntKind.i64 ((24:Int)-(IntKind.wrap IntKind.i64 ((8:Int)*(Int.tmod x10 (4:Int))))))))))
      else
       none
     else
      none
    else
     none
   else
    none
  else
   none
 else
  some (((),og)):=by kernel_rfl
theorem ajR (n:Nat) (x1:Vec 8) (x2:Vec 64) (x3:Int):Bb n (x1,(x2,x3))=
 (Fb n x1 x2 x3 n [(128:Int)]).bind fun (r5:List Int)=>
 (Bu n x1 x2 x3 n ((r5,(0:Int)))).bind fun (r8:List Int)=>
 (uo n (((x1,(x2,x3)),List.map (fun n:Int=>UInt8.ofNat n.toNat) r8))).bind fun (r9:(Vec 8)×(Vec 64)×Int)=>
 (Bv n r9 n (((0:Int),Vec.rep 32 (0:Int)))).bind fun (iA:PUnit×Vec 32)=>
 some iA.2:=by kernel_rfl
noncomputable def Fe (n:Nat) (x2:List (List UInt8)) (m:Nat) (p:Int×(Vec 8)×(Vec 64)×Int):Option (PUnit×(Vec 8)×(Vec 64)×Int):=
 eP (R:=R) 3 (aK ((bL Tryz.f71.body [1,1,0,1,0,0]).getD .skip)) (⟨[(4,TV.ref 4 0),(5,TV.ref 5 0),(15,TV.aj (T:=R.T) Cp.sh Ty.str x2),(16,TV.int IntKind.i64 (((x2.length:Nat):Int)))],[(4,Ob.ro (Ob.cells [TV.int IntKind.u8 (0:Int),TV.int IntKind.u8 (0:Int),TV.int IntKind.u8 (0:Int),TV.int IntKind.u8 (0:Int),TV.int IntKind.u8 (0:Int),TV.int IntKind.u8 (0:Int),TV.int IntKind.u8 (0:Int),TV.int IntKind.u8 (0:Int),TV.int IntKind.u8 (0:Int),TV.int IntKind.u8 (0:Int),TV.int IntKind.u8 (0:Int),TV.int IntKind.u8 (0:Int),TV.int IntKind.u8 (0:Int),TV.int IntKind.u8 (0:Int),TV.int IntKind.u8 (0:Int),TV.int IntKind.u8 (0:Int)]))]⟩:MS R.T) (bV KN.loops 3).sh (bV KN.loops 3).outs (fun st k=>bS E R n false (KM n) aS KN ((bL Tryz.f71.body [1,1,0,1,0,0]).getD .skip) st k) m p
theorem ZJ (n:Nat) (x2:List (List UInt8)) (m:Nat) (x5:Int) (x6:Vec 8) (x7:Vec 64) (x8:Int):Fe n x2 (m+1) (x5,(x6,(x7,x8)))=
 bif decide (x5< (((x2.length:Nat):Int))) then
  (dw x2 x5).bind fun (r9:List UInt8)=>
  (A9 n r9).bind fun (cu:List Int)=>
  (uo n (((x6,(x7,x8)),List.map (fun n:Int=>UInt8.ofNat n.toNat) cu))).bind fun (jc:(Vec 8)×(Vec 64)×Int)=>
  Fe n x2 m ((IntKind.wrap IntKind.i64 (x5+(1:Int)),(jc.1,(jc.2.1,jc.2.2))))
 else
  some (((),(x6,(x7,x8)))):=by kernel_rfl
theorem ajS (n:Nat) (x1:Int) (x2:List (List UInt8)):xW n (x1,x2)=
 (AX n (())).bind fun (r3:(Vec 8)×(Vec 64)×Int)=>
 (uo n (((r3.1,(r3.2.1,r3.2.2)),List.map (fun n:Int=>UInt8.ofNat n.toNat) [IntKind.wrap IntKind.u8 x1]))).bind fun (r4:(Vec 8)×(Vec 64)×Int)=>
 (Fe n x2 n (((0:Int),(r4.1,(r4.2.1,r4.2.2))))).bind fun (iA:PUnit×(Vec 8)×(Vec 64)×Int)=>
 (Bb n ((iA.2.1,(iA.2.2.1,iA.2.2.2)))).bind fun (fF:Vec 32)=>
 bif l9 32 none (some (16:Int)) then
  bif decide (0<16∧((16:Nat):Int)≤(16:Int)-(0:Int)) then
   some ((⟨fF.nth 0,fF.nth 1,fF.nth 2,fF.nth 3,fF.nth 4,fF.nth 5,fF.nth 6,fF.nth 7,fF.nth 8,fF.nth 9,fF.nth 10,fF.nth 11,fF.nth 12,fF.nth 13,fF.nth 14,fF.nth 15⟩:aI))
  else
   none
 else
  none:=by kernel_rfl
noncomputable def Bw (n:Nat) (m:Nat) (p:Int×List Int):Option (Int×List Int):=
 eP (R:=R) 5 (aK ((bL Tryz.f93.body [1,1,1,1,0,0,0]).getD .skip)) (⟨[],[]⟩:MS R.T) (bV KQ.loops 5).sh (bV KQ.loops 5).outs (fun st k=>bS E R n false (KP n) aS KQ ((bL Tryz.f93.body [1,1,1,1,0,0,0]).getD .skip) st k) m p
theorem ZK (n:Nat) (m:Nat) (x2:Int) (x3:List Int):Bw n (m+1) (x2,x3)=
 bif decide (x2≥(128:Int)) then
  bif !((128:Int)==(0:Int)) then
   bif dG (x3.length+([IntKind.wrap IntKind.u8 ((IntKind.wrap IntKind.u8 (Int.tmod x2 (128:Int)))+(128:Int))].length)) 1 then
    bif !((128:Int)==(0:Int)) then
     Bw n m ((IntKind.wrap IntKind.u64 (Int.tdiv x2 (128:Int)),x3++[IntKind.wrap IntKind.u8 ((IntKind.wrap IntKind.u8 (Int.tmod x2 (128:Int)))+(128:Int))]))
    else
     none
   else
    none
  else
   none
 else
  some ((x2,x3)):=by kernel_rfl
theorem ajT (n:Nat) (x1:Int):uw n x1=
 bif decide (x1< (0:Int)) then
  (Bw n n ((IntKind.wrap IntKind.u64 ((IntKind.wrap IntKind.u64 ((IntKind.wrap IntKind.u64 (IntKind.wrap IntKind.i64 ((-1:Int)-x1)))*(2:Int)))+(1:Int)),[]))).bind fun (r4:Int×List Int)=>
  bif dG (r4.2.length+([IntKind.wrap IntKind.u8 r4.1].length)) 1 then
   some (r4.2++[IntKind.wrap IntKind.u8 r4.1])
  else
   none
 else
  (Bw n n ((IntKind.wrap IntKind.u64 ((IntKind.wrap IntKind.u64 x1)*(2:Int)),[]))).bind fun (r5:Int×List Int)=>
  bif dG (r5.2.length+([IntKind.wrap IntKind.u8 r5.1].length)) 1 then
   some (r5.2++[IntKind.wrap IntKind.u8 r5.1])
  else
   none:=by kernel_rfl
theorem ajU (n:Nat) (x1:List UInt8):Bd n x1=
 (uw n (((x1.length:Nat):Int))).bind fun (r2:List Int)=>
 bif dG (r2.length+((List.map (fun b:UInt8=>((b.toNat:Nat):Int)) x1).length)) 1 then
  some (r2++(List.map (fun b:UInt8=>((b.toNat:Nat):Int)) x1))
 else
  none:=by kernel_rfl
noncomputable def Fg (n:Nat) (x2:List (List UInt8)) (m:Nat) (p:(List Int)×Int):Option (List Int):=
 eP (R:=R) 3 (aK ((bL Tryz.f124.body [1,1,0,1,0,0]).getD .skip)) (⟨[(1,TV.aj (T:=R.T) Cp.sh Ty.str x2)],[]⟩:MS R.T) (bV KT.loops 3).sh (bV KT.loops 3).outs (fun st k=>bS E R n false (KS n) aS KT ((bL Tryz.f124.body [1,1,0,1,0,0]).getD .skip) st k) m p
theorem ZL (n:Nat) (x2:List (List UInt8)) (m:Nat) (x3:List Int) (x4:Int):Fg n x2 (m+1) (x3,x4)=
 bif decide (x4< (((x2.length:Nat):Int))) then
  (dw x2 x4).bind fun (r5:List UInt8)=>
  (Bd n r5).bind fun (r6:List Int)=>
  bif dG (x3.length+r6.length) 1 then
   Fg n x2 m ((x3++r6,IntKind.wrap IntKind.i64 (x4+(1:Int))))
  else
   none
 else
  some x3:=by kernel_rfl
theorem ajV (n:Nat) (x1:Int) (x2:List (List UInt8)):Bf n (x1,x2)=
 (Fg n x2 n (([IntKind.wrap IntKind.u8 x1],(0:Int)))).bind fun (r7:List Int)=>
 some r7:=by kernel_rfl
noncomputable def Fh (n:Nat) (x1:List Int) (m:Nat) (p:List Int):Option (List Int):=
 eP (R:=R) 3 (aK ((bL Tryz.f200.body [1,1,1,0,0,0]).getD .skip)) (⟨[(0,TV.aj (T:=R.T) Cp.sh (Ty.int IntKind.u8) x1)],[]⟩:MS R.T) (bV xX.loops 3).sh (bV xX.loops 3).outs (fun st k=>bS E R n false (ER n) aS xX ((bL Tryz.f200.body [1,1,1,0,0,0]).getD .skip) st k) m p
noncomputable def Bz (n:Nat) (x1:List Int) (m:Nat) (p:(List Int)×Int):Option (List Int):=
 eP (R:=R) 7 (aK ((bL Tryz.f200.body [1,1,1,1,1,0,1,0,0]).getD .skip)) (⟨[(4,TV.int IntKind.u64 (IntKind.wrap IntKind.u64 ((8:Int)*(IntKind.wrap IntKind.u64 (((x1.length:Nat):Int))))))],[]⟩:MS R.T) (bV xX.loops 7).sh (bV xX.loops 7).outs (fun st k=>bS E R n false (ER n) aS xX ((bL Tryz.f200.body [1,1,1,1,1,0,1,0,0]).getD .skip) st k) m p
theorem ZM (n:Nat) (x1:List Int) (m:Nat) (x2:List Int):Fh n x1 (m+1) x2=
 bif !((64:Int)==(0:Int)) then
  bif (Int.tmod (((x2.length:Nat):Int)) (64:Int)) !=(56:Int) then
   bif dG (x2.length+([(0:Int)].length)) 1 then
    Fh n x1 m (x2++[(0:Int)])
   else
    none
  else
   some x2
 else
  none:=by kernel_rfl
theorem ZN (n:Nat) (x1:List Int) (m:Nat) (x4:List Int) (x5:Int):Bz n x1 (m+1) (x4,x5)=
 bif decide (x5< (8:Int)) then
  bif decide ((0:Int)≤(IntKind.wrap IntKind.i64 ((56:Int)-(IntKind.wrap IntKind.i64 ((8:Int)*x5))))) then
   bif dG (x4.length+([IntKind.wrap IntKind.u8 (gH IntKind.u64 (IntKind.wrap IntKind.u64 ((8:Int)*(IntKind.wrap IntKind.u64 (((x1.length:Nat):Int))))) (IntKind.wrap IntKind.i64 ((56:Int)-(IntKind.wrap IntKind.i64 ((8:Int)*x5)))))].length)) 1 then
    Bz n x1 m ((x4++[IntKind.wrap IntKind.u8 (gH IntKind.u64 (IntKind.wrap IntKind.u64 ((8:Int)*(IntKind.wrap IntKind.u64 (((x1.length:Nat):Int))))) (IntKind.wrap IntKind.i64 ((56:Int)-(IntKind.wrap IntKind.i64 ((8:Int)*x5)))))],IntKind.wrap IntKind.i64 (x5+(1:Int))))
   else
    none
  else
   none
 else
  some x4:=by kernel_rfl
theorem ajW (n:Nat) (x1:List Int):Bg n x1=
 bif dG (((0:Nat))+x1.length) 1 then
  bif dG ((([]++x1).length)+([(128:Int)].length)) 1 then
   (Fh n x1 n (([]++x1)++[(128:Int)])).bind fun (r3:List Int)=>
   (Bz n x1 n ((r3,(0:Int)))).bind fun (r6:List Int)=>
   some r6
  else
   none
 else
  none:=by kernel_rfl
theorem ajX (n:Nat) (x1:Int) (x2:Int):nA n (x1,x2)=
 bif decide ((0:Int)≤x2) then
  bif decide ((0:Int)≤(IntKind.wrap IntKind.i64 ((32:Int)-x2))) then
   some (iQ IntKind.u32 (gH IntKind.u32 x1 x2) (jM IntKind.u32 x1 (IntKind.wrap IntKind.i64 ((32:Int)-x2))))
  else
   none
 else
  none:=by kernel_rfl
noncomputable def Fj (n:Nat) (x1:List Int) (m:Nat) (p:Int×Vec 64):Option (PUnit×Vec 64):=
 eP (R:=R) 3 (aK ((bL Tryz.f201.body [1,1,0,1,0,0]).getD .skip)) (⟨[(0,TV.aj (T:=R.T) Cp.sh (Ty.int IntKind.u8) x1),(2,TV.ref 2 0),(3,TV.ref 3 0)],[(2,Ob.ro (Ob.sg [Sg.a IntKind.u32 64 (Vec.rep 64 (0:Int))]))]⟩:MS R.T) (bV xY.loops 3).sh (bV xY.loops 3).outs (fun st k=>bS E R n false (EU n) aS xY ((bL Tryz.f201.body [1,1,0,1,0,0]).getD .skip) st k) m p
noncomputable def BA (n:Nat) (m:Nat) (p:Int×Vec 64):Option (PUnit×Vec 64):=
 eP (R:=R) 7 (aK ((bL Tryz.f201.body [1,1,1,0,1,0,0]).getD .skip)) (⟨[(2,TV.ref 2 0),(3,TV.ref 3 0)],[(2,Ob.ro (Ob.sg [Sg.a IntKind.u32 64 (Vec.rep 64 (0:Int))]))]⟩:MS R.T) (bV xY.loops 7).sh (bV xY.loops 7).outs (fun st k=>bS E R n false (EU n) aS xY ((bL Tryz.f201.body [1,1,1,0,1,0,0]).getD .skip) st k) m p
theorem ZO (n:Nat) (x1:List Int) (m:Nat) (x2:Int) (x3:Vec 64):Fj n x1 (m+1) (x2,x3)=
 bif decide (x2< (16:Int)) then
  (dw x1 (IntKind.wrap IntKind.i64 ((4:Int)*x2))).bind fun (r4:Int)=>
  bif decide ((0:Int)≤(24:Int)) then
   (dw x1 (IntKind.wrap IntKind.i64 ((IntKind.wrap IntKind.i64 ((4:Int)*x2))+(1:Int)))).bind fun (r5:Int)=>
   bif decide ((0:Int)≤(16:Int)) then
    (dw x1 (IntKind.wrap IntKind.i64 ((IntKind.wrap IntKind.i64 ((4:Int)*x2))+(2:Int)))).bind fun (r6:Int)=>
    bif decide ((0:Int)≤(8:Int)) then
     (dw x1 (IntKind.wrap IntKind.i64 ((IntKind.wrap IntKind.i64 ((4:Int)*x2))+(3:Int)))).bind fun (r7:Int)=>
     bif bq x2 64 then
      Fj n x1 m ((IntKind.wrap IntKind.i64 (x2+(1:Int)),x3.set x2 (iQ IntKind.u32 (iQ IntKind.u32 (iQ IntKind.u32 (jM IntKind.u32 (IntKind.wrap IntKind.u32 r4) (24:Int)) (jM IntKind.u32 (IntKind.wrap IntKind.u32 r5) (16:Int))) (jM IntKind.u32 (IntKind.wrap IntKind.u32 r6) (8:Int))) (IntKind.wrap IntKind.u32 r7))))
     else
      none
    else
     none
   else
    none
  else
   none
 else
  some (((),x3)):=by kernel_rfl
theorem ZP (n:Nat) (m:Nat) (x9:Int) (x10:Vec 64):BA n (m+1) (x9,x10)=
 bif decide (x9< (64:Int)) then
  bif bq (IntKind.wrap IntKind.i64 (x9-(15:Int))) 64 then
   (nA n ((x10.at' (IntKind.wrap IntKind.i64 (x9-(15:Int))),(7:Int)))).bind fun (jc:Int)=>
   bif bq (IntKind.wrap IntKind.i64 (x9-(15:Int))) 64 then
    (nA n ((x10.at' (IntKind.wrap IntKind.i64 (x9-(15:Int))),(18:Int)))).bind fun (iA:Int)=>
    bif bq (IntKind.wrap IntKind.i64 (x9-(15:Int))) 64 then
     bif decide ((0:Int)≤(3:Int)) then
      bif bq (IntKind.wrap IntKind.i64 (x9-(2:Int))) 64 then
       (nA n ((x10.at' (IntKind.wrap IntKind.i64 (x9-(2:Int))),(17:Int)))).bind fun (fF:Int)=>
       bif bq (IntKind.wrap IntKind.i64 (x9-(2:Int))) 64 then
        (nA n ((x10.at' (IntKind.wrap IntKind.i64 (x9-(2:Int))),(19:Int)))).bind fun (fG:Int)=>
        bif bq (IntKind.wrap IntKind.i64 (x9-(2:Int))) 64 then
         bif decide ((0:Int)≤(10:Int)) then
          bif bq (IntKind.wrap IntKind.i64 (x9-(16:Int))) 64 then
           bif bq (IntKind.wrap IntKind.i64 (x9-(7:Int))) 64 then
            bif bq x9 64 then
             BA n m ((IntKind.wrap IntKind.i64 (x9+(1:Int)),x10.set x9 (IntKind.wrap IntKind.u32 ((IntKind.wrap IntKind.u32 ((IntKind.wrap IntKind.u32 ((x10.at' (IntKind.wrap IntKind.i64 (x9-(16:Int))))+(cK IntKind.u32 (cK IntKind.u32 jc iA) (gH IntKind.u32 (x10.at' (IntKind.wrap IntKind.i64 (x9-(15:Int)))) (3:Int)))))+(x10.at' (IntKind.wrap IntKind.i64 (x9-(7:Int))))))+(cK IntKind.u32 (cK IntKind.u32 fF fG) (gH IntKind.u32 (x10.at' (IntKind.wrap IntKind.i64 (x9-(2:Int)))) (10:Int)))))))
            else
             none
           else
            none
          else
           none
         else
          none
        else
         none
       else
        none
      else
       none
     else
      none
    else
     none
   else
    none
  else
   none
 else
  some (((),x10)):=by kernel_rfl
theorem ajY (n:Nat) (x1:List Int):Bh n x1=
 (Fj n x1 n (((0:Int),Vec.rep 64 (0:Int)))).bind fun (r8:PUnit×Vec 64)=>
 (BA n n (((16:Int),r8.2))).bind fun (jw:PUnit×Vec 64)=>
 some jw.2:=by kernel_rfl
noncomputable def BD (n:Nat) (r2:List Int) (x3:Int) (x4:Vec 8) (r5:Vec 64) (m:Nat) (p:Int×Vec 8):Option (PUnit×Vec 8):=
 eP (R:=R) 9 (aK ((bL Tryz.f170.body [1,1,1,0,1,0,0,1,0,0,1,1,0,1,0,0]).getD .skip)) (⟨[(2,TV.ref 2 0),(3,TV.ref 3 0),(4,TV.aj (T:=R.T) Cp.sh (Ty.int IntKind.u8) r2),(5,TV.int IntKind.i64 x3),(6,TV.ref 6 0),(7,TV.ref 7 0)],[(2,Ob.ro (Ob.ro (Ob.sg [Sg.a IntKind.u8 32 (Vec.rep 32 (0:Int))]))),(3,Ob.ro (Ob.sg [Sg.a IntKind.u32 8 x4])),(6,Ob.ro (Ob.sg [Sg.a IntKind.u32 64 r5]))]⟩:MS R.T) (bV o7.loops 9).sh (bV o7.loops 9).outs (fun st k=>bS E R n false (xZ n) aS o7 ((bL Tryz.f170.body [1,1,1,0,1,0,0,1,0,0,1,1,0,1,0,0]).getD .skip) st k) m p
noncomputable def BF (n:Nat) (r2:List Int) (x3:Int) (fG:PUnit×Vec 8) (m:Nat) (p:Int×Vec 8):Option (PUnit×Vec 8):=
 eP (R:=R) 15 (aK ((bL Tryz.f170.body [1,1,1,0,1,0,0,1,0,0,1,1,1,1,0,0]).getD .skip)) (⟨[(2,TV.ref 2 0),(3,TV.ref 3 0),(4,TV.aj (T:=R.T) Cp.sh (Ty.int IntKind.u8) r2),(5,TV.int IntKind.i64 x3),(7,TV.ref 7 0)],[(2,Ob.ro (Ob.ro (Ob.sg [Sg.a IntKind.u8 32 (Vec.rep 32 (0:Int))]))),(7,Ob.ro (Ob.sg [Sg.a IntKind.u32 8 fG.2]))]⟩:MS R.T) (bV o7.loops 15).sh (bV o7.loops 15).outs (fun st k=>bS E R n false (xZ n) aS o7 ((bL Tryz.f170.body [1,1,1,0,1,0,0,1,0,0,1,1,1,1,0,0]).getD .skip) st k) m p
noncomputable def BG (n:Nat) (r2:List Int) (m:Nat) (p:Int×Vec 8):Option (PUnit×Vec 8):=
 eP (R:=R) 4 (aK ((bL Tryz.f170.body [1,1,1,0,1,0,0]).getD .skip)) (⟨[(2,TV.ref 2 0),(3,TV.ref 3 0),(4,TV.aj (T:=R.T) Cp.sh (Ty.int IntKind.u8) r2)],[(2,Ob.ro (Ob.sg [Sg.a IntKind.u8 32 (Vec.rep 32 (0:Int))]))]⟩:MS R.T) (bV o7.loops 4).sh (bV o7.loops 4).outs (fun st k=>bS E R n false (xZ n) aS o7 ((bL Tryz.f170.body [1,1,1,0,1,0,0]).getD .skip) st k) m p
noncomputable def BH (n:Nat) (uy:PUnit×Vec 8) (m:Nat) (p:Int×Vec 32):Option (PUnit×Vec 32):=
 eP (R:=R) 20 (aK ((bL Tryz.f170.body [1,1,1,1,1,0,1,0,0]).getD .skip)) (⟨[(2,TV.ref 2 0),(3,TV.ref 3 0),(12,TV.ref 12 0)],[(2,Ob.ro (Ob.sg [Sg.a IntKind.u8 32 (Vec.rep 32 (0:Int))])),(3,Ob.ro (Ob.sg [Sg.a IntKind.u32 8 uy.2]))]⟩:MS R.T) (bV o7.loops 20).sh (bV o7.loops 20).outs (fun st k=>bS E R n false (xZ n) aS o7 ((bL Tryz.f170.body [1,1,1,1,1,0,1,0,0]).getD .skip) st k) m p
theorem ZQ (n:Nat) (r2:List Int) (x3:Int) (x4:Vec 8) (r5:Vec 64) (m:Nat) (x6:Int) (x7:Vec 8):BD n r2 x3 x4 r5 (m+1) (x6,x7)=
 bif decide (x6< (64:Int)) then
  bif bq (7:Int) 8 then
   bif bq (4:Int) 8 then
    (nA n ((x7.at' (4:Int),(6:Int)))).bind fun (r8:Int)=>
    bif bq (4:Int) 8 then
     (nA n ((x7.at' (4:Int),(11:Int)))).bind fun (r9:Int)=>
     bif bq (4:Int) 8 then
      (nA n ((x7.at' (4:Int),(25:Int)))).bind fun (cu:Int)=>
      bif bq (4:Int) 8 then
       bif bq (5:Int) 8 then
        bif bq (4:Int) 8 then
         bif bq (6:Int) 8 then
          bif bq x6 64 then
           bif bq x6 64 then
            bif bq (0:Int) 8 then
             (nA n ((x7.at' (0:Int),(2:Int)))).bind fun (jc:Int)=>
             bif bq (0:Int) 8 then
              (nA n ((x7.at' (0:Int),(13:Int)))).bind fun (iA:Int)=>
              bif bq (0:Int) 8 then
               (nA n ((x7.at' (0:Int),(22:Int)))).bind fun (fF:Int)=>
               bif bq (0:Int) 8 then
                bif bq (1:Int) 8 then
                 bif bq (0:Int) 8 then
                  bif bq (2:Int) 8 then
                   bif bq (1:Int) 8 then
                    bif bq (2:Int) 8 then
                     bif bq (0:Int) 8 then
                      bif bq (1:Int) 8 then
                       bif bq (2:Int) 8 then
                        bif bq (3:Int) 8 then
                         bif bq (4:Int) 8 then
                          bif bq (5:Int) 8 then
                           bif bq (6:Int) 8 then
                            BD n r2 x3 x4 r5 m ((IntKind.wrap IntKind.i64 (x6+(1:Int)),Vec.lit 8 [IntKind.wrap IntKind.u32 ((IntKind.wrap IntKind.u32 ((IntKind.wrap IntKind.u32 ((IntKind.wrap IntKind.u32 ((IntKind.wrap IntKind.u32 ((x7.at' (7:Int))+(cK IntKind.u32 (cK IntKind.u32 r8 r9) cu)))+(cK IntKind.u32 (fE IntKind.u32 (x7.at' (4:Int)) (x7.at' (5:Int))) (fE IntKind.u32 (cK IntKind.u32 (x7.at' (4:Int)) (4294967295:Int)) (x7.at' (6:Int))))))+(rX.at' x6)))+(r5.at' x6)))+(IntKind.wrap IntKind.u32 ((cK IntKind.u32 (cK IntKind.u32 jc iA) fF)+(cK IntKind.u32 (cK IntKind.u32 (fE IntKind.u32 (x7.at' (0:Int)) (x7.at' (1:Int))) (fE IntKind.u32 (x7.at' (0:Int)) (x7.at' (2:Int)))) (fE IntKind.u32 (x7.at' (1:Int)) (x7.at' (2:Int))))))),x7.at' (0:Int),x7.at' (1:Int),x7.at' (2:Int),IntKind.wrap IntKind.u32 ((x7.at' (3:Int))+(IntKind.wrap IntKind.u32 ((IntKind.wrap IntKind.u32 ((IntKind.wrap IntKind.u32 ((IntKind.wrap IntKind.u32 ((x7.at' (7:Int))+(cK IntKind.u32 (cK IntKind.u32 r8 r9) cu)))+(cK IntKind.u32 (fE IntKind.u32 (x7.at' (4:Int)) (x7.at' (5:Int))) (fE IntKind.u32 (cK IntKind.u32 (x7.at' (4:Int)) (4294967295:Int)) (x7.at' (6:Int))))))+(rX.at' x6)))+(r5.at' x6)))),x7.at' (4:Int),x7.at' (5:Int),x7.at' (6:Int)]))
                           else
                            none
                          else
                           none
                         else
                          none
                        else
                         none
                       else
                        none
                      else
                       none
                     else
                      none
                    else
                     none
                   else
                    none
                  else
                   none
                 else
                  none
                else
                 none
               else
                none
              else
               none
             else
              none
            else
             none
           else
            none
          else
           none
         else
          none
        else
         none
       else
        none
      else
       none
     else
      none
    else
     none
   else
    none
  else
   none
 else
  some (((),x7)):=by kernel_rfl
theorem ZR (n:Nat) (r2:List Int) (x3:Int) (fG:PUnit×Vec 8) (m:Nat) (uz:Int) (Lc:Vec 8):BF n r2 x3 fG (m+1) (uz,Lc)=
 bif decide (uz< (8:Int)) then
  bif bq uz 8 then
   bif bq uz 8 then
    bif bq uz 8 then
     BF n r2 x3 fG m ((IntKind.wrap IntKind.i64 (uz+(1:Int)),Lc.set uz (IntKind.wrap IntKind.u32 ((Lc.at' uz)+(fG.2.at' uz)))))
    else
     none
   else
    none
  else
   none
 else
  some (((),Lc)):=by kernel_rfl
theorem ZT (n:Nat) (r2:List Int) (m:Nat) (x3:Int) (x4:Vec 8):BG n r2 (m+1) (x3,x4)=
 bif decide (x3< (((r2.length:Nat):Int))) then
  bif (jr (IntKind.wrap IntKind.i64 (x3+(64:Int))) r2.length)&& (jr x3 (Int.toNat (IntKind.wrap IntKind.i64 (x3+(64:Int))))) then
   (Bh n (List.drop (Int.toNat x3) (List.take (Int.toNat (IntKind.wrap IntKind.i64 (x3+(64:Int)))) r2))).bind fun (r5:Vec 64)=>
   (BD n r2 x3 x4 r5 n (((0:Int),x4))).bind fun (fG:PUnit×Vec 8)=>
   (BF n r2 x3 fG n (((0:Int),x4))).bind fun (RJ:PUnit×Vec 8)=>
   BG n r2 m ((IntKind.wrap IntKind.i64 (x3+(64:Int)),RJ.2))
  else
   none
 else
  some (((),x4)):=by kernel_rfl
theorem ZU (n:Nat) (uy:PUnit×Vec 8) (m:Nat) (uD:Int) (x20:Vec 32):BH n uy (m+1) (uD,x20)=
 bif decide (uD< (32:Int)) then
  bif !((4:Int)==(0:Int)) then
   bif bq (IntKind.wrap IntKind.i64 (Int.tdiv uD (4:Int))) 8 then
    bif !((4:Int)==(0:Int)) then
     bif decide ((0:Int)≤(IntKind.wrap IntKind.i64 ((24:Int)-(IntKind.wrap IntKind.i64 ((8:Int)*(Int.tmod uD (4:Int))))))) then
      bif bq uD 32 then
       BH n uy m ((IntKind.wrap IntKind.i64 (uD+(1:Int)),x20.set uD (IntKind.wrap IntKind.u8 (gH IntKind.u32 (uy.2.at' (IntKind.wrap IntKind.i64 (Int.tdiv uD (4:Int)))) (IntKind.wrap IntKind.i64 ((24:Int)-(IntKind.wrap IntKind.i64 ((8:Int)*(Int.tmod uD (4:Int))))))))))
      else
       none
     else
      none
    else
     none
   else
    none
  else
   none
 else
  some (((),x20)):=by kernel_rfl
theorem ajZ (n:Nat) (x1:List Int):Bj n x1=
 (Bg n x1).bind fun (r2:List Int)=>
 (BG n r2 n (((0:Int),Vec.lit 8 [(1779033703:Int),(3144134277:Int),(1013904242:Int),(2773480762:Int),(1359893119:Int),(2600822924:Int),(528734635:Int),(1541459225:Int)]))).bind fun (uy:PUnit×Vec 8)=>
 (BH n uy n (((0:Int),Vec.rep 32 (0:Int)))).bind fun (RL:PUnit×Vec 32)=>
 some RL.2:=by kernel_rfl
theorem aj0 (n:Nat) (x1:Int) (x2:List (List UInt8)):yg n (x1,x2)=
 (Bf n ((x1,x2))).bind fun (r3:List Int)=>
 (Bl n r3).bind fun (r4:aI)=>
 some r4:=by kernel_rfl
noncomputable def Fp (n:Nat) (x1:List Int) (m:Nat) (p:(List Int)×Int):Option (List Int):=
 eP (R:=R) 3 (aK ((bL Tryz.f117.body [1,1,0,1,0,0]).getD .skip)) (⟨[(1,TV.fn 90 [] []),(11,TV.aj (T:=R.T) Cp.sh (Ty.int IntKind.i64) x1),(12,TV.int IntKind.i64 (((x1.length:Nat):Int)))],[]⟩:MS R.T) (bV K6.loops 3).sh (bV K6.loops 3).outs (fun st k=>bS E R n false (K5 n) aS K6 ((bL Tryz.f117.body [1,1,0,1,0,0]).getD .skip) st k) m p
theorem ZV (n:Nat) (x1:List Int) (m:Nat) (x3:List Int) (x4:Int):Fp n x1 (m+1) (x3,x4)=
 bif decide (x4< (((x1.length:Nat):Int))) then
  (dw x1 x4).bind fun (r5:Int)=>
  (uq n r5).bind fun (r6:List Int)=>
  bif dG (x3.length+r6.length) 1 then
   Fp n x1 m ((x3++r6,IntKind.wrap IntKind.i64 (x4+(1:Int))))
  else
   none
 else
  some x3:=by kernel_rfl
theorem aj1 (n:Nat) (x1:List Int):E8 n (x1,((),()))=
 (uq n (((x1.length:Nat):Int))).bind fun (r2:List Int)=>
 (Fp n x1 n ((r2,(0:Int)))).bind fun (r7:List Int)=>
 some r7:=by kernel_rfl
theorem aj2 (n:Nat) (x1:List Int):Bn n x1=
 (E8 n ((x1,((),())))).bind fun (r2:List Int)=>
 some r2:=by kernel_rfl
noncomputable def Fq (n:Nat) (x1:List Int) (m:Nat) (p:(List Int)×Int):Option (List Int):=
 eP (R:=R) 3 (aK ((bL Tryz.f73.body [1,1,0,1,0,0]).getD .skip)) (⟨[(0,TV.aj (T:=R.T) Cp.sh (Ty.int IntKind.i64) x1)],[]⟩:MS R.T) (bV La.loops 3).sh (bV La.loops 3).outs (fun st k=>bS E R n false (K9 n) aS La ((bL Tryz.f73.body [1,1,0,1,0,0]).getD .skip) st k) m p
theorem ZW (n:Nat) (x1:List Int) (m:Nat) (x3:List Int) (x4:Int):Fq n x1 (m+1) (x3,x4)=
 bif decide (x4< (((x1.length:Nat):Int))) then
  (dw x1 x4).bind fun (r5:Int)=>
  (uw n r5).bind fun (r6:List Int)=>
  bif dG (x3.length+r6.length) 1 then
   Fq n x1 m ((x3++r6,IntKind.wrap IntKind.i64 (x4+(1:Int))))
  else
   none
 else
  some x3:=by kernel_rfl
theorem aj3 (n:Nat) (x1:List Int):Bo n x1=
 (uw n (((x1.length:Nat):Int))).bind fun (r2:List Int)=>
 (Fq n x1 n ((r2,(0:Int)))).bind fun (r7:List Int)=>
 some r7:=by kernel_rfl
attribute [irreducible] yh yj Bp Bq Br Bt Fb Bu Bv Fe Bw Fg Fh Bz Fj BA BD BF BG BH Fp Fq
end Sh
