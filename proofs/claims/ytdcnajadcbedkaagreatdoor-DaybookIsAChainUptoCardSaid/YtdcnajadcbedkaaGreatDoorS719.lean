/- Part of the proof of a law. -/
import Derived.Test.YtdcnajadcbedkaaGreatDoorS718
set_option linter.all false
set_option linter.unusedSimpArgs false
set_option linter.unusedSectionVars false
open Go Go.Proofs Aq
namespace Sh
set_option maxRecDepth 100000
set_option linter.unusedVariables false
def dO (l:List (Nat×Note)) (k:Nat):Note:=match look l k with
 |some q=>q
 |none=>⟨[],[],⟨[],[]⟩,[]⟩
theorem agY (n:Nat):AA n ()=
 some ((Vec.lit 8 [(1779033703:Int),(3144134277:Int),(1013904242:Int),(2773480762:Int),(1359893119:Int),(2600822924:Int),(528734635:Int),(1541459225:Int)],(Vec.lit 64 [(0:Int),(0:Int),(0:Int),(0:Int),(0:Int),(0:Int),(0:Int),(0:Int),(0:Int),(0:Int),(0:Int),(0:Int),(0:Int),(0:Int),(0:Int),(0:Int),(0:Int),(0:Int),(0:Int),(0:Int),(0:Int),(0:Int),(0:Int),(0:Int),(0:Int),(0:Int),(0:Int),(0:Int),(0:Int),(0:Int),(0:Int),(0:Int),(0:Int),(0:Int),(0:Int),(0:Int),(0:Int),(0:Int),(0:Int),(0:Int),(0:Int),(0:Int),(0:Int),(0:Int),(0:Int),(0:Int),(0:Int),(0:Int),(0:Int),(0:Int),(0:Int),(0:Int),(0:Int),(0:Int),(0:Int),(0:Int),(0:Int),(0:Int),(0:Int),(0:Int),(0:Int),(0:Int),(0:Int),(0:Int)],(0:Int)))):=by kernel_rfl
theorem agZ (n:Nat) (x1:Int) (x2:Int):ql n (x1,x2)=
 bif decide ((0:Int)≤(iL IntKind.u64 (IntKind.wrap IntKind.u64 x2) (31:Int))) then
  bif decide ((0:Int)≤(IntKind.wrap IntKind.u64 ((32:Int)-(iL IntKind.u64 (IntKind.wrap IntKind.u64 x2) (31:Int))))) then
   some (jI IntKind.u32 (lu IntKind.u32 x1 (iL IntKind.u64 (IntKind.wrap IntKind.u64 x2) (31:Int))) (iW IntKind.u32 x1 (IntKind.wrap IntKind.u64 ((32:Int)-(iL IntKind.u64 (IntKind.wrap IntKind.u64 x2) (31:Int))))))
  else
   none
 else
  none:=by kernel_rfl
noncomputable def xS (n:Nat) (x1:List Int) (x2:Int) (m:Nat) (p:Int×Vec 64):Option (PUnit×Vec 64):=
 iO (R:=R) 7 (aN ((dF Tryz.f198.body [1,1,0,1,0,0,1,1,0,0,1,0,1,0,0,1,0,0]).getD .skip)) (⟨[(0,TV.aj (T:=R.T) Cp.sh (Ty.int IntKind.u8) x1),(2,TV.ref 2 0),(3,TV.ref 3 0),(4,TV.int IntKind.i64 x2),(11,TV.int IntKind.i64 x2),(22,TV.aj (T:=R.T) Cp.any (Ty.int IntKind.u8) (List.drop (Int.toNat (IntKind.wrap IntKind.i64 ((4:Int)*x2))) (List.take (Int.toNat (IntKind.wrap IntKind.i64 ((IntKind.wrap IntKind.i64 ((4:Int)*x2))+(4:Int)))) x1))),(23,TV.int IntKind.i64 ((((List.drop (Int.toNat (IntKind.wrap IntKind.i64 ((4:Int)*x2))) (List.take (Int.toNat (IntKind.wrap IntKind.i64 ((IntKind.wrap IntKind.i64 ((4:Int)*x2))+(4:Int)))) x1)).length:Nat):Int)))],[(2,Ob.ro (Ob.ro (Ob.sg [Sg.a IntKind.u32 64 (Vec.rep 64 (0:Int))])))]⟩:MS R.T) (dO xO.loops 7).sh (dO xO.loops 7).outs (fun st k=>bS E R n false (DY n) bG xO ((dF Tryz.f198.body [1,1,0,1,0,0,1,1,0,0,1,0,1,0,0,1,0,0]).getD .skip) st k) m p
noncomputable def xU (n:Nat) (x1:List Int) (m:Nat) (p:Int×Vec 64):Option (PUnit×Vec 64):=
 iO (R:=R) 3 (aN ((dF Tryz.f198.body [1,1,0,1,0,0]).getD .skip)) (⟨[(0,TV.aj (T:=R.T) Cp.sh (Ty.int IntKind.u8) x1),(2,TV.ref 2 0),(3,TV.ref 3 0)],[(2,Ob.ro (Ob.sg [Sg.a IntKind.u32 64 (Vec.rep 64 (0:Int))]))]⟩:MS R.T) (dO xO.loops 3).sh (dO xO.loops 3).outs (fun st k=>bS E R n false (DY n) bG xO ((dF Tryz.f198.body [1,1,0,1,0,0]).getD .skip) st k) m p
theorem WX (n:Nat) (x1:List Int) (x2:Int) (m:Nat) (x4:Int) (x5:Vec 64):xS n x1 x2 (m+1) (x4,x5)=
 bif decide (x4< ((((List.drop (Int.toNat (IntKind.wrap IntKind.i64 ((4:Int)*x2))) (List.take (Int.toNat (IntKind.wrap IntKind.i64 ((IntKind.wrap IntKind.i64 ((4:Int)*x2))+(4:Int)))) x1)).length:Nat):Int))) then
  (dx (List.drop (Int.toNat (IntKind.wrap IntKind.i64 ((4:Int)*x2))) (List.take (Int.toNat (IntKind.wrap IntKind.i64 ((IntKind.wrap IntKind.i64 ((4:Int)*x2))+(4:Int)))) x1)) x4).bind fun (r6:Int)=>
  bif dM x2 64 then
   bif decide ((0:Int)≤(8:Int)) then
    bif dM x2 64 then
     xS n x1 x2 m ((IntKind.wrap IntKind.i64 (x4+(1:Int)),x5.set x2 (jI IntKind.u32 (lu IntKind.u32 (x5.at' x2) (8:Int)) (IntKind.wrap IntKind.u32 r6))))
    else
     none
   else
    none
  else
   none
 else
  some (((),x5)):=by kernel_rfl
theorem O9 (n:Nat) (x1:List Int) (m:Nat) (x2:Int) (x3:Vec 64):xU n x1 (m+1) (x2,x3)=
 bif decide (x2< (64:Int)) then
  bif decide (x2< (16:Int)) then
   bif (gL (IntKind.wrap IntKind.i64 ((IntKind.wrap IntKind.i64 ((4:Int)*x2))+(4:Int))) x1.length)&& (gL (IntKind.wrap IntKind.i64 ((4:Int)*x2)) (Int.toNat (IntKind.wrap IntKind.i64 ((IntKind.wrap IntKind.i64 ((4:Int)*x2))+(4:Int))))) then
    (xS n x1 x2 n (((0:Int),x3))).bind fun (r7:PUnit×Vec 64)=>
    xU n x1 m ((IntKind.wrap IntKind.i64 (x2+(1:Int)),r7.2))
   else
    none
  else
   bif dM (IntKind.wrap IntKind.i64 (x2-(15:Int))) 64 then
    bif dM (IntKind.wrap IntKind.i64 (x2-(2:Int))) 64 then
     (ql n ((x3.at' (IntKind.wrap IntKind.i64 (x2-(15:Int))),(-7:Int)))).bind fun (r8:Int)=>
     (ql n ((x3.at' (IntKind.wrap IntKind.i64 (x2-(15:Int))),(-18:Int)))).bind fun (r9:Int)=>
     bif decide ((0:Int)≤(3:Int)) then
      (ql n ((x3.at' (IntKind.wrap IntKind.i64 (x2-(2:Int))),(-17:Int)))).bind fun (bZ:Int)=>
      (ql n ((x3.at' (IntKind.wrap IntKind.i64 (x2-(2:Int))),(-19:Int)))).bind fun (jC:Int)=>
      bif decide ((0:Int)≤(10:Int)) then
       bif dM (IntKind.wrap IntKind.i64 (x2-(16:Int))) 64 then
        bif dM (IntKind.wrap IntKind.i64 (x2-(7:Int))) 64 then
         bif dM x2 64 then
          xU n x1 m ((IntKind.wrap IntKind.i64 (x2+(1:Int)),x3.set x2 (IntKind.wrap IntKind.u32 ((IntKind.wrap IntKind.u32 ((IntKind.wrap IntKind.u32 ((x3.at' (IntKind.wrap IntKind.i64 (x2-(16:Int))))+(dG IntKind.u32 (dG IntKind.u32 r8 r9) (iW IntKind.u32 (x3.at' (IntKind.wrap IntKind.i64 (x2-(15:Int)))) (3:Int)))))+(x3.at' (IntKind.wrap IntKind.i64 (x2-(7:Int))))))+(dG IntKind.u32 (dG IntKind.u32 bZ jC) (iW IntKind.u32 (x3.at' (IntKind.wrap IntKind.i64 (x2-(2:Int)))) (10:Int)))))))
         else
          none
        else
         none
       else
        none
      else
       none
     else
      none
    else
     none
   else
    none
 else
  some (((),x3)):=by kernel_rfl
theorem ag0 (n:Nat) (x1:List Int):AB n x1=
 (xU n x1 n (((0:Int),Vec.rep 64 (0:Int)))).bind fun (iy:PUnit×Vec 64)=>
 some iy.2:=by kernel_rfl
theorem ag1 (n:Nat) (x1:Int) (x2:Int) (x3:Int) (x4:Int):xP n (x1,(x2,(x3,x4)))=
 (ql n ((x1,IntKind.wrap IntKind.i64 ((0:Int)-x2)))).bind fun (r5:Int)=>
 (ql n ((x1,IntKind.wrap IntKind.i64 ((0:Int)-x3)))).bind fun (r6:Int)=>
 (ql n ((x1,IntKind.wrap IntKind.i64 ((0:Int)-x4)))).bind fun (r7:Int)=>
 some (dG IntKind.u32 (dG IntKind.u32 r5 r6) r7):=by kernel_rfl
noncomputable def AV (n:Nat) (x1:Vec 8) (r3:Vec 64) (m:Nat) (p:Int×(Vec 4)×Vec 4):Option (PUnit×(Vec 4)×Vec 4):=
 iO (R:=R) 4 (aN ((dF Tryz.f169.body [1,1,1,0,1,0,0]).getD .skip)) (⟨[(2,TV.ref 2 0),(4,TV.ref 4 0),(5,TV.ref 5 0),(6,TV.ref 6 0),(7,TV.ref 7 0),(21,TV.sg [Sg.a IntKind.u32 64 vQ])],[(2,Ob.ro (Ob.sg [Sg.a IntKind.u32 8 x1])),(4,Ob.ro (Ob.sg [Sg.a IntKind.u32 8 (Vec.rep 8 (0:Int))])),(5,Ob.ro (Ob.sg [Sg.a IntKind.u32 64 r3]))]⟩:MS R.T) (dO xQ.loops 4).sh (dO xQ.loops 4).outs (fun st k=>bS E R n false (D6 n) bG xQ ((dF Tryz.f169.body [1,1,1,0,1,0,0]).getD .skip) st k) m p
noncomputable def AX (n:Nat) (r9:PUnit×(Vec 4)×Vec 4) (m:Nat) (p:Int×Vec 8):Option (PUnit×Vec 8):=
 iO (R:=R) 12 (aN ((dF Tryz.f169.body [1,1,1,1,0,1,0,0]).getD .skip)) (⟨[(2,TV.ref 2 0),(4,TV.ref 4 0),(6,TV.ref 6 0),(7,TV.ref 7 0)],[(4,Ob.ro (Ob.sg [Sg.a IntKind.u32 8 (Vec.rep 8 (0:Int))])),(6,Ob.ro (Ob.sg [Sg.a IntKind.u32 4 r9.2.1])),(7,Ob.ro (Ob.sg [Sg.a IntKind.u32 4 r9.2.2]))]⟩:MS R.T) (dO xQ.loops 12).sh (dO xQ.loops 12).outs (fun st k=>bS E R n false (D6 n) bG xQ ((dF Tryz.f169.body [1,1,1,1,0,1,0,0]).getD .skip) st k) m p
theorem WY (n:Nat) (x1:Vec 8) (r3:Vec 64) (m:Nat) (x4:Int) (x5:Vec 4) (x6:Vec 4):AV n x1 r3 (m+1) (x4,(x5,x6))=
 bif decide (x4< (64:Int)) then
  bif dM x4 64 then
   bif dM (3:Int) 4 then
    bif dM (0:Int) 4 then
     (xP n ((x6.at' (0:Int),((6:Int),((11:Int),(25:Int)))))).bind fun (r7:Int)=>
     bif dM (0:Int) 4 then
      bif dM (1:Int) 4 then
       bif dM (0:Int) 4 then
        bif dM (2:Int) 4 then
         bif dM x4 64 then
          bif dM (0:Int) 4 then
           (xP n ((x5.at' (0:Int),((2:Int),((13:Int),(22:Int)))))).bind fun (r8:Int)=>
           bif dM (0:Int) 4 then
            bif dM (1:Int) 4 then
             bif dM (0:Int) 4 then
              bif dM (2:Int) 4 then
               bif dM (1:Int) 4 then
                bif dM (2:Int) 4 then
                 bif dM (3:Int) 4 then
                  bif dM (0:Int) 4 then
                   bif dM (1:Int) 4 then
                    bif dM (2:Int) 4 then
                     bif dM (0:Int) 4 then
                      bif dM (1:Int) 4 then
                       bif dM (2:Int) 4 then
                        AV n x1 r3 m ((IntKind.wrap IntKind.i64 (x4+(1:Int)),(Vec.lit 4 [IntKind.wrap IntKind.u32 ((IntKind.wrap IntKind.u32 ((IntKind.wrap IntKind.u32 ((IntKind.wrap IntKind.u32 ((IntKind.wrap IntKind.u32 ((x6.at' (3:Int))+r7))+(dG IntKind.u32 (iL IntKind.u32 (x6.at' (0:Int)) (x6.at' (1:Int))) (iL IntKind.u32 (dG IntKind.u32 (4294967295:Int) (x6.at' (0:Int))) (x6.at' (2:Int))))))+(vQ.at' x4)))+(r3.at' x4)))+(IntKind.wrap IntKind.u32 (r8+(dG IntKind.u32 (dG IntKind.u32 (iL IntKind.u32 (x5.at' (0:Int)) (x5.at' (1:Int))) (iL IntKind.u32 (x5.at' (0:Int)) (x5.at' (2:Int)))) (iL IntKind.u32 (x5.at' (1:Int)) (x5.at' (2:Int))))))),x5.at' (0:Int),x5.at' (1:Int),x5.at' (2:Int)],Vec.lit 4 [IntKind.wrap IntKind.u32 ((x5.at' (3:Int))+(IntKind.wrap IntKind.u32 ((IntKind.wrap IntKind.u32 ((IntKind.wrap IntKind.u32 ((IntKind.wrap IntKind.u32 ((x6.at' (3:Int))+r7))+(dG IntKind.u32 (iL IntKind.u32 (x6.at' (0:Int)) (x6.at' (1:Int))) (iL IntKind.u32 (dG IntKind.u32 (4294967295:Int) (x6.at' (0:Int))) (x6.at' (2:Int))))))+(vQ.at' x4)))+(r3.at' x4)))),x6.at' (0:Int),x6.at' (1:Int),x6.at' (2:Int)])))
                       else
                        none
                      else
                       none
                     else
                      none
                    else
                     none
                   else
                    none
                  else
                   none
                 else
                  none
                else
                 none
               else
                none
              else
               none
             else
              none
            else
             none
           else
            none
          else
           none
         else
          none
        else
         none
       else
        none
      else
       none
     else
      none
    else
     none
   else
    none
  else
   none
 else
  some (((),(x5,x6))):=by kernel_rfl
theorem WZ (n:Nat) (r9:PUnit×(Vec 4)×Vec 4) (m:Nat) (x10:Int) (oq:Vec 8):AX n r9 (m+1) (x10,oq)=
 bif decide (x10< (4:Int)) then
  bif dM x10 8 then
   bif dM x10 4 then
    bif dM x10 8 then
     bif dM (IntKind.wrap IntKind.i64 (x10+(4:Int))) 8 then
      bif dM x10 4 then
       bif dM (IntKind.wrap IntKind.i64 (x10+(4:Int))) 8 then
        AX n r9 m ((IntKind.wrap IntKind.i64 (x10+(1:Int)),(oq.set x10 (IntKind.wrap IntKind.u32 ((oq.at' x10)+(r9.2.1.at' x10)))).set (IntKind.wrap IntKind.i64 (x10+(4:Int))) (IntKind.wrap IntKind.u32 (((oq.set x10 (IntKind.wrap IntKind.u32 ((oq.at' x10)+(r9.2.1.at' x10)))).at' (IntKind.wrap IntKind.i64 (x10+(4:Int))))+(r9.2.2.at' x10)))))
       else
        none
      else
       none
     else
      none
    else
     none
   else
    none
  else
   none
 else
  some (((),oq)):=by kernel_rfl
theorem ag2 (n:Nat) (x1:Vec 8) (x2:List Int):AJ n (x1,x2)=
 (AB n x2).bind fun (r3:Vec 64)=>
 bif l7 8 none (some (4:Int)) then
  bif decide (0<4∧((4:Nat):Int)≤(4:Int)-(0:Int)) then
   bif l7 8 (some (4:Int)) none then
    bif decide (0<4∧((4:Nat):Int)≤(8:Int)-(4:Int)) then
     (AV n x1 r3 n (((0:Int),(x1.slc (0:Int) 4,x1.slc (4:Int) 4)))).bind fun (r9:PUnit×(Vec 4)×Vec 4)=>
     (AX n r9 n (((0:Int),x1))).bind fun (iy:PUnit×Vec 8)=>
     some iy.2
    else
     none
   else
    none
  else
   none
 else
  none:=by kernel_rfl
noncomputable def AY (n:Nat) (m:Nat) (p:(List UInt8)×(Vec 8)×(Vec 64)×Int):Option (PUnit×(Vec 8)×(Vec 64)×Int):=
 iO (R:=R) 1 (aN ((dF Tryz.f120.body [1,0,0,0]).getD .skip)) (⟨[(2,TV.ref 2 0),(4,TV.ref 4 0)],[(4,Ob.ro (Ob.sg [Sg.a IntKind.u32 8 (Vec.rep 8 (0:Int)),Sg.a IntKind.u8 64 (Vec.rep 64 (0:Int)),Sg.i IntKind.u64 (0:Int)]))]⟩:MS R.T) (dO Jg.loops 1).sh (dO Jg.loops 1).outs (fun st k=>bS E R n false (Jf n) bG Jg ((dF Tryz.f120.body [1,0,0,0]).getD .skip) st k) m p
theorem Pb (n:Nat) (m:Nat) (x5:List UInt8) (x6:Vec 8) (x7:Vec 64) (x8:Int):AY n (m+1) (x5,(x6,(x7,x8)))=
 bif !(x5==[]) then
  bif !((64:Int)==(0:Int)) then
   bif l7 64 (some (IntKind.wrap IntKind.i64 (Int.tmod x8 (64:Int)))) none then
    bif gL ((((List.take (Int.toNat ((64:Int)-(IntKind.wrap IntKind.i64 (Int.tmod x8 (64:Int))))) (List.map (fun b:UInt8=>((b.toNat:Nat):Int)) x5)).length:Nat):Int)) x5.length then
     bif (IntKind.wrap IntKind.i64 ((IntKind.wrap IntKind.i64 (Int.tmod x8 (64:Int)))+((((List.take (Int.toNat ((64:Int)-(IntKind.wrap IntKind.i64 (Int.tmod x8 (64:Int))))) (List.map (fun b:UInt8=>((b.toNat:Nat):Int)) x5)).length:Nat):Int))))==(64:Int) then
      (AJ n ((x6,(x7.pU (IntKind.wrap IntKind.i64 (Int.tmod x8 (64:Int))) (List.take (Int.toNat ((64:Int)-(IntKind.wrap IntKind.i64 (Int.tmod x8 (64:Int))))) (List.map (fun b:UInt8=>((b.toNat:Nat):Int)) x5))).l))).bind fun (r9:Vec 8)=>
      AY n m ((List.drop (Int.toNat ((((List.take (Int.toNat ((64:Int)-(IntKind.wrap IntKind.i64 (Int.tmod x8 (64:Int))))) (List.map (fun b:UInt8=>((b.toNat:Nat):Int)) x5)).length:Nat):Int))) x5,(r9,(x7.pU (IntKind.wrap IntKind.i64 (Int.tmod x8 (64:Int))) (List.take (Int.toNat ((64:Int)-(IntKind.wrap IntKind.i64 (Int.tmod x8 (64:Int))))) (List.map (fun b:UInt8=>((b.toNat:Nat):Int)) x5)),IntKind.wrap IntKind.u64 (x8+(IntKind.wrap IntKind.u64 ((((List.take (Int.toNat ((64:Int)-(IntKind.wrap IntKind.i64 (Int.tmod x8 (64:Int))))) (List.map (fun b:UInt8=>((b.toNat:Nat):Int)) x5)).length:Nat):Int))))))))
     else
      AY n m ((List.drop (Int.toNat ((((List.take (Int.toNat ((64:Int)-(IntKind.wrap IntKind.i64 (Int.tmod x8 (64:Int))))) (List.map (fun b:UInt8=>((b.toNat:Nat):Int)) x5)).length:Nat):Int))) x5,(x6,(x7.pU (IntKind.wrap IntKind.i64 (Int.tmod x8 (64:Int))) (List.take (Int.toNat ((64:Int)-(IntKind.wrap IntKind.i64 (Int.tmod x8 (64:Int))))) (List.map (fun b:UInt8=>((b.toNat:Nat):Int)) x5)),IntKind.wrap IntKind.u64 (x8+(IntKind.wrap IntKind.u64 ((((List.take (Int.toNat ((64:Int)-(IntKind.wrap IntKind.i64 (Int.tmod x8 (64:Int))))) (List.map (fun b:UInt8=>((b.toNat:Nat):Int)) x5)).length:Nat):Int))))))))
    else
     none
   else
    none
  else
   none
 else
  some (((),(x6,(x7,x8)))):=by kernel_rfl
theorem ag3 (n:Nat) (x1:Vec 8) (x2:Vec 64) (x3:Int) (x4:List UInt8):uf n ((x1,(x2,x3)),x4)=
 (AY n n ((x4,(x1,(x2,x3))))).bind fun (bZ:PUnit×(Vec 8)×(Vec 64)×Int)=>
 some ((bZ.2.1,(bZ.2.2.1,bZ.2.2.2))):=by kernel_rfl
noncomputable def AZ (n:Nat) (m:Nat) (p:Int×List Int):Option (Int×List Int):=
 iO (R:=R) 3 (aN ((dF Tryz.f90.body [1,1,1,0,0,0]).getD .skip)) (⟨[],[]⟩:MS R.T) (dO Jj.loops 3).sh (dO Jj.loops 3).outs (fun st k=>bS E R n false (Ji n) bG Jj ((dF Tryz.f90.body [1,1,1,0,0,0]).getD .skip) st k) m p
theorem W9 (n:Nat) (m:Nat) (x2:Int) (x3:List Int):AZ n (m+1) (x2,x3)=
 bif decide (x2> (127:Int)) then
  bif eD (x3.length+([jI IntKind.u8 (IntKind.wrap IntKind.u8 x2) (128:Int)].length)) 1 then
   bif decide ((0:Int)≤(7:Int)) then
    AZ n m ((iW IntKind.u64 x2 (7:Int),x3++[jI IntKind.u8 (IntKind.wrap IntKind.u8 x2) (128:Int)]))
   else
    none
  else
   none
 else
  some ((x2,x3)):=by kernel_rfl
theorem ag4 (n:Nat) (x1:Int):ug n x1=
 bif decide ((0:Int)≤(1:Int)) then
  bif decide ((0:Int)≤(63:Int)) then
   (AZ n n ((dG IntKind.u64 (lu IntKind.u64 (IntKind.wrap IntKind.u64 x1) (1:Int)) (IntKind.wrap IntKind.u64 (iW IntKind.i64 x1 (63:Int))),[]))).bind fun (r4:Int×List Int)=>
   bif eD (r4.2.length+([IntKind.wrap IntKind.u8 r4.1].length)) 1 then
    some (r4.2++[IntKind.wrap IntKind.u8 r4.1])
   else
    none
  else
   none
 else
  none:=by kernel_rfl
theorem ag5 (n:Nat) (x1:List UInt8):AO n x1=
 (ug n (((x1.length:Nat):Int))).bind fun (r2:List Int)=>
 bif eD (r2.length+((List.map (fun b:UInt8=>((b.toNat:Nat):Int)) x1).length)) 1 then
  some (r2++(List.map (fun b:UInt8=>((b.toNat:Nat):Int)) x1))
 else
  none:=by kernel_rfl
noncomputable def Ef (n:Nat) (x1:Vec 8) (x2:Vec 64) (x3:Int) (m:Nat) (p:List Int):Option (List Int):=
 iO (R:=R) 3 (aN ((dF Tryz.f122.body [1,1,1,0,0,0]).getD .skip)) (⟨[(1,TV.ref 1 0),(2,TV.ref 2 0),(3,TV.int IntKind.u64 (IntKind.wrap IntKind.u64 ((8:Int)*x3)))],[(1,Ob.ro (Ob.sg [Sg.a IntKind.u32 8 x1,Sg.a IntKind.u8 64 x2,Sg.i IntKind.u64 x3])),(2,Ob.ro (Ob.sg [Sg.a IntKind.u8 32 (Vec.rep 32 (0:Int))]))]⟩:MS R.T) (dO rU.loops 3).sh (dO rU.loops 3).outs (fun st k=>bS E R n false (AP n) bG rU ((dF Tryz.f122.body [1,1,1,0,0,0]).getD .skip) st k) m p
noncomputable def A8 (n:Nat) (x1:Vec 8) (x2:Vec 64) (x3:Int) (m:Nat) (p:(List Int)×Int):Option (List Int):=
 iO (R:=R) 6 (aN ((dF Tryz.f122.body [1,1,1,1,0,1,0,0]).getD .skip)) (⟨[(1,TV.ref 1 0),(2,TV.ref 2 0),(3,TV.int IntKind.u64 (IntKind.wrap IntKind.u64 ((8:Int)*x3)))],[(1,Ob.ro (Ob.sg [Sg.a IntKind.u32 8 x1,Sg.a IntKind.u8 64 x2,Sg.i IntKind.u64 x3])),(2,Ob.ro (Ob.sg [Sg.a IntKind.u8 32 (Vec.rep 32 (0:Int))]))]⟩:MS R.T) (dO rU.loops 6).sh (dO rU.loops 6).outs (fun st k=>bS E R n false (AP n) bG rU ((dF Tryz.f122.body [1,1,1,1,0,1,0,0]).getD .skip) st k) m p
noncomputable def A9 (n:Nat) (r9:(Vec 8)×(Vec 64)×Int) (m:Nat) (p:Int×Vec 32):Option (PUnit×Vec 32):=
 iO (R:=R) 13 (aN ((dF Tryz.f122.body [1,1,1,1,1,1,1,0,1,0,0]).getD .skip)) (⟨[(1,TV.ref 1 0),(2,TV.ref 2 0),(6,TV.ref 6 0)],[(1,Ob.ro (Ob.sg [Sg.a IntKind.u32 8 r9.1,Sg.a IntKind.u8 64 r9.2.1,Sg.i IntKind.u64 r9.2.2])),(2,Ob.ro (Ob.sg [Sg.a IntKind.u8 32 (Vec.rep 32 (0:Int))]))]⟩:MS R.T) (dO rU.loops 13).sh (dO rU.loops 13).outs (fun st k=>bS E R n false (AP n) bG rU ((dF Tryz.f122.body [1,1,1,1,1,1,1,0,1,0,0]).getD .skip) st k) m p
theorem Xa (n:Nat) (x1:Vec 8) (x2:Vec 64) (x3:Int) (m:Nat) (x4:List Int):Ef n x1 x2 x3 (m+1) x4=
 bif !((64:Int)==(0:Int)) then
  bif (Int.tmod (IntKind.wrap IntKind.i64 ((IntKind.wrap IntKind.i64 x3)+(((x4.length:Nat):Int)))) (64:Int)) !=(56:Int) then
   bif eD (x4.length+([(0:Int)].length)) 1 then
    Ef n x1 x2 x3 m (x4++[(0:Int)])
   else
    none
  else
   some x4
 else
  none:=by kernel_rfl
theorem Xb (n:Nat) (x1:Vec 8) (x2:Vec 64) (x3:Int) (m:Nat) (x6:List Int) (x7:Int):A8 n x1 x2 x3 (m+1) (x6,x7)=
 bif decide (x7< (8:Int)) then
  bif decide ((0:Int)≤(IntKind.wrap IntKind.i64 ((56:Int)-(IntKind.wrap IntKind.i64 ((8:Int)*x7))))) then
   bif eD (x6.length+([IntKind.wrap IntKind.u8 (iW IntKind.u64 (IntKind.wrap IntKind.u64 ((8:Int)*x3)) (IntKind.wrap IntKind.i64 ((56:Int)-(IntKind.wrap IntKind.i64 ((8:Int)*x7)))))].length)) 1 then
    A8 n x1 x2 x3 m ((x6++[IntKind.wrap IntKind.u8 (iW IntKind.u64 (IntKind.wrap IntKind.u64 ((8:Int)*x3)) (IntKind.wrap IntKind.i64 ((56:Int)-(IntKind.wrap IntKind.i64 ((8:Int)*x7)))))],IntKind.wrap IntKind.i64 (x7+(1:Int))))
   else
    none
  else
   none
 else
  some x6:=by kernel_rfl
theorem Xc (n:Nat) (r9:(Vec 8)×(Vec 64)×Int) (m:Nat) (x10:Int) (oq:Vec 32):A9 n r9 (m+1) (x10,oq)=
 bif decide (x10< (32:Int)) then
  bif !((4:Int)==(0:Int)) then
   bif dM (IntKind.wrap IntKind.i64 (Int.tdiv x10 (4:Int))) 8 then
    bif !((4:Int)==(0:Int)) then
     bif decide ((0:Int)≤(IntKind.wrap IntKind.i64 ((24:Int)-(IntKind.wrap IntKind.i64 ((8:Int)*(Int.tmod x10 (4:Int))))))) then
      bif dM x10 32 then
       A9 n r9 m ((IntKind.wrap IntKind.i64 (x10+(1:Int)),oq.set x10 (IntKind.wrap IntKind.u8 (iW IntKind.u32 (r9.1.at' (IntKind.wrap IntKind.i64 (Int.tdiv x10 (4:Int)))) (IntKind.wrap IntKind.i64 ((24:Int)-(IntKind.wrap IntKind.i64 ((8:Int)*(Int.tmod x10 (4:Int))))))))))
      else
       none
     else
      none
    else
     none
   else
    none
  else
   none
 else
  some (((),oq)):=by kernel_rfl
theorem ag6 (n:Nat) (x1:Vec 8) (x2:Vec 64) (x3:Int):AQ n (x1,(x2,x3))=
 (Ef n x1 x2 x3 n [(128:Int)]).bind fun (r5:List Int)=>
 (A8 n x1 x2 x3 n ((r5,(0:Int)))).bind fun (r8:List Int)=>
 (uf n (((x1,(x2,x3)),List.map (fun n:Int=>UInt8.ofNat n.toNat) r8))).bind fun (r9:(Vec 8)×(Vec 64)×Int)=>
 (A9 n r9 n (((0:Int),Vec.rep 32 (0:Int)))).bind fun (iy:PUnit×Vec 32)=>
 some iy.2:=by kernel_rfl
noncomputable def Eh (n:Nat) (x2:List (List UInt8)) (m:Nat) (p:Int×(Vec 8)×(Vec 64)×Int):Option (PUnit×(Vec 8)×(Vec 64)×Int):=
 iO (R:=R) 3 (aN ((dF Tryz.f71.body [1,1,0,1,0,0]).getD .skip)) (⟨[(4,TV.ref 4 0),(5,TV.ref 5 0),(15,TV.aj (T:=R.T) Cp.sh Ty.str x2),(16,TV.int IntKind.i64 (((x2.length:Nat):Int)))],[(4,Ob.ro (Ob.cells [TV.int IntKind.u8 (0:Int),TV.int IntKind.u8 (0:Int),TV.int IntKind.u8 (0:Int),TV.int IntKind.u8 (0:Int),TV.int IntKind.u8 (0:Int),TV.int IntKind.u8 (0:Int),TV.int IntKind.u8 (0:Int),TV.int IntKind.u8 (0:Int),TV.int IntKind.u8 (0:Int),TV.int IntKind.u8 (0:Int),TV.int IntKind.u8 (0:Int),TV.int IntKind.u8 (0:Int),TV.int IntKind.u8 (0:Int),TV.int IntKind.u8 (0:Int),TV.int IntKind.u8 (0:Int),TV.int IntKind.u8 (0:Int)]))]⟩:MS R.T) (dO Jo.loops 3).sh (dO Jo.loops 3).outs (fun st k=>bS E R n false (Jm n) bG Jo ((dF Tryz.f71.body [1,1,0,1,0,0]).getD .skip) st k) m p
theorem Xd (n:Nat) (x2:List (List UInt8)) (m:Nat) (x5:Int) (x6:Vec 8) (x7:Vec 64) (x8:Int):Eh n x2 (m+1) (x5,(x6,(x7,x8)))=
 bif decide (x5< (((x2.length:Nat):Int))) then
  (dx x2 x5).bind fun (r9:List UInt8)=>
  (AO n r9).bind fun (bZ:List Int)=>
  (uf n (((x6,(x7,x8)),List.map (fun n:Int=>UInt8.ofNat n.toNat) bZ))).bind fun (jC:(Vec 8)×(Vec 64)×Int)=>
  Eh n x2 m ((IntKind.wrap IntKind.i64 (x5+(1:Int)),(jC.1,(jC.2.1,jC.2.2))))
 else
  some (((),(x6,(x7,x8)))):=by kernel_rfl
theorem ag7 (n:Nat) (x1:Int) (x2:List (List UInt8)):xR n (x1,x2)=
 (AA n (())).bind fun (r3:(Vec 8)×(Vec 64)×Int)=>
 (uf n (((r3.1,(r3.2.1,r3.2.2)),List.map (fun n:Int=>UInt8.ofNat n.toNat) [IntKind.wrap IntKind.u8 x1]))).bind fun (r4:(Vec 8)×(Vec 64)×Int)=>
 (Eh n x2 n (((0:Int),(r4.1,(r4.2.1,r4.2.2))))).bind fun (iy:PUnit×(Vec 8)×(Vec 64)×Int)=>
 (AQ n ((iy.2.1,(iy.2.2.1,iy.2.2.2)))).bind fun (fU:Vec 32)=>
 bif l7 32 none (some (16:Int)) then
  bif decide (0<16∧((16:Nat):Int)≤(16:Int)-(0:Int)) then
   some ((⟨fU.nth 0,fU.nth 1,fU.nth 2,fU.nth 3,fU.nth 4,fU.nth 5,fU.nth 6,fU.nth 7,fU.nth 8,fU.nth 9,fU.nth 10,fU.nth 11,fU.nth 12,fU.nth 13,fU.nth 14,fU.nth 15⟩:aJ))
  else
   none
 else
  none:=by kernel_rfl
noncomputable def Ei (n:Nat) (x1:List Int) (m:Nat) (p:(List Int)×Int):Option (List Int):=
 iO (R:=R) 3 (aN ((dF Tryz.f117.body [1,1,0,1,0,0]).getD .skip)) (⟨[(1,TV.fn 90 [] []),(11,TV.aj (T:=R.T) Cp.sh (Ty.int IntKind.i64) x1),(12,TV.int IntKind.i64 (((x1.length:Nat):Int)))],[]⟩:MS R.T) (dO Jr.loops 3).sh (dO Jr.loops 3).outs (fun st k=>bS E R n false (Jq n) bG Jr ((dF Tryz.f117.body [1,1,0,1,0,0]).getD .skip) st k) m p
theorem Xe (n:Nat) (x1:List Int) (m:Nat) (x3:List Int) (x4:Int):Ei n x1 (m+1) (x3,x4)=
 bif decide (x4< (((x1.length:Nat):Int))) then
  (dx x1 x4).bind fun (r5:Int)=>
  (ug n r5).bind fun (r6:List Int)=>
  bif eD (x3.length+r6.length) 1 then
   Ei n x1 m ((x3++r6,IntKind.wrap IntKind.i64 (x4+(1:Int))))
  else
   none
 else
  some x3:=by kernel_rfl
theorem ag8 (n:Nat) (x1:List Int):Ed n (x1,((),()))=
 (ug n (((x1.length:Nat):Int))).bind fun (r2:List Int)=>
 (Ei n x1 n ((r2,(0:Int)))).bind fun (r7:List Int)=>
 some r7:=by kernel_rfl
theorem ag9 (n:Nat) (x1:List Int):AU n x1=
 (Ed n ((x1,((),())))).bind fun (r2:List Int)=>
 some r2:=by kernel_rfl
attribute [irreducible] xS xU AV AX AY AZ Ef A8 A9 Eh Ei
end Sh
