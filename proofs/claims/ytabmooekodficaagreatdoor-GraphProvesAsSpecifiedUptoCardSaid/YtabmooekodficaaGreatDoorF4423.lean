import Derived.Test.YtabmooekodficaaGreatDoorF4422
set_option linter.all false
open Go Go.Proofs Aq
namespace Sh
set_option maxRecDepth 100000
def getN (l:List (Nat×Note)) (k:Nat):Note:=match look l k with
 |some q=>q
 |none=>⟨[],[],⟨[],[]⟩,[]⟩
abbrev tabS0:List UInt8:=[0,1,2,2,3,3,3,3,4,4,4,4,4,4,4,4,5,5,5,5,5,5,5,5,5,5,5,5,5,5,5,5,6,6,6,6,6,6,6,6,6,6,6,6,6,6,6,6,6,6,6,6,6,6,6,6,6,6,6,6,6,6,6,6,7,7,7,7,7,7,7,7,7,7,7,7,7,7,7,7,7,7,7,7,7,7,7,7,7,7,7,7,7,7,7,7,7,7,7,7,7,7,7,7,7,7,7,7,7,7,7,7,7,7,7,7,7,7,7,7,7,7,7,7,7,7,7,7,8,8,8,8,8,8,8,8,8,8,8,8,8,8,8,8,8,8,8,8,8,8,8,8,8,8,8,8,8,8,8,8,8,8,8,8,8,8,8,8,8,8,8,8,8,8,8,8,8,8,8,8,8,8,8,8,8,8,8,8,8,8,8,8,8,8,8,8,8,8,8,8,8,8,8,8,8,8,8,8,8,8,8,8,8,8,8,8,8,8,8,8,8,8,8,8,8,8,8,8,8,8,8,8,8,8,8,8,8,8,8,8,8,8,8,8,8,8,8,8,8,8,8,8,8,8,8,8]
theorem abo (n:Nat):uJ n ()=
 some ((Vec.lit 8 [(1779033703:Int),(3144134277:Int),(1013904242:Int),(2773480762:Int),(1359893119:Int),(2600822924:Int),(528734635:Int),(1541459225:Int)],(Vec.lit 64 [(0:Int),(0:Int),(0:Int),(0:Int),(0:Int),(0:Int),(0:Int),(0:Int),(0:Int),(0:Int),(0:Int),(0:Int),(0:Int),(0:Int),(0:Int),(0:Int),(0:Int),(0:Int),(0:Int),(0:Int),(0:Int),(0:Int),(0:Int),(0:Int),(0:Int),(0:Int),(0:Int),(0:Int),(0:Int),(0:Int),(0:Int),(0:Int),(0:Int),(0:Int),(0:Int),(0:Int),(0:Int),(0:Int),(0:Int),(0:Int),(0:Int),(0:Int),(0:Int),(0:Int),(0:Int),(0:Int),(0:Int),(0:Int),(0:Int),(0:Int),(0:Int),(0:Int),(0:Int),(0:Int),(0:Int),(0:Int),(0:Int),(0:Int),(0:Int),(0:Int),(0:Int),(0:Int),(0:Int),(0:Int)],(0:Int)))):=by kernel_rfl
theorem abp (n:Nat) (x1:Int) (x2:Int):jP n (x1,x2)=
 bif decide ((0:Int)<=(bitAnd .u64 (IntKind.wrap .u64 x2) (31:Int))) then
  bif decide ((0:Int)<=(IntKind.wrap .u64 ((32:Int)-(bitAnd .u64 (IntKind.wrap .u64 x2) (31:Int))))) then
   some (bitOr .u32 (bitShl .u32 x1 (bitAnd .u64 (IntKind.wrap .u64 x2) (31:Int))) (bitShr .u32 x1 (IntKind.wrap .u64 ((32:Int)-(bitAnd .u64 (IntKind.wrap .u64 x2) (31:Int))))))
  else
   none
 else
  none:=by kernel_rfl
noncomputable def qL (n:Nat) (x1:List Int) (x2:Int) (m:Nat) (p:Int×Vec 64):Option (PUnit×Vec 64):=
 loopF (R:=R) 7 (wrC E ((subO Tryz.f103.body [1,1,0,1,0,0,1,1,0,0,1,0,1,0,0,1,0,0]).getD .skip)) (⟨[(0,TV.lst (T:=R.T) Cp.sh (Ty.int IntKind.u8) x1),(2,TV.ref 2 0),(3,TV.ref 3 0),(4,TV.int IntKind.i64 x2),(11,TV.int IntKind.i64 x2),(22,TV.lst (T:=R.T) Cp.any (Ty.int IntKind.u8) (List.drop (Int.toNat (IntKind.wrap .i64 ((4:Int)*x2))) (List.take (Int.toNat (IntKind.wrap .i64 ((IntKind.wrap .i64 ((4:Int)*x2))+(4:Int)))) x1))),(23,TV.int IntKind.i64 ((((List.drop (Int.toNat (IntKind.wrap .i64 ((4:Int)*x2))) (List.take (Int.toNat (IntKind.wrap .i64 ((IntKind.wrap .i64 ((4:Int)*x2))+(4:Int)))) x1)).length:Nat):Int)))],[(2,Ob.ro (Ob.ro (Ob.sg [Sg.a IntKind.u32 64 (Vec.rep 64 (0:Int))])))]⟩:MS R.T) (getN qE.loops 7).sh (getN qE.loops 7).outs (fun st k=>codeM E R n false (regs2 n) iters qE ((subO Tryz.f103.body [1,1,0,1,0,0,1,1,0,0,1,0,1,0,0,1,0,0]).getD .skip) st k) m p
noncomputable def qM (n:Nat) (x1:List Int) (m:Nat) (p:Int×Vec 64):Option (PUnit×Vec 64):=
 loopF (R:=R) 3 (wrC E ((subO Tryz.f103.body [1,1,0,1,0,0]).getD .skip)) (⟨[(0,TV.lst (T:=R.T) Cp.sh (Ty.int IntKind.u8) x1),(2,TV.ref 2 0),(3,TV.ref 3 0)],[(2,Ob.ro (Ob.sg [Sg.a IntKind.u32 64 (Vec.rep 64 (0:Int))]))]⟩:MS R.T) (getN qE.loops 3).sh (getN qE.loops 3).outs (fun st k=>codeM E R n false (regs2 n) iters qE ((subO Tryz.f103.body [1,1,0,1,0,0]).getD .skip) st k) m p
theorem Qh (n:Nat) (x1:List Int) (x2:Int) (m:Nat) (x4:Int) (x5:Vec 64):qL n x1 x2 (m+1) (x4,x5)=
 bif decide (x4< ((((List.drop (Int.toNat (IntKind.wrap .i64 ((4:Int)*x2))) (List.take (Int.toNat (IntKind.wrap .i64 ((IntKind.wrap .i64 ((4:Int)*x2))+(4:Int)))) x1)).length:Nat):Int))) then
  (idxL (List.drop (Int.toNat (IntKind.wrap .i64 ((4:Int)*x2))) (List.take (Int.toNat (IntKind.wrap .i64 ((IntKind.wrap .i64 ((4:Int)*x2))+(4:Int)))) x1)) x4).bind fun (r6:Int)=>
  bif inN x2 64 then
   bif decide ((0:Int)<=(8:Int)) then
    bif inN x2 64 then
     qL n x1 x2 m ((IntKind.wrap .i64 (x4+(1:Int)),x5.set x2 (bitOr .u32 (bitShl .u32 (x5.at' x2) (8:Int)) (IntKind.wrap .u32 r6))))
    else
     none
   else
    none
  else
   none
 else
  some (((),x5)):=by kernel_rfl
theorem Je (n:Nat) (x1:List Int) (m:Nat) (x2:Int) (x3:Vec 64):qM n x1 (m+1) (x2,x3)=
 bif decide (x2< (64:Int)) then
  bif decide (x2< (16:Int)) then
   bif (inB (IntKind.wrap .i64 ((IntKind.wrap .i64 ((4:Int)*x2))+(4:Int))) x1.length)&& (inB (IntKind.wrap .i64 ((4:Int)*x2)) (Int.toNat (IntKind.wrap .i64 ((IntKind.wrap .i64 ((4:Int)*x2))+(4:Int))))) then
    (qL n x1 x2 n (((0:Int),x3))).bind fun (r7:PUnit×Vec 64)=>
    qM n x1 m ((IntKind.wrap .i64 (x2+(1:Int)),r7.2))
   else
    none
  else
   bif inN (IntKind.wrap .i64 (x2-(15:Int))) 64 then
    bif inN (IntKind.wrap .i64 (x2-(2:Int))) 64 then
     (jP n ((x3.at' (IntKind.wrap .i64 (x2-(15:Int))),(-7:Int)))).bind fun (r8:Int)=>
     (jP n ((x3.at' (IntKind.wrap .i64 (x2-(15:Int))),(-18:Int)))).bind fun (r9:Int)=>
     bif decide ((0:Int)<=(3:Int)) then
      (jP n ((x3.at' (IntKind.wrap .i64 (x2-(2:Int))),(-17:Int)))).bind fun (r10:Int)=>
      (jP n ((x3.at' (IntKind.wrap .i64 (x2-(2:Int))),(-19:Int)))).bind fun (r11:Int)=>
      bif decide ((0:Int)<=(10:Int)) then
       bif inN (IntKind.wrap .i64 (x2-(16:Int))) 64 then
        bif inN (IntKind.wrap .i64 (x2-(7:Int))) 64 then
         bif inN x2 64 then
          qM n x1 m ((IntKind.wrap .i64 (x2+(1:Int)),x3.set x2 (IntKind.wrap .u32 ((IntKind.wrap .u32 ((IntKind.wrap .u32 ((x3.at' (IntKind.wrap .i64 (x2-(16:Int))))+(bitXor .u32 (bitXor .u32 r8 r9) (bitShr .u32 (x3.at' (IntKind.wrap .i64 (x2-(15:Int)))) (3:Int)))))+(x3.at' (IntKind.wrap .i64 (x2-(7:Int))))))+(bitXor .u32 (bitXor .u32 r10 r11) (bitShr .u32 (x3.at' (IntKind.wrap .i64 (x2-(2:Int)))) (10:Int)))))))
         else
          none
        else
         none
       else
        none
      else
       none
     else
      none
    else
     none
   else
    none
 else
  some (((),x3)):=by kernel_rfl
theorem abq (n:Nat) (x1:List Int):uK n x1=
 (qM n x1 n (((0:Int),Vec.rep 64 (0:Int)))).bind fun (r12:PUnit×Vec 64)=>
 some r12.2:=by kernel_rfl
theorem abr (n:Nat) (x1:Int) (x2:Int) (x3:Int) (x4:Int):qF n (x1,(x2,(x3,x4)))=
 (jP n ((x1,IntKind.wrap .i64 ((0:Int)-x2)))).bind fun (r5:Int)=>
 (jP n ((x1,IntKind.wrap .i64 ((0:Int)-x3)))).bind fun (r6:Int)=>
 (jP n ((x1,IntKind.wrap .i64 ((0:Int)-x4)))).bind fun (r7:Int)=>
 some (bitXor .u32 (bitXor .u32 r5 r6) r7):=by kernel_rfl
noncomputable def u7 (n:Nat) (x1:Vec 8) (r3:Vec 64) (m:Nat) (p:Int×(Vec 4)×Vec 4):Option (PUnit×(Vec 4)×Vec 4):=
 loopF (R:=R) 4 (wrC E ((subO Tryz.f88.body [1,1,1,0,1,0,0]).getD .skip)) (⟨[(2,TV.ref 2 0),(4,TV.ref 4 0),(5,TV.ref 5 0),(6,TV.ref 6 0),(7,TV.ref 7 0),(21,TV.sg [Sg.a IntKind.u32 64 lC])],[(2,Ob.ro (Ob.sg [Sg.a IntKind.u32 8 x1])),(4,Ob.ro (Ob.sg [Sg.a IntKind.u32 8 (Vec.rep 8 (0:Int))])),(5,Ob.ro (Ob.sg [Sg.a IntKind.u32 64 r3]))]⟩:MS R.T) (getN qG.loops 4).sh (getN qG.loops 4).outs (fun st k=>codeM E R n false (regs4 n) iters qG ((subO Tryz.f88.body [1,1,1,0,1,0,0]).getD .skip) st k) m p
noncomputable def vg (n:Nat) (r9:PUnit×(Vec 4)×Vec 4) (m:Nat) (p:Int×Vec 8):Option (PUnit×Vec 8):=
 loopF (R:=R) 12 (wrC E ((subO Tryz.f88.body [1,1,1,1,0,1,0,0]).getD .skip)) (⟨[(2,TV.ref 2 0),(4,TV.ref 4 0),(6,TV.ref 6 0),(7,TV.ref 7 0)],[(4,Ob.ro (Ob.sg [Sg.a IntKind.u32 8 (Vec.rep 8 (0:Int))])),(6,Ob.ro (Ob.sg [Sg.a IntKind.u32 4 r9.2.1])),(7,Ob.ro (Ob.sg [Sg.a IntKind.u32 4 r9.2.2]))]⟩:MS R.T) (getN qG.loops 12).sh (getN qG.loops 12).outs (fun st k=>codeM E R n false (regs4 n) iters qG ((subO Tryz.f88.body [1,1,1,1,0,1,0,0]).getD .skip) st k) m p
theorem Qi (n:Nat) (x1:Vec 8) (r3:Vec 64) (m:Nat) (x4:Int) (x5:Vec 4) (x6:Vec 4):u7 n x1 r3 (m+1) (x4,(x5,x6))=
 bif decide (x4< (64:Int)) then
  bif inN x4 64 then
   bif inN (3:Int) 4 then
    bif inN (0:Int) 4 then
     (qF n ((x6.at' (0:Int),((6:Int),((11:Int),(25:Int)))))).bind fun (r7:Int)=>
     bif inN (0:Int) 4 then
      bif inN (1:Int) 4 then
       bif inN (0:Int) 4 then
        bif inN (2:Int) 4 then
         bif inN x4 64 then
          bif inN (0:Int) 4 then
           (qF n ((x5.at' (0:Int),((2:Int),((13:Int),(22:Int)))))).bind fun (r8:Int)=>
           bif inN (0:Int) 4 then
            bif inN (1:Int) 4 then
             bif inN (0:Int) 4 then
              bif inN (2:Int) 4 then
               bif inN (1:Int) 4 then
                bif inN (2:Int) 4 then
                 bif inN (3:Int) 4 then
                  bif inN (0:Int) 4 then
                   bif inN (1:Int) 4 then
                    bif inN (2:Int) 4 then
                     bif inN (0:Int) 4 then
                      bif inN (1:Int) 4 then
                       bif inN (2:Int) 4 then
                        u7 n x1 r3 m ((IntKind.wrap .i64 (x4+(1:Int)),(Vec.lit 4 [IntKind.wrap .u32 ((IntKind.wrap .u32 ((IntKind.wrap .u32 ((IntKind.wrap .u32 ((IntKind.wrap .u32 ((x6.at' (3:Int))+r7))+(bitXor .u32 (bitAnd .u32 (x6.at' (0:Int)) (x6.at' (1:Int))) (bitAnd .u32 (bitXor .u32 (4294967295:Int) (x6.at' (0:Int))) (x6.at' (2:Int))))))+(lC.at' x4)))+(r3.at' x4)))+(IntKind.wrap .u32 (r8+(bitXor .u32 (bitXor .u32 (bitAnd .u32 (x5.at' (0:Int)) (x5.at' (1:Int))) (bitAnd .u32 (x5.at' (0:Int)) (x5.at' (2:Int)))) (bitAnd .u32 (x5.at' (1:Int)) (x5.at' (2:Int))))))),x5.at' (0:Int),x5.at' (1:Int),x5.at' (2:Int)],Vec.lit 4 [IntKind.wrap .u32 ((x5.at' (3:Int))+(IntKind.wrap .u32 ((IntKind.wrap .u32 ((IntKind.wrap .u32 ((IntKind.wrap .u32 ((x6.at' (3:Int))+r7))+(bitXor .u32 (bitAnd .u32 (x6.at' (0:Int)) (x6.at' (1:Int))) (bitAnd .u32 (bitXor .u32 (4294967295:Int) (x6.at' (0:Int))) (x6.at' (2:Int))))))+(lC.at' x4)))+(r3.at' x4)))),x6.at' (0:Int),x6.at' (1:Int),x6.at' (2:Int)])))
                       else
                        none
                      else
                       none
                     else
                      none
                    else
                     none
                   else
                    none
                  else
                   none
                 else
                  none
                else
                 none
               else
                none
              else
               none
             else
              none
            else
             none
           else
            none
          else
           none
         else
          none
        else
         none
       else
        none
      else
       none
     else
      none
    else
     none
   else
    none
  else
   none
 else
  some (((),(x5,x6))):=by kernel_rfl
theorem Qj (n:Nat) (r9:PUnit×(Vec 4)×Vec 4) (m:Nat) (x10:Int) (x11:Vec 8):vg n r9 (m+1) (x10,x11)=
 bif decide (x10< (4:Int)) then
  bif inN x10 8 then
   bif inN x10 4 then
    bif inN x10 8 then
     bif inN (IntKind.wrap .i64 (x10+(4:Int))) 8 then
      bif inN x10 4 then
       bif inN (IntKind.wrap .i64 (x10+(4:Int))) 8 then
        vg n r9 m ((IntKind.wrap .i64 (x10+(1:Int)),(x11.set x10 (IntKind.wrap .u32 ((x11.at' x10)+(r9.2.1.at' x10)))).set (IntKind.wrap .i64 (x10+(4:Int))) (IntKind.wrap .u32 (((x11.set x10 (IntKind.wrap .u32 ((x11.at' x10)+(r9.2.1.at' x10)))).at' (IntKind.wrap .i64 (x10+(4:Int))))+(r9.2.2.at' x10)))))
       else
        none
      else
       none
     else
      none
    else
     none
   else
    none
  else
   none
 else
  some (((),x11)):=by kernel_rfl
theorem abt (n:Nat) (x1:Vec 8) (x2:List Int):uL n (x1,x2)=
 (uK n x2).bind fun (r3:Vec 64)=>
 bif svB 8 none (some (4:Int)) then
  bif decide (0<4/\((4:Nat):Int)<=(4:Int)-(0:Int)) then
   bif svB 8 (some (4:Int)) none then
    bif decide (0<4/\((4:Nat):Int)<=(8:Int)-(4:Int)) then
     (u7 n x1 r3 n (((0:Int),(x1.slc (0:Int) 4,x1.slc (4:Int) 4)))).bind fun (r9:PUnit×(Vec 4)×Vec 4)=>
     (vg n r9 n (((0:Int),x1))).bind fun (r12:PUnit×Vec 8)=>
     some r12.2
    else
     none
   else
    none
  else
   none
 else
  none:=by kernel_rfl
noncomputable def vk (n:Nat) (m:Nat) (p:(List UInt8)×(Vec 8)×(Vec 64)×Int):Option (PUnit×(Vec 8)×(Vec 64)×Int):=
 loopF (R:=R) 1 (wrC E ((subO Tryz.f58.body [1,0,0,0]).getD .skip)) (⟨[(2,TV.ref 2 0),(4,TV.ref 4 0)],[(4,Ob.ro (Ob.sg [Sg.a IntKind.u32 8 (Vec.rep 8 (0:Int)),Sg.a IntKind.u8 64 (Vec.rep 64 (0:Int)),Sg.i IntKind.u64 (0:Int)]))]⟩:MS R.T) (getN CB.loops 1).sh (getN CB.loops 1).outs (fun st k=>codeM E R n false (regs5 n) iters CB ((subO Tryz.f58.body [1,0,0,0]).getD .skip) st k) m p
theorem Jf (n:Nat) (m:Nat) (x5:List UInt8) (x6:Vec 8) (x7:Vec 64) (x8:Int):vk n (m+1) (x5,(x6,(x7,x8)))=
 bif !(x5==[]) then
  bif !((64:Int)==(0:Int)) then
   bif svB 64 (some (IntKind.wrap .i64 (Int.tmod x8 (64:Int)))) none then
    bif inB ((((List.take (Int.toNat ((64:Int)-(IntKind.wrap .i64 (Int.tmod x8 (64:Int))))) (List.map (fun b:UInt8=>((b.toNat:Nat):Int)) x5)).length:Nat):Int)) x5.length then
     bif (IntKind.wrap .i64 ((IntKind.wrap .i64 (Int.tmod x8 (64:Int)))+((((List.take (Int.toNat ((64:Int)-(IntKind.wrap .i64 (Int.tmod x8 (64:Int))))) (List.map (fun b:UInt8=>((b.toNat:Nat):Int)) x5)).length:Nat):Int))))==(64:Int) then
      (uL n ((x6,(x7.cpy (IntKind.wrap .i64 (Int.tmod x8 (64:Int))) (List.take (Int.toNat ((64:Int)-(IntKind.wrap .i64 (Int.tmod x8 (64:Int))))) (List.map (fun b:UInt8=>((b.toNat:Nat):Int)) x5))).l))).bind fun (r9:Vec 8)=>
      vk n m ((List.drop (Int.toNat ((((List.take (Int.toNat ((64:Int)-(IntKind.wrap .i64 (Int.tmod x8 (64:Int))))) (List.map (fun b:UInt8=>((b.toNat:Nat):Int)) x5)).length:Nat):Int))) x5,(r9,(x7.cpy (IntKind.wrap .i64 (Int.tmod x8 (64:Int))) (List.take (Int.toNat ((64:Int)-(IntKind.wrap .i64 (Int.tmod x8 (64:Int))))) (List.map (fun b:UInt8=>((b.toNat:Nat):Int)) x5)),IntKind.wrap .u64 (x8+(IntKind.wrap .u64 ((((List.take (Int.toNat ((64:Int)-(IntKind.wrap .i64 (Int.tmod x8 (64:Int))))) (List.map (fun b:UInt8=>((b.toNat:Nat):Int)) x5)).length:Nat):Int))))))))
     else
      vk n m ((List.drop (Int.toNat ((((List.take (Int.toNat ((64:Int)-(IntKind.wrap .i64 (Int.tmod x8 (64:Int))))) (List.map (fun b:UInt8=>((b.toNat:Nat):Int)) x5)).length:Nat):Int))) x5,(x6,(x7.cpy (IntKind.wrap .i64 (Int.tmod x8 (64:Int))) (List.take (Int.toNat ((64:Int)-(IntKind.wrap .i64 (Int.tmod x8 (64:Int))))) (List.map (fun b:UInt8=>((b.toNat:Nat):Int)) x5)),IntKind.wrap .u64 (x8+(IntKind.wrap .u64 ((((List.take (Int.toNat ((64:Int)-(IntKind.wrap .i64 (Int.tmod x8 (64:Int))))) (List.map (fun b:UInt8=>((b.toNat:Nat):Int)) x5)).length:Nat):Int))))))))
    else
     none
   else
    none
  else
   none
 else
  some (((),(x6,(x7,x8)))):=by kernel_rfl
theorem abu (n:Nat) (x1:Vec 8) (x2:Vec 64) (x3:Int) (x4:List UInt8):ng n ((x1,(x2,x3)),x4)=
 (vk n n ((x4,(x1,(x2,x3))))).bind fun (r10:PUnit×(Vec 8)×(Vec 64)×Int)=>
 some ((r10.2.1,(r10.2.2.1,r10.2.2.2))):=by kernel_rfl
noncomputable def vo (n:Nat) (m:Nat) (p:Int×List Int):Option (Int×List Int):=
 loopF (R:=R) 3 (wrC E ((subO Tryz.f62.body [1,1,1,0,0,0]).getD .skip)) (⟨[],[]⟩:MS R.T) (getN CG.loops 3).sh (getN CG.loops 3).outs (fun st k=>codeM E R n false (regs6 n) iters CG ((subO Tryz.f62.body [1,1,1,0,0,0]).getD .skip) st k) m p
theorem Qk (n:Nat) (m:Nat) (x2:Int) (x3:List Int):vo n (m+1) (x2,x3)=
 bif decide (x2> (127:Int)) then
  bif roomOK (x3.length+([bitOr .u8 (IntKind.wrap .u8 x2) (128:Int)].length)) 1 then
   bif decide ((0:Int)<=(7:Int)) then
    vo n m ((bitShr .u64 x2 (7:Int),x3++[bitOr .u8 (IntKind.wrap .u8 x2) (128:Int)]))
   else
    none
  else
   none
 else
  some ((x2,x3)):=by kernel_rfl
theorem abv (n:Nat) (x1:Int):ni n x1=
 bif decide ((0:Int)<=(1:Int)) then
  bif decide ((0:Int)<=(63:Int)) then
   (vo n n ((bitXor .u64 (bitShl .u64 (IntKind.wrap .u64 x1) (1:Int)) (IntKind.wrap .u64 (bitShr .i64 x1 (63:Int))),[]))).bind fun (r4:Int×List Int)=>
   bif roomOK (r4.2.length+([IntKind.wrap .u8 r4.1].length)) 1 then
    some (r4.2++[IntKind.wrap .u8 r4.1])
   else
    none
  else
   none
 else
  none:=by kernel_rfl
theorem abw (n:Nat) (x1:List UInt8):uN n x1=
 (ni n (((x1.length:Nat):Int))).bind fun (r2:List Int)=>
 bif roomOK (r2.length+((List.map (fun b:UInt8=>((b.toNat:Nat):Int)) x1).length)) 1 then
  some (r2++(List.map (fun b:UInt8=>((b.toNat:Nat):Int)) x1))
 else
  none:=by kernel_rfl
noncomputable def ze (n:Nat) (x1:Vec 8) (x2:Vec 64) (x3:Int) (m:Nat) (p:List Int):Option (List Int):=
 loopF (R:=R) 3 (wrC E ((subO Tryz.f60.body [1,1,1,0,0,0]).getD .skip)) (⟨[(1,TV.ref 1 0),(2,TV.ref 2 0),(3,TV.int IntKind.u64 (IntKind.wrap .u64 ((8:Int)*x3)))],[(1,Ob.ro (Ob.sg [Sg.a IntKind.u32 8 x1,Sg.a IntKind.u8 64 x2,Sg.i IntKind.u64 x3])),(2,Ob.ro (Ob.sg [Sg.a IntKind.u8 32 (Vec.rep 32 (0:Int))]))]⟩:MS R.T) (getN lM.loops 3).sh (getN lM.loops 3).outs (fun st k=>codeM E R n false (regs8 n) iters lM ((subO Tryz.f60.body [1,1,1,0,0,0]).getD .skip) st k) m p
noncomputable def vv (n:Nat) (x1:Vec 8) (x2:Vec 64) (x3:Int) (m:Nat) (p:(List Int)×Int):Option (List Int):=
 loopF (R:=R) 6 (wrC E ((subO Tryz.f60.body [1,1,1,1,0,1,0,0]).getD .skip)) (⟨[(1,TV.ref 1 0),(2,TV.ref 2 0),(3,TV.int IntKind.u64 (IntKind.wrap .u64 ((8:Int)*x3)))],[(1,Ob.ro (Ob.sg [Sg.a IntKind.u32 8 x1,Sg.a IntKind.u8 64 x2,Sg.i IntKind.u64 x3])),(2,Ob.ro (Ob.sg [Sg.a IntKind.u8 32 (Vec.rep 32 (0:Int))]))]⟩:MS R.T) (getN lM.loops 6).sh (getN lM.loops 6).outs (fun st k=>codeM E R n false (regs8 n) iters lM ((subO Tryz.f60.body [1,1,1,1,0,1,0,0]).getD .skip) st k) m p
noncomputable def vB (n:Nat) (r9:(Vec 8)×(Vec 64)×Int) (m:Nat) (p:Int×Vec 32):Option (PUnit×Vec 32):=
 loopF (R:=R) 13 (wrC E ((subO Tryz.f60.body [1,1,1,1,1,1,1,0,1,0,0]).getD .skip)) (⟨[(1,TV.ref 1 0),(2,TV.ref 2 0),(6,TV.ref 6 0)],[(1,Ob.ro (Ob.sg [Sg.a IntKind.u32 8 r9.1,Sg.a IntKind.u8 64 r9.2.1,Sg.i IntKind.u64 r9.2.2])),(2,Ob.ro (Ob.sg [Sg.a IntKind.u8 32 (Vec.rep 32 (0:Int))]))]⟩:MS R.T) (getN lM.loops 13).sh (getN lM.loops 13).outs (fun st k=>codeM E R n false (regs8 n) iters lM ((subO Tryz.f60.body [1,1,1,1,1,1,1,0,1,0,0]).getD .skip) st k) m p
theorem Ql (n:Nat) (x1:Vec 8) (x2:Vec 64) (x3:Int) (m:Nat) (x4:List Int):ze n x1 x2 x3 (m+1) x4=
 bif !((64:Int)==(0:Int)) then
  bif (Int.tmod (IntKind.wrap .i64 ((IntKind.wrap .i64 x3)+(((x4.length:Nat):Int)))) (64:Int)) !=(56:Int) then
   bif roomOK (x4.length+([(0:Int)].length)) 1 then
    ze n x1 x2 x3 m (x4++[(0:Int)])
   else
    none
  else
   some x4
 else
  none:=by kernel_rfl
theorem Qm (n:Nat) (x1:Vec 8) (x2:Vec 64) (x3:Int) (m:Nat) (x6:List Int) (x7:Int):vv n x1 x2 x3 (m+1) (x6,x7)=
 bif decide (x7< (8:Int)) then
  bif decide ((0:Int)<=(IntKind.wrap .i64 ((56:Int)-(IntKind.wrap .i64 ((8:Int)*x7))))) then
   bif roomOK (x6.length+([IntKind.wrap .u8 (bitShr .u64 (IntKind.wrap .u64 ((8:Int)*x3)) (IntKind.wrap .i64 ((56:Int)-(IntKind.wrap .i64 ((8:Int)*x7)))))].length)) 1 then
    vv n x1 x2 x3 m ((x6++[IntKind.wrap .u8 (bitShr .u64 (IntKind.wrap .u64 ((8:Int)*x3)) (IntKind.wrap .i64 ((56:Int)-(IntKind.wrap .i64 ((8:Int)*x7)))))],IntKind.wrap .i64 (x7+(1:Int))))
   else
    none
  else
   none
 else
  some x6:=by kernel_rfl
theorem Qn (n:Nat) (r9:(Vec 8)×(Vec 64)×Int) (m:Nat) (x10:Int) (x11:Vec 32):vB n r9 (m+1) (x10,x11)=
 bif decide (x10< (32:Int)) then
  bif !((4:Int)==(0:Int)) then
   bif inN (IntKind.wrap .i64 (Int.tdiv x10 (4:Int))) 8 then
    bif !((4:Int)==(0:Int)) then
     bif decide ((0:Int)<=(IntKind.wrap .i64 ((24:Int)-(IntKind.wrap .i64 ((8:Int)*(Int.tmod x10 (4:Int))))))) then
      bif inN x10 32 then
       vB n r9 m ((IntKind.wrap .i64 (x10+(1:Int)),x11.set x10 (IntKind.wrap .u8 (bitShr .u32 (r9.1.at' (IntKind.wrap .i64 (Int.tdiv x10 (4:Int)))) (IntKind.wrap .i64 ((24:Int)-(IntKind.wrap .i64 ((8:Int)*(Int.tmod x10 (4:Int))))))))))
      else
       none
     else
      none
    else
     none
   else
    none
  else
   none
 else
  some (((),x11)):=by kernel_rfl
theorem abx (n:Nat) (x1:Vec 8) (x2:Vec 64) (x3:Int):uO n (x1,(x2,x3))=
 (ze n x1 x2 x3 n [(128:Int)]).bind fun (r5:List Int)=>
 (vv n x1 x2 x3 n ((r5,(0:Int)))).bind fun (r8:List Int)=>
 (ng n (((x1,(x2,x3)),List.map (fun n:Int=>UInt8.ofNat n.toNat) r8))).bind fun (r9:(Vec 8)×(Vec 64)×Int)=>
 (vB n r9 n (((0:Int),Vec.rep 32 (0:Int)))).bind fun (r12:PUnit×Vec 32)=>
 some r12.2:=by kernel_rfl
noncomputable def zf (n:Nat) (x2:List (List UInt8)) (m:Nat) (p:Int×(Vec 8)×(Vec 64)×Int):Option (PUnit×(Vec 8)×(Vec 64)×Int):=
 loopF (R:=R) 3 (wrC E ((subO Tryz.f28.body [1,1,0,1,0,0]).getD .skip)) (⟨[(4,TV.ref 4 0),(5,TV.ref 5 0),(15,TV.lst (T:=R.T) Cp.sh Ty.str x2),(16,TV.int IntKind.i64 (((x2.length:Nat):Int)))],[(4,Ob.ro (Ob.cells [TV.int IntKind.u8 (0:Int),TV.int IntKind.u8 (0:Int),TV.int IntKind.u8 (0:Int),TV.int IntKind.u8 (0:Int),TV.int IntKind.u8 (0:Int),TV.int IntKind.u8 (0:Int),TV.int IntKind.u8 (0:Int),TV.int IntKind.u8 (0:Int),TV.int IntKind.u8 (0:Int),TV.int IntKind.u8 (0:Int),TV.int IntKind.u8 (0:Int),TV.int IntKind.u8 (0:Int),TV.int IntKind.u8 (0:Int),TV.int IntKind.u8 (0:Int),TV.int IntKind.u8 (0:Int),TV.int IntKind.u8 (0:Int)]))]⟩:MS R.T) (getN CO.loops 3).sh (getN CO.loops 3).outs (fun st k=>codeM E R n false (regs9 n) iters CO ((subO Tryz.f28.body [1,1,0,1,0,0]).getD .skip) st k) m p
theorem Qo (n:Nat) (x2:List (List UInt8)) (m:Nat) (x5:Int) (x6:Vec 8) (x7:Vec 64) (x8:Int):zf n x2 (m+1) (x5,(x6,(x7,x8)))=
 bif decide (x5< (((x2.length:Nat):Int))) then
  (idxL x2 x5).bind fun (r9:List UInt8)=>
  (uN n r9).bind fun (r10:List Int)=>
  (ng n (((x6,(x7,x8)),List.map (fun n:Int=>UInt8.ofNat n.toNat) r10))).bind fun (r11:(Vec 8)×(Vec 64)×Int)=>
  zf n x2 m ((IntKind.wrap .i64 (x5+(1:Int)),(r11.1,(r11.2.1,r11.2.2))))
 else
  some (((),(x6,(x7,x8)))):=by kernel_rfl
theorem aby (n:Nat) (x1:Int) (x2:List (List UInt8)):oL n (x1,x2)=
 (uJ n (())).bind fun (r3:(Vec 8)×(Vec 64)×Int)=>
 (ng n (((r3.1,(r3.2.1,r3.2.2)),List.map (fun n:Int=>UInt8.ofNat n.toNat) [IntKind.wrap .u8 x1]))).bind fun (r4:(Vec 8)×(Vec 64)×Int)=>
 (zf n x2 n (((0:Int),(r4.1,(r4.2.1,r4.2.2))))).bind fun (r12:PUnit×(Vec 8)×(Vec 64)×Int)=>
 (uO n ((r12.2.1,(r12.2.2.1,r12.2.2.2)))).bind fun (r13:Vec 32)=>
 bif svB 32 none (some (16:Int)) then
  bif decide (0<16/\((16:Nat):Int)<=(16:Int)-(0:Int)) then
   some ((⟨r13.nth 0,r13.nth 1,r13.nth 2,r13.nth 3,r13.nth 4,r13.nth 5,r13.nth 6,r13.nth 7,r13.nth 8,r13.nth 9,r13.nth 10,r13.nth 11,r13.nth 12,r13.nth 13,r13.nth 14,r13.nth 15⟩:ah))
  else
   none
 else
  none:=by kernel_rfl
noncomputable def zh (n:Nat) (x1:List Int) (m:Nat) (p:(List Int)×Int):Option (List Int):=
 loopF (R:=R) 3 (wrC E ((subO Tryz.f61.body [1,1,0,1,0,0]).getD .skip)) (⟨[(1,TV.fn 62 [] []),(11,TV.lst (T:=R.T) Cp.sh (Ty.int IntKind.i64) x1),(12,TV.int IntKind.i64 (((x1.length:Nat):Int)))],[]⟩:MS R.T) (getN CQ.loops 3).sh (getN CQ.loops 3).outs (fun st k=>codeM E R n false (regs10 n) iters CQ ((subO Tryz.f61.body [1,1,0,1,0,0]).getD .skip) st k) m p
theorem Qp (n:Nat) (x1:List Int) (m:Nat) (x3:List Int) (x4:Int):zh n x1 (m+1) (x3,x4)=
 bif decide (x4< (((x1.length:Nat):Int))) then
  (idxL x1 x4).bind fun (r5:Int)=>
  (ni n r5).bind fun (r6:List Int)=>
  bif roomOK (x3.length+r6.length) 1 then
   zh n x1 m ((x3++r6,IntKind.wrap .i64 (x4+(1:Int))))
  else
   none
 else
  some x3:=by kernel_rfl
theorem abz (n:Nat) (x1:List Int):uQ n (x1,((),()))=
 (ni n (((x1.length:Nat):Int))).bind fun (r2:List Int)=>
 (zh n x1 n ((r2,(0:Int)))).bind fun (r7:List Int)=>
 some r7:=by kernel_rfl
theorem abA (n:Nat) (x1:List Int):qH n x1=
 (uQ n ((x1,((),())))).bind fun (r2:List Int)=>
 some r2:=by kernel_rfl
noncomputable def vC (n:Nat) (m:Nat) (p:Int×List Int):Option (Int×List Int):=
 loopF (R:=R) 5 (wrC E ((subO Tryz.f65.body [1,1,1,1,0,0,0]).getD .skip)) (⟨[],[]⟩:MS R.T) (getN CU.loops 5).sh (getN CU.loops 5).outs (fun st k=>codeM E R n false (regs12 n) iters CU ((subO Tryz.f65.body [1,1,1,1,0,0,0]).getD .skip) st k) m p
theorem Qq (n:Nat) (m:Nat) (x2:Int) (x3:List Int):vC n (m+1) (x2,x3)=
 bif decide (x2>=(128:Int)) then
  bif !((128:Int)==(0:Int)) then
   bif roomOK (x3.length+([IntKind.wrap .u8 ((IntKind.wrap .u8 (Int.tmod x2 (128:Int)))+(128:Int))].length)) 1 then
    bif !((128:Int)==(0:Int)) then
     vC n m ((IntKind.wrap .u64 (Int.tdiv x2 (128:Int)),x3++[IntKind.wrap .u8 ((IntKind.wrap .u8 (Int.tmod x2 (128:Int)))+(128:Int))]))
    else
     none
   else
    none
  else
   none
 else
  some ((x2,x3)):=by kernel_rfl
theorem abB (n:Nat) (x1:Int):nu n x1=
 bif decide (x1< (0:Int)) then
  (vC n n ((IntKind.wrap .u64 ((IntKind.wrap .u64 ((IntKind.wrap .u64 (IntKind.wrap .i64 ((-1:Int)-x1)))*(2:Int)))+(1:Int)),[]))).bind fun (r4:Int×List Int)=>
  bif roomOK (r4.2.length+([IntKind.wrap .u8 r4.1].length)) 1 then
   some (r4.2++[IntKind.wrap .u8 r4.1])
  else
   none
 else
  (vC n n ((IntKind.wrap .u64 ((IntKind.wrap .u64 x1)*(2:Int)),[]))).bind fun (r5:Int×List Int)=>
  bif roomOK (r5.2.length+([IntKind.wrap .u8 r5.1].length)) 1 then
   some (r5.2++[IntKind.wrap .u8 r5.1])
  else
   none:=by kernel_rfl
theorem abC (n:Nat) (x1:List UInt8):uT n x1=
 (nu n (((x1.length:Nat):Int))).bind fun (r2:List Int)=>
 bif roomOK (r2.length+((List.map (fun b:UInt8=>((b.toNat:Nat):Int)) x1).length)) 1 then
  some (r2++(List.map (fun b:UInt8=>((b.toNat:Nat):Int)) x1))
 else
  none:=by kernel_rfl
noncomputable def zi (n:Nat) (x2:List (List UInt8)) (m:Nat) (p:(List Int)×Int):Option (List Int):=
 loopF (R:=R) 3 (wrC E ((subO Tryz.f64.body [1,1,0,1,0,0]).getD .skip)) (⟨[(1,TV.lst (T:=R.T) Cp.sh Ty.str x2)],[]⟩:MS R.T) (getN CX.loops 3).sh (getN CX.loops 3).outs (fun st k=>codeM E R n false (regs14 n) iters CX ((subO Tryz.f64.body [1,1,0,1,0,0]).getD .skip) st k) m p
theorem Qr (n:Nat) (x2:List (List UInt8)) (m:Nat) (x3:List Int) (x4:Int):zi n x2 (m+1) (x3,x4)=
 bif decide (x4< (((x2.length:Nat):Int))) then
  (idxL x2 x4).bind fun (r5:List UInt8)=>
  (uT n r5).bind fun (r6:List Int)=>
  bif roomOK (x3.length+r6.length) 1 then
   zi n x2 m ((x3++r6,IntKind.wrap .i64 (x4+(1:Int))))
  else
   none
 else
  some x3:=by kernel_rfl
theorem abD (n:Nat) (x1:Int) (x2:List (List UInt8)):uU n (x1,x2)=
 (zi n x2 n (([IntKind.wrap .u8 x1],(0:Int)))).bind fun (r7:List Int)=>
 some r7:=by kernel_rfl
noncomputable def zk (n:Nat) (x1:List Int) (m:Nat) (p:List Int):Option (List Int):=
 loopF (R:=R) 3 (wrC E ((subO Tryz.f105.body [1,1,1,0,0,0]).getD .skip)) (⟨[(0,TV.lst (T:=R.T) Cp.sh (Ty.int IntKind.u8) x1)],[]⟩:MS R.T) (getN qI.loops 3).sh (getN qI.loops 3).outs (fun st k=>codeM E R n false (regs15 n) iters qI ((subO Tryz.f105.body [1,1,1,0,0,0]).getD .skip) st k) m p
noncomputable def vD (n:Nat) (x1:List Int) (m:Nat) (p:(List Int)×Int):Option (List Int):=
 loopF (R:=R) 7 (wrC E ((subO Tryz.f105.body [1,1,1,1,1,0,1,0,0]).getD .skip)) (⟨[(4,TV.int IntKind.u64 (IntKind.wrap .u64 ((8:Int)*(IntKind.wrap .u64 (((x1.length:Nat):Int))))))],[]⟩:MS R.T) (getN qI.loops 7).sh (getN qI.loops 7).outs (fun st k=>codeM E R n false (regs15 n) iters qI ((subO Tryz.f105.body [1,1,1,1,1,0,1,0,0]).getD .skip) st k) m p
theorem Qs (n:Nat) (x1:List Int) (m:Nat) (x2:List Int):zk n x1 (m+1) x2=
 bif !((64:Int)==(0:Int)) then
  bif (Int.tmod (((x2.length:Nat):Int)) (64:Int)) !=(56:Int) then
   bif roomOK (x2.length+([(0:Int)].length)) 1 then
    zk n x1 m (x2++[(0:Int)])
   else
    none
  else
   some x2
 else
  none:=by kernel_rfl
theorem Qt (n:Nat) (x1:List Int) (m:Nat) (x4:List Int) (x5:Int):vD n x1 (m+1) (x4,x5)=
 bif decide (x5< (8:Int)) then
  bif decide ((0:Int)<=(IntKind.wrap .i64 ((56:Int)-(IntKind.wrap .i64 ((8:Int)*x5))))) then
   bif roomOK (x4.length+([IntKind.wrap .u8 (bitShr .u64 (IntKind.wrap .u64 ((8:Int)*(IntKind.wrap .u64 (((x1.length:Nat):Int))))) (IntKind.wrap .i64 ((56:Int)-(IntKind.wrap .i64 ((8:Int)*x5)))))].length)) 1 then
    vD n x1 m ((x4++[IntKind.wrap .u8 (bitShr .u64 (IntKind.wrap .u64 ((8:Int)*(IntKind.wrap .u64 (((x1.length:Nat):Int))))) (IntKind.wrap .i64 ((56:Int)-(IntKind.wrap .i64 ((8:Int)*x5)))))],IntKind.wrap .i64 (x5+(1:Int))))
   else
    none
  else
   none
 else
  some x4:=by kernel_rfl
theorem abE (n:Nat) (x1:List Int):uV n x1=
 bif roomOK (((0:Nat))+x1.length) 1 then
  bif roomOK ((([]++x1).length)+([(128:Int)].length)) 1 then
   (zk n x1 n (([]++x1)++[(128:Int)])).bind fun (r3:List Int)=>
   (vD n x1 n ((r3,(0:Int)))).bind fun (r6:List Int)=>
   some r6
  else
   none
 else
  none:=by kernel_rfl
theorem abF (n:Nat) (x1:Int) (x2:Int):iy n (x1,x2)=
 bif decide ((0:Int)<=x2) then
  bif decide ((0:Int)<=(IntKind.wrap .i64 ((32:Int)-x2))) then
   some (bitOr .u32 (bitShr .u32 x1 x2) (bitShl .u32 x1 (IntKind.wrap .i64 ((32:Int)-x2))))
  else
   none
 else
  none:=by kernel_rfl
noncomputable def zl (n:Nat) (x1:List Int) (m:Nat) (p:Int×Vec 64):Option (PUnit×Vec 64):=
 loopF (R:=R) 3 (wrC E ((subO Tryz.f106.body [1,1,0,1,0,0]).getD .skip)) (⟨[(0,TV.lst (T:=R.T) Cp.sh (Ty.int IntKind.u8) x1),(2,TV.ref 2 0),(3,TV.ref 3 0)],[(2,Ob.ro (Ob.sg [Sg.a IntKind.u32 64 (Vec.rep 64 (0:Int))]))]⟩:MS R.T) (getN qJ.loops 3).sh (getN qJ.loops 3).outs (fun st k=>codeM E R n false (regs17 n) iters qJ ((subO Tryz.f106.body [1,1,0,1,0,0]).getD .skip) st k) m p
noncomputable def vE (n:Nat) (m:Nat) (p:Int×Vec 64):Option (PUnit×Vec 64):=
 loopF (R:=R) 7 (wrC E ((subO Tryz.f106.body [1,1,1,0,1,0,0]).getD .skip)) (⟨[(2,TV.ref 2 0),(3,TV.ref 3 0)],[(2,Ob.ro (Ob.sg [Sg.a IntKind.u32 64 (Vec.rep 64 (0:Int))]))]⟩:MS R.T) (getN qJ.loops 7).sh (getN qJ.loops 7).outs (fun st k=>codeM E R n false (regs17 n) iters qJ ((subO Tryz.f106.body [1,1,1,0,1,0,0]).getD .skip) st k) m p
theorem Qu (n:Nat) (x1:List Int) (m:Nat) (x2:Int) (x3:Vec 64):zl n x1 (m+1) (x2,x3)=
 bif decide (x2< (16:Int)) then
  (idxL x1 (IntKind.wrap .i64 ((4:Int)*x2))).bind fun (r4:Int)=>
  bif decide ((0:Int)<=(24:Int)) then
   (idxL x1 (IntKind.wrap .i64 ((IntKind.wrap .i64 ((4:Int)*x2))+(1:Int)))).bind fun (r5:Int)=>
   bif decide ((0:Int)<=(16:Int)) then
    (idxL x1 (IntKind.wrap .i64 ((IntKind.wrap .i64 ((4:Int)*x2))+(2:Int)))).bind fun (r6:Int)=>
    bif decide ((0:Int)<=(8:Int)) then
     (idxL x1 (IntKind.wrap .i64 ((IntKind.wrap .i64 ((4:Int)*x2))+(3:Int)))).bind fun (r7:Int)=>
     bif inN x2 64 then
      zl n x1 m ((IntKind.wrap .i64 (x2+(1:Int)),x3.set x2 (bitOr .u32 (bitOr .u32 (bitOr .u32 (bitShl .u32 (IntKind.wrap .u32 r4) (24:Int)) (bitShl .u32 (IntKind.wrap .u32 r5) (16:Int))) (bitShl .u32 (IntKind.wrap .u32 r6) (8:Int))) (IntKind.wrap .u32 r7))))
     else
      none
    else
     none
   else
    none
  else
   none
 else
  some (((),x3)):=by kernel_rfl
theorem Qv (n:Nat) (m:Nat) (x9:Int) (x10:Vec 64):vE n (m+1) (x9,x10)=
 bif decide (x9< (64:Int)) then
  bif inN (IntKind.wrap .i64 (x9-(15:Int))) 64 then
   (iy n ((x10.at' (IntKind.wrap .i64 (x9-(15:Int))),(7:Int)))).bind fun (r11:Int)=>
   bif inN (IntKind.wrap .i64 (x9-(15:Int))) 64 then
    (iy n ((x10.at' (IntKind.wrap .i64 (x9-(15:Int))),(18:Int)))).bind fun (r12:Int)=>
    bif inN (IntKind.wrap .i64 (x9-(15:Int))) 64 then
     bif decide ((0:Int)<=(3:Int)) then
      bif inN (IntKind.wrap .i64 (x9-(2:Int))) 64 then
       (iy n ((x10.at' (IntKind.wrap .i64 (x9-(2:Int))),(17:Int)))).bind fun (r13:Int)=>
       bif inN (IntKind.wrap .i64 (x9-(2:Int))) 64 then
        (iy n ((x10.at' (IntKind.wrap .i64 (x9-(2:Int))),(19:Int)))).bind fun (r14:Int)=>
        bif inN (IntKind.wrap .i64 (x9-(2:Int))) 64 then
         bif decide ((0:Int)<=(10:Int)) then
          bif inN (IntKind.wrap .i64 (x9-(16:Int))) 64 then
           bif inN (IntKind.wrap .i64 (x9-(7:Int))) 64 then
            bif inN x9 64 then
             vE n m ((IntKind.wrap .i64 (x9+(1:Int)),x10.set x9 (IntKind.wrap .u32 ((IntKind.wrap .u32 ((IntKind.wrap .u32 ((x10.at' (IntKind.wrap .i64 (x9-(16:Int))))+(bitXor .u32 (bitXor .u32 r11 r12) (bitShr .u32 (x10.at' (IntKind.wrap .i64 (x9-(15:Int)))) (3:Int)))))+(x10.at' (IntKind.wrap .i64 (x9-(7:Int))))))+(bitXor .u32 (bitXor .u32 r13 r14) (bitShr .u32 (x10.at' (IntKind.wrap .i64 (x9-(2:Int)))) (10:Int)))))))
            else
             none
           else
            none
          else
           none
         else
          none
        else
         none
       else
        none
      else
       none
     else
      none
    else
     none
   else
    none
  else
   none
 else
  some (((),x10)):=by kernel_rfl
theorem abG (n:Nat) (x1:List Int):uW n x1=
 (zl n x1 n (((0:Int),Vec.rep 64 (0:Int)))).bind fun (r8:PUnit×Vec 64)=>
 (vE n n (((16:Int),r8.2))).bind fun (r15:PUnit×Vec 64)=>
 some r15.2:=by kernel_rfl
noncomputable def vF (n:Nat) (r2:List Int) (x3:Int) (x4:Vec 8) (r5:Vec 64) (m:Nat) (p:Int×Vec 8):Option (PUnit×Vec 8):=
 loopF (R:=R) 9 (wrC E ((subO Tryz.f89.body [1,1,1,0,1,0,0,1,0,0,1,1,0,1,0,0]).getD .skip)) (⟨[(2,TV.ref 2 0),(3,TV.ref 3 0),(4,TV.lst (T:=R.T) Cp.sh (Ty.int IntKind.u8) r2),(5,TV.int IntKind.i64 x3),(6,TV.ref 6 0),(7,TV.ref 7 0)],[(2,Ob.ro (Ob.ro (Ob.sg [Sg.a IntKind.u8 32 (Vec.rep 32 (0:Int))]))),(3,Ob.ro (Ob.sg [Sg.a IntKind.u32 8 x4])),(6,Ob.ro (Ob.sg [Sg.a IntKind.u32 64 r5]))]⟩:MS R.T) (getN jv.loops 9).sh (getN jv.loops 9).outs (fun st k=>codeM E R n false (regs18 n) iters jv ((subO Tryz.f89.body [1,1,1,0,1,0,0,1,0,0,1,1,0,1,0,0]).getD .skip) st k) m p
noncomputable def vG (n:Nat) (r2:List Int) (x3:Int) (r14:PUnit×Vec 8) (m:Nat) (p:Int×Vec 8):Option (PUnit×Vec 8):=
 loopF (R:=R) 15 (wrC E ((subO Tryz.f89.body [1,1,1,0,1,0,0,1,0,0,1,1,1,1,0,0]).getD .skip)) (⟨[(2,TV.ref 2 0),(3,TV.ref 3 0),(4,TV.lst (T:=R.T) Cp.sh (Ty.int IntKind.u8) r2),(5,TV.int IntKind.i64 x3),(7,TV.ref 7 0)],[(2,Ob.ro (Ob.ro (Ob.sg [Sg.a IntKind.u8 32 (Vec.rep 32 (0:Int))]))),(7,Ob.ro (Ob.sg [Sg.a IntKind.u32 8 r14.2]))]⟩:MS R.T) (getN jv.loops 15).sh (getN jv.loops 15).outs (fun st k=>codeM E R n false (regs18 n) iters jv ((subO Tryz.f89.body [1,1,1,0,1,0,0,1,0,0,1,1,1,1,0,0]).getD .skip) st k) m p
noncomputable def vH (n:Nat) (r2:List Int) (m:Nat) (p:Int×Vec 8):Option (PUnit×Vec 8):=
 loopF (R:=R) 4 (wrC E ((subO Tryz.f89.body [1,1,1,0,1,0,0]).getD .skip)) (⟨[(2,TV.ref 2 0),(3,TV.ref 3 0),(4,TV.lst (T:=R.T) Cp.sh (Ty.int IntKind.u8) r2)],[(2,Ob.ro (Ob.sg [Sg.a IntKind.u8 32 (Vec.rep 32 (0:Int))]))]⟩:MS R.T) (getN jv.loops 4).sh (getN jv.loops 4).outs (fun st k=>codeM E R n false (regs18 n) iters jv ((subO Tryz.f89.body [1,1,1,0,1,0,0]).getD .skip) st k) m p
noncomputable def vI (n:Nat) (r18:PUnit×Vec 8) (m:Nat) (p:Int×Vec 32):Option (PUnit×Vec 32):=
 loopF (R:=R) 20 (wrC E ((subO Tryz.f89.body [1,1,1,1,1,0,1,0,0]).getD .skip)) (⟨[(2,TV.ref 2 0),(3,TV.ref 3 0),(12,TV.ref 12 0)],[(2,Ob.ro (Ob.sg [Sg.a IntKind.u8 32 (Vec.rep 32 (0:Int))])),(3,Ob.ro (Ob.sg [Sg.a IntKind.u32 8 r18.2]))]⟩:MS R.T) (getN jv.loops 20).sh (getN jv.loops 20).outs (fun st k=>codeM E R n false (regs18 n) iters jv ((subO Tryz.f89.body [1,1,1,1,1,0,1,0,0]).getD .skip) st k) m p
theorem Qw (n:Nat) (r2:List Int) (x3:Int) (x4:Vec 8) (r5:Vec 64) (m:Nat) (x6:Int) (x7:Vec 8):vF n r2 x3 x4 r5 (m+1) (x6,x7)=
 bif decide (x6< (64:Int)) then
  bif inN (7:Int) 8 then
   bif inN (4:Int) 8 then
    (iy n ((x7.at' (4:Int),(6:Int)))).bind fun (r8:Int)=>
    bif inN (4:Int) 8 then
     (iy n ((x7.at' (4:Int),(11:Int)))).bind fun (r9:Int)=>
     bif inN (4:Int) 8 then
      (iy n ((x7.at' (4:Int),(25:Int)))).bind fun (r10:Int)=>
      bif inN (4:Int) 8 then
       bif inN (5:Int) 8 then
        bif inN (4:Int) 8 then
         bif inN (6:Int) 8 then
          bif inN x6 64 then
           bif inN x6 64 then
            bif inN (0:Int) 8 then
             (iy n ((x7.at' (0:Int),(2:Int)))).bind fun (r11:Int)=>
             bif inN (0:Int) 8 then
              (iy n ((x7.at' (0:Int),(13:Int)))).bind fun (r12:Int)=>
              bif inN (0:Int) 8 then
               (iy n ((x7.at' (0:Int),(22:Int)))).bind fun (r13:Int)=>
               bif inN (0:Int) 8 then
                bif inN (1:Int) 8 then
                 bif inN (0:Int) 8 then
                  bif inN (2:Int) 8 then
                   bif inN (1:Int) 8 then
                    bif inN (2:Int) 8 then
                     bif inN (0:Int) 8 then
                      bif inN (1:Int) 8 then
                       bif inN (2:Int) 8 then
                        bif inN (3:Int) 8 then
                         bif inN (4:Int) 8 then
                          bif inN (5:Int) 8 then
                           bif inN (6:Int) 8 then
                            vF n r2 x3 x4 r5 m ((IntKind.wrap .i64 (x6+(1:Int)),Vec.lit 8 [IntKind.wrap .u32 ((IntKind.wrap .u32 ((IntKind.wrap .u32 ((IntKind.wrap .u32 ((IntKind.wrap .u32 ((x7.at' (7:Int))+(bitXor .u32 (bitXor .u32 r8 r9) r10)))+(bitXor .u32 (bitAnd .u32 (x7.at' (4:Int)) (x7.at' (5:Int))) (bitAnd .u32 (bitXor .u32 (x7.at' (4:Int)) (4294967295:Int)) (x7.at' (6:Int))))))+(lC.at' x6)))+(r5.at' x6)))+(IntKind.wrap .u32 ((bitXor .u32 (bitXor .u32 r11 r12) r13)+(bitXor .u32 (bitXor .u32 (bitAnd .u32 (x7.at' (0:Int)) (x7.at' (1:Int))) (bitAnd .u32 (x7.at' (0:Int)) (x7.at' (2:Int)))) (bitAnd .u32 (x7.at' (1:Int)) (x7.at' (2:Int))))))),x7.at' (0:Int),x7.at' (1:Int),x7.at' (2:Int),IntKind.wrap .u32 ((x7.at' (3:Int))+(IntKind.wrap .u32 ((IntKind.wrap .u32 ((IntKind.wrap .u32 ((IntKind.wrap .u32 ((x7.at' (7:Int))+(bitXor .u32 (bitXor .u32 r8 r9) r10)))+(bitXor .u32 (bitAnd .u32 (x7.at' (4:Int)) (x7.at' (5:Int))) (bitAnd .u32 (bitXor .u32 (x7.at' (4:Int)) (4294967295:Int)) (x7.at' (6:Int))))))+(lC.at' x6)))+(r5.at' x6)))),x7.at' (4:Int),x7.at' (5:Int),x7.at' (6:Int)]))
                           else
                            none
                          else
                           none
                         else
                          none
                        else
                         none
                       else
                        none
                      else
                       none
                     else
                      none
                    else
                     none
                   else
                    none
                  else
                   none
                 else
                  none
                else
                 none
               else
                none
              else
               none
             else
              none
            else
             none
           else
            none
          else
           none
         else
          none
        else
         none
       else
        none
      else
       none
     else
      none
    else
     none
   else
    none
  else
   none
 else
  some (((),x7)):=by kernel_rfl
theorem Qx (n:Nat) (r2:List Int) (x3:Int) (r14:PUnit×Vec 8) (m:Nat) (x15:Int) (x16:Vec 8):vG n r2 x3 r14 (m+1) (x15,x16)=
 bif decide (x15< (8:Int)) then
  bif inN x15 8 then
   bif inN x15 8 then
    bif inN x15 8 then
     vG n r2 x3 r14 m ((IntKind.wrap .i64 (x15+(1:Int)),x16.set x15 (IntKind.wrap .u32 ((x16.at' x15)+(r14.2.at' x15)))))
    else
     none
   else
    none
  else
   none
 else
  some (((),x16)):=by kernel_rfl
theorem Qy (n:Nat) (r2:List Int) (m:Nat) (x3:Int) (x4:Vec 8):vH n r2 (m+1) (x3,x4)=
 bif decide (x3< (((r2.length:Nat):Int))) then
  bif (inB (IntKind.wrap .i64 (x3+(64:Int))) r2.length)&& (inB x3 (Int.toNat (IntKind.wrap .i64 (x3+(64:Int))))) then
   (uW n (List.drop (Int.toNat x3) (List.take (Int.toNat (IntKind.wrap .i64 (x3+(64:Int)))) r2))).bind fun (r5:Vec 64)=>
   (vF n r2 x3 x4 r5 n (((0:Int),x4))).bind fun (r14:PUnit×Vec 8)=>
   (vG n r2 x3 r14 n (((0:Int),x4))).bind fun (r17:PUnit×Vec 8)=>
   vH n r2 m ((IntKind.wrap .i64 (x3+(64:Int)),r17.2))
  else
   none
 else
  some (((),x4)):=by kernel_rfl
theorem Qz (n:Nat) (r18:PUnit×Vec 8) (m:Nat) (x19:Int) (x20:Vec 32):vI n r18 (m+1) (x19,x20)=
 bif decide (x19< (32:Int)) then
  bif !((4:Int)==(0:Int)) then
   bif inN (IntKind.wrap .i64 (Int.tdiv x19 (4:Int))) 8 then
    bif !((4:Int)==(0:Int)) then
     bif decide ((0:Int)<=(IntKind.wrap .i64 ((24:Int)-(IntKind.wrap .i64 ((8:Int)*(Int.tmod x19 (4:Int))))))) then
      bif inN x19 32 then
       vI n r18 m ((IntKind.wrap .i64 (x19+(1:Int)),x20.set x19 (IntKind.wrap .u8 (bitShr .u32 (r18.2.at' (IntKind.wrap .i64 (Int.tdiv x19 (4:Int)))) (IntKind.wrap .i64 ((24:Int)-(IntKind.wrap .i64 ((8:Int)*(Int.tmod x19 (4:Int))))))))))
      else
       none
     else
      none
    else
     none
   else
    none
  else
   none
 else
  some (((),x20)):=by kernel_rfl
theorem abH (n:Nat) (x1:List Int):uX n x1=
 (uV n x1).bind fun (r2:List Int)=>
 (vH n r2 n (((0:Int),Vec.lit 8 [(1779033703:Int),(3144134277:Int),(1013904242:Int),(2773480762:Int),(1359893119:Int),(2600822924:Int),(528734635:Int),(1541459225:Int)]))).bind fun (r18:PUnit×Vec 8)=>
 (vI n r18 n (((0:Int),Vec.rep 32 (0:Int)))).bind fun (r21:PUnit×Vec 32)=>
 some r21.2:=by kernel_rfl
theorem abI (n:Nat) (x1:Int) (x2:List (List UInt8)):oM n (x1,x2)=
 (uU n ((x1,x2))).bind fun (r3:List Int)=>
 (uY n r3).bind fun (r4:ah)=>
 some r4:=by kernel_rfl
noncomputable def zm (n:Nat) (x1:List Int) (m:Nat) (p:(List Int)×Int):Option (List Int):=
 loopF (R:=R) 3 (wrC E ((subO Tryz.f31.body [1,1,0,1,0,0]).getD .skip)) (⟨[(0,TV.lst (T:=R.T) Cp.sh (Ty.int IntKind.i64) x1)],[]⟩:MS R.T) (getN Df.loops 3).sh (getN Df.loops 3).outs (fun st k=>codeM E R n false (regs21 n) iters Df ((subO Tryz.f31.body [1,1,0,1,0,0]).getD .skip) st k) m p
theorem QA (n:Nat) (x1:List Int) (m:Nat) (x3:List Int) (x4:Int):zm n x1 (m+1) (x3,x4)=
 bif decide (x4< (((x1.length:Nat):Int))) then
  (idxL x1 x4).bind fun (r5:Int)=>
  (nu n r5).bind fun (r6:List Int)=>
  bif roomOK (x3.length+r6.length) 1 then
   zm n x1 m ((x3++r6,IntKind.wrap .i64 (x4+(1:Int))))
  else
   none
 else
  some x3:=by kernel_rfl
theorem abJ (n:Nat) (x1:List Int):qK n x1=
 (nu n (((x1.length:Nat):Int))).bind fun (r2:List Int)=>
 (zm n x1 n ((r2,(0:Int)))).bind fun (r7:List Int)=>
 some r7:=by kernel_rfl
theorem QB (n:Nat) (x1:ah) (x2:ah):u6 n (x1,x2)=
 (oL n (((31:Int),[List.map (fun n:Int=>UInt8.ofNat n.toNat) [x1.b0,x1.b1,x1.b2,x1.b3,x1.b4,x1.b5,x1.b6,x1.b7,x1.b8,x1.b9,x1.b10,x1.b11,x1.b12,x1.b13,x1.b14,x1.b15],List.map (fun n:Int=>UInt8.ofNat n.toNat) [x2.b0,x2.b1,x2.b2,x2.b3,x2.b4,x2.b5,x2.b6,x2.b7,x2.b8,x2.b9,x2.b10,x2.b11,x2.b12,x2.b13,x2.b14,x2.b15]]))).bind fun (r3:ah)=>
 some r3:=by kernel_rfl
theorem QQ_eq (n:Nat) (x1:Int):QQ n x1=
 bif decide (x1>=(4294967296:Int)) then
  bif decide ((0:Int)<=(32:Int)) then
   bif decide ((bitShr .u64 x1 (32:Int))>=(65536:Int)) then
    bif decide ((0:Int)<=(16:Int)) then
     bif decide ((bitShr .u64 (bitShr .u64 x1 (32:Int)) (16:Int))>=(256:Int)) then
      bif decide ((0:Int)<=(8:Int)) then
       (idxL tabS0 (IntKind.wrap .u8 (bitShr .u64 (bitShr .u64 (bitShr .u64 x1 (32:Int)) (16:Int)) (8:Int)))).bind fun (r2:UInt8)=>
       some (IntKind.wrap .i64 ((IntKind.wrap .i64 ((IntKind.wrap .i64 ((32:Int)+(16:Int)))+(8:Int)))+(IntKind.wrap .i64 (((r2.toNat:Nat):Int)))))
      else
       none
     else
      (idxL tabS0 (IntKind.wrap .u8 (bitShr .u64 (bitShr .u64 x1 (32:Int)) (16:Int)))).bind fun (r3:UInt8)=>
      some (IntKind.wrap .i64 ((IntKind.wrap .i64 ((32:Int)+(16:Int)))+(IntKind.wrap .i64 (((r3.toNat:Nat):Int)))))
    else
     none
   else
    bif decide ((bitShr .u64 x1 (32:Int))>=(256:Int)) then
     bif decide ((0:Int)<=(8:Int)) then
      (idxL tabS0 (IntKind.wrap .u8 (bitShr .u64 (bitShr .u64 x1 (32:Int)) (8:Int)))).bind fun (r4:UInt8)=>
      some (IntKind.wrap .i64 ((IntKind.wrap .i64 ((32:Int)+(8:Int)))+(IntKind.wrap .i64 (((r4.toNat:Nat):Int)))))
     else
      none
    else
     (idxL tabS0 (IntKind.wrap .u8 (bitShr .u64 x1 (32:Int)))).bind fun (r5:UInt8)=>
     some (IntKind.wrap .i64 ((32:Int)+(IntKind.wrap .i64 (((r5.toNat:Nat):Int)))))
  else
   none
 else
  bif decide (x1>=(65536:Int)) then
   bif decide ((0:Int)<=(16:Int)) then
    bif decide ((bitShr .u64 x1 (16:Int))>=(256:Int)) then
     bif decide ((0:Int)<=(8:Int)) then
      (idxL tabS0 (IntKind.wrap .u8 (bitShr .u64 (bitShr .u64 x1 (16:Int)) (8:Int)))).bind fun (r6:UInt8)=>
      some (IntKind.wrap .i64 ((IntKind.wrap .i64 ((IntKind.wrap .i64 ((0:Int)+(16:Int)))+(8:Int)))+(IntKind.wrap .i64 (((r6.toNat:Nat):Int)))))
     else
      none
    else
     (idxL tabS0 (IntKind.wrap .u8 (bitShr .u64 x1 (16:Int)))).bind fun (r7:UInt8)=>
     some (IntKind.wrap .i64 ((IntKind.wrap .i64 ((0:Int)+(16:Int)))+(IntKind.wrap .i64 (((r7.toNat:Nat):Int)))))
   else
    none
  else
   bif decide (x1>=(256:Int)) then
    bif decide ((0:Int)<=(8:Int)) then
     (idxL tabS0 (IntKind.wrap .u8 (bitShr .u64 x1 (8:Int)))).bind fun (r8:UInt8)=>
     some (IntKind.wrap .i64 ((IntKind.wrap .i64 ((0:Int)+(8:Int)))+(IntKind.wrap .i64 (((r8.toNat:Nat):Int)))))
    else
     none
   else
    (idxL tabS0 (IntKind.wrap .u8 x1)).bind fun (r9:UInt8)=>
    some (IntKind.wrap .i64 ((0:Int)+(IntKind.wrap .i64 (((r9.toNat:Nat):Int))))):=by kernel_rfl
theorem Zs_eq (n:Nat) (x1:Int):Zs n x1=
 (QQ n x1).bind fun (r2:Int)=>
 some r2:=by kernel_rfl
theorem abK (n:Nat) (x1:Int):lN n x1=
 (Zs n (IntKind.wrap .u64 (IntKind.wrap .i64 (x1-(1:Int))))).bind fun (r2:Int)=>
 bif decide ((0:Int)<=(IntKind.wrap .i64 (r2-(1:Int)))) then
  some (bitShl .i64 (1:Int) (IntKind.wrap .i64 (r2-(1:Int))))
 else
  none:=by kernel_rfl
attribute [irreducible] qL qM u7 vg vk vo ze vv vB zf zh vC zi zk vD zl vE vF vG vH vI zm
end Sh
