import Derived.Test.YtabmooekodficaaGreatDoorF4426
set_option linter.all false
open Go Go.Proofs Aq
namespace Sh
set_option maxRecDepth 100000
noncomputable def QP_L4 (n:Nat) (x1:Graph) (m:Nat) (p:Int):Option (PUnit⊕Bool):=
 loopF (R:=R) 4 (wrC E ((subO Tryz.f4.body [1,1,0,1,0,0]).getD .skip)) (⟨[(1,TV.ref 1 0)],[(1,Ob.ro (Ob.cells [TV.lst (T:=R.T) Cp.sh (Ty.st 0) x1.Hoods]))]⟩:MS R.T) (getN QP_a.loops 4).sh (getN QP_a.loops 4).outs (fun st k=>codeM E R n false (regs27 n) iters QP_a ((subO Tryz.f4.body [1,1,0,1,0,0]).getD .skip) st k) m p
theorem QP_L4_s (n:Nat) (x1:Graph) (m:Nat) (x2:Int):QP_L4 n x1 (m+1) x2=
 bif decide (x2< (((x1.Hoods.length:Nat):Int))) then
  (idxL x1.Hoods x2).bind fun (r3:Hood)=>
  bif decide ((((r3.Slots.length:Nat):Int))> (40:Int)) then
   some (.inr false)
  else
   QP_L4 n x1 m (IntKind.wrap .i64 (x2+(1:Int)))
 else
  some (.inl (())):=by kernel_rfl
theorem QP_eq (n:Nat) (x1:Graph):QP n x1=
 bif decide ((((x1.Hoods.length:Nat):Int))> (30:Int)) then
  some false
 else
  (QP_L4 n x1 n (0:Int)).bind fun (r4:PUnit⊕Bool)=>
  Sum.elim (fun (q5:PUnit)=>
   some true)
   (fun (q6:Bool)=>
    some q6) r4:=by kernel_rfl
theorem adO (n:Nat) (x1:Int) (x2:Hood):oV n (x1,x2)=
 bif roomOK (([x1,x2.Radius].length)+x2.Slots.length) 8 then
  (qH n ([x1,x2.Radius]++x2.Slots)).bind fun (r3:List Int)=>
  (oL n (((271:Int),[List.map (fun n:Int=>UInt8.ofNat n.toNat) r3]))).bind fun (r4:ah)=>
  some r4
 else
  none:=by kernel_rfl
noncomputable def zT (n:Nat) (x1:Graph) (m:Nat) (p:(List ah)×Int):Option (List ah):=
 loopF (R:=R) 3 (wrC E ((subO Tryz.f23.body [1,1,0,1,0,0]).getD .skip)) (⟨[(7,TV.lst (T:=R.T) Cp.sh (Ty.st 0) x1.Hoods),(8,TV.int IntKind.i64 (((x1.Hoods.length:Nat):Int)))],[]⟩:MS R.T) (getN Dy.loops 3).sh (getN Dy.loops 3).outs (fun st k=>codeM E R n false (regs30 n) iters Dy ((subO Tryz.f23.body [1,1,0,1,0,0]).getD .skip) st k) m p
theorem Ry (n:Nat) (x1:Graph) (m:Nat) (x2:List ah) (x3:Int):zT n x1 (m+1) (x2,x3)=
 bif decide (x3< (((x1.Hoods.length:Nat):Int))) then
  (idxL x1.Hoods x3).bind fun (r4:Hood)=>
  (oV n ((x3,r4))).bind fun (r5:ah)=>
  bif roomOK (x2.length+([r5].length)) 16 then
   zT n x1 m ((x2++[r5],IntKind.wrap .i64 (x3+(1:Int))))
  else
   none
 else
  some x2:=by kernel_rfl
theorem adP (n:Nat) (x1:Graph):qQ n x1=
 (zT n x1 n (([],(0:Int)))).bind fun (r6:List ah)=>
 some r6:=by kernel_rfl
theorem adQ (n:Nat):vL n ()=
 (oL n (((32:Int),[]))).bind fun (r1:ah)=>
 some r1:=by kernel_rfl
theorem adR (n g:Nat) (x1:List ah):oW n (g+1) x1=
 bif (((x1.length:Nat):Int))==(0:Int) then
  (vL n (())).bind fun (r2:ah)=>
  some r2
 else
  bif (((x1.length:Nat):Int))==(1:Int) then
   (idxL x1 (0:Int)).bind fun (r3:ah)=>
   some r3
  else
   (lN n (((x1.length:Nat):Int))).bind fun (r4:Int)=>
   bif (inB r4 x1.length)&& (inB r4 (Int.toNat r4)) then
    (oW n g (List.take (Int.toNat r4) x1)).bind fun (r5:ah)=>
    bif (inB (((x1.length:Nat):Int)) x1.length)&& ((inB (((x1.length:Nat):Int)) (Int.toNat (((x1.length:Nat):Int))))&& (inB r4 (Int.toNat (((x1.length:Nat):Int))))) then
     (oW n g (List.drop (Int.toNat r4) (List.take (Int.toNat (((x1.length:Nat):Int))) x1))).bind fun (r6:ah)=>
     (u6 n ((r5,r6))).bind fun (r7:ah)=>
     some r7
    else
     none
   else
    none:=by kernel_rfl
theorem Rz (n:Nat) (x1:Graph) (x2:Int):vM n (x1,x2)=
 (qQ n x1).bind fun (r3:List ah)=>
 (nC n ((r3,x2))).bind fun (r4:(List ah)×Int)=>
 some ((r4.1,r4.2)):=by kernel_rfl
theorem adS (n:Nat) (x1:Int) (x2:Hood):oZ n (x1,x2)=
 bif roomOK (([x1,x2.Radius].length)+x2.Slots.length) 8 then
  (qK n ([x1,x2.Radius]++x2.Slots)).bind fun (r3:List Int)=>
  (oM n (((271:Int),[List.map (fun n:Int=>UInt8.ofNat n.toNat) r3]))).bind fun (r4:ah)=>
  some r4
 else
  none:=by kernel_rfl
noncomputable def zU (n:Nat) (x1:Graph) (m:Nat) (p:(List ah)×Int):Option (List ah):=
 loopF (R:=R) 3 (wrC E ((subO Tryz.f25.body [1,1,0,1,0,0]).getD .skip)) (⟨[(1,TV.ref 1 0)],[(1,Ob.ro (Ob.cells [TV.lst (T:=R.T) Cp.sh (Ty.st 0) x1.Hoods]))]⟩:MS R.T) (getN DL.loops 3).sh (getN DL.loops 3).outs (fun st k=>codeM E R n false (regs36 n) iters DL ((subO Tryz.f25.body [1,1,0,1,0,0]).getD .skip) st k) m p
theorem RA (n:Nat) (x1:Graph) (m:Nat) (x2:List ah) (x3:Int):zU n x1 (m+1) (x2,x3)=
 bif decide (x3< (((x1.Hoods.length:Nat):Int))) then
  (idxL x1.Hoods x3).bind fun (r4:Hood)=>
  (oZ n ((x3,r4))).bind fun (r5:ah)=>
  bif roomOK (x2.length+([r5].length)) 16 then
   zU n x1 m ((x2++[r5],IntKind.wrap .i64 (x3+(1:Int))))
  else
   none
 else
  some x2:=by kernel_rfl
theorem adT (n:Nat) (x1:Graph):qR n x1=
 (zU n x1 n (([],(0:Int)))).bind fun (r6:List ah)=>
 some r6:=by kernel_rfl
noncomputable def zV (n:Nat) (x1:Int) (m:Nat) (p:Int):Option (Int):=
 loopF (R:=R) 2 (wrC E ((subO Tryz.f55.body [1,1,0,0,0]).getD .skip)) (⟨[(0,TV.int IntKind.i64 x1)],[]⟩:MS R.T) (getN DR.loops 2).sh (getN DR.loops 2).outs (fun st k=>codeM E R n false (regs37 n) iters DR ((subO Tryz.f55.body [1,1,0,0,0]).getD .skip) st k) m p
theorem RB (n:Nat) (x1:Int) (m:Nat) (x2:Int):zV n x1 (m+1) x2=
 bif decide ((IntKind.wrap .i64 ((2:Int)*x2))<x1) then
  zV n x1 m (IntKind.wrap .i64 ((2:Int)*x2))
 else
  some x2:=by kernel_rfl
theorem adU (n:Nat) (x1:Int):o7 n x1=
 (zV n x1 n (1:Int)).bind fun (r3:Int)=>
 some r3:=by kernel_rfl
theorem adV (n:Nat):vN n ()=
 (oM n (((32:Int),[]))).bind fun (r1:ah)=>
 some r1:=by kernel_rfl
theorem adW (n:Nat) (x1:ah) (x2:ah):nD n (x1,x2)=
 (oM n (((31:Int),[List.map (fun n:Int=>UInt8.ofNat n.toNat) [x1.b0,x1.b1,x1.b2,x1.b3,x1.b4,x1.b5,x1.b6,x1.b7,x1.b8,x1.b9,x1.b10,x1.b11,x1.b12,x1.b13,x1.b14,x1.b15],List.map (fun n:Int=>UInt8.ofNat n.toNat) [x2.b0,x2.b1,x2.b2,x2.b3,x2.b4,x2.b5,x2.b6,x2.b7,x2.b8,x2.b9,x2.b10,x2.b11,x2.b12,x2.b13,x2.b14,x2.b15]]))).bind fun (r3:ah)=>
 some r3:=by kernel_rfl
theorem adX (n g:Nat) (x1:List ah):vO n (g+1) x1=
 bif (((x1.length:Nat):Int))==(0:Int) then
  (vN n (())).bind fun (r2:ah)=>
  some r2
 else
  bif (((x1.length:Nat):Int))==(1:Int) then
   (idxL x1 (0:Int)).bind fun (r3:ah)=>
   some r3
  else
   (o7 n (((x1.length:Nat):Int))).bind fun (r4:Int)=>
   bif inB r4 x1.length then
    (vO n g (List.take (Int.toNat r4) x1)).bind fun (r5:ah)=>
    bif inB r4 x1.length then
     (vO n g (List.drop (Int.toNat r4) x1)).bind fun (r6:ah)=>
     (nD n ((r5,r6))).bind fun (r7:ah)=>
     some r7
    else
     none
   else
    none:=by kernel_rfl
theorem adY (n:Nat) (x1:List ah) (x2:ah):qU n (x1,x2)=
 bif roomOK (((0:Nat))+x1.length) 16 then
  bif roomOK ((([]++x1).length)+([x2].length)) 16 then
   some (([]++x1)++[x2])
  else
   none
 else
  none:=by kernel_rfl
theorem Jz (n g:Nat) (x1:List ah) (x2:Int):vP n (g+1) (x1,x2)=
 bif (((x1.length:Nat):Int))==(1:Int) then
  some []
 else
  (o7 n (((x1.length:Nat):Int))).bind fun (r3:Int)=>
  bif decide (x2<r3) then
   bif inB r3 x1.length then
    (vP n g ((List.take (Int.toNat r3) x1,x2))).bind fun (r4:List ah)=>
    bif inB r3 x1.length then
     (o8 n (List.drop (Int.toNat r3) x1)).bind fun (r5:ah)=>
     (qU n ((r4,r5))).bind fun (r6:List ah)=>
     some r6
    else
     none
   else
    none
  else
   bif inB r3 x1.length then
    (vP n g ((List.drop (Int.toNat r3) x1,IntKind.wrap .i64 (x2-r3)))).bind fun (r7:List ah)=>
    bif inB r3 x1.length then
     (o8 n (List.take (Int.toNat r3) x1)).bind fun (r8:ah)=>
     (qU n ((r7,r8))).bind fun (r9:List ah)=>
     some r9
    else
     none
   else
    none:=by kernel_rfl
theorem adZ (n:Nat) (x1:List ah) (x2:Int):vR n (x1,x2)=
 bif bif decide (x2< (0:Int)) then true else decide (x2>=(((x1.length:Nat):Int))) then
  some ((⟨[],(1:Int)⟩:bR))
 else
  (vQ n ((x1,x2))).bind fun (r3:List ah)=>
  some ((⟨r3,(0:Int)⟩:bR)):=by kernel_rfl
theorem RD (n:Nat) (x1:Graph) (x2:Int):vS n (x1,x2)=
 bif bif decide (x2< (0:Int)) then true else decide (x2>=(((x1.Hoods.length:Nat):Int))) then
  some ((⟨[],(1:Int)⟩:bJ))
 else
  (qR n x1).bind fun (r3:List ah)=>
  (vR n ((r3,x2))).bind fun (r4:bR)=>
  some ((⟨r4.L,(0:Int)⟩:bJ)):=by kernel_rfl
theorem ad1 (n:Nat) (x1:Graph):qV n x1=
 (qQ n x1).bind fun (r2:List ah)=>
 (lY n r2).bind fun (r3:ah)=>
 some r3:=by kernel_rfl
theorem ad2 (n:Nat) (x1:Graph):vT n x1=
 (qR n x1).bind fun (r2:List ah)=>
 (o8 n r2).bind fun (r3:ah)=>
 some r3:=by kernel_rfl
theorem RF (n:Nat) (x1:ah) (x2:Int) (x3:Int) (x4:Hood) (x5:List ah):o9 n (x1,(x2,(x3,(x4,x5))))=
 (oV n ((x3,x4))).bind fun (r6:ah)=>
 (l8 n ((r6,(x3,(x2,(x5,x1)))))).bind fun (r7:Bool)=>
 some r7:=by kernel_rfl
theorem ad3 (n g:Nat) (x1:ah) (x2:Int) (x3:Int) (x4:List ah):vU n (g+1) (x1,(x2,(x3,x4)))=
 bif x3==(1:Int) then
  some ((⟨x1,(((x4.length:Nat):Int))==(0:Int)⟩:bG))
 else
  bif (((x4.length:Nat):Int))==(0:Int) then
   some ((⟨(⟨(0:Int),(0:Int),(0:Int),(0:Int),(0:Int),(0:Int),(0:Int),(0:Int),(0:Int),(0:Int),(0:Int),(0:Int),(0:Int),(0:Int),(0:Int),(0:Int)⟩:ah),false⟩:bG))
  else
   (o7 n x3).bind fun (r5:Int)=>
   (idxL x4 (IntKind.wrap .i64 ((((x4.length:Nat):Int))-(1:Int)))).bind fun (r6:ah)=>
   bif inB (IntKind.wrap .i64 ((((x4.length:Nat):Int))-(1:Int))) x4.length then
    bif decide (x2<r5) then
     (vU n g ((x1,(x2,(r5,List.take (Int.toNat (IntKind.wrap .i64 ((((x4.length:Nat):Int))-(1:Int)))) x4))))).bind fun (r7:bG)=>
     (nD n ((r7.D,r6))).bind fun (r8:ah)=>
     some ((⟨r8,r7.Ok⟩:bG))
    else
     (vU n g ((x1,(IntKind.wrap .i64 (x2-r5),(IntKind.wrap .i64 (x3-r5),List.take (Int.toNat (IntKind.wrap .i64 ((((x4.length:Nat):Int))-(1:Int)))) x4))))).bind fun (r9:bG)=>
     (nD n ((r6,r9.D))).bind fun (r10:ah)=>
     some ((⟨r10,r9.Ok⟩:bG))
   else
    none:=by kernel_rfl
theorem ad4 (n:Nat) (x1:ah) (x2:Int) (x3:Int) (x4:List ah) (x5:ah):qW n (x1,(x2,(x3,(x4,x5))))=
 bif bif bif bif decide (x3< (1:Int)) then true else decide (x3> (1099511627776:Int)) then true else decide (x2< (0:Int)) then true else decide (x2>=x3) then
  some false
 else
  (vV n ((x1,(x2,(x3,x4))))).bind fun (r6:bG)=>
  some (bif r6.Ok then (r6.D.b0==x5.b0)&& ((r6.D.b1==x5.b1)&& ((r6.D.b2==x5.b2)&& ((r6.D.b3==x5.b3)&& ((r6.D.b4==x5.b4)&& ((r6.D.b5==x5.b5)&& ((r6.D.b6==x5.b6)&& ((r6.D.b7==x5.b7)&& ((r6.D.b8==x5.b8)&& ((r6.D.b9==x5.b9)&& ((r6.D.b10==x5.b10)&& ((r6.D.b11==x5.b11)&& ((r6.D.b12==x5.b12)&& ((r6.D.b13==x5.b13)&& ((r6.D.b14==x5.b14)&& ((r6.D.b15==x5.b15)&& true))))))))))))))) else false):=by kernel_rfl
theorem ad5 (n:Nat) (x1:ah) (x2:Int) (x3:Int) (x4:Hood) (x5:List ah):vW n (x1,(x2,(x3,(x4,x5))))=
 (oZ n ((x3,x4))).bind fun (r6:ah)=>
 (qW n ((r6,(x3,(x2,(x5,x1)))))).bind fun (r7:Bool)=>
 some r7:=by kernel_rfl
noncomputable def zW (n:Nat) (x1:Graph) (x2:Int) (r8:(List ah)×Int) (r9:bJ) (m:Nat) (p:Int):Option (PUnit⊕Bool):=
 loopF (R:=R) 9 (wrC E ((subO Tryz.f3.body [1,1,1,1,1,1,0,1,0,0]).getD .skip)) (⟨[(1,TV.int IntKind.i64 x2),(5,TV.ref 5 0),(11,TV.int IntKind.i64 (((x1.Hoods.length:Nat):Int))),(12,TV.lst (T:=R.T) Cp.sh (Ty.st 2) r8.1),(13,TV.int IntKind.i64 r8.2),(14,TV.ref 14 0)],[(5,Ob.ro (Ob.cells [TV.lst (T:=R.T) Cp.sh (Ty.st 0) x1.Hoods])),(14,Ob.ro (Ob.cells [TV.lst (T:=R.T) Cp.sh (Ty.st 2) r9.L,TV.int IntKind.i64 r9.E]))]⟩:MS R.T) (getN Ed.loops 9).sh (getN Ed.loops 9).outs (fun st k=>codeM E R n false (regs52 n) iters Ed ((subO Tryz.f3.body [1,1,1,1,1,1,0,1,0,0]).getD .skip) st k) m p
theorem RG (n:Nat) (x1:Graph) (x2:Int) (r8:(List ah)×Int) (r9:bJ) (m:Nat) (x16:Int):zW n x1 x2 r8 r9 (m+1) x16=
 bif decide (x16< (((r8.1.length:Nat):Int))) then
  (idxL r8.1 x16).bind fun (r17:ah)=>
  (idxL r9.L x16).bind fun (r18:ah)=>
  bif !((r17.b0==r18.b0)&& ((r17.b1==r18.b1)&& ((r17.b2==r18.b2)&& ((r17.b3==r18.b3)&& ((r17.b4==r18.b4)&& ((r17.b5==r18.b5)&& ((r17.b6==r18.b6)&& ((r17.b7==r18.b7)&& ((r17.b8==r18.b8)&& ((r17.b9==r18.b9)&& ((r17.b10==r18.b10)&& ((r17.b11==r18.b11)&& ((r17.b12==r18.b12)&& ((r17.b13==r18.b13)&& ((r17.b14==r18.b14)&& ((r17.b15==r18.b15)&& true)))))))))))))))) then
   some (.inr false)
  else
   zW n x1 x2 r8 r9 m (IntKind.wrap .i64 (x16+(1:Int)))
 else
  some (.inl (())):=by kernel_rfl
theorem ad6 (n:Nat) (x1:Graph) (x2:Int) (x3:Hood) (x4:ah) (x5:List ah):Ee n (x1,(x2,(x3,(x4,x5))))=
 (QP n x1).bind fun (r6:Bool)=>
 bif bif bif !r6 then true else decide ((((x3.Slots.length:Nat):Int))> (40:Int)) then true else decide ((((x5.length:Nat):Int))> (30:Int)) then
  (QR n (())).bind fun (r7:Bool)=>
  some r7
 else
  (vM n ((x1,x2))).bind fun (r8:(List ah)×Int)=>
  (vS n ((x1,x2))).bind fun (r9:bJ)=>
  (qV n x1).bind fun (r10:ah)=>
  (vT n x1).bind fun (r11:ah)=>
  bif !(!((r10.b0==r11.b0)&& ((r10.b1==r11.b1)&& ((r10.b2==r11.b2)&& ((r10.b3==r11.b3)&& ((r10.b4==r11.b4)&& ((r10.b5==r11.b5)&& ((r10.b6==r11.b6)&& ((r10.b7==r11.b7)&& ((r10.b8==r11.b8)&& ((r10.b9==r11.b9)&& ((r10.b10==r11.b10)&& ((r10.b11==r11.b11)&& ((r10.b12==r11.b12)&& ((r10.b13==r11.b13)&& ((r10.b14==r11.b14)&& ((r10.b15==r11.b15)&& true))))))))))))))))) then
   (oV n ((x2,x3))).bind fun (r12:ah)=>
   (oZ n ((x2,x3))).bind fun (r13:ah)=>
   bif !(!((r12.b0==r13.b0)&& ((r12.b1==r13.b1)&& ((r12.b2==r13.b2)&& ((r12.b3==r13.b3)&& ((r12.b4==r13.b4)&& ((r12.b5==r13.b5)&& ((r12.b6==r13.b6)&& ((r12.b7==r13.b7)&& ((r12.b8==r13.b8)&& ((r12.b9==r13.b9)&& ((r12.b10==r13.b10)&& ((r12.b11==r13.b11)&& ((r12.b12==r13.b12)&& ((r12.b13==r13.b13)&& ((r12.b14==r13.b14)&& ((r12.b15==r13.b15)&& true))))))))))))))))) then
    bif !(r8.2 !=r9.E) then
     bif !((((r8.1.length:Nat):Int)) !=(((r9.L.length:Nat):Int))) then
      (o9 n ((x4,(((x1.Hoods.length:Nat):Int),(x2,(x3,x5)))))).bind fun (r14:Bool)=>
      (vW n ((x4,(((x1.Hoods.length:Nat):Int),(x2,(x3,x5)))))).bind fun (r15:Bool)=>
      bif !(r14==r15) then
       some false
      else
       (zW n x1 x2 r8 r9 n (0:Int)).bind fun (r19:PUnit⊕Bool)=>
       Sum.elim (fun (q20:PUnit)=>
        (QR n (())).bind fun (r22:Bool)=>
        bif r22 then
         bif !(r8.2 !=(0:Int)) then
          (qV n x1).bind fun (r23:ah)=>
          (idxL x1.Hoods x2).bind fun (r24:Hood)=>
          (o9 n ((r23,(((x1.Hoods.length:Nat):Int),(x2,(r24,r8.1)))))).bind fun (r25:Bool)=>
          some r25
         else
          some true
        else
         some false)
        (fun (q21:Bool)=>
         some q21) r19
     else
      some false
    else
     some false
   else
    some false
  else
   some false:=by kernel_rfl
attribute [irreducible] QP_L4 zT zU zV zW
end Sh
