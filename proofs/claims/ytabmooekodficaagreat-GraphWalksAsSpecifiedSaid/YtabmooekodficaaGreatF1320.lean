import Derived.Test.YtabmooekodficaaGreatF1319
set_option linter.all false
open Go Go.Proofs Aq
namespace Sh
set_option maxRecDepth 100000
def getN (l:List (Nat×Note)) (k:Nat):Note:=match look l k with
 |some q=>q
 |none=>⟨[],[],⟨[],[]⟩,[]⟩
abbrev tabS0:List UInt8:=[0,1,2,2,3,3,3,3,4,4,4,4,4,4,4,4,5,5,5,5,5,5,5,5,5,5,5,5,5,5,5,5,6,6,6,6,6,6,6,6,6,6,6,6,6,6,6,6,6,6,6,6,6,6,6,6,6,6,6,6,6,6,6,6,7,7,7,7,7,7,7,7,7,7,7,7,7,7,7,7,7,7,7,7,7,7,7,7,7,7,7,7,7,7,7,7,7,7,7,7,7,7,7,7,7,7,7,7,7,7,7,7,7,7,7,7,7,7,7,7,7,7,7,7,7,7,7,7,8,8,8,8,8,8,8,8,8,8,8,8,8,8,8,8,8,8,8,8,8,8,8,8,8,8,8,8,8,8,8,8,8,8,8,8,8,8,8,8,8,8,8,8,8,8,8,8,8,8,8,8,8,8,8,8,8,8,8,8,8,8,8,8,8,8,8,8,8,8,8,8,8,8,8,8,8,8,8,8,8,8,8,8,8,8,8,8,8,8,8,8,8,8,8,8,8,8,8,8,8,8,8,8,8,8,8,8,8,8,8,8,8,8,8,8,8,8,8,8,8,8,8,8,8,8,8,8]
noncomputable def Zw_L4 (n:Nat) (x1:List (List Int)) (m:Nat) (p:Int):Option (PUnit⊕Bool):=
 loopF (R:=R) 4 (wrC E ((subO Tryz.f6.body [1,1,0,1,0,0]).getD .skip)) (⟨[(0,TV.lst (T:=R.T) Cp.sh (Ty.slice (Ty.int IntKind.i64)) x1)],[]⟩:MS R.T) (getN Zw_a.loops 4).sh (getN Zw_a.loops 4).outs (fun st k=>codeM E R n false (regs0 n) iters Zw_a ((subO Tryz.f6.body [1,1,0,1,0,0]).getD .skip) st k) m p
theorem Zw_L4_s (n:Nat) (x1:List (List Int)) (m:Nat) (x3:Int):Zw_L4 n x1 (m+1) x3=
 bif decide (x3< (((x1.length:Nat):Int))) then
  (idxL x1 x3).bind fun (r4:List Int)=>
  bif decide ((((r4.length:Nat):Int))> (40:Int)) then
   some (.inr false)
  else
   Zw_L4 n x1 m (IntKind.wrap .i64 (x3+(1:Int)))
 else
  some (.inl (())):=by kernel_rfl
theorem Zw_eq (n:Nat) (x1:List (List Int)) (x2:Int):Zw n (x1,x2)=
 bif decide ((((x1.length:Nat):Int))>x2) then
  some false
 else
  (Zw_L4 n x1 n (0:Int)).bind fun (r5:PUnit⊕Bool)=>
  Sum.elim (fun (q6:PUnit)=>
   some true)
   (fun (q7:Bool)=>
    some q7) r5:=by kernel_rfl
noncomputable def Zx_L4 (n:Nat) (x1:Graph) (m:Nat) (p:Int):Option (PUnit⊕Bool):=
 loopF (R:=R) 4 (wrC E ((subO Tryz.f7.body [1,1,0,1,0,0]).getD .skip)) (⟨[(1,TV.ref 1 0)],[(1,Ob.ro (Ob.cells [TV.lst (T:=R.T) Cp.sh (Ty.st 0) x1.Hoods]))]⟩:MS R.T) (getN Zx_a.loops 4).sh (getN Zx_a.loops 4).outs (fun st k=>codeM E R n false (regs1 n) iters Zx_a ((subO Tryz.f7.body [1,1,0,1,0,0]).getD .skip) st k) m p
theorem Zx_L4_s (n:Nat) (x1:Graph) (m:Nat) (x2:Int):Zx_L4 n x1 (m+1) x2=
 bif decide (x2< (((x1.Hoods.length:Nat):Int))) then
  (idxL x1.Hoods x2).bind fun (r3:Hood)=>
  bif decide ((((r3.Slots.length:Nat):Int))> (40:Int)) then
   some (.inr false)
  else
   Zx_L4 n x1 m (IntKind.wrap .i64 (x2+(1:Int)))
 else
  some (.inl (())):=by kernel_rfl
theorem Zx_eq (n:Nat) (x1:Graph):Zx n x1=
 bif decide ((((x1.Hoods.length:Nat):Int))> (30:Int)) then
  some false
 else
  (Zx_L4 n x1 n (0:Int)).bind fun (r4:PUnit⊕Bool)=>
  Sum.elim (fun (q5:PUnit)=>
   some true)
   (fun (q6:Bool)=>
    some q6) r4:=by kernel_rfl
theorem Xj_eq (n:Nat) (x1:Int) (x2:Int) (x3:Int):Xj n (x1,(x2,x3))=
 some (imax x2 (imin x1 x3)):=by kernel_rfl
theorem Xx_eq (n:Nat) (x1:Int) (x2:Int):Xx n (x1,x2)=
 (whenO (bif decide (x1>=(1:Int)) then decide (x1<=(3:Int)) else false) (Xj n ((x2,((0:Int),(134217728:Int))))) (0:Int)).bind fun (r3:Int)=>
 some (bif bif decide (x1>=(1:Int)) then decide (x1<=(3:Int)) else false then r3==x2 else false):=by kernel_rfl
theorem XD_eq (n:Nat) (x1:Bool) (x2:Int):XD n (x1,x2)=
 some (bif bif x1 then decide (x2>=(-1000:Int)) else false then decide (x2<=(1000:Int)) else false):=by kernel_rfl
noncomputable def ZK_L2 (n:Nat) (x1:List Int) (m:Nat) (p:Bool×Int):Option (Bool):=
 loopF (R:=R) 2 (wrC E ((subO Tryz.f87.body [1,0,1,0,0]).getD .skip)) (⟨[(2,TV.fn 88 [] []),(9,TV.lst (T:=R.T) Cp.sh (Ty.int IntKind.i64) x1),(10,TV.int IntKind.i64 (((x1.length:Nat):Int)))],[]⟩:MS R.T) (getN ZK_a.loops 2).sh (getN ZK_a.loops 2).outs (fun st k=>codeM E R n false (regs6 n) iters ZK_a ((subO Tryz.f87.body [1,0,1,0,0]).getD .skip) st k) m p
theorem ZK_L2_s (n:Nat) (x1:List Int) (m:Nat) (x3:Bool) (x4:Int):ZK_L2 n x1 (m+1) (x3,x4)=
 bif decide (x4< (((x1.length:Nat):Int))) then
  (idxL x1 x4).bind fun (r5:Int)=>
  (XD n ((x3,r5))).bind fun (r6:Bool)=>
  ZK_L2 n x1 m ((r6,IntKind.wrap .i64 (x4+(1:Int))))
 else
  some x3:=by kernel_rfl
theorem ZK_eq (n:Nat) (x1:List Int) (x2:Bool):ZK n (x1,(x2,((),())))=
 (ZK_L2 n x1 n ((x2,(0:Int)))).bind fun (r7:Bool)=>
 some r7:=by kernel_rfl
theorem Xs_eq (n:Nat) (x1:List Int):Xs n x1=
 (ZK n ((x1,(true,((),()))))).bind fun (r2:Bool)=>
 some (bif bif r2 then decide ((((x1.length:Nat):Int))>=(1:Int)) else false then decide ((((x1.length:Nat):Int))<=(32:Int)) else false):=by kernel_rfl
theorem Xt_eq (n:Nat) (x1:List Int) (x2:List Int):Xt n (x1,x2)=
 (whenO ((((x1.length:Nat):Int))==(((x2.length:Nat):Int))) (Xs n x1) false).bind fun (r3:Bool)=>
 (whenO (bif (((x1.length:Nat):Int))==(((x2.length:Nat):Int)) then r3 else false) (Xs n x2) false).bind fun (r4:Bool)=>
 some (bif bif (((x1.length:Nat):Int))==(((x2.length:Nat):Int)) then r3 else false then r4 else false):=by kernel_rfl
theorem Xy_eq (n:Nat) (x1:List Int) (x2:Int) (x3:List (List Int)):Xy n (x1,(x2,x3))=
 (idxL x3 (0:Int)).bind fun (r4:List Int)=>
 (Xt n ((r4,x1))).bind fun (r5:Bool)=>
 some (!r5):=by kernel_rfl
noncomputable def ZH_L2 (n:Nat) (x1:List (List Int)) (x2:Int) (x3:List (List Int)) (m:Nat) (p:Int):Option (PUnit⊕Int):=
 loopF (R:=R) 2 (wrC E ((subO Tryz.f85.body [1,0,1,0,0]).getD .skip)) (⟨[(0,TV.lst (T:=R.T) Cp.sh (Ty.slice (Ty.int IntKind.i64)) x1),(1,TV.fn 67 [] ([TV.cref [TV.int IntKind.i64 x2,TV.lst (T:=R.T) Cp.sh (Ty.slice (Ty.int IntKind.i64)) x3] 0])),(7,TV.int IntKind.i64 (((x1.length:Nat):Int)))],[]⟩:MS R.T) (getN ZH_a.loops 2).sh (getN ZH_a.loops 2).outs (fun st k=>codeM E R n false (regs10 n) iters ZH_a ((subO Tryz.f85.body [1,0,1,0,0]).getD .skip) st k) m p
theorem ZH_L2_s (n:Nat) (x1:List (List Int)) (x2:Int) (x3:List (List Int)) (m:Nat) (x4:Int):ZH_L2 n x1 x2 x3 (m+1) x4=
 bif decide (x4< (((x1.length:Nat):Int))) then
  (idxL x1 x4).bind fun (r5:List Int)=>
  (Xy n ((r5,(x2,x3)))).bind fun (r6:Bool)=>
  bif r6 then
   some (.inr x4)
  else
   ZH_L2 n x1 x2 x3 m (IntKind.wrap .i64 (x4+(1:Int)))
 else
  some (.inl (())):=by kernel_rfl
theorem ZH_eq (n:Nat) (x1:List (List Int)) (x2:Int) (x3:List (List Int)):ZH n (x1,((),(x2,x3)))=
 (ZH_L2 n x1 x2 x3 n (0:Int)).bind fun (r7:PUnit⊕Int)=>
 Sum.elim (fun (q8:PUnit)=>
  some (-1:Int))
  (fun (q9:Int)=>
   some q9) r7:=by kernel_rfl
theorem Xz_eq (n:Nat) (x1:List (List Int)) (x2:Int) (x3:List (List Int)):Xz n (x1,((),(x2,x3)))=
 (ZH n ((x1,((),(x2,x3))))).bind fun (r4:Int)=>
 some (decide (r4>=(0:Int))):=by kernel_rfl
theorem XA_eq (n:Nat) (x1:graph_space):XA n x1=
 (Xx n ((x1.m,(0:Int)))).bind fun (r2:Bool)=>
 (whenO (bif bif r2 then decide ((((x1.l.length:Nat):Int))>=(1:Int)) else false then decide ((((x1.l.length:Nat):Int))<=(4096:Int)) else false) (Xz n ((x1.l,((),(x1.m,x1.l))))) false).bind fun (r3:Bool)=>
 some (bif bif bif r2 then decide ((((x1.l.length:Nat):Int))>=(1:Int)) else false then decide ((((x1.l.length:Nat):Int))<=(4096:Int)) else false then !r3 else false):=by kernel_rfl
noncomputable def ZI_L2 (n:Nat) (x1:List Int) (x2:Int) (m:Nat) (p:Int):Option (PUnit⊕Int):=
 loopF (R:=R) 2 (wrC E ((subO Tryz.f72.body [1,0,1,0,0]).getD .skip)) (⟨[(0,TV.lst (T:=R.T) Cp.sh (Ty.int IntKind.i64) x1),(1,TV.int IntKind.i64 x2),(7,TV.int IntKind.i64 (((x1.length:Nat):Int)))],[]⟩:MS R.T) (getN ZI_a.loops 2).sh (getN ZI_a.loops 2).outs (fun st k=>codeM E R n false (regs13 n) iters ZI_a ((subO Tryz.f72.body [1,0,1,0,0]).getD .skip) st k) m p
theorem ZI_L2_s (n:Nat) (x1:List Int) (x2:Int) (m:Nat) (x3:Int):ZI_L2 n x1 x2 (m+1) x3=
 bif decide (x3< (((x1.length:Nat):Int))) then
  (idxL x1 x3).bind fun (r4:Int)=>
  bif x2==r4 then
   some (.inr x3)
  else
   ZI_L2 n x1 x2 m (IntKind.wrap .i64 (x3+(1:Int)))
 else
  some (.inl (())):=by kernel_rfl
theorem ZI_eq (n:Nat) (x1:List Int) (x2:Int):ZI n (x1,x2)=
 (ZI_L2 n x1 x2 n (0:Int)).bind fun (r5:PUnit⊕Int)=>
 Sum.elim (fun (q6:PUnit)=>
  some (-1:Int))
  (fun (q7:Int)=>
   some q7) r5:=by kernel_rfl
theorem XB_eq (n:Nat) (x1:List Int) (x2:Int):XB n (x1,x2)=
 (ZI n ((x1,x2))).bind fun (r3:Int)=>
 some (decide (r3>=(0:Int))):=by kernel_rfl
noncomputable def Ze_L9 (n:Nat) (x1:Int) (x2:Graph) (x3:Int) (r4:Hood) (m:Nat) (p:Int):Option (PUnit⊕Bool):=
 loopF (R:=R) 9 (wrC E ((subO Tryz.f24.body [1,1,0,1,0,0,1,1,0,0,1,1,1,0,0]).getD .skip)) (⟨[(0,TV.int IntKind.i64 x1),(6,TV.ref 6 0),(23,TV.lst (T:=R.T) Cp.sh (Ty.st 0) x2.Hoods),(24,TV.int IntKind.i64 (((x2.Hoods.length:Nat):Int))),(25,TV.int IntKind.i64 x3),(46,TV.lst (T:=R.T) Cp.sh (Ty.int IntKind.i64) r4.Slots),(47,TV.int IntKind.i64 (((r4.Slots.length:Nat):Int)))],[(6,Ob.ro (Ob.cells [TV.int IntKind.i64 r4.Radius,TV.lst (T:=R.T) Cp.sh (Ty.int IntKind.i64) r4.Slots]))]⟩:MS R.T) (getN Ze_a.loops 9).sh (getN Ze_a.loops 9).outs (fun st k=>codeM E R n false (regs15 n) iters Ze_a ((subO Tryz.f24.body [1,1,0,1,0,0,1,1,0,0,1,1,1,0,0]).getD .skip) st k) m p
noncomputable def Ze_L4 (n:Nat) (x1:Int) (x2:Graph) (m:Nat) (p:Int):Option (PUnit⊕Bool):=
 loopF (R:=R) 4 (wrC E ((subO Tryz.f24.body [1,1,0,1,0,0]).getD .skip)) (⟨[(0,TV.int IntKind.i64 x1),(23,TV.lst (T:=R.T) Cp.sh (Ty.st 0) x2.Hoods),(24,TV.int IntKind.i64 (((x2.Hoods.length:Nat):Int)))],[]⟩:MS R.T) (getN Ze_a.loops 4).sh (getN Ze_a.loops 4).outs (fun st k=>codeM E R n false (regs15 n) iters Ze_a ((subO Tryz.f24.body [1,1,0,1,0,0]).getD .skip) st k) m p
theorem Ze_L9_s (n:Nat) (x1:Int) (x2:Graph) (x3:Int) (r4:Hood) (m:Nat) (x6:Int):Ze_L9 n x1 x2 x3 r4 (m+1) x6=
 bif decide (x6< (((r4.Slots.length:Nat):Int))) then
  (idxL r4.Slots x6).bind fun (r7:Int)=>
  (whenO (bif !(bif decide (r7< (0:Int)) then true else decide (r7>=x1)) then decide (x6> (0:Int)) else false) (idxL r4.Slots (IntKind.wrap .i64 (x6-(1:Int)))) (0:Int)).bind fun (r8:Int)=>
  bif bif bif decide (r7< (0:Int)) then true else decide (r7>=x1) then true else bif decide (x6> (0:Int)) then decide (r7<=r8) else false then
   some (.inr false)
  else
   Ze_L9 n x1 x2 x3 r4 m (IntKind.wrap .i64 (x6+(1:Int)))
 else
  some (.inl (())):=by kernel_rfl
theorem Ze_L4_s (n:Nat) (x1:Int) (x2:Graph) (m:Nat) (x3:Int):Ze_L4 n x1 x2 (m+1) x3=
 bif decide (x3< (((x2.Hoods.length:Nat):Int))) then
  (idxL x2.Hoods x3).bind fun (r4:Hood)=>
  (whenO (!(bif decide (r4.Radius< (0:Int)) then true else decide (r4.Radius> (134217728:Int)))) (XB n ((r4.Slots,x3))) false).bind fun (r5:Bool)=>
  bif bif bif decide (r4.Radius< (0:Int)) then true else decide (r4.Radius> (134217728:Int)) then true else !r5 then
   some (.inr false)
  else
   (Ze_L9 n x1 x2 x3 r4 n (0:Int)).bind fun (r9:PUnit⊕Bool)=>
   Sum.elim (fun (q10:PUnit)=>
    Ze_L4 n x1 x2 m (IntKind.wrap .i64 (x3+(1:Int))))
    (fun (q11:Bool)=>
     some (.inr q11)) r9
 else
  some (.inl (())):=by kernel_rfl
theorem Ze_eq (n:Nat) (x1:Int) (x2:Graph):Ze n (x1,x2)=
 bif bif bif decide (x1< (1:Int)) then true else decide (x1> (4096:Int)) then true else (((x2.Hoods.length:Nat):Int)) !=x1 then
  some false
 else
  (Ze_L4 n x1 x2 n (0:Int)).bind fun (r12:PUnit⊕Bool)=>
  Sum.elim (fun (q13:PUnit)=>
   some true)
   (fun (q14:Bool)=>
    some q14) r12:=by kernel_rfl
theorem ZO_eq (n:Nat) (x1:List Int):ZO n (x1) (())=
 bif !(List.isEmpty x1) then
  bif roomOK x1.length 8 then
   some ((x1,()))
  else
   none
 else
  none:=by kernel_rfl
noncomputable def Zy_L3 (n:Nat) (x2:List Int) (r3:(List Int)×PUnit) (m:Nat) (p:Int×List Int):Option (PUnit×List Int):=
 loopF (R:=R) 3 (wrC E ((subO Tryz.f54.body [1,1,0,1,0,0]).getD .skip)) (⟨[(1,TV.lst (T:=R.T) Cp.sh (Ty.int IntKind.i64) x2),(5,TV.vw 8 (Ty.int IntKind.i64)),(10,TV.int IntKind.i64 (((r3.1.length:Nat):Int)))],[]⟩:MS R.T) (getN Zy_a.loops 3).sh (getN Zy_a.loops 3).outs (fun st k=>codeM E R n false (regs16 n) (its1 n) Zy_a ((subO Tryz.f54.body [1,1,0,1,0,0]).getD .skip) st k) m p
theorem Zy_L3_s (n:Nat) (x2:List Int) (r3:(List Int)×PUnit) (m:Nat) (x4:Int) (x5:List Int):Zy_L3 n x2 r3 (m+1) (x4,x5)=
 bif decide (x4< (((r3.1.length:Nat):Int))) then
  bif decide (0<=x4/\x4< ((x5.length:Nat):Int)) then
   (idxL x5 x4).bind fun (r6:Int)=>
   (idxL x2 x4).bind fun (r7:Int)=>
   bif decide (0<=x4/\x4< ((x5.length:Nat):Int)) then
    (idxL x5 x4).bind fun (r8:Int)=>
    Zy_L3 n x2 r3 m ((IntKind.wrap .i64 (x4+(1:Int)),setL x5 x4 (IntKind.wrap .i64 (r6-r7))))
   else
    none
  else
   none
 else
  some (((),x5)):=by kernel_rfl
theorem Zy_eq (n:Nat) (x1:List Int) (x2:List Int):Zy n (x1,x2)=
 (ZO n x1 (())).bind fun (r3:(List Int)×PUnit)=>
 (Zy_L3 n x2 r3 n (((0:Int),r3.1))).bind fun (r9:PUnit×List Int)=>
 some r9.2:=by kernel_rfl
theorem Xu_eq (n:Nat) (x1:Int) (x2:Int):Xu n (x1,x2)=
 some (IntKind.wrap .i64 (x1+(imax x2 (IntKind.wrap .i64 ((0:Int)-x2))))):=by kernel_rfl
noncomputable def ZC_L2 (n:Nat) (x1:List Int) (m:Nat) (p:Int×Int):Option (Int):=
 loopF (R:=R) 2 (wrC E ((subO Tryz.f76.body [1,0,1,0,0]).getD .skip)) (⟨[(2,TV.fn 73 [] []),(9,TV.lst (T:=R.T) Cp.sh (Ty.int IntKind.i64) x1),(10,TV.int IntKind.i64 (((x1.length:Nat):Int)))],[]⟩:MS R.T) (getN ZC_a.loops 2).sh (getN ZC_a.loops 2).outs (fun st k=>codeM E R n false (regs18 n) (its1 n) ZC_a ((subO Tryz.f76.body [1,0,1,0,0]).getD .skip) st k) m p
theorem ZC_L2_s (n:Nat) (x1:List Int) (m:Nat) (x3:Int) (x4:Int):ZC_L2 n x1 (m+1) (x3,x4)=
 bif decide (x4< (((x1.length:Nat):Int))) then
  (idxL x1 x4).bind fun (r5:Int)=>
  (Xu n ((x3,r5))).bind fun (r6:Int)=>
  ZC_L2 n x1 m ((r6,IntKind.wrap .i64 (x4+(1:Int))))
 else
  some x3:=by kernel_rfl
theorem ZC_eq (n:Nat) (x1:List Int) (x2:Int):ZC n (x1,(x2,((),())))=
 (ZC_L2 n x1 n ((x2,(0:Int)))).bind fun (r7:Int)=>
 some r7:=by kernel_rfl
theorem Xv_eq (n:Nat) (x1:Int) (x2:Int):Xv n (x1,x2)=
 some (IntKind.wrap .i64 (x1+(IntKind.wrap .i64 (x2*x2)))):=by kernel_rfl
noncomputable def ZD_L2 (n:Nat) (x1:List Int) (m:Nat) (p:Int×Int):Option (Int):=
 loopF (R:=R) 2 (wrC E ((subO Tryz.f76.body [1,0,1,0,0]).getD .skip)) (⟨[(2,TV.fn 74 [] []),(9,TV.lst (T:=R.T) Cp.sh (Ty.int IntKind.i64) x1),(10,TV.int IntKind.i64 (((x1.length:Nat):Int)))],[]⟩:MS R.T) (getN ZD_a.loops 2).sh (getN ZD_a.loops 2).outs (fun st k=>codeM E R n false (regs20 n) (its1 n) ZD_a ((subO Tryz.f76.body [1,0,1,0,0]).getD .skip) st k) m p
theorem ZD_L2_s (n:Nat) (x1:List Int) (m:Nat) (x3:Int) (x4:Int):ZD_L2 n x1 (m+1) (x3,x4)=
 bif decide (x4< (((x1.length:Nat):Int))) then
  (idxL x1 x4).bind fun (r5:Int)=>
  (Xv n ((x3,r5))).bind fun (r6:Int)=>
  ZD_L2 n x1 m ((r6,IntKind.wrap .i64 (x4+(1:Int))))
 else
  some x3:=by kernel_rfl
theorem ZD_eq (n:Nat) (x1:List Int) (x2:Int):ZD n (x1,(x2,((),())))=
 (ZD_L2 n x1 n ((x2,(0:Int)))).bind fun (r7:Int)=>
 some r7:=by kernel_rfl
theorem Xw_eq (n:Nat) (x1:Int) (x2:Int):Xw n (x1,x2)=
 some (imax (imax x1 x2) (IntKind.wrap .i64 ((0:Int)-x2))):=by kernel_rfl
noncomputable def ZE_L2 (n:Nat) (x1:List Int) (m:Nat) (p:Int×Int):Option (Int):=
 loopF (R:=R) 2 (wrC E ((subO Tryz.f76.body [1,0,1,0,0]).getD .skip)) (⟨[(2,TV.fn 75 [] []),(9,TV.lst (T:=R.T) Cp.sh (Ty.int IntKind.i64) x1),(10,TV.int IntKind.i64 (((x1.length:Nat):Int)))],[]⟩:MS R.T) (getN ZE_a.loops 2).sh (getN ZE_a.loops 2).outs (fun st k=>codeM E R n false (regs22 n) (its1 n) ZE_a ((subO Tryz.f76.body [1,0,1,0,0]).getD .skip) st k) m p
theorem ZE_L2_s (n:Nat) (x1:List Int) (m:Nat) (x3:Int) (x4:Int):ZE_L2 n x1 (m+1) (x3,x4)=
 bif decide (x4< (((x1.length:Nat):Int))) then
  (idxL x1 x4).bind fun (r5:Int)=>
  (Xw n ((x3,r5))).bind fun (r6:Int)=>
  ZE_L2 n x1 m ((r6,IntKind.wrap .i64 (x4+(1:Int))))
 else
  some x3:=by kernel_rfl
theorem ZE_eq (n:Nat) (x1:List Int) (x2:Int):ZE n (x1,(x2,((),())))=
 (ZE_L2 n x1 n ((x2,(0:Int)))).bind fun (r7:Int)=>
 some r7:=by kernel_rfl
theorem Xk_eq (n:Nat) (x1:Int) (x2:List Int):Xk n (x1,x2)=
 bif x1==(1:Int) then
  (ZC n ((x2,((0:Int),((),()))))).bind fun (r3:Int)=>
  some r3
 else
  bif x1==(2:Int) then
   (ZD n ((x2,((0:Int),((),()))))).bind fun (r4:Int)=>
   some r4
  else
   bif x1==(3:Int) then
    (ZE n ((x2,((0:Int),((),()))))).bind fun (r5:Int)=>
    some r5
   else
    none:=by kernel_rfl
theorem Xl_eq (n:Nat) (x1:Int) (x2:List Int) (x3:List Int):Xl n (x1,(x2,x3))=
 (Zy n ((x2,x3))).bind fun (r4:List Int)=>
 (Xk n ((x1,r4))).bind fun (r5:Int)=>
 some r5:=by kernel_rfl
noncomputable def Zm_L3 (n:Nat) (x1:graph_space) (x2:List Int) (m:Nat) (p:(List Int)×Int):Option (List Int):=
 loopF (R:=R) 3 (wrC E ((subO Tryz.f43.body [1,1,0,1,0,0]).getD .skip)) (⟨[(1,TV.lst (T:=R.T) Cp.sh (Ty.int IntKind.i64) x2),(2,TV.ref 2 0),(9,TV.lst (T:=R.T) Cp.sh (Ty.slice (Ty.int IntKind.i64)) x1.l),(10,TV.int IntKind.i64 (((x1.l.length:Nat):Int)))],[(2,Ob.ro (Ob.cells [TV.int IntKind.i64 x1.m,TV.lst (T:=R.T) Cp.sh (Ty.slice (Ty.int IntKind.i64)) x1.l]))]⟩:MS R.T) (getN Zm_a.loops 3).sh (getN Zm_a.loops 3).outs (fun st k=>codeM E R n false (regs25 n) (its1 n) Zm_a ((subO Tryz.f43.body [1,1,0,1,0,0]).getD .skip) st k) m p
theorem Zm_L3_s (n:Nat) (x1:graph_space) (x2:List Int) (m:Nat) (x3:List Int) (x4:Int):Zm_L3 n x1 x2 (m+1) (x3,x4)=
 bif decide (x4< (((x1.l.length:Nat):Int))) then
  (idxL x1.l x4).bind fun (r5:List Int)=>
  (Xl n ((x1.m,(r5,x2)))).bind fun (r6:Int)=>
  bif roomOK (x3.length+([r6].length)) 8 then
   Zm_L3 n x1 x2 m ((x3++[r6],IntKind.wrap .i64 (x4+(1:Int))))
  else
   none
 else
  some x3:=by kernel_rfl
theorem Zm_eq (n:Nat) (x1:graph_space) (x2:List Int):Zm n (x1,x2)=
 (Zm_L3 n x1 x2 n (([],(0:Int)))).bind fun (r7:List Int)=>
 some r7:=by kernel_rfl
theorem ZY_eq (n:Nat) (x1:Int) (x2:List (List Int)) (x3:Graph) (x4:List Int) (x5:Int):ZY n (x1,(x2,(x3,(x4,x5))))=
 (XA n ((⟨x1,x2⟩:graph_space))).bind fun (r6:Bool)=>
 (whenO (!(!r6)) (Ze n ((((x2.length:Nat):Int),x3))) false).bind fun (r7:Bool)=>
 (whenO (!(bif !r6 then true else !r7)) (idxL x2 (0:Int)) []).bind fun (r8:List Int)=>
 (whenO (!(bif !r6 then true else !r7)) (Xt n ((r8,x4))) false).bind fun (r9:Bool)=>
 bif bif bif bif bif !r6 then true else !r7 then true else !r9 then true else decide (x5< (0:Int)) then true else decide (x5>=(((x2.length:Nat):Int))) then
  some (((⟨(⟨x1,x2⟩:graph_space),x3,[]⟩:graph_search),false))
 else
  (Zm n (((⟨x1,x2⟩:graph_space),x4))).bind fun (r10:List Int)=>
  some (((⟨(⟨x1,x2⟩:graph_space),x3,r10⟩:graph_search),true)):=by kernel_rfl
theorem ZQ_eq (n:Nat) (x1:graph_search) (x2:Int):ZQ n ((x1,x2)) (())=
 some ((((),((x1.space.m,(x1.space.l,(x1.g.Hoods,x1.keyed))),x2)),())):=by kernel_rfl
noncomputable def Zn_R3 (n:Nat) (xs:List Int) (p:PUnit×PUnit×List Int):Option (PUnit×PUnit×List Int):=
 foldF (R:=R) (X:=PayL R.T intEl) 3 (wrR E (subO Tryz.f56.body [1,0,1,0])) (⟨[(2,TV.ref 2 0)],[]⟩:MS R.T) (getN Zn_a.loops 3).sh (getN Zn_a.loops 3).outs (rndM E R n true (regs27 n) (its2 n) Zn_a (subO Tryz.f56.body [1,0,1,0]) intEl) xs p
theorem Zn_R3_0 (n:Nat) (x7:List Int):Zn_R3 n [] ((),((),x7))=
 some (((),((),x7))):=by kernel_rfl
theorem Zn_R3_s (n:Nat) (x8:Int) (xs:List Int) (x9:List Int):Zn_R3 n (x8::xs) ((),((),x9))=
 bif roomOK (x9.length+([x8].length)) 8 then
  Zn_R3 n xs (((),((),x9++[x8])))
 else
  none:=by kernel_rfl
theorem Zn_eq (n:Nat) (x1:Int) (x2:List (List Int)) (x3:List Hood) (x4:List Int) (x5:Int):Zn n (((),((),((),(x1,(x2,(x3,x4))))))) (x5)=
 Option.bind (α:=PUnit×PUnit×List Int) (
  (walkR ((x1,(x2,(x3,x4)))) x5).bind fun (r6:List Int)=>
  Zn_R3 n r6 (((),((),[])))) fun (r10:PUnit×PUnit×List Int)=>
 some ((r10.2.2,())):=by kernel_rfl
theorem Xb_eq (n:Nat) (x1:Int) (x2:List (List Int)) (x3:List Hood) (x4:List Int) (x5:Int):Xb n (((),((),(x1,(x2,(x3,x4)))))) (x5)=
 (Zn n (((),((),((),(x1,(x2,(x3,x4))))))) x5).bind fun (r6:(List Int)×PUnit)=>
 some ((r6.1,())):=by kernel_rfl
theorem ZW_eq (n:Nat) (x1:Int) (x2:List (List Int)) (x3:Graph) (x4:List Int) (x5:Int):ZW n (x1,(x2,(x3,(x4,x5))))=
 (ZY n ((x1,(x2,(x3,(x4,x5)))))).bind fun (r6:graph_search×Bool)=>
 bif !r6.2 then
  some (([],(1:Int)))
 else
  (ZQ n (((⟨r6.1.space,r6.1.g,r6.1.keyed⟩:graph_search),x5)) (())).bind fun (r7:(PUnit×(Int×(List (List Int))×(List Hood)×List Int)×Int)×PUnit)=>
  (Xb n (((),((),(r7.1.2.1.1,(r7.1.2.1.2.1,(r7.1.2.1.2.2.1,r7.1.2.1.2.2.2)))))) r7.1.2.2).bind fun (r8:(List Int)×PUnit)=>
  some ((r8.1,(0:Int))):=by kernel_rfl
theorem ZN_eq (n:Nat) (x1:Int):ZN n x1=
 bif decide (x1>=(4294967296:Int)) then
  bif decide ((0:Int)<=(32:Int)) then
   bif decide ((bitShr .u64 x1 (32:Int))>=(65536:Int)) then
    bif decide ((0:Int)<=(16:Int)) then
     bif decide ((bitShr .u64 (bitShr .u64 x1 (32:Int)) (16:Int))>=(256:Int)) then
      bif decide ((0:Int)<=(8:Int)) then
       (idxL tabS0 (IntKind.wrap .u8 (bitShr .u64 (bitShr .u64 (bitShr .u64 x1 (32:Int)) (16:Int)) (8:Int)))).bind fun (r2:UInt8)=>
       some (IntKind.wrap .i64 ((IntKind.wrap .i64 ((IntKind.wrap .i64 ((32:Int)+(16:Int)))+(8:Int)))+(IntKind.wrap .i64 (((r2.toNat:Nat):Int)))))
      else
       none
     else
      (idxL tabS0 (IntKind.wrap .u8 (bitShr .u64 (bitShr .u64 x1 (32:Int)) (16:Int)))).bind fun (r3:UInt8)=>
      some (IntKind.wrap .i64 ((IntKind.wrap .i64 ((32:Int)+(16:Int)))+(IntKind.wrap .i64 (((r3.toNat:Nat):Int)))))
    else
     none
   else
    bif decide ((bitShr .u64 x1 (32:Int))>=(256:Int)) then
     bif decide ((0:Int)<=(8:Int)) then
      (idxL tabS0 (IntKind.wrap .u8 (bitShr .u64 (bitShr .u64 x1 (32:Int)) (8:Int)))).bind fun (r4:UInt8)=>
      some (IntKind.wrap .i64 ((IntKind.wrap .i64 ((32:Int)+(8:Int)))+(IntKind.wrap .i64 (((r4.toNat:Nat):Int)))))
     else
      none
    else
     (idxL tabS0 (IntKind.wrap .u8 (bitShr .u64 x1 (32:Int)))).bind fun (r5:UInt8)=>
     some (IntKind.wrap .i64 ((32:Int)+(IntKind.wrap .i64 (((r5.toNat:Nat):Int)))))
  else
   none
 else
  bif decide (x1>=(65536:Int)) then
   bif decide ((0:Int)<=(16:Int)) then
    bif decide ((bitShr .u64 x1 (16:Int))>=(256:Int)) then
     bif decide ((0:Int)<=(8:Int)) then
      (idxL tabS0 (IntKind.wrap .u8 (bitShr .u64 (bitShr .u64 x1 (16:Int)) (8:Int)))).bind fun (r6:UInt8)=>
      some (IntKind.wrap .i64 ((IntKind.wrap .i64 ((IntKind.wrap .i64 ((0:Int)+(16:Int)))+(8:Int)))+(IntKind.wrap .i64 (((r6.toNat:Nat):Int)))))
     else
      none
    else
     (idxL tabS0 (IntKind.wrap .u8 (bitShr .u64 x1 (16:Int)))).bind fun (r7:UInt8)=>
     some (IntKind.wrap .i64 ((IntKind.wrap .i64 ((0:Int)+(16:Int)))+(IntKind.wrap .i64 (((r7.toNat:Nat):Int)))))
   else
    none
  else
   bif decide (x1>=(256:Int)) then
    bif decide ((0:Int)<=(8:Int)) then
     (idxL tabS0 (IntKind.wrap .u8 (bitShr .u64 x1 (8:Int)))).bind fun (r8:UInt8)=>
     some (IntKind.wrap .i64 ((IntKind.wrap .i64 ((0:Int)+(8:Int)))+(IntKind.wrap .i64 (((r8.toNat:Nat):Int)))))
    else
     none
   else
    (idxL tabS0 (IntKind.wrap .u8 x1)).bind fun (r9:UInt8)=>
    some (IntKind.wrap .i64 ((0:Int)+(IntKind.wrap .i64 (((r9.toNat:Nat):Int))))):=by kernel_rfl
theorem ZP_eq (n:Nat) (x1:Int):ZP n x1=
 (ZN n x1).bind fun (r2:Int)=>
 some r2:=by kernel_rfl
noncomputable def Zz_L5 (n:Nat) (r2:Int) (m:Nat) (p:Int):Option (Int):=
 loopF (R:=R) 5 (wrC E ((subO Tryz.f101.body [1,1,1,1,0,0]).getD .skip)) (⟨[(0,TV.int IntKind.i64 r2)],[]⟩:MS R.T) (getN Zz_a.loops 5).sh (getN Zz_a.loops 5).outs (fun st k=>codeM E R n false (regs31 n) (its4 n) Zz_a ((subO Tryz.f101.body [1,1,1,1,0,0]).getD .skip) st k) m p
theorem Zz_L5_s (n:Nat) (r2:Int) (m:Nat) (x4:Int):Zz_L5 n r2 (m+1) x4=
 bif !(x4==(0:Int)) then
  bif !((2:Int)==(0:Int)) then
   bif decide ((IntKind.wrap .i64 (Int.tdiv (IntKind.wrap .i64 (x4+(IntKind.wrap .i64 (Int.tdiv r2 x4)))) (2:Int)))>=x4) then
    some x4
   else
    Zz_L5 n r2 m (IntKind.wrap .i64 (Int.tdiv (IntKind.wrap .i64 (x4+(IntKind.wrap .i64 (Int.tdiv r2 x4)))) (2:Int)))
  else
   none
 else
  none:=by kernel_rfl
theorem Zz_eq (n:Nat) (x1:Int):Zz n x1=
 (Xj n ((x1,((0:Int),(1152921504606846976:Int))))).bind fun (r2:Int)=>
 bif r2==(0:Int) then
  some (0:Int)
 else
  (ZP n (IntKind.wrap .u64 r2)).bind fun (r3:Int)=>
  bif !((2:Int)==(0:Int)) then
   bif decide ((0:Int)<=(IntKind.wrap .i64 (Int.tdiv (IntKind.wrap .i64 (r3+(1:Int))) (2:Int)))) then
    (Zz_L5 n r2 n (bitShl .i64 (1:Int) (IntKind.wrap .i64 (Int.tdiv (IntKind.wrap .i64 (r3+(1:Int))) (2:Int))))).bind fun (r5:Int)=>
    some r5
   else
    none
  else
   none:=by kernel_rfl
theorem ZZ_eq (n:Nat) (x1:Int) (x2:Int) (x3:Int):ZZ n (x1,(x2,x3))=
 (Zz n (IntKind.wrap .i64 ((IntKind.wrap .i64 ((4:Int)*x1))*x2))).bind fun (r4:Int)=>
 some (IntKind.wrap .i64 ((IntKind.wrap .i64 (x1+x2))+(IntKind.wrap .i64 (x3*r4)))):=by kernel_rfl
theorem Xa_eq (n:Nat) (x1:Int) (x2:Int):Xa n (x1,x2)=
 some (IntKind.wrap .i64 (x1+x2)):=by kernel_rfl
theorem ZR_eq (n:Nat) (x1:Int) (x2:Int) (x3:Int) (x4:Int):ZR n (x1,(x2,(x3,x4)))=
 (XC n ((x1,(x2,x3)))).bind fun (r5:Int)=>
 some (decide (r5<=x4)):=by kernel_rfl
theorem Xf_eq (n:Nat) (x1:Int) (x2:Int) (x3:List (List Int)) (x4:List Hood) (x5:List Int) (x6:Int):Xf n (x1,((x2,(x3,(x4,x5))),x6))=
 (idxL x5 x1).bind fun (r7:Int)=>
 some (decide (r7>x6)):=by kernel_rfl
noncomputable def Zt_L2 (n:Nat) (x1:List Int) (x2:Int) (x3:List (List Int)) (x4:List Hood) (x5:List Int) (x6:Int) (m:Nat) (p:Int):Option (PUnit⊕Int):=
 loopF (R:=R) 2 (wrC E ((subO Tryz.f59.body [1,0,1,0,0]).getD .skip)) (⟨[(0,TV.lst (T:=R.T) Cp.sh (Ty.int IntKind.i64) x1),(1,TV.fn 33 [] ([TV.cref [TV.int IntKind.i64 x2,TV.lst (T:=R.T) Cp.sh (Ty.slice (Ty.int IntKind.i64)) x3,TV.lst (T:=R.T) Cp.sh (Ty.st 0) x4,TV.lst (T:=R.T) Cp.sh (Ty.int IntKind.i64) x5] 0,TV.cref [TV.int IntKind.i64 x6] 0])),(7,TV.int IntKind.i64 (((x1.length:Nat):Int)))],[]⟩:MS R.T) (getN Zt_a.loops 2).sh (getN Zt_a.loops 2).outs (fun st k=>codeM E R n false (regs42 n) (its4 n) Zt_a ((subO Tryz.f59.body [1,0,1,0,0]).getD .skip) st k) m p
theorem Zt_L2_s (n:Nat) (x1:List Int) (x2:Int) (x3:List (List Int)) (x4:List Hood) (x5:List Int) (x6:Int) (m:Nat) (x7:Int):Zt_L2 n x1 x2 x3 x4 x5 x6 (m+1) x7=
 bif decide (x7< (((x1.length:Nat):Int))) then
  (idxL x1 x7).bind fun (r8:Int)=>
  (Xf n ((r8,((x2,(x3,(x4,x5))),x6)))).bind fun (r9:Bool)=>
  bif r9 then
   some (.inr x7)
  else
   Zt_L2 n x1 x2 x3 x4 x5 x6 m (IntKind.wrap .i64 (x7+(1:Int)))
 else
  some (.inl (())):=by kernel_rfl
theorem Zt_eq (n:Nat) (x1:List Int) (x2:Int) (x3:List (List Int)) (x4:List Hood) (x5:List Int) (x6:Int):Zt n (x1,((),((x2,(x3,(x4,x5))),x6)))=
 (Zt_L2 n x1 x2 x3 x4 x5 x6 n (0:Int)).bind fun (r10:PUnit⊕Int)=>
 Sum.elim (fun (q11:PUnit)=>
  some (-1:Int))
  (fun (q12:Int)=>
   some q12) r10:=by kernel_rfl
noncomputable def Zd_L5 (n:Nat) (x2:graph_search) (x3:Int) (m:Nat) (p:(Int×Int)×List Int):Option (Int×List Int):=
 loopF (R:=R) 5 (wrC E ((subO Tryz.f34.body [1,1,1,0,1,0,0]).getD .skip)) (⟨[(0,TV.vw 1000000 (Ty.int IntKind.i64)),(1,TV.fn 33 [] [TV.ref 1000001 0,TV.ref 1000002 0])],[(1000001,Ob.ro (Ob.cells [TV.int IntKind.i64 x2.space.m,TV.lst (T:=R.T) Cp.any (Ty.slice (Ty.int IntKind.i64)) x2.space.l,TV.lst (T:=R.T) Cp.any (Ty.st 0) x2.g.Hoods,TV.lst (T:=R.T) Cp.any (Ty.int IntKind.i64) x2.keyed])),(1000002,Ob.ro (Ob.cells [TV.int IntKind.i64 x3]))]⟩:MS R.T) (getN Zd_a.loops 5).sh (getN Zd_a.loops 5).outs (fun st k=>codeM E R n false (regs43 n) (its4 n) Zd_a ((subO Tryz.f34.body [1,1,1,0,1,0,0]).getD .skip) st k) m p
theorem Zd_L5_s (n:Nat) (x2:graph_search) (x3:Int) (m:Nat) (x5:Int) (x6:Int) (x7:List Int):Zd_L5 n x2 x3 (m+1) ((x5,x6),x7)=
 bif decide (x6< (((x7.length:Nat):Int))) then
  bif decide (0<=x6/\x6< ((x7.length:Nat):Int)) then
   (idxL x7 x6).bind fun (r8:Int)=>
   (Xf n ((r8,((x2.space.m,(x2.space.l,(x2.g.Hoods,x2.keyed))),x3)))).bind fun (r9:Bool)=>
   bif !r9 then
    bif decide (0<=x5/\x5< ((x7.length:Nat):Int)) then
     (idxL x7 x5).bind fun (r10:Int)=>
     Zd_L5 n x2 x3 m (((IntKind.wrap .i64 (x5+(1:Int)),IntKind.wrap .i64 (x6+(1:Int))),setL x7 x5 r8))
    else
     none
   else
    Zd_L5 n x2 x3 m (((x5,IntKind.wrap .i64 (x6+(1:Int))),x7))
  else
   none
 else
  some ((x5,x7)):=by kernel_rfl
theorem Zd_eq (n:Nat) (x1:List Int) (x2:graph_search) (x3:Int):Zd n (((),((),((),())))) ((x1,(x2,x3)))=
 (Zt n ((x1,((),((x2.space.m,(x2.space.l,(x2.g.Hoods,x2.keyed))),x3))))).bind fun (r4:Int)=>
 bif r4==(-1:Int) then
  some ((((0:Int),((x1.length:Nat):Int)),(x1,((⟨x2.space,x2.g,x2.keyed⟩:graph_search),x3))))
 else
  (Zd_L5 n x2 x3 n (((r4,IntKind.wrap .i64 (r4+(1:Int))),x1))).bind fun (r11:Int×List Int)=>
  bif inV r11.1 ((((r11.2.length:Nat):Int))-(0:Int)) ((((r11.2.length:Nat):Int))-(0:Int)) then
   bif inV (0:Int) r11.1 (((((clrL r11.2 ((0:Int)+r11.1) ((0:Int)+((((r11.2.length:Nat):Int))-(0:Int))) (0:Int)).length:Nat):Int))-(0:Int)) then
    some ((((0:Int)+(0:Int),(0:Int)+r11.1),(clrL r11.2 ((0:Int)+r11.1) ((0:Int)+((((r11.2.length:Nat):Int))-(0:Int))) (0:Int),((⟨x2.space,x2.g,x2.keyed⟩:graph_search),x3))))
   else
    none
  else
   none:=by kernel_rfl
noncomputable def Zg_R7 (n:Nat) (x1:Int) (x3:Graph) (xs:List Int) (p:PUnit×Int×(Int×Int)×Int×Bool×Int×graph_search×Int×List Int):Option ((PUnit×Int×(Int×Int)×Int×Bool×Int×graph_search×Int×List Int)⊕(PUnit×Int×(Int×Int)×Int×Bool×Int×graph_search×Int×List Int)):=
 foldF (R:=R) (X:=PayL R.T intEl) 7 (wrR E (subO Tryz.f10.body [1,1,1,1,0,1,0])) (⟨[(6,TV.ref 6 0),(8,TV.ref 8 0),(11,TV.ref 11 0),(12,TV.ref 12 0),(13,TV.ref 13 0),(14,TV.ref 14 0),(15,TV.ref 15 0),(16,TV.ref 16 0),(18,TV.ref 18 0)],[(6,Ob.ro (Ob.cells [TV.int IntKind.i64 x1])),(8,Ob.ro (Ob.cells [TV.lst (T:=R.T) Cp.sh (Ty.st 0) x3.Hoods]))]⟩:MS R.T) (getN Zg_a.loops 7).sh (getN Zg_a.loops 7).outs (rndM E R n false (regs43 n) (its5 n) Zg_a (subO Tryz.f10.body [1,1,1,1,0,1,0]) intEl) xs p
theorem Zg_R7_0 (n:Nat) (x1:Int) (x3:Graph) (x10:Int) (x11:Int) (x12:Int) (x13:Int) (x14:Bool) (x15:Int) (x16:graph_search) (x17:Int) (x18:List Int):Zg_R7 n x1 x3 [] ((),(x10,((x11,x12),(x13,(x14,(x15,(x16,(x17,x18))))))))=
 some (.inl (((),(x10,((x11,x12),(x13,(x14,(x15,((⟨x16.space,x16.g,x16.keyed⟩:graph_search),(x17,x18)))))))))):=by kernel_rfl
theorem Zg_R7_s (n:Nat) (x1:Int) (x3:Graph) (x19:Int) (xs:List Int) (x20:Int) (x21:Int) (x22:Int) (x23:Int) (x24:Bool) (x25:Int) (x26:graph_search) (x27:Int) (x28:List Int):Zg_R7 n x1 x3 (x19::xs) ((),(x20,((x21,x22),(x23,(x24,(x25,(x26,(x27,x28))))))))=
 (idxL x3.Hoods x19).bind fun (r29:Hood)=>
 (idxL x26.keyed x19).bind fun (r30:Int)=>
 (ZR n ((x1,(r30,(x20,r29.Radius))))).bind fun (r31:Bool)=>
 bif r31 then
  (ZO n r29.Slots (())).bind fun (r32:(List Int)×PUnit)=>
  (Zd n (((),((),((),())))) ((r32.1,((⟨x26.space,x26.g,x26.keyed⟩:graph_search),x20)))).bind fun (r33:(Int×Int)×(List Int)×graph_search×Int)=>
  some (.inr (((),(r33.2.2.2,((r33.1.1,r33.1.2),(x19,(true,((0:Int),((⟨r33.2.2.1.space,r33.2.2.1.g,r33.2.2.1.keyed⟩:graph_search),(x19,r33.2.1))))))))))
 else
  Zg_R7 n x1 x3 xs (((),(x20,((x21,x22),(x23,(x24,(x25,((⟨x26.space,x26.g,x26.keyed⟩:graph_search),(x19,x28))))))))):=by kernel_rfl
theorem Zg_eq (n:Nat) (x1:Int) (x2:List (List Int)) (x3:Graph) (x4:List Int) (x5:Int) (x6:Int):Zg n (x1,(x2,(x3,(x4,(x5,x6)))))=
 (ZY n ((x1,(x2,(x3,(x4,x5)))))).bind fun (r7:graph_search×Bool)=>
 bif bif bif !r7.2 then true else decide (x6< (0:Int)) then true else decide (x6> (134217728:Int)) then
  some (([],((0:Int),(false,(1:Int)))))
 else
  (ZQ n (((⟨r7.1.space,r7.1.g,r7.1.keyed⟩:graph_search),x5)) (())).bind fun (r8:(PUnit×(Int×(List (List Int))×(List Hood)×List Int)×Int)×PUnit)=>
  Option.bind (α:=(PUnit×Int×(Int×Int)×Int×Bool×Int×graph_search×Int×List Int)⊕(PUnit×Int×(Int×Int)×Int×Bool×Int×graph_search×Int×List Int)) (
   (walkR ((r8.1.2.1.1,(r8.1.2.1.2.1,(r8.1.2.1.2.2.1,r8.1.2.1.2.2.2)))) r8.1.2.2).bind fun (r9:List Int)=>
   Zg_R7 n x1 x3 r9 (((),(x6,(((0:Int),(0:Int)),((0:Int),(false,((0:Int),((⟨r7.1.space,r7.1.g,r7.1.keyed⟩:graph_search),(x5,[])))))))))) fun (r34:(PUnit×Int×(Int×Int)×Int×Bool×Int×graph_search×Int×List Int)⊕(PUnit×Int×(Int×Int)×Int×Bool×Int×graph_search×Int×List Int))=>
  Sum.elim (fun (q35:PUnit×Int×(Int×Int)×Int×Bool×Int×graph_search×Int×List Int)=>
   some (([],(q35.2.2.2.2.2.2.2.1,(false,(0:Int))))))
   (fun (q36:PUnit×Int×(Int×Int)×Int×Bool×Int×graph_search×Int×List Int)=>
    some ((subI q36.2.2.2.2.2.2.2.2 q36.2.2.1.1 q36.2.2.1.2,(q36.2.2.2.1,(q36.2.2.2.2.1,q36.2.2.2.2.2.1))))) r34:=by kernel_rfl
theorem Xc_eq (n:Nat) (x1:Int):Xc n x1=
 some (x1 !=x1):=by kernel_rfl
theorem Xd_eq (n:Nat) (x1:Int) (x2:Int):Xd n (x1,x2)=
 (Xc n x1).bind fun (r3:Bool)=>
 (Xc n x2).bind fun (r4:Bool)=>
 bif r3 then
  bif r4 then
   some (0:Int)
  else
   some (-1:Int)
 else
  bif r4 then
   some (1:Int)
  else
   bif decide (x1<x2) then
    some (-1:Int)
   else
    bif decide (x1>x2) then
     some (1:Int)
    else
     some (0:Int):=by kernel_rfl
noncomputable def Zs_L3 (n:Nat) (x1:List Int) (m:Nat) (p:Int):Option (PUnit⊕Int):=
 loopF (R:=R) 3 (wrC E ((subO Tryz.f61.body [1,1,0,1,0,0]).getD .skip)) (⟨[(3,TV.int IntKind.i64 (0:Int)),(6,TV.lst (T:=R.T) Cp.sh (Ty.int IntKind.i64) x1),(7,TV.int IntKind.i64 (((x1.length:Nat):Int)))],[]⟩:MS R.T) (getN Zs_a.loops 3).sh (getN Zs_a.loops 3).outs (fun st k=>codeM E R n false (regs36 n) (its4 n) Zs_a ((subO Tryz.f61.body [1,1,0,1,0,0]).getD .skip) st k) m p
theorem Zs_L3_s (n:Nat) (x1:List Int) (m:Nat) (x2:Int):Zs_L3 n x1 (m+1) x2=
 bif decide (x2< (((x1.length:Nat):Int))) then
  (idxL x1 x2).bind fun (r3:Int)=>
  bif r3 !=(0:Int) then
   some (.inr r3)
  else
   Zs_L3 n x1 m (IntKind.wrap .i64 (x2+(1:Int)))
 else
  some (.inl (())):=by kernel_rfl
theorem Zs_eq (n:Nat) (x1:List Int):Zs n x1=
 (Zs_L3 n x1 n (0:Int)).bind fun (r4:PUnit⊕Int)=>
 Sum.elim (fun (q5:PUnit)=>
  some (0:Int))
  (fun (q6:Int)=>
   some q6) r4:=by kernel_rfl
theorem Xe_eq (n:Nat) (x1:graph_search) (x2:Int) (x3:Int):Xe n (x1,(x2,x3))=
 (idxL x1.keyed x2).bind fun (r4:Int)=>
 (idxL x1.keyed x3).bind fun (r5:Int)=>
 (Xd n ((r4,r5))).bind fun (r6:Int)=>
 (Xd n ((x2,x3))).bind fun (r7:Int)=>
 (Zs n [r6,r7]).bind fun (r8:Int)=>
 some r8:=by kernel_rfl
noncomputable def Zh_L4 (n:Nat) (x1:Int) (x2:Int) (x3:graph_search) (x5:Int) (m:Nat) (p:Int×List Int):Option (PUnit×List Int):=
 loopF (R:=R) 4 (wrC E ((subO Tryz.f89.body [1,0,0,1,0,0,1,0,0]).getD .skip)) (⟨[(0,TV.vw 1000000 (Ty.int IntKind.i64)),(1,TV.int IntKind.i64 x1),(2,TV.int IntKind.i64 x2),(3,TV.fn 37 ([TV.agg [TV.int IntKind.i64 x3.space.m,TV.lst (T:=R.T) Cp.any (Ty.slice (Ty.int IntKind.i64)) x3.space.l,TV.lst (T:=R.T) Cp.any (Ty.st 0) x3.g.Hoods,TV.lst (T:=R.T) Cp.any (Ty.int IntKind.i64) x3.keyed]]) []),(8,TV.int IntKind.i64 x5)],[]⟩:MS R.T) (getN Zh_a.loops 4).sh (getN Zh_a.loops 4).outs (fun st k=>codeM E R n false (regs44 n) (its5 n) Zh_a ((subO Tryz.f89.body [1,0,0,1,0,0,1,0,0]).getD .skip) st k) m p
noncomputable def Zh_L1 (n:Nat) (x1:Int) (x2:Int) (x3:graph_search) (m:Nat) (p:Int×List Int):Option (PUnit×List Int):=
 loopF (R:=R) 1 (wrC E ((subO Tryz.f89.body [1,0,0]).getD .skip)) (⟨[(0,TV.vw 1000000 (Ty.int IntKind.i64)),(1,TV.int IntKind.i64 x1),(2,TV.int IntKind.i64 x2),(3,TV.fn 37 ([TV.agg [TV.int IntKind.i64 x3.space.m,TV.lst (T:=R.T) Cp.any (Ty.slice (Ty.int IntKind.i64)) x3.space.l,TV.lst (T:=R.T) Cp.any (Ty.st 0) x3.g.Hoods,TV.lst (T:=R.T) Cp.any (Ty.int IntKind.i64) x3.keyed]]) [])],[]⟩:MS R.T) (getN Zh_a.loops 1).sh (getN Zh_a.loops 1).outs (fun st k=>codeM E R n false (regs44 n) (its5 n) Zh_a ((subO Tryz.f89.body [1,0,0]).getD .skip) st k) m p
theorem Zh_eq (n:Nat) (x1:Int) (x2:Int) (x3:graph_search) (x4:List Int):Zh n (((),(x1,(x2,(x3,()))))) (x4)=
 (Zh_L1 n x1 x2 x3 n ((IntKind.wrap .i64 (x1+(1:Int)),x4))).bind fun (r17:PUnit×List Int)=>
 some (((),r17.2)):=by kernel_rfl
noncomputable def ZJ_L1 (n:Nat) (x2:Int) (x3:Int) (x4:graph_search) (m:Nat) (p:Int×List Int):Option ((PUnit×List Int)⊕(PUnit×List Int)):=
 loopF (R:=R) 1 (wrC E ((subO Tryz.f113.body [1,0,0]).getD .skip)) (⟨[(0,TV.vw 1000000 (Ty.int IntKind.i64)),(2,TV.int IntKind.i64 x2),(3,TV.int IntKind.i64 x3),(4,TV.fn 37 ([TV.agg [TV.int IntKind.i64 x4.space.m,TV.lst (T:=R.T) Cp.any (Ty.slice (Ty.int IntKind.i64)) x4.space.l,TV.lst (T:=R.T) Cp.any (Ty.st 0) x4.g.Hoods,TV.lst (T:=R.T) Cp.any (Ty.int IntKind.i64) x4.keyed]]) [])],[]⟩:MS R.T) (getN ZJ_a.loops 1).sh (getN ZJ_a.loops 1).outs (fun st k=>codeM E R n false (regs44 n) (its6 n) ZJ_a ((subO Tryz.f113.body [1,0,0]).getD .skip) st k) m p
noncomputable def Zj_L4 (n:Nat) (x1:Int) (x2:Int) (x3:graph_search) (m:Nat) (p:Int×List Int):Option (PUnit×List Int):=
 loopF (R:=R) 4 (wrC E ((subO Tryz.f90.body [1,1,1,0,1,0,0]).getD .skip)) (⟨[(0,TV.vw 1000000 (Ty.int IntKind.i64)),(3,TV.fn 37 ([TV.agg [TV.int IntKind.i64 x3.space.m,TV.lst (T:=R.T) Cp.any (Ty.slice (Ty.int IntKind.i64)) x3.space.l,TV.lst (T:=R.T) Cp.any (Ty.st 0) x3.g.Hoods,TV.lst (T:=R.T) Cp.any (Ty.int IntKind.i64) x3.keyed]]) []),(8,TV.int IntKind.i64 x1),(9,TV.int IntKind.i64 (0:Int)),(10,TV.int IntKind.i64 (IntKind.wrap .i64 (x2-x1)))],[]⟩:MS R.T) (getN Zj_a.loops 4).sh (getN Zj_a.loops 4).outs (fun st k=>codeM E R n false (regs44 n) (its7 n) Zj_a ((subO Tryz.f90.body [1,1,1,0,1,0,0]).getD .skip) st k) m p
noncomputable def Zj_L8 (n:Nat) (x1:Int) (x3:graph_search) (m:Nat) (p:Int×List Int):Option (PUnit×List Int):=
 loopF (R:=R) 8 (wrC E ((subO Tryz.f90.body [1,1,1,1,1,0,0]).getD .skip)) (⟨[(0,TV.vw 1000000 (Ty.int IntKind.i64)),(3,TV.fn 37 ([TV.agg [TV.int IntKind.i64 x3.space.m,TV.lst (T:=R.T) Cp.any (Ty.slice (Ty.int IntKind.i64)) x3.space.l,TV.lst (T:=R.T) Cp.any (Ty.st 0) x3.g.Hoods,TV.lst (T:=R.T) Cp.any (Ty.int IntKind.i64) x3.keyed]]) []),(8,TV.int IntKind.i64 x1),(9,TV.int IntKind.i64 (0:Int))],[]⟩:MS R.T) (getN Zj_a.loops 8).sh (getN Zj_a.loops 8).outs (fun st k=>codeM E R n false (regs44 n) (its7 n) Zj_a ((subO Tryz.f90.body [1,1,1,1,1,0,0]).getD .skip) st k) m p
theorem Xm_eq (n:Nat) (x1:Int):Xm n x1=
 (ZP n (IntKind.wrap .u64 x1)).bind fun (r2:Int)=>
 bif decide ((0:Int)<=r2) then
  some (bitShl .u64 (1:Int) r2)
 else
  none:=by kernel_rfl
theorem ZL_eq (n:Nat) (x1:Int):ZL n (()) (x1)=
 bif decide ((0:Int)<=(13:Int)) then
  bif decide ((0:Int)<=(7:Int)) then
   bif decide ((0:Int)<=(17:Int)) then
    some ((bitXor .u64 (bitXor .u64 (bitXor .u64 x1 (bitShl .u64 x1 (13:Int))) (bitShr .u64 (bitXor .u64 x1 (bitShl .u64 x1 (13:Int))) (7:Int))) (bitShl .u64 (bitXor .u64 (bitXor .u64 x1 (bitShl .u64 x1 (13:Int))) (bitShr .u64 (bitXor .u64 x1 (bitShl .u64 x1 (13:Int))) (7:Int))) (17:Int)),bitXor .u64 (bitXor .u64 (bitXor .u64 x1 (bitShl .u64 x1 (13:Int))) (bitShr .u64 (bitXor .u64 x1 (bitShl .u64 x1 (13:Int))) (7:Int))) (bitShl .u64 (bitXor .u64 (bitXor .u64 x1 (bitShl .u64 x1 (13:Int))) (bitShr .u64 (bitXor .u64 x1 (bitShl .u64 x1 (13:Int))) (7:Int))) (17:Int))))
   else
    none
  else
   none
 else
  none:=by kernel_rfl
noncomputable def ZF_L5 (n:Nat) (x1:Int) (x2:Int) (r5:Int) (m:Nat) (p:Int×Int×List Int):Option (PUnit×List Int):=
 loopF (R:=R) 5 (wrC E ((subO Tryz.f91.body [1,1,0,1,1,1,0,0]).getD .skip)) (⟨[(0,TV.vw 1000000 (Ty.int IntKind.i64)),(1,TV.int IntKind.i64 x1),(8,TV.int IntKind.i64 (IntKind.wrap .i64 (x2-x1))),(9,TV.ref 9 0),(10,TV.int IntKind.u64 r5)],[]⟩:MS R.T) (getN ZF_a.loops 5).sh (getN ZF_a.loops 5).outs (fun st k=>codeM E R n false (regs45 n) (its9 n) ZF_a ((subO Tryz.f91.body [1,1,0,1,1,1,0,0]).getD .skip) st k) m p
noncomputable def Zp_L2 (n:Nat) (m:Nat) (p:(Int×Int)×List Int):Option (PUnit×List Int):=
 loopF (R:=R) 2 (wrC E ((subO Tryz.f93.body [1,1,0,0]).getD .skip)) (⟨[(0,TV.vw 1000000 (Ty.int IntKind.i64))],[]⟩:MS R.T) (getN Zp_a.loops 2).sh (getN Zp_a.loops 2).outs (fun st k=>codeM E R n false (regs46 n) (its13 n) Zp_a ((subO Tryz.f93.body [1,1,0,0]).getD .skip) st k) m p
theorem Zp_eq (n:Nat) (x1:Int) (x2:Int) (x3:graph_search) (x4:List Int):Zp n (((),(x1,(x2,(x3,()))))) (x4)=
 (Zp_L2 n n (((x1,IntKind.wrap .i64 (x2-(1:Int))),x4))).bind fun (r12:PUnit×List Int)=>
 some (((),r12.2)):=by kernel_rfl
noncomputable def Zb_L5 (n:Nat) (x1:Int) (x2:Int) (x3:graph_search) (x6:Int) (x7:List Int) (m:Nat) (p:Int):Option (Int):=
 loopF (R:=R) 5 (wrC E ((subO Tryz.f94.body [1,1,0,1,0,0,1,0,0,0,0,0]).getD .skip)) (⟨[(0,TV.vw 1000000 (Ty.int IntKind.i64)),(1,TV.int IntKind.i64 x1),(2,TV.int IntKind.i64 x2),(3,TV.fn 37 ([TV.agg [TV.int IntKind.i64 x3.space.m,TV.lst (T:=R.T) Cp.any (Ty.slice (Ty.int IntKind.i64)) x3.space.l,TV.lst (T:=R.T) Cp.any (Ty.st 0) x3.g.Hoods,TV.lst (T:=R.T) Cp.any (Ty.int IntKind.i64) x3.keyed]]) []),(10,TV.int IntKind.i64 x6)],[(1000000,Ob.ro (Ob.arr (Ty.int IntKind.i64) x7))]⟩:MS R.T) (getN Zb_a.loops 5).sh (getN Zb_a.loops 5).outs (fun st k=>codeM E R n false (regs46 n) (its14 n) Zb_a ((subO Tryz.f94.body [1,1,0,1,0,0,1,0,0,0,0,0]).getD .skip) st k) m p
noncomputable def Zb_L14 (n:Nat) (x1:Int) (x2:Int) (x3:graph_search) (x6:Int) (r12:Int) (m:Nat) (p:Int×List Int):Option (PUnit×List Int):=
 loopF (R:=R) 14 (wrC E ((subO Tryz.f94.body [1,1,0,1,0,0,1,0,0,1,1,1,1,0,1,0,1,0,0]).getD .skip)) (⟨[(0,TV.vw 1000000 (Ty.int IntKind.i64)),(1,TV.int IntKind.i64 x1),(2,TV.int IntKind.i64 x2),(3,TV.fn 37 ([TV.agg [TV.int IntKind.i64 x3.space.m,TV.lst (T:=R.T) Cp.any (Ty.slice (Ty.int IntKind.i64)) x3.space.l,TV.lst (T:=R.T) Cp.any (Ty.st 0) x3.g.Hoods,TV.lst (T:=R.T) Cp.any (Ty.int IntKind.i64) x3.keyed]]) []),(9,TV.int IntKind.i64 r12),(10,TV.int IntKind.i64 x6)],[]⟩:MS R.T) (getN Zb_a.loops 14).sh (getN Zb_a.loops 14).outs (fun st k=>codeM E R n false (regs46 n) (its14 n) Zb_a ((subO Tryz.f94.body [1,1,0,1,0,0,1,0,0,1,1,1,1,0,1,0,1,0,0]).getD .skip) st k) m p
noncomputable def Zb_L20 (n:Nat) (x1:Int) (x2:Int) (x3:graph_search) (x6:Int) (r12:Int) (m:Nat) (p:Int×List Int):Option (PUnit×List Int):=
 loopF (R:=R) 20 (wrC E ((subO Tryz.f94.body [1,1,0,1,0,0,1,0,0,1,1,1,1,1,1,0,1,0,0]).getD .skip)) (⟨[(0,TV.vw 1000000 (Ty.int IntKind.i64)),(1,TV.int IntKind.i64 x1),(2,TV.int IntKind.i64 x2),(3,TV.fn 37 ([TV.agg [TV.int IntKind.i64 x3.space.m,TV.lst (T:=R.T) Cp.any (Ty.slice (Ty.int IntKind.i64)) x3.space.l,TV.lst (T:=R.T) Cp.any (Ty.st 0) x3.g.Hoods,TV.lst (T:=R.T) Cp.any (Ty.int IntKind.i64) x3.keyed]]) []),(9,TV.int IntKind.i64 r12),(10,TV.int IntKind.i64 x6)],[]⟩:MS R.T) (getN Zb_a.loops 20).sh (getN Zb_a.loops 20).outs (fun st k=>codeM E R n false (regs46 n) (its14 n) Zb_a ((subO Tryz.f94.body [1,1,0,1,0,0,1,0,0,1,1,1,1,1,1,0,1,0,0]).getD .skip) st k) m p
noncomputable def Zb_L3 (n:Nat) (x1:Int) (x2:Int) (x3:graph_search) (m:Nat) (p:(Int×Int)×List Int):Option ((PUnit×List Int)⊕(Bool×List Int)):=
 loopF (R:=R) 3 (wrC E ((subO Tryz.f94.body [1,1,0,1,0,0]).getD .skip)) (⟨[(0,TV.vw 1000000 (Ty.int IntKind.i64)),(1,TV.int IntKind.i64 x1),(2,TV.int IntKind.i64 x2),(3,TV.fn 37 ([TV.agg [TV.int IntKind.i64 x3.space.m,TV.lst (T:=R.T) Cp.any (Ty.slice (Ty.int IntKind.i64)) x3.space.l,TV.lst (T:=R.T) Cp.any (Ty.st 0) x3.g.Hoods,TV.lst (T:=R.T) Cp.any (Ty.int IntKind.i64) x3.keyed]]) [])],[]⟩:MS R.T) (getN Zb_a.loops 3).sh (getN Zb_a.loops 3).outs (fun st k=>codeM E R n false (regs46 n) (its14 n) Zb_a ((subO Tryz.f94.body [1,1,0,1,0,0]).getD .skip) st k) m p
noncomputable def Zf_L3 (n:Nat) (x1:Int) (x4:graph_search) (x11:Int) (x12:List Int) (m:Nat) (p:Int):Option (Int):=
 loopF (R:=R) 3 (wrC E ((subO Tryz.f95.body [1,1,1,0,0,0,0,0,0,0]).getD .skip)) (⟨[(0,TV.vw 1000000 (Ty.int IntKind.i64)),(1,TV.int IntKind.i64 x1),(4,TV.fn 37 ([TV.agg [TV.int IntKind.i64 x4.space.m,TV.lst (T:=R.T) Cp.any (Ty.slice (Ty.int IntKind.i64)) x4.space.l,TV.lst (T:=R.T) Cp.any (Ty.st 0) x4.g.Hoods,TV.lst (T:=R.T) Cp.any (Ty.int IntKind.i64) x4.keyed]]) []),(12,TV.int IntKind.i64 x11)],[(1000000,Ob.ro (Ob.arr (Ty.int IntKind.i64) x12))]⟩:MS R.T) (getN Zf_a.loops 3).sh (getN Zf_a.loops 3).outs (fun st k=>codeM E R n false (regs46 n) (its15 n) Zf_a ((subO Tryz.f95.body [1,1,1,0,0,0,0,0,0,0]).getD .skip) st k) m p
noncomputable def Zf_L5 (n:Nat) (x1:Int) (x4:graph_search) (x12:List Int) (r17:Int) (m:Nat) (p:Int):Option (Int):=
 loopF (R:=R) 5 (wrC E ((subO Tryz.f95.body [1,1,1,0,0,0,0,1,0,0,0]).getD .skip)) (⟨[(0,TV.vw 1000000 (Ty.int IntKind.i64)),(1,TV.int IntKind.i64 x1),(4,TV.fn 37 ([TV.agg [TV.int IntKind.i64 x4.space.m,TV.lst (T:=R.T) Cp.any (Ty.slice (Ty.int IntKind.i64)) x4.space.l,TV.lst (T:=R.T) Cp.any (Ty.st 0) x4.g.Hoods,TV.lst (T:=R.T) Cp.any (Ty.int IntKind.i64) x4.keyed]]) []),(11,TV.int IntKind.i64 r17)],[(1000000,Ob.ro (Ob.arr (Ty.int IntKind.i64) x12))]⟩:MS R.T) (getN Zf_a.loops 5).sh (getN Zf_a.loops 5).outs (fun st k=>codeM E R n false (regs46 n) (its15 n) Zf_a ((subO Tryz.f95.body [1,1,1,0,0,0,0,1,0,0,0]).getD .skip) st k) m p
noncomputable def Zf_L503 (n:Nat) (x1:Int) (x4:graph_search) (m:Nat) (p:(Int×Int)×List Int):Option (Int×List Int):=
 loopF (R:=R) 503 (wrC E ((subO Tryz.f95.body [1,1,1,0,0,0]).getD .skip)) (⟨[(0,TV.vw 1000000 (Ty.int IntKind.i64)),(1,TV.int IntKind.i64 x1),(4,TV.fn 37 ([TV.agg [TV.int IntKind.i64 x4.space.m,TV.lst (T:=R.T) Cp.any (Ty.slice (Ty.int IntKind.i64)) x4.space.l,TV.lst (T:=R.T) Cp.any (Ty.st 0) x4.g.Hoods,TV.lst (T:=R.T) Cp.any (Ty.int IntKind.i64) x4.keyed]]) [])],[]⟩:MS R.T) (getN Zf_a.loops 503).sh (getN Zf_a.loops 503).outs (fun st k=>codeM E R n false (regs46 n) (its15 n) Zf_a ((subO Tryz.f95.body [1,1,1,0,0,0]).getD .skip) st k) m p
noncomputable def QQ_L3 (n:Nat) (x1:Int) (x2:Int) (x3:Int) (x4:graph_search) (x5:List Int) (r6:Int) (r7:Int) (m:Nat) (p:Int):Option (Int):=
 loopF (R:=R) 3 (wrC E ((subO Tryz.f96.body [1,1,1,0,0,0]).getD .skip)) (⟨[(0,TV.vw 1000000 (Ty.int IntKind.i64)),(1,TV.int IntKind.i64 x1),(4,TV.fn 37 ([TV.agg [TV.int IntKind.i64 x4.space.m,TV.lst (T:=R.T) Cp.any (Ty.slice (Ty.int IntKind.i64)) x4.space.l,TV.lst (T:=R.T) Cp.any (Ty.st 0) x4.g.Hoods,TV.lst (T:=R.T) Cp.any (Ty.int IntKind.i64) x4.keyed]]) []),(13,TV.int IntKind.i64 (IntKind.wrap .i64 (x2-(1:Int))))],[(1000000,Ob.ro (Ob.arr (Ty.int IntKind.i64) (setL (setL x5 x1 r6) x3 r7)))]⟩:MS R.T) (getN QQ_a.loops 3).sh (getN QQ_a.loops 3).outs (fun st k=>codeM E R n false (regs46 n) (its16 n) QQ_a ((subO Tryz.f96.body [1,1,1,0,0,0]).getD .skip) st k) m p
noncomputable def QQ_L5 (n:Nat) (x1:Int) (x3:Int) (x4:graph_search) (x5:List Int) (r6:Int) (r7:Int) (r14:Int) (m:Nat) (p:Int):Option (Int):=
 loopF (R:=R) 5 (wrC E ((subO Tryz.f96.body [1,1,1,1,0,0,0]).getD .skip)) (⟨[(0,TV.vw 1000000 (Ty.int IntKind.i64)),(1,TV.int IntKind.i64 x1),(4,TV.fn 37 ([TV.agg [TV.int IntKind.i64 x4.space.m,TV.lst (T:=R.T) Cp.any (Ty.slice (Ty.int IntKind.i64)) x4.space.l,TV.lst (T:=R.T) Cp.any (Ty.st 0) x4.g.Hoods,TV.lst (T:=R.T) Cp.any (Ty.int IntKind.i64) x4.keyed]]) []),(12,TV.int IntKind.i64 r14)],[(1000000,Ob.ro (Ob.arr (Ty.int IntKind.i64) (setL (setL x5 x1 r6) x3 r7)))]⟩:MS R.T) (getN QQ_a.loops 5).sh (getN QQ_a.loops 5).outs (fun st k=>codeM E R n false (regs46 n) (its16 n) QQ_a ((subO Tryz.f96.body [1,1,1,1,0,0,0]).getD .skip) st k) m p
noncomputable def QQ_L13 (n:Nat) (x1:Int) (x4:graph_search) (x29:Int) (x30:List Int) (m:Nat) (p:Int):Option (Int):=
 loopF (R:=R) 13 (wrC E ((subO Tryz.f96.body [1,1,1,1,1,1,1,1,1,0,0,0,0,0,0,0]).getD .skip)) (⟨[(0,TV.vw 1000000 (Ty.int IntKind.i64)),(1,TV.int IntKind.i64 x1),(4,TV.fn 37 ([TV.agg [TV.int IntKind.i64 x4.space.m,TV.lst (T:=R.T) Cp.any (Ty.slice (Ty.int IntKind.i64)) x4.space.l,TV.lst (T:=R.T) Cp.any (Ty.st 0) x4.g.Hoods,TV.lst (T:=R.T) Cp.any (Ty.int IntKind.i64) x4.keyed]]) []),(13,TV.int IntKind.i64 x29)],[(1000000,Ob.ro (Ob.arr (Ty.int IntKind.i64) x30))]⟩:MS R.T) (getN QQ_a.loops 13).sh (getN QQ_a.loops 13).outs (fun st k=>codeM E R n false (regs46 n) (its16 n) QQ_a ((subO Tryz.f96.body [1,1,1,1,1,1,1,1,1,0,0,0,0,0,0,0]).getD .skip) st k) m p
noncomputable def QQ_L15 (n:Nat) (x1:Int) (x4:graph_search) (x30:List Int) (r35:Int) (m:Nat) (p:Int):Option (Int):=
 loopF (R:=R) 15 (wrC E ((subO Tryz.f96.body [1,1,1,1,1,1,1,1,1,0,0,0,0,1,0,0,0]).getD .skip)) (⟨[(0,TV.vw 1000000 (Ty.int IntKind.i64)),(1,TV.int IntKind.i64 x1),(4,TV.fn 37 ([TV.agg [TV.int IntKind.i64 x4.space.m,TV.lst (T:=R.T) Cp.any (Ty.slice (Ty.int IntKind.i64)) x4.space.l,TV.lst (T:=R.T) Cp.any (Ty.st 0) x4.g.Hoods,TV.lst (T:=R.T) Cp.any (Ty.int IntKind.i64) x4.keyed]]) []),(12,TV.int IntKind.i64 r35)],[(1000000,Ob.ro (Ob.arr (Ty.int IntKind.i64) x30))]⟩:MS R.T) (getN QQ_a.loops 15).sh (getN QQ_a.loops 15).outs (fun st k=>codeM E R n false (regs46 n) (its16 n) QQ_a ((subO Tryz.f96.body [1,1,1,1,1,1,1,1,1,0,0,0,0,1,0,0,0]).getD .skip) st k) m p
noncomputable def QQ_L513 (n:Nat) (x1:Int) (x4:graph_search) (m:Nat) (p:(Int×Int)×List Int):Option (Int×List Int):=
 loopF (R:=R) 513 (wrC E ((subO Tryz.f96.body [1,1,1,1,1,1,1,1,1,0,0,0]).getD .skip)) (⟨[(0,TV.vw 1000000 (Ty.int IntKind.i64)),(1,TV.int IntKind.i64 x1),(4,TV.fn 37 ([TV.agg [TV.int IntKind.i64 x4.space.m,TV.lst (T:=R.T) Cp.any (Ty.slice (Ty.int IntKind.i64)) x4.space.l,TV.lst (T:=R.T) Cp.any (Ty.st 0) x4.g.Hoods,TV.lst (T:=R.T) Cp.any (Ty.int IntKind.i64) x4.keyed]]) [])],[]⟩:MS R.T) (getN QQ_a.loops 513).sh (getN QQ_a.loops 513).outs (fun st k=>codeM E R n false (regs46 n) (its16 n) QQ_a ((subO Tryz.f96.body [1,1,1,1,1,1,1,1,1,0,0,0]).getD .skip) st k) m p
noncomputable def QP_m_L2 (n:Nat) (g:Nat) (x4:graph_search) (m:Nat) (p:(Int×Int×Int×Bool×Bool)×List Int):Option (PUnit×List Int):=
 loopF (R:=R) 2 (wrC E ((subO Tryz.f78.body [1,1,0,0]).getD .skip)) (⟨[(0,TV.vw 1000000 (Ty.int IntKind.i64)),(4,TV.fn 37 ([TV.agg [TV.int IntKind.i64 x4.space.m,TV.lst (T:=R.T) Cp.any (Ty.slice (Ty.int IntKind.i64)) x4.space.l,TV.lst (T:=R.T) Cp.any (Ty.st 0) x4.g.Hoods,TV.lst (T:=R.T) Cp.any (Ty.int IntKind.i64) x4.keyed]]) [])],[]⟩:MS R.T) (getN QP_a.loops 2).sh (getN QP_a.loops 2).outs (fun st k=>codeM E R n false (regs46 n) (addM 78 (mkM QP_p QP_o QP_r (QP_m n g)) (its17 n)) QP_a ((subO Tryz.f78.body [1,1,0,0]).getD .skip) st k) m p
theorem ZM_eq (n:Nat) (x1:graph_search) (x2:List Int):ZM n (((),(x1,()))) (x2)=
 (ZP n (IntKind.wrap .u64 (((x2.length:Nat):Int)))).bind fun (r3:Int)=>
 (QP n (((),((0:Int),(((x2.length:Nat):Int),(r3,((⟨x1.space,x1.g,x1.keyed⟩:graph_search),())))))) x2).bind fun (r4:PUnit×List Int)=>
 some (((),r4.2)):=by kernel_rfl
theorem Xg_eq (n:Nat) (x1:List Int) (x2:graph_search):Xg n (x1,(x2,()))=
 (ZO n x1 (())).bind fun (r3:(List Int)×PUnit)=>
 (ZM n (((),((⟨x2.space,x2.g,x2.keyed⟩:graph_search),()))) r3.1).bind fun (r4:PUnit×List Int)=>
 some r4.2:=by kernel_rfl
noncomputable def Zk_R7 (n:Nat) (x1:Int) (x2:List (List Int)) (x3:Graph) (x6:Int) (r7:graph_search×Bool) (xs:List Int) (p:PUnit×Int):Option (PUnit×Int):=
 foldF (R:=R) (X:=PayL R.T intEl) 7 (wrR E (subO Tryz.f11.body [1,1,1,1,0,1,0])) (⟨[(0,TV.int IntKind.i64 x1),(1,TV.lst (T:=R.T) Cp.sh (Ty.slice (Ty.int IntKind.i64)) x2),(5,TV.int IntKind.i64 x6),(8,TV.ref 8 0),(16,TV.ref 16 0),(18,TV.ref 18 0)],[(8,Ob.ro (Ob.cells [TV.lst (T:=R.T) Cp.sh (Ty.st 0) x3.Hoods])),(16,Ob.ro (Ob.cells [TV.int IntKind.i64 r7.1.space.m,TV.lst (T:=R.T) Cp.sh (Ty.slice (Ty.int IntKind.i64)) r7.1.space.l,TV.lst (T:=R.T) Cp.sh (Ty.st 0) r7.1.g.Hoods,TV.lst (T:=R.T) Cp.sh (Ty.int IntKind.i64) r7.1.keyed]))]⟩:MS R.T) (getN Zk_a.loops 7).sh (getN Zk_a.loops 7).outs (rndM E R n false (regs47 n) (its19 n) Zk_a (subO Tryz.f11.body [1,1,1,1,0,1,0]) intEl) xs p
theorem Zk_R7_0 (n:Nat) (x1:Int) (x2:List (List Int)) (x3:Graph) (x6:Int) (r7:graph_search×Bool) (x10:Int):Zk_R7 n x1 x2 x3 x6 r7 [] ((),x10)=
 some (((),x10)):=by kernel_rfl
theorem Zk_R7_s (n:Nat) (x1:Int) (x2:List (List Int)) (x3:Graph) (x6:Int) (r7:graph_search×Bool) (x11:Int) (xs:List Int) (x12:Int):Zk_R7 n x1 x2 x3 x6 r7 (x11::xs) ((),x12)=
 Zk_R7 n x1 x2 x3 x6 r7 xs (((),x11)):=by kernel_rfl
theorem Zk_eq (n:Nat) (x1:Int) (x2:List (List Int)) (x3:Graph) (x4:List Int) (x5:Int) (x6:Int):Zk n (x1,(x2,(x3,(x4,(x5,x6)))))=
 (ZY n ((x1,(x2,(x3,(x4,x5)))))).bind fun (r7:graph_search×Bool)=>
 bif bif bif !r7.2 then true else decide (x6< (1:Int)) then true else decide (x6> (64:Int)) then
  some (([],((0:Int),(false,(1:Int)))))
 else
  (ZQ n (((⟨r7.1.space,r7.1.g,r7.1.keyed⟩:graph_search),x5)) (())).bind fun (r8:(PUnit×(Int×(List (List Int))×(List Hood)×List Int)×Int)×PUnit)=>
  Option.bind (α:=PUnit×Int) (
   (walkR ((r8.1.2.1.1,(r8.1.2.1.2.1,(r8.1.2.1.2.2.1,r8.1.2.1.2.2.2)))) r8.1.2.2).bind fun (r9:List Int)=>
   Zk_R7 n x1 x2 x3 x6 r7 r9 (((),x5))) fun (r13:PUnit×Int)=>
  (idxL x3.Hoods r13.2).bind fun (r14:Hood)=>
  (Xg n ((r14.Slots,((⟨r7.1.space,r7.1.g,r7.1.keyed⟩:graph_search),())))).bind fun (r15:List Int)=>
  bif decide ((((r15.length:Nat):Int))>=x6) then
   bif inB x6 r15.length then
    bif !((((r15.length:Nat):Int))==(((x2.length:Nat):Int))) then
     (idxL r7.1.keyed r13.2).bind fun (r16:Int)=>
     (idxL (List.take (Int.toNat x6) r15) (IntKind.wrap .i64 (x6-(1:Int)))).bind fun (r17:Int)=>
     (idxL r7.1.keyed r17).bind fun (r18:Int)=>
     (ZR n ((x1,(r16,(r18,r14.Radius))))).bind fun (r19:Bool)=>
     some ((List.take (Int.toNat x6) r15,(r13.2,(r19,(0:Int)))))
    else
     some ((List.take (Int.toNat x6) r15,(r13.2,(true,(0:Int)))))
   else
    none
  else
   some ((r15,(r13.2,((((r15.length:Nat):Int))==(((x2.length:Nat):Int)),(0:Int))))):=by kernel_rfl
theorem Xh_eq (n:Nat) (x1:Int):Xh n x1=
 some (bif decide (x1>=(1:Int)) then decide (x1<=(3:Int)) else false):=by kernel_rfl
noncomputable def Zo_L2 (n:Nat) (x1:List Int) (m:Nat) (p:Int):Option (PUnit⊕Bool):=
 loopF (R:=R) 2 (wrC E ((subO Tryz.f52.body [1,0,1,0,0]).getD .skip)) (⟨[(0,TV.lst (T:=R.T) Cp.sh (Ty.int IntKind.i64) x1)],[]⟩:MS R.T) (getN Zo_a.loops 2).sh (getN Zo_a.loops 2).outs (fun st k=>codeM E R n false (regs49 n) (its19 n) Zo_a ((subO Tryz.f52.body [1,0,1,0,0]).getD .skip) st k) m p
theorem Zo_L2_s (n:Nat) (x1:List Int) (m:Nat) (x2:Int):Zo_L2 n x1 (m+1) x2=
 bif decide (x2< (((x1.length:Nat):Int))) then
  (idxL x1 x2).bind fun (r3:Int)=>
  (whenO (!(decide (r3< (-1000:Int)))) (idxL x1 x2) (0:Int)).bind fun (r4:Int)=>
  bif bif decide (r3< (-1000:Int)) then true else decide (r4> (1000:Int)) then
   some (.inr false)
  else
   Zo_L2 n x1 m (IntKind.wrap .i64 (x2+(1:Int)))
 else
  some (.inl (())):=by kernel_rfl
theorem Zo_eq (n:Nat) (x1:List Int):Zo n x1=
 (Zo_L2 n x1 n (0:Int)).bind fun (r5:PUnit⊕Bool)=>
 Sum.elim (fun (q6:PUnit)=>
  some (bif decide ((((x1.length:Nat):Int))>=(1:Int)) then decide ((((x1.length:Nat):Int))<=(32:Int)) else false))
  (fun (q7:Bool)=>
   some q7) r5:=by kernel_rfl
noncomputable def Zu_L2 (n:Nat) (x1:List (List Int)) (m:Nat) (p:Int):Option (PUnit⊕Bool):=
 loopF (R:=R) 2 (wrC E ((subO Tryz.f26.body [1,0,1,0,0]).getD .skip)) (⟨[(0,TV.lst (T:=R.T) Cp.sh (Ty.slice (Ty.int IntKind.i64)) x1)],[]⟩:MS R.T) (getN Zu_a.loops 2).sh (getN Zu_a.loops 2).outs (fun st k=>codeM E R n false (regs50 n) (its19 n) Zu_a ((subO Tryz.f26.body [1,0,1,0,0]).getD .skip) st k) m p
theorem Zu_L2_s (n:Nat) (x1:List (List Int)) (m:Nat) (x2:Int):Zu_L2 n x1 (m+1) x2=
 bif decide (x2< (((x1.length:Nat):Int))) then
  (idxL x1 x2).bind fun (r3:List Int)=>
  (Zo n r3).bind fun (r4:Bool)=>
  bif !(!r4) then
   (idxL x1 x2).bind fun (r5:List Int)=>
   (idxL x1 (0:Int)).bind fun (r6:List Int)=>
   bif (((r5.length:Nat):Int)) !=(((r6.length:Nat):Int)) then
    some (.inr false)
   else
    Zu_L2 n x1 m (IntKind.wrap .i64 (x2+(1:Int)))
  else
   some (.inr false)
 else
  some (.inl (())):=by kernel_rfl
theorem Zu_eq (n:Nat) (x1:List (List Int)):Zu n x1=
 (Zu_L2 n x1 n (0:Int)).bind fun (r7:PUnit⊕Bool)=>
 Sum.elim (fun (q8:PUnit)=>
  some (bif decide ((((x1.length:Nat):Int))>=(1:Int)) then decide ((((x1.length:Nat):Int))<=(4096:Int)) else false))
  (fun (q9:Bool)=>
   some q9) r7:=by kernel_rfl
noncomputable def ZA_L2 (n:Nat) (x1:List Int) (x2:Int) (m:Nat) (p:Int):Option (PUnit⊕Bool):=
 loopF (R:=R) 2 (wrC E ((subO Tryz.f51.body [1,0,1,0,0]).getD .skip)) (⟨[(0,TV.lst (T:=R.T) Cp.sh (Ty.int IntKind.i64) x1),(1,TV.int IntKind.i64 x2)],[]⟩:MS R.T) (getN ZA_a.loops 2).sh (getN ZA_a.loops 2).outs (fun st k=>codeM E R n false (regs51 n) (its19 n) ZA_a ((subO Tryz.f51.body [1,0,1,0,0]).getD .skip) st k) m p
theorem ZA_L2_s (n:Nat) (x1:List Int) (x2:Int) (m:Nat) (x3:Int):ZA_L2 n x1 x2 (m+1) x3=
 bif decide (x3< (((x1.length:Nat):Int))) then
  (idxL x1 x3).bind fun (r4:Int)=>
  bif r4==x2 then
   some (.inr true)
  else
   ZA_L2 n x1 x2 m (IntKind.wrap .i64 (x3+(1:Int)))
 else
  some (.inl (())):=by kernel_rfl
theorem ZA_eq (n:Nat) (x1:List Int) (x2:Int):ZA n (x1,x2)=
 (ZA_L2 n x1 x2 n (0:Int)).bind fun (r5:PUnit⊕Bool)=>
 Sum.elim (fun (q6:PUnit)=>
  some false)
  (fun (q7:Bool)=>
   some q7) r5:=by kernel_rfl
noncomputable def Zc_L10 (n:Nat) (x1:Int) (x2:Graph) (x3:Int) (r4:Hood) (m:Nat) (p:Int):Option (PUnit⊕Bool):=
 loopF (R:=R) 10 (wrC E ((subO Tryz.f25.body [1,1,0,1,0,0,1,0,0,1,1,1,0,0]).getD .skip)) (⟨[(0,TV.int IntKind.i64 x1),(3,TV.ref 3 0),(5,TV.int IntKind.i64 x3),(6,TV.ref 6 0)],[(3,Ob.ro (Ob.ro (Ob.cells [TV.lst (T:=R.T) Cp.sh (Ty.st 0) x2.Hoods]))),(6,Ob.ro (Ob.cells [TV.int IntKind.i64 r4.Radius,TV.lst (T:=R.T) Cp.sh (Ty.int IntKind.i64) r4.Slots]))]⟩:MS R.T) (getN Zc_a.loops 10).sh (getN Zc_a.loops 10).outs (fun st k=>codeM E R n false (regs52 n) (its19 n) Zc_a ((subO Tryz.f25.body [1,1,0,1,0,0,1,0,0,1,1,1,0,0]).getD .skip) st k) m p
noncomputable def Zc_L4 (n:Nat) (x1:Int) (x2:Graph) (m:Nat) (p:Int):Option (PUnit⊕Bool):=
 loopF (R:=R) 4 (wrC E ((subO Tryz.f25.body [1,1,0,1,0,0]).getD .skip)) (⟨[(0,TV.int IntKind.i64 x1),(3,TV.ref 3 0)],[(3,Ob.ro (Ob.cells [TV.lst (T:=R.T) Cp.sh (Ty.st 0) x2.Hoods]))]⟩:MS R.T) (getN Zc_a.loops 4).sh (getN Zc_a.loops 4).outs (fun st k=>codeM E R n false (regs52 n) (its19 n) Zc_a ((subO Tryz.f25.body [1,1,0,1,0,0]).getD .skip) st k) m p
theorem Zc_L10_s (n:Nat) (x1:Int) (x2:Graph) (x3:Int) (r4:Hood) (m:Nat) (x6:Int):Zc_L10 n x1 x2 x3 r4 (m+1) x6=
 bif decide (x6< (((r4.Slots.length:Nat):Int))) then
  (idxL r4.Slots x6).bind fun (r7:Int)=>
  bif !(decide (r7< (0:Int))) then
   (idxL r4.Slots x6).bind fun (r8:Int)=>
   bif !(decide (r8>=x1)) then
    bif decide (x6> (0:Int)) then
     (idxL r4.Slots x6).bind fun (r9:Int)=>
     (idxL r4.Slots (IntKind.wrap .i64 (x6-(1:Int)))).bind fun (r10:Int)=>
     bif decide (r9<=r10) then
      some (.inr false)
     else
      Zc_L10 n x1 x2 x3 r4 m (IntKind.wrap .i64 (x6+(1:Int)))
    else
     Zc_L10 n x1 x2 x3 r4 m (IntKind.wrap .i64 (x6+(1:Int)))
   else
    some (.inr false)
  else
   some (.inr false)
 else
  some (.inl (())):=by kernel_rfl
theorem Zc_L4_s (n:Nat) (x1:Int) (x2:Graph) (m:Nat) (x3:Int):Zc_L4 n x1 x2 (m+1) x3=
 bif decide (x3<x1) then
  (idxL x2.Hoods x3).bind fun (r4:Hood)=>
  (whenO (!(bif decide (r4.Radius< (0:Int)) then true else decide (r4.Radius> (134217728:Int)))) (ZA n ((r4.Slots,x3))) false).bind fun (r5:Bool)=>
  bif bif bif decide (r4.Radius< (0:Int)) then true else decide (r4.Radius> (134217728:Int)) then true else !r5 then
   some (.inr false)
  else
   (Zc_L10 n x1 x2 x3 r4 n (0:Int)).bind fun (r11:PUnit⊕Bool)=>
   Sum.elim (fun (q12:PUnit)=>
    Zc_L4 n x1 x2 m (IntKind.wrap .i64 (x3+(1:Int))))
    (fun (q13:Bool)=>
     some (.inr q13)) r11
 else
  some (.inl (())):=by kernel_rfl
theorem Zc_eq (n:Nat) (x1:Int) (x2:Graph):Zc n (x1,x2)=
 bif bif bif decide (x1< (1:Int)) then true else decide (x1> (4096:Int)) then true else (((x2.Hoods.length:Nat):Int)) !=x1 then
  some false
 else
  (Zc_L4 n x1 x2 n (0:Int)).bind fun (r14:PUnit⊕Bool)=>
  Sum.elim (fun (q15:PUnit)=>
   some true)
   (fun (q16:Bool)=>
    some q16) r14:=by kernel_rfl
theorem Xn_eq (n:Nat) (x1:Int) (x2:List (List Int)) (x3:Graph):Xn n (x1,(x2,x3))=
 (Xh n x1).bind fun (r4:Bool)=>
 (whenO r4 (Zu n x2) false).bind fun (r5:Bool)=>
 (whenO (bif r4 then r5 else false) (Zc n ((((x2.length:Nat):Int),x3))) false).bind fun (r6:Bool)=>
 some (bif bif r4 then r5 else false then r6 else false):=by kernel_rfl
theorem Xo_eq (n:Nat) (x1:List Int) (x2:List Int):Xo n (x1,x2)=
 (Zo n x1).bind fun (r3:Bool)=>
 (whenO r3 (Zo n x2) false).bind fun (r4:Bool)=>
 some (bif bif r3 then r4 else false then (((x1.length:Nat):Int))==(((x2.length:Nat):Int)) else false):=by kernel_rfl
theorem Xp_eq (n:Nat) (x1:Int) (x2:List (List Int)) (x3:Graph) (x4:List Int) (x5:Int):Xp n (x1,(x2,(x3,(x4,x5))))=
 (Xn n ((x1,(x2,x3)))).bind fun (r6:Bool)=>
 (whenO r6 (idxL x2 (0:Int)) []).bind fun (r7:List Int)=>
 (whenO r6 (Xo n ((r7,x4))) false).bind fun (r8:Bool)=>
 some (bif bif bif r6 then r8 else false then decide (x5>=(0:Int)) else false then decide (x5< (((x2.length:Nat):Int))) else false):=by kernel_rfl
noncomputable def ZB_L3 (n:Nat) (x1:List Int) (x2:List Int) (m:Nat) (p:(List Int)×Int):Option (List Int):=
 loopF (R:=R) 3 (wrC E ((subO Tryz.f64.body [1,1,0,1,0,0]).getD .skip)) (⟨[(0,TV.lst (T:=R.T) Cp.sh (Ty.int IntKind.i64) x1),(1,TV.lst (T:=R.T) Cp.sh (Ty.int IntKind.i64) x2)],[]⟩:MS R.T) (getN ZB_a.loops 3).sh (getN ZB_a.loops 3).outs (fun st k=>codeM E R n false (regs56 n) (its19 n) ZB_a ((subO Tryz.f64.body [1,1,0,1,0,0]).getD .skip) st k) m p
theorem ZB_L3_s (n:Nat) (x1:List Int) (x2:List Int) (m:Nat) (x3:List Int) (x4:Int):ZB_L3 n x1 x2 (m+1) (x3,x4)=
 bif decide (x4< (((x1.length:Nat):Int))) then
  (idxL x1 x4).bind fun (r5:Int)=>
  (idxL x2 x4).bind fun (r6:Int)=>
  bif roomOK (x3.length+([IntKind.wrap .i64 (r5-r6)].length)) 8 then
   ZB_L3 n x1 x2 m ((x3++[IntKind.wrap .i64 (r5-r6)],IntKind.wrap .i64 (x4+(1:Int))))
  else
   none
 else
  some x3:=by kernel_rfl
theorem ZB_eq (n:Nat) (x1:List Int) (x2:List Int):ZB n (x1,x2)=
 (ZB_L3 n x1 x2 n (([],(0:Int)))).bind fun (r7:List Int)=>
 some r7:=by kernel_rfl
theorem Xi_eq (n:Nat) (x1:Int):Xi n x1=
 bif decide (x1< (0:Int)) then
  some (IntKind.wrap .i64 ((0:Int)-x1))
 else
  some x1:=by kernel_rfl
noncomputable def Zq_L3 (n:Nat) (x1:Int) (x2:List Int) (m:Nat) (p:Int×Int):Option (Int):=
 loopF (R:=R) 3 (wrC E ((subO Tryz.f63.body [1,1,0,1,0,0]).getD .skip)) (⟨[(0,TV.int IntKind.i64 x1),(1,TV.lst (T:=R.T) Cp.sh (Ty.int IntKind.i64) x2)],[]⟩:MS R.T) (getN Zq_a.loops 3).sh (getN Zq_a.loops 3).outs (fun st k=>codeM E R n false (regs58 n) (its19 n) Zq_a ((subO Tryz.f63.body [1,1,0,1,0,0]).getD .skip) st k) m p
theorem Zq_L3_s (n:Nat) (x1:Int) (x2:List Int) (m:Nat) (x3:Int) (x4:Int):Zq_L3 n x1 x2 (m+1) (x3,x4)=
 bif decide (x4< (((x2.length:Nat):Int))) then
  bif x1==(1:Int) then
   (idxL x2 x4).bind fun (r5:Int)=>
   (Xi n r5).bind fun (r6:Int)=>
   Zq_L3 n x1 x2 m ((IntKind.wrap .i64 (x3+r6),IntKind.wrap .i64 (x4+(1:Int))))
  else
   bif x1==(2:Int) then
    (idxL x2 x4).bind fun (r7:Int)=>
    (idxL x2 x4).bind fun (r8:Int)=>
    Zq_L3 n x1 x2 m ((IntKind.wrap .i64 (x3+(IntKind.wrap .i64 (r7*r8))),IntKind.wrap .i64 (x4+(1:Int))))
   else
    (idxL x2 x4).bind fun (r9:Int)=>
    (Xi n r9).bind fun (r10:Int)=>
    Zq_L3 n x1 x2 m ((imax x3 r10,IntKind.wrap .i64 (x4+(1:Int))))
 else
  some x3:=by kernel_rfl
theorem Zq_eq (n:Nat) (x1:Int) (x2:List Int):Zq n (x1,x2)=
 (Zq_L3 n x1 x2 n (((0:Int),(0:Int)))).bind fun (r11:Int)=>
 some r11:=by kernel_rfl
theorem ZG_eq (n:Nat) (x1:Int) (x2:List Int) (x3:List Int):ZG n (x1,(x2,x3))=
 (ZB n ((x2,x3))).bind fun (r4:List Int)=>
 (Zq n ((x1,r4))).bind fun (r5:Int)=>
 some r5:=by kernel_rfl
noncomputable def QR_L6 (n:Nat) (x1:Int) (x2:List (List Int)) (x3:List Int) (x5:Int) (m:Nat) (p:Int×List Int):Option (PUnit×List Int):=
 loopF (R:=R) 6 (wrC E ((subO Tryz.f29.body [1,1,0,1,0,0,1,0,0,1,0,0]).getD .skip)) (⟨[(0,TV.int IntKind.i64 x1),(1,TV.lst (T:=R.T) Cp.sh (Ty.slice (Ty.int IntKind.i64)) x2),(2,TV.lst (T:=R.T) Cp.sh (Ty.int IntKind.i64) x3),(9,TV.vw 17 (Ty.int IntKind.i64)),(10,TV.int IntKind.i64 x5)],[]⟩:MS R.T) (getN QR_a.loops 6).sh (getN QR_a.loops 6).outs (fun st k=>codeM E R n true (regs60 n) (its19 n) QR_a ((subO Tryz.f29.body [1,1,0,1,0,0,1,0,0,1,0,0]).getD .skip) st k) m p
noncomputable def QR_L3 (n:Nat) (x1:Int) (x2:List (List Int)) (x3:List Int) (m:Nat) (p:Int×List Int):Option (PUnit×List Int):=
 loopF (R:=R) 3 (wrC E ((subO Tryz.f29.body [1,1,0,1,0,0]).getD .skip)) (⟨[(0,TV.int IntKind.i64 x1),(1,TV.lst (T:=R.T) Cp.sh (Ty.slice (Ty.int IntKind.i64)) x2),(2,TV.lst (T:=R.T) Cp.sh (Ty.int IntKind.i64) x3),(9,TV.vw 17 (Ty.int IntKind.i64))],[]⟩:MS R.T) (getN QR_a.loops 3).sh (getN QR_a.loops 3).outs (fun st k=>codeM E R n true (regs60 n) (its19 n) QR_a ((subO Tryz.f29.body [1,1,0,1,0,0]).getD .skip) st k) m p
theorem QR_L6_s (n:Nat) (x1:Int) (x2:List (List Int)) (x3:List Int) (x5:Int) (m:Nat) (x7:Int) (x8:List Int):QR_L6 n x1 x2 x3 x5 (m+1) (x7,x8)=
 bif decide (x7> (0:Int)) then
  bif decide (0<=(IntKind.wrap .i64 (x7-(1:Int)))/\(IntKind.wrap .i64 (x7-(1:Int)))< ((x8.length:Nat):Int)) then
   (idxL x8 (IntKind.wrap .i64 (x7-(1:Int)))).bind fun (r9:Int)=>
   (idxL x2 r9).bind fun (r10:List Int)=>
   (ZG n ((x1,(r10,x3)))).bind fun (r11:Int)=>
   bif decide (0<=x7/\x7< ((x8.length:Nat):Int)) then
    (idxL x8 x7).bind fun (r12:Int)=>
    (idxL x2 r12).bind fun (r13:List Int)=>
    (ZG n ((x1,(r13,x3)))).bind fun (r14:Int)=>
    bif !(decide (r11>r14)) then
     bif r11==r14 then
      bif decide (0<=(IntKind.wrap .i64 (x7-(1:Int)))/\(IntKind.wrap .i64 (x7-(1:Int)))< ((x8.length:Nat):Int)) then
       (idxL x8 (IntKind.wrap .i64 (x7-(1:Int)))).bind fun (r15:Int)=>
       bif decide (0<=x7/\x7< ((x8.length:Nat):Int)) then
        (idxL x8 x7).bind fun (r16:Int)=>
        bif decide (r15>r16) then
         bif decide (0<=x7/\x7< ((x8.length:Nat):Int)) then
          (idxL x8 x7).bind fun (r17:Int)=>
          bif decide (0<=(IntKind.wrap .i64 (x7-(1:Int)))/\(IntKind.wrap .i64 (x7-(1:Int)))< ((x8.length:Nat):Int)) then
           (idxL x8 (IntKind.wrap .i64 (x7-(1:Int)))).bind fun (r18:Int)=>
           bif decide (0<=x7/\x7< ((x8.length:Nat):Int)) then
            (idxL x8 x7).bind fun (r19:Int)=>
            bif decide (0<=(IntKind.wrap .i64 (x7-(1:Int)))/\(IntKind.wrap .i64 (x7-(1:Int)))< (((setL x8 x7 r18).length:Nat):Int)) then
             (idxL (setL x8 x7 r18) (IntKind.wrap .i64 (x7-(1:Int)))).bind fun (r20:Int)=>
             QR_L6 n x1 x2 x3 x5 m ((IntKind.wrap .i64 (x7-(1:Int)),setL (setL x8 x7 r18) (IntKind.wrap .i64 (x7-(1:Int))) r17))
            else
             none
           else
            none
          else
           none
         else
          none
        else
         QR_L6 n x1 x2 x3 x5 m ((IntKind.wrap .i64 (x7-(1:Int)),x8))
       else
        none
      else
       none
     else
      QR_L6 n x1 x2 x3 x5 m ((IntKind.wrap .i64 (x7-(1:Int)),x8))
    else
     bif decide (0<=x7/\x7< ((x8.length:Nat):Int)) then
      (idxL x8 x7).bind fun (r21:Int)=>
      bif decide (0<=(IntKind.wrap .i64 (x7-(1:Int)))/\(IntKind.wrap .i64 (x7-(1:Int)))< ((x8.length:Nat):Int)) then
       (idxL x8 (IntKind.wrap .i64 (x7-(1:Int)))).bind fun (r22:Int)=>
       bif decide (0<=x7/\x7< ((x8.length:Nat):Int)) then
        (idxL x8 x7).bind fun (r23:Int)=>
        bif decide (0<=(IntKind.wrap .i64 (x7-(1:Int)))/\(IntKind.wrap .i64 (x7-(1:Int)))< (((setL x8 x7 r22).length:Nat):Int)) then
         (idxL (setL x8 x7 r22) (IntKind.wrap .i64 (x7-(1:Int)))).bind fun (r24:Int)=>
         QR_L6 n x1 x2 x3 x5 m ((IntKind.wrap .i64 (x7-(1:Int)),setL (setL x8 x7 r22) (IntKind.wrap .i64 (x7-(1:Int))) r21))
        else
         none
       else
        none
      else
       none
     else
      none
   else
    none
  else
   none
 else
  some (((),x8)):=by kernel_rfl
theorem QR_L3_s (n:Nat) (x1:Int) (x2:List (List Int)) (x3:List Int) (m:Nat) (x5:Int) (x6:List Int):QR_L3 n x1 x2 x3 (m+1) (x5,x6)=
 bif decide (x5< (((x6.length:Nat):Int))) then
  (QR_L6 n x1 x2 x3 x5 n ((x5,x6))).bind fun (r25:PUnit×List Int)=>
  QR_L3 n x1 x2 x3 m ((IntKind.wrap .i64 (x5+(1:Int)),r25.2))
 else
  some (((),x6)):=by kernel_rfl
theorem QR_eq (n:Nat) (x1:Int) (x2:List (List Int)) (x3:List Int) (x4:List Int):QR n (x1,(x2,(x3,x4)))=
 bif roomOK x4.length 8 then
  (QR_L3 n x1 x2 x3 n (((0:Int),x4))).bind fun (r26:PUnit×List Int)=>
  some r26.2
 else
  none:=by kernel_rfl
noncomputable def Zl_L5 (n:Nat) (x1:Int) (x2:List (List Int)) (x3:Graph) (x4:List Int) (m:Nat) (p:(List Int)×ref27_Slots):Option (PUnit×ref27_Slots):=
 loopF (R:=R) 5 (wrC E ((subO Tryz.f12.body [1,1,1,1,0,0]).getD .skip)) (⟨[(0,TV.int IntKind.i64 x1),(1,TV.lst (T:=R.T) Cp.sh (Ty.slice (Ty.int IntKind.i64)) x2),(3,TV.lst (T:=R.T) Cp.sh (Ty.int IntKind.i64) x4),(7,TV.ref 7 0),(10,TV.ref 10 0)],[(7,Ob.ro (Ob.cells [TV.lst (T:=R.T) Cp.sh (Ty.st 0) x3.Hoods]))]⟩:MS R.T) (getN Zl_a.loops 5).sh (getN Zl_a.loops 5).outs (fun st k=>codeM E R n false (regs61 n) (its19 n) Zl_a ((subO Tryz.f12.body [1,1,1,1,0,0]).getD .skip) st k) m p
theorem Zl_L5_s (n:Nat) (x1:Int) (x2:List (List Int)) (x3:Graph) (x4:List Int) (m:Nat) (x7:List Int) (x8:ref27_Slots):Zl_L5 n x1 x2 x3 x4 (m+1) (x7,x8)=
 (idxL x7 (IntKind.wrap .i64 ((((x7.length:Nat):Int))-(1:Int)))).bind fun (r9:Int)=>
 (idxL x3.Hoods r9).bind fun (r10:Hood)=>
 (QR n ((x1,(x2,(x4,r10.Slots))))).bind fun (r11:List Int)=>
 (idxL r11 (0:Int)).bind fun (r12:Int)=>
 (idxL x2 r12).bind fun (r13:List Int)=>
 (ZG n ((x1,(r13,x4)))).bind fun (r14:Int)=>
 (idxL x2 r9).bind fun (r15:List Int)=>
 (ZG n ((x1,(r15,x4)))).bind fun (r16:Int)=>
 bif decide (r14>=r16) then
  some (((),(⟨x7,(0:Int),false,(0:Int)⟩:ref27_Slots)))
 else
  (idxL r11 (0:Int)).bind fun (r17:Int)=>
  bif roomOK (x7.length+([r17].length)) 8 then
   Zl_L5 n x1 x2 x3 x4 m ((x7++[r17],x8))
  else
   none:=by kernel_rfl
theorem Zl_eq (n:Nat) (x1:Int) (x2:List (List Int)) (x3:Graph) (x4:List Int) (x5:Int):Zl n (x1,(x2,(x3,(x4,x5))))=
 (Xp n ((x1,(x2,(x3,(x4,x5)))))).bind fun (r6:Bool)=>
 bif !r6 then
  some ((⟨[],(0:Int),false,(1:Int)⟩:ref27_Slots))
 else
  (Zl_L5 n x1 x2 x3 x4 n (([x5],(⟨[],(0:Int),false,(0:Int)⟩:ref27_Slots)))).bind fun (r18:PUnit×ref27_Slots)=>
  some r18.2:=by kernel_rfl
noncomputable def Zv_L5 (n:Nat) (r2:Int) (m:Nat) (p:Int×Int):Option (Int):=
 loopF (R:=R) 5 (wrC E ((subO Tryz.f66.body [1,1,1,0,1,0,0]).getD .skip)) (⟨[(0,TV.int IntKind.i64 r2)],[]⟩:MS R.T) (getN Zv_a.loops 5).sh (getN Zv_a.loops 5).outs (fun st k=>codeM E R n false (regs62 n) (its19 n) Zv_a ((subO Tryz.f66.body [1,1,1,0,1,0,0]).getD .skip) st k) m p
theorem Zv_L5_s (n:Nat) (r2:Int) (m:Nat) (x3:Int) (x4:Int):Zv_L5 n r2 (m+1) (x3,x4)=
 bif decide (x4>=(0:Int)) then
  bif decide ((0:Int)<=x4) then
   bif decide ((IntKind.wrap .i64 ((IntKind.wrap .i64 (x3+(bitShl .i64 (1:Int) x4)))*(IntKind.wrap .i64 (x3+(bitShl .i64 (1:Int) x4)))))<=r2) then
    Zv_L5 n r2 m ((IntKind.wrap .i64 (x3+(bitShl .i64 (1:Int) x4)),IntKind.wrap .i64 (x4-(1:Int))))
   else
    Zv_L5 n r2 m ((x3,IntKind.wrap .i64 (x4-(1:Int))))
  else
   none
 else
  some x3:=by kernel_rfl
theorem Zv_eq (n:Nat) (x1:Int):Zv n x1=
 Option.bind (α:=Int) (
  bif decide (x1> (1152921504606846976:Int)) then
   some (1152921504606846976:Int)
  else
   some x1) fun (r2:Int)=>
 (Zv_L5 n r2 n (((0:Int),(30:Int)))).bind fun (r5:Int)=>
 some r5:=by kernel_rfl
theorem Xq_eq (n:Nat) (x1:Int) (x2:Int) (x3:Int):Xq n (x1,(x2,x3))=
 bif x1==(2:Int) then
  (Zv n (IntKind.wrap .i64 ((IntKind.wrap .i64 ((4:Int)*x2))*x3))).bind fun (r4:Int)=>
  bif decide ((IntKind.wrap .i64 ((IntKind.wrap .i64 (x2+x3))+r4))> (134217728:Int)) then
   some (134217728:Int)
  else
   some (IntKind.wrap .i64 ((IntKind.wrap .i64 (x2+x3))+r4))
 else
  bif decide ((IntKind.wrap .i64 (x2+x3))> (134217728:Int)) then
   some (134217728:Int)
  else
   some (IntKind.wrap .i64 (x2+x3)):=by kernel_rfl
theorem ZV_eq (n:Nat) (x1:Int) (x2:Int) (x3:Int) (x4:Int):ZV n (x1,(x2,(x3,x4)))=
 (Xq n ((x1,(x2,x3)))).bind fun (r5:Int)=>
 some (decide (r5<=x4)):=by kernel_rfl
noncomputable def Za_L11 (n:Nat) (x1:Int) (x2:List (List Int)) (x3:Graph) (x4:List Int) (x6:Int) (x9:ref27_Slots) (r10:Int) (m:Nat) (p:Int×(List Int)×Int×Bool×Int):Option (PUnit×(List Int)×Int×Bool×Int):=
 loopF (R:=R) 11 (wrC E ((subO Tryz.f13.body [1,1,1,0,1,0,0,1,0,0,1,1,1,0,1,0,0]).getD .skip)) (⟨[(0,TV.int IntKind.i64 x1),(1,TV.lst (T:=R.T) Cp.sh (Ty.slice (Ty.int IntKind.i64)) x2),(3,TV.lst (T:=R.T) Cp.sh (Ty.int IntKind.i64) x4),(5,TV.int IntKind.i64 x6),(8,TV.ref 8 0),(12,TV.ref 12 0),(15,TV.int IntKind.i64 r10),(16,TV.ref 16 0)],[(8,Ob.ro (Ob.ro (Ob.cells [TV.lst (T:=R.T) Cp.sh (Ty.st 0) x3.Hoods]))),(12,Ob.ro (Ob.cells [TV.lst (T:=R.T) Cp.any (Ty.int IntKind.i64) x9.L,TV.int IntKind.i64 x9.At,TV.bool x9.Sure,TV.int IntKind.i64 x9.E]))]⟩:MS R.T) (getN Za_a.loops 11).sh (getN Za_a.loops 11).outs (fun st k=>codeM E R n false (regs65 n) (its19 n) Za_a ((subO Tryz.f13.body [1,1,1,0,1,0,0,1,0,0,1,1,1,0,1,0,0]).getD .skip) st k) m p
noncomputable def Za_L5 (n:Nat) (x1:Int) (x2:List (List Int)) (x3:Graph) (x4:List Int) (x6:Int) (r7:ref27_Slots) (m:Nat) (p:Int×ref27_Slots):Option ((PUnit×ref27_Slots)⊕(PUnit×ref27_Slots)):=
 loopF (R:=R) 5 (wrC E ((subO Tryz.f13.body [1,1,1,0,1,0,0]).getD .skip)) (⟨[(0,TV.int IntKind.i64 x1),(1,TV.lst (T:=R.T) Cp.sh (Ty.slice (Ty.int IntKind.i64)) x2),(3,TV.lst (T:=R.T) Cp.sh (Ty.int IntKind.i64) x4),(5,TV.int IntKind.i64 x6),(8,TV.ref 8 0),(12,TV.ref 12 0),(13,TV.ref 13 0)],[(8,Ob.ro (Ob.cells [TV.lst (T:=R.T) Cp.sh (Ty.st 0) x3.Hoods])),(13,Ob.ro (Ob.cells [TV.lst (T:=R.T) Cp.sh (Ty.int IntKind.i64) r7.L,TV.int IntKind.i64 r7.At,TV.bool r7.Sure,TV.int IntKind.i64 r7.E]))]⟩:MS R.T) (getN Za_a.loops 5).sh (getN Za_a.loops 5).outs (fun st k=>codeM E R n false (regs65 n) (its19 n) Za_a ((subO Tryz.f13.body [1,1,1,0,1,0,0]).getD .skip) st k) m p
theorem Za_L11_s (n:Nat) (x1:Int) (x2:List (List Int)) (x3:Graph) (x4:List Int) (x6:Int) (x9:ref27_Slots) (r10:Int) (m:Nat) (x15:Int) (x16:List Int) (x17:Int) (x18:Bool) (x19:Int):Za_L11 n x1 x2 x3 x4 x6 x9 r10 (m+1) (x15,(x16,(x17,(x18,x19))))=
 (idxL x3.Hoods r10).bind fun (r20:Hood)=>
 bif decide (x15< (((r20.Slots.length:Nat):Int))) then
  (idxL x3.Hoods r10).bind fun (r21:Hood)=>
  (idxL r21.Slots x15).bind fun (r22:Int)=>
  (idxL x2 r22).bind fun (r23:List Int)=>
  (ZG n ((x1,(r23,x4)))).bind fun (r24:Int)=>
  bif decide (r24<=x6) then
   bif roomOK (x16.length+([r22].length)) 8 then
    Za_L11 n x1 x2 x3 x4 x6 x9 r10 m ((IntKind.wrap .i64 (x15+(1:Int)),(x16++[r22],(x17,(x18,x19)))))
   else
    none
  else
   Za_L11 n x1 x2 x3 x4 x6 x9 r10 m ((IntKind.wrap .i64 (x15+(1:Int)),(x16,(x17,(x18,x19)))))
 else
  some (((),(x16,(x17,(x18,x19))))):=by kernel_rfl
theorem Za_L5_s (n:Nat) (x1:Int) (x2:List (List Int)) (x3:Graph) (x4:List Int) (x6:Int) (r7:ref27_Slots) (m:Nat) (x8:Int) (x9:ref27_Slots):Za_L5 n x1 x2 x3 x4 x6 r7 (m+1) (x8,x9)=
 bif decide (x8< (((r7.L.length:Nat):Int))) then
  (idxL r7.L x8).bind fun (r10:Int)=>
  (idxL x2 r10).bind fun (r11:List Int)=>
  (ZG n ((x1,(r11,x4)))).bind fun (r12:Int)=>
  (idxL x3.Hoods r10).bind fun (r13:Hood)=>
  (ZV n ((x1,(r12,(x6,r13.Radius))))).bind fun (r14:Bool)=>
  bif !r14 then
   Za_L5 n x1 x2 x3 x4 x6 r7 m ((IntKind.wrap .i64 (x8+(1:Int)),x9))
  else
   (Za_L11 n x1 x2 x3 x4 x6 x9 r10 n (((0:Int),([],(r10,(true,(0:Int))))))).bind fun (r25:PUnit×(List Int)×Int×Bool×Int)=>
   some (.inr (((),(⟨r25.2.1,r25.2.2.1,r25.2.2.2.1,r25.2.2.2.2⟩:ref27_Slots))))
 else
  some (.inl (((),x9))):=by kernel_rfl
theorem Za_eq (n:Nat) (x1:Int) (x2:List (List Int)) (x3:Graph) (x4:List Int) (x5:Int) (x6:Int):Za n (x1,(x2,(x3,(x4,(x5,x6)))))=
 (Zl n ((x1,(x2,(x3,(x4,x5)))))).bind fun (r7:ref27_Slots)=>
 bif bif bif r7.E !=(0:Int) then true else decide (x6< (0:Int)) then true else decide (x6> (134217728:Int)) then
  some ((⟨[],(0:Int),false,(1:Int)⟩:ref27_Slots))
 else
  (Za_L5 n x1 x2 x3 x4 x6 r7 n (((0:Int),(⟨[],(0:Int),false,(0:Int)⟩:ref27_Slots)))).bind fun (r26:(PUnit×ref27_Slots)⊕(PUnit×ref27_Slots))=>
  Sum.elim (fun (q27:PUnit×ref27_Slots)=>
   (idxL r7.L (IntKind.wrap .i64 ((((r7.L.length:Nat):Int))-(1:Int)))).bind fun (r29:Int)=>
   some ((⟨[],r29,false,(0:Int)⟩:ref27_Slots)))
   (fun (q28:PUnit×ref27_Slots)=>
    some q28.2) r26:=by kernel_rfl
theorem ZX_eq (n:Nat) (x1:Int) (x2:List (List Int)) (x3:Graph) (x4:List Int) (x5:Int) (x6:Int):ZX n (x1,(x2,(x3,(x4,(x5,x6)))))=
 (Zl n ((x1,(x2,(x3,(x4,x5)))))).bind fun (r7:ref27_Slots)=>
 bif bif bif r7.E !=(0:Int) then true else decide (x6< (1:Int)) then true else decide (x6> (64:Int)) then
  some ((⟨[],(0:Int),false,(1:Int)⟩:ref27_Slots))
 else
  (idxL r7.L (IntKind.wrap .i64 ((((r7.L.length:Nat):Int))-(1:Int)))).bind fun (r8:Int)=>
  (idxL x3.Hoods r8).bind fun (r9:Hood)=>
  (QR n ((x1,(x2,(x4,r9.Slots))))).bind fun (r10:List Int)=>
  bif inB (imin x6 (((r10.length:Nat):Int))) r10.length then
   bif decide ((((r10.length:Nat):Int))>=x6) then
    (idxL x2 r8).bind fun (r11:List Int)=>
    (ZG n ((x1,(r11,x4)))).bind fun (r12:Int)=>
    (idxL r10 (IntKind.wrap .i64 (x6-(1:Int)))).bind fun (r13:Int)=>
    (idxL x2 r13).bind fun (r14:List Int)=>
    (ZG n ((x1,(r14,x4)))).bind fun (r15:Int)=>
    (ZV n ((x1,(r12,(r15,r9.Radius))))).bind fun (r16:Bool)=>
    bif r16 then
     some ((⟨List.take (Int.toNat (imin x6 (((r10.length:Nat):Int)))) r10,r8,true,(0:Int)⟩:ref27_Slots))
    else
     some ((⟨List.take (Int.toNat (imin x6 (((r10.length:Nat):Int)))) r10,r8,(((r10.length:Nat):Int))==(((x2.length:Nat):Int)),(0:Int)⟩:ref27_Slots))
   else
    some ((⟨List.take (Int.toNat (imin x6 (((r10.length:Nat):Int)))) r10,r8,(((r10.length:Nat):Int))==(((x2.length:Nat):Int)),(0:Int)⟩:ref27_Slots))
  else
   none:=by kernel_rfl
noncomputable def Zr_L4 (n:Nat) (x1:List Int) (x2:List Int) (m:Nat) (p:Int):Option (PUnit⊕Bool):=
 loopF (R:=R) 4 (wrC E ((subO Tryz.f15.body [1,1,0,1,0,0]).getD .skip)) (⟨[(0,TV.lst (T:=R.T) Cp.sh (Ty.int IntKind.i64) x1),(1,TV.lst (T:=R.T) Cp.sh (Ty.int IntKind.i64) x2)],[]⟩:MS R.T) (getN Zr_a.loops 4).sh (getN Zr_a.loops 4).outs (fun st k=>codeM E R n false (regs67 n) (its19 n) Zr_a ((subO Tryz.f15.body [1,1,0,1,0,0]).getD .skip) st k) m p
theorem Zr_L4_s (n:Nat) (x1:List Int) (x2:List Int) (m:Nat) (x3:Int):Zr_L4 n x1 x2 (m+1) x3=
 bif decide (x3< (((x1.length:Nat):Int))) then
  (idxL x1 x3).bind fun (r4:Int)=>
  (idxL x2 x3).bind fun (r5:Int)=>
  bif r4 !=r5 then
   some (.inr false)
  else
   Zr_L4 n x1 x2 m (IntKind.wrap .i64 (x3+(1:Int)))
 else
  some (.inl (())):=by kernel_rfl
theorem Zr_eq (n:Nat) (x1:List Int) (x2:List Int):Zr n (x1,x2)=
 bif (((x1.length:Nat):Int)) !=(((x2.length:Nat):Int)) then
  some false
 else
  (Zr_L4 n x1 x2 n (0:Int)).bind fun (r6:PUnit⊕Bool)=>
  Sum.elim (fun (q7:PUnit)=>
   some true)
   (fun (q8:Bool)=>
    some q8) r6:=by kernel_rfl
theorem XG_eq (n:Nat) (x1:Int) (x2:List (List Int)) (x3:Graph) (x4:List Int) (x5:Int) (x6:Int) (x7:Int):XG n (x1,(x2,(x3,(x4,(x5,(x6,x7))))))=
 (Zw n ((x2,(25:Int)))).bind fun (r8:Bool)=>
 (whenO (!(!r8)) (Zx n x3) false).bind fun (r9:Bool)=>
 bif bif bif !r8 then true else !r9 then true else decide ((((x4.length:Nat):Int))> (40:Int)) then
  (Xr n (())).bind fun (r10:Bool)=>
  some r10
 else
  (ZW n ((x1,(x2,(x3,(x4,x5)))))).bind fun (r11:(List Int)×Int)=>
  (Zg n ((x1,(x2,(x3,(x4,(x5,x6))))))).bind fun (r12:(List Int)×Int×Bool×Int)=>
  (Zk n ((x1,(x2,(x3,(x4,(x5,x7))))))).bind fun (r13:(List Int)×Int×Bool×Int)=>
  (Zl n ((x1,(x2,(x3,(x4,x5)))))).bind fun (r14:ref27_Slots)=>
  (Za n ((x1,(x2,(x3,(x4,(x5,x6))))))).bind fun (r15:ref27_Slots)=>
  (ZX n ((x1,(x2,(x3,(x4,(x5,x7))))))).bind fun (r16:ref27_Slots)=>
  (Zr n ((r11.1,r14.L))).bind fun (r17:Bool)=>
  (whenO (bif r17 then r11.2==r14.E else false) (Zr n ((r12.1,r15.L))) false).bind fun (r18:Bool)=>
  (Zr n ((r13.1,r16.L))).bind fun (r19:Bool)=>
  (Xh n x1).bind fun (r20:Bool)=>
  (whenO (bif bif bif bif r20 then decide (x6>=(0:Int)) else false then decide (x6<=(134217728:Int)) else false then decide (x7>=(0:Int)) else false then decide (x7<=(134217728:Int)) else false) (ZR n ((x1,(x6,(x7,x5))))) false).bind fun (r21:Bool)=>
  (whenO (bif bif bif bif r20 then decide (x6>=(0:Int)) else false then decide (x6<=(134217728:Int)) else false then decide (x7>=(0:Int)) else false then decide (x7<=(134217728:Int)) else false) (ZV n ((x1,(x6,(x7,x5))))) false).bind fun (r22:Bool)=>
  bif bif bif bif bif bif r20 then decide (x6>=(0:Int)) else false then decide (x6<=(134217728:Int)) else false then decide (x7>=(0:Int)) else false then decide (x7<=(134217728:Int)) else false then !(r21==r22) else false then
   some false
  else
   (Xr n (())).bind fun (r23:Bool)=>
   some (bif bif r23 then bif bif bif bif bif r17 then r11.2==r14.E else false then r18 else false then r12.2.1==r15.At else false then r12.2.2.1==r15.Sure else false then r12.2.2.2==r15.E else false else false then bif bif bif r19 then r13.2.1==r16.At else false then r13.2.2.1==r16.Sure else false then r13.2.2.2==r16.E else false else false):=by kernel_rfl
noncomputable def Zi_L5 (n:Nat) (x1:List Int) (x2:graph_search) (m:Nat) (p:Int×Int):Option (Int):=
 loopF (R:=R) 5 (wrC E ((subO Tryz.f58.body [1,1,1,0,1,0,0]).getD .skip)) (⟨[(0,TV.lst (T:=R.T) Cp.sh (Ty.int IntKind.i64) x1),(1,TV.fn 37 ([TV.agg [TV.int IntKind.i64 x2.space.m,TV.lst (T:=R.T) Cp.sh (Ty.slice (Ty.int IntKind.i64)) x2.space.l,TV.lst (T:=R.T) Cp.sh (Ty.st 0) x2.g.Hoods,TV.lst (T:=R.T) Cp.sh (Ty.int IntKind.i64) x2.keyed]]) [])],[]⟩:MS R.T) (getN Zi_a.loops 5).sh (getN Zi_a.loops 5).outs (fun st k=>codeM E R n false (regs38 n) (its4 n) Zi_a ((subO Tryz.f58.body [1,1,1,0,1,0,0]).getD .skip) st k) m p
theorem Zi_L5_s (n:Nat) (x1:List Int) (x2:graph_search) (m:Nat) (x4:Int) (x5:Int):Zi_L5 n x1 x2 (m+1) (x4,x5)=
 bif decide (x5< (((x1.length:Nat):Int))) then
  (idxL x1 x5).bind fun (r6:Int)=>
  (Xe n (((⟨x2.space,x2.g,x2.keyed⟩:graph_search),(r6,x4)))).bind fun (r7:Int)=>
  bif decide (r7< (0:Int)) then
   (idxL x1 x5).bind fun (r8:Int)=>
   Zi_L5 n x1 x2 m ((r8,IntKind.wrap .i64 (x5+(1:Int))))
  else
   Zi_L5 n x1 x2 m ((x4,IntKind.wrap .i64 (x5+(1:Int))))
 else
  some x4:=by kernel_rfl
theorem Zi_eq (n:Nat) (x1:List Int) (x2:graph_search):Zi n (x1,(x2,()))=
 bif decide ((((x1.length:Nat):Int))< (1:Int)) then
  none
 else
  (idxL x1 (0:Int)).bind fun (r3:Int)=>
  (Zi_L5 n x1 x2 n ((r3,(1:Int)))).bind fun (r9:Int)=>
  some r9:=by kernel_rfl
attribute [irreducible] Zw_L4 Zx_L4 ZK_L2 ZH_L2 ZI_L2 Ze_L9 Ze_L4 Zy_L3 ZC_L2 ZD_L2 ZE_L2 Zm_L3 Zn_R3 Zz_L5 Zt_L2 Zd_L5 Zg_R7 Zs_L3 Zh_L4 Zh_L1 ZJ_L1 Zj_L4 Zj_L8 ZF_L5 Zp_L2 Zb_L5 Zb_L14 Zb_L20 Zb_L3 Zf_L3 Zf_L5 Zf_L503 QQ_L3 QQ_L5 QQ_L13 QQ_L15 QQ_L513 QP_m_L2 Zk_R7 Zo_L2 Zu_L2 ZA_L2 Zc_L10 Zc_L4 ZB_L3 Zq_L3 QR_L6 QR_L3 Zl_L5 Zv_L5 Za_L11 Za_L5 Zr_L4 Zi_L5
end Sh
