import Derived.Test.YtabmooekodficaaF2119
set_option linter.all false
open Go Go.Proofs Aq
namespace Sh
set_option maxRecDepth 100000
def getN (l:List (Nat×Note)) (k:Nat):Note:=match look l k with
 |some q=>q
 |none=>⟨[],[],⟨[],[]⟩,[]⟩
abbrev tabS0:List UInt8:=[0,1,2,2,3,3,3,3,4,4,4,4,4,4,4,4,5,5,5,5,5,5,5,5,5,5,5,5,5,5,5,5,6,6,6,6,6,6,6,6,6,6,6,6,6,6,6,6,6,6,6,6,6,6,6,6,6,6,6,6,6,6,6,6,7,7,7,7,7,7,7,7,7,7,7,7,7,7,7,7,7,7,7,7,7,7,7,7,7,7,7,7,7,7,7,7,7,7,7,7,7,7,7,7,7,7,7,7,7,7,7,7,7,7,7,7,7,7,7,7,7,7,7,7,7,7,7,7,8,8,8,8,8,8,8,8,8,8,8,8,8,8,8,8,8,8,8,8,8,8,8,8,8,8,8,8,8,8,8,8,8,8,8,8,8,8,8,8,8,8,8,8,8,8,8,8,8,8,8,8,8,8,8,8,8,8,8,8,8,8,8,8,8,8,8,8,8,8,8,8,8,8,8,8,8,8,8,8,8,8,8,8,8,8,8,8,8,8,8,8,8,8,8,8,8,8,8,8,8,8,8,8,8,8,8,8,8,8,8,8,8,8,8,8,8,8,8,8,8,8,8,8,8,8,8,8]
noncomputable def Zz_L4 (n:Nat) (x1:List (List Int)) (m:Nat) (p:Int):Option (PUnit⊕Bool):=
 loopF (R:=R) 4 (wrC E ((subO Try.f6.body [1,1,0,1,0,0]).getD .skip)) (⟨[(0,TV.lst (T:=R.T) Cp.sh (Ty.slice (Ty.int IntKind.i64)) x1)],[]⟩:MS R.T) (getN Zz_a.loops 4).sh (getN Zz_a.loops 4).outs (fun st k=>codeM E R n false (regs0 n) iters Zz_a ((subO Try.f6.body [1,1,0,1,0,0]).getD .skip) st k) m p
theorem Zz_L4_s (n:Nat) (x1:List (List Int)) (m:Nat) (x3:Int):Zz_L4 n x1 (m+1) x3=
 bif decide (x3< (((x1.length:Nat):Int))) then
  (idxL x1 x3).bind fun (r4:List Int)=>
  bif decide ((((r4.length:Nat):Int))> (40:Int)) then
   some (.inr false)
  else
   Zz_L4 n x1 m (IntKind.wrap .i64 (x3+(1:Int)))
 else
  some (.inl (())):=by kernel_rfl
theorem Zz_eq (n:Nat) (x1:List (List Int)) (x2:Int):Zz n (x1,x2)=
 bif decide ((((x1.length:Nat):Int))>x2) then
  some false
 else
  (Zz_L4 n x1 n (0:Int)).bind fun (r5:PUnit⊕Bool)=>
  Sum.elim (fun (q6:PUnit)=>
   some true)
   (fun (q7:Bool)=>
    some q7) r5:=by kernel_rfl
theorem XC_eq (n:Nat) (x1:Int):XC n x1=
 some (bif decide (x1>=(1:Int)) then decide (x1<=(3:Int)) else false):=by kernel_rfl
noncomputable def Zk_L2 (n:Nat) (x1:List Int) (m:Nat) (p:Int):Option (PUnit⊕Bool):=
 loopF (R:=R) 2 (wrC E ((subO Try.f21.body [1,0,1,0,0]).getD .skip)) (⟨[(0,TV.lst (T:=R.T) Cp.sh (Ty.int IntKind.i64) x1)],[]⟩:MS R.T) (getN Zk_a.loops 2).sh (getN Zk_a.loops 2).outs (fun st k=>codeM E R n false (regs3 n) iters Zk_a ((subO Try.f21.body [1,0,1,0,0]).getD .skip) st k) m p
theorem Zk_L2_s (n:Nat) (x1:List Int) (m:Nat) (x2:Int):Zk_L2 n x1 (m+1) x2=
 bif decide (x2< (((x1.length:Nat):Int))) then
  (idxL x1 x2).bind fun (r3:Int)=>
  (whenO (!(decide (r3< (-1000:Int)))) (idxL x1 x2) (0:Int)).bind fun (r4:Int)=>
  bif bif decide (r3< (-1000:Int)) then true else decide (r4> (1000:Int)) then
   some (.inr false)
  else
   Zk_L2 n x1 m (IntKind.wrap .i64 (x2+(1:Int)))
 else
  some (.inl (())):=by kernel_rfl
theorem Zk_eq (n:Nat) (x1:List Int):Zk n x1=
 (Zk_L2 n x1 n (0:Int)).bind fun (r5:PUnit⊕Bool)=>
 Sum.elim (fun (q6:PUnit)=>
  some (bif decide ((((x1.length:Nat):Int))>=(1:Int)) then decide ((((x1.length:Nat):Int))<=(32:Int)) else false))
  (fun (q7:Bool)=>
   some q7) r5:=by kernel_rfl
noncomputable def ZD_L2 (n:Nat) (x1:List (List Int)) (m:Nat) (p:Int):Option (PUnit⊕Bool):=
 loopF (R:=R) 2 (wrC E ((subO Try.f16.body [1,0,1,0,0]).getD .skip)) (⟨[(0,TV.lst (T:=R.T) Cp.sh (Ty.slice (Ty.int IntKind.i64)) x1)],[]⟩:MS R.T) (getN ZD_a.loops 2).sh (getN ZD_a.loops 2).outs (fun st k=>codeM E R n false (regs4 n) iters ZD_a ((subO Try.f16.body [1,0,1,0,0]).getD .skip) st k) m p
theorem ZD_L2_s (n:Nat) (x1:List (List Int)) (m:Nat) (x2:Int):ZD_L2 n x1 (m+1) x2=
 bif decide (x2< (((x1.length:Nat):Int))) then
  (idxL x1 x2).bind fun (r3:List Int)=>
  (Zk n r3).bind fun (r4:Bool)=>
  bif !(!r4) then
   (idxL x1 x2).bind fun (r5:List Int)=>
   (idxL x1 (0:Int)).bind fun (r6:List Int)=>
   bif (((r5.length:Nat):Int)) !=(((r6.length:Nat):Int)) then
    some (.inr false)
   else
    ZD_L2 n x1 m (IntKind.wrap .i64 (x2+(1:Int)))
  else
   some (.inr false)
 else
  some (.inl (())):=by kernel_rfl
theorem ZD_eq (n:Nat) (x1:List (List Int)):ZD n x1=
 (ZD_L2 n x1 n (0:Int)).bind fun (r7:PUnit⊕Bool)=>
 Sum.elim (fun (q8:PUnit)=>
  some (bif decide ((((x1.length:Nat):Int))>=(1:Int)) then decide ((((x1.length:Nat):Int))<=(4096:Int)) else false))
  (fun (q9:Bool)=>
   some q9) r7:=by kernel_rfl
theorem XD_eq (n:Nat) (x1:List Int) (x2:List Int):XD n (x1,x2)=
 (Zk n x1).bind fun (r3:Bool)=>
 (whenO r3 (Zk n x2) false).bind fun (r4:Bool)=>
 some (bif bif r3 then r4 else false then (((x1.length:Nat):Int))==(((x2.length:Nat):Int)) else false):=by kernel_rfl
theorem Xo_eq (n:Nat) (x1:Int) (x2:Int) (x3:Int):Xo n (x1,(x2,x3))=
 some (imax x2 (imin x1 x3)):=by kernel_rfl
theorem XE_eq (n:Nat) (x1:Int) (x2:Int):XE n (x1,x2)=
 (whenO (bif decide (x1>=(1:Int)) then decide (x1<=(3:Int)) else false) (Xo n ((x2,((0:Int),(134217728:Int))))) (0:Int)).bind fun (r3:Int)=>
 some (bif bif decide (x1>=(1:Int)) then decide (x1<=(3:Int)) else false then r3==x2 else false):=by kernel_rfl
theorem XJ_eq (n:Nat) (x1:Bool) (x2:Int):XJ n (x1,x2)=
 some (bif bif x1 then decide (x2>=(-1000:Int)) else false then decide (x2<=(1000:Int)) else false):=by kernel_rfl
noncomputable def ZN_L2 (n:Nat) (x1:List Int) (m:Nat) (p:Bool×Int):Option (Bool):=
 loopF (R:=R) 2 (wrC E ((subO Try.f72.body [1,0,1,0,0]).getD .skip)) (⟨[(2,TV.fn 73 [] []),(9,TV.lst (T:=R.T) Cp.sh (Ty.int IntKind.i64) x1),(10,TV.int IntKind.i64 (((x1.length:Nat):Int)))],[]⟩:MS R.T) (getN ZN_a.loops 2).sh (getN ZN_a.loops 2).outs (fun st k=>codeM E R n false (regs13 n) iters ZN_a ((subO Try.f72.body [1,0,1,0,0]).getD .skip) st k) m p
theorem ZN_L2_s (n:Nat) (x1:List Int) (m:Nat) (x3:Bool) (x4:Int):ZN_L2 n x1 (m+1) (x3,x4)=
 bif decide (x4< (((x1.length:Nat):Int))) then
  (idxL x1 x4).bind fun (r5:Int)=>
  (XJ n ((x3,r5))).bind fun (r6:Bool)=>
  ZN_L2 n x1 m ((r6,IntKind.wrap .i64 (x4+(1:Int))))
 else
  some x3:=by kernel_rfl
theorem ZN_eq (n:Nat) (x1:List Int) (x2:Bool):ZN n (x1,(x2,((),())))=
 (ZN_L2 n x1 n ((x2,(0:Int)))).bind fun (r7:Bool)=>
 some r7:=by kernel_rfl
theorem Xw_eq (n:Nat) (x1:List Int):Xw n x1=
 (ZN n ((x1,(true,((),()))))).bind fun (r2:Bool)=>
 some (bif bif r2 then decide ((((x1.length:Nat):Int))>=(1:Int)) else false then decide ((((x1.length:Nat):Int))<=(32:Int)) else false):=by kernel_rfl
theorem Xx_eq (n:Nat) (x1:List Int) (x2:List Int):Xx n (x1,x2)=
 (whenO ((((x1.length:Nat):Int))==(((x2.length:Nat):Int))) (Xw n x1) false).bind fun (r3:Bool)=>
 (whenO (bif (((x1.length:Nat):Int))==(((x2.length:Nat):Int)) then r3 else false) (Xw n x2) false).bind fun (r4:Bool)=>
 some (bif bif (((x1.length:Nat):Int))==(((x2.length:Nat):Int)) then r3 else false then r4 else false):=by kernel_rfl
theorem XF_eq (n:Nat) (x1:List Int) (x2:Int) (x3:List (List Int)):XF n (x1,(x2,x3))=
 (idxL x3 (0:Int)).bind fun (r4:List Int)=>
 (Xx n ((r4,x1))).bind fun (r5:Bool)=>
 some (!r5):=by kernel_rfl
noncomputable def ZJ_L2 (n:Nat) (x1:List (List Int)) (x2:Int) (x3:List (List Int)) (m:Nat) (p:Int):Option (PUnit⊕Int):=
 loopF (R:=R) 2 (wrC E ((subO Try.f68.body [1,0,1,0,0]).getD .skip)) (⟨[(0,TV.lst (T:=R.T) Cp.sh (Ty.slice (Ty.int IntKind.i64)) x1),(1,TV.fn 56 [] ([TV.cref [TV.int IntKind.i64 x2,TV.lst (T:=R.T) Cp.sh (Ty.slice (Ty.int IntKind.i64)) x3] 0])),(7,TV.int IntKind.i64 (((x1.length:Nat):Int)))],[]⟩:MS R.T) (getN ZJ_a.loops 2).sh (getN ZJ_a.loops 2).outs (fun st k=>codeM E R n false (regs17 n) iters ZJ_a ((subO Try.f68.body [1,0,1,0,0]).getD .skip) st k) m p
theorem ZJ_L2_s (n:Nat) (x1:List (List Int)) (x2:Int) (x3:List (List Int)) (m:Nat) (x4:Int):ZJ_L2 n x1 x2 x3 (m+1) x4=
 bif decide (x4< (((x1.length:Nat):Int))) then
  (idxL x1 x4).bind fun (r5:List Int)=>
  (XF n ((r5,(x2,x3)))).bind fun (r6:Bool)=>
  bif r6 then
   some (.inr x4)
  else
   ZJ_L2 n x1 x2 x3 m (IntKind.wrap .i64 (x4+(1:Int)))
 else
  some (.inl (())):=by kernel_rfl
theorem ZJ_eq (n:Nat) (x1:List (List Int)) (x2:Int) (x3:List (List Int)):ZJ n (x1,((),(x2,x3)))=
 (ZJ_L2 n x1 x2 x3 n (0:Int)).bind fun (r7:PUnit⊕Int)=>
 Sum.elim (fun (q8:PUnit)=>
  some (-1:Int))
  (fun (q9:Int)=>
   some q9) r7:=by kernel_rfl
theorem XG_eq (n:Nat) (x1:List (List Int)) (x2:Int) (x3:List (List Int)):XG n (x1,((),(x2,x3)))=
 (ZJ n ((x1,((),(x2,x3))))).bind fun (r4:Int)=>
 some (decide (r4>=(0:Int))):=by kernel_rfl
theorem Xp_eq (n:Nat) (x1:graph_space):Xp n x1=
 (XE n ((x1.m,(0:Int)))).bind fun (r2:Bool)=>
 (whenO (bif bif r2 then decide ((((x1.l.length:Nat):Int))>=(1:Int)) else false then decide ((((x1.l.length:Nat):Int))<=(4096:Int)) else false) (XG n ((x1.l,((),(x1.m,x1.l))))) false).bind fun (r3:Bool)=>
 some (bif bif bif r2 then decide ((((x1.l.length:Nat):Int))>=(1:Int)) else false then decide ((((x1.l.length:Nat):Int))<=(4096:Int)) else false then !r3 else false):=by kernel_rfl
noncomputable def ZK_L2 (n:Nat) (x1:List Int) (x2:Int) (m:Nat) (p:Int):Option (PUnit⊕Int):=
 loopF (R:=R) 2 (wrC E ((subO Try.f61.body [1,0,1,0,0]).getD .skip)) (⟨[(0,TV.lst (T:=R.T) Cp.sh (Ty.int IntKind.i64) x1),(1,TV.int IntKind.i64 x2),(7,TV.int IntKind.i64 (((x1.length:Nat):Int)))],[]⟩:MS R.T) (getN ZK_a.loops 2).sh (getN ZK_a.loops 2).outs (fun st k=>codeM E R n false (regs20 n) iters ZK_a ((subO Try.f61.body [1,0,1,0,0]).getD .skip) st k) m p
theorem ZK_L2_s (n:Nat) (x1:List Int) (x2:Int) (m:Nat) (x3:Int):ZK_L2 n x1 x2 (m+1) x3=
 bif decide (x3< (((x1.length:Nat):Int))) then
  (idxL x1 x3).bind fun (r4:Int)=>
  bif x2==r4 then
   some (.inr x3)
  else
   ZK_L2 n x1 x2 m (IntKind.wrap .i64 (x3+(1:Int)))
 else
  some (.inl (())):=by kernel_rfl
theorem ZK_eq (n:Nat) (x1:List Int) (x2:Int):ZK n (x1,x2)=
 (ZK_L2 n x1 x2 n (0:Int)).bind fun (r5:PUnit⊕Int)=>
 Sum.elim (fun (q6:PUnit)=>
  some (-1:Int))
  (fun (q7:Int)=>
   some q7) r5:=by kernel_rfl
theorem XH_eq (n:Nat) (x1:List Int) (x2:Int):XH n (x1,x2)=
 (ZK n ((x1,x2))).bind fun (r3:Int)=>
 some (decide (r3>=(0:Int))):=by kernel_rfl
noncomputable def Zd_L9 (n:Nat) (x1:Int) (x2:Graph) (x3:Int) (r4:Hood) (m:Nat) (p:Int):Option (PUnit⊕Bool):=
 loopF (R:=R) 9 (wrC E ((subO Try.f19.body [1,1,0,1,0,0,1,1,0,0,1,1,1,0,0]).getD .skip)) (⟨[(0,TV.int IntKind.i64 x1),(6,TV.ref 6 0),(23,TV.lst (T:=R.T) Cp.sh (Ty.st 0) x2.Hoods),(24,TV.int IntKind.i64 (((x2.Hoods.length:Nat):Int))),(25,TV.int IntKind.i64 x3),(46,TV.lst (T:=R.T) Cp.sh (Ty.int IntKind.i64) r4.Slots),(47,TV.int IntKind.i64 (((r4.Slots.length:Nat):Int)))],[(6,Ob.ro (Ob.cells [TV.int IntKind.i64 r4.Radius,TV.lst (T:=R.T) Cp.sh (Ty.int IntKind.i64) r4.Slots]))]⟩:MS R.T) (getN Zd_a.loops 9).sh (getN Zd_a.loops 9).outs (fun st k=>codeM E R n false (regs22 n) iters Zd_a ((subO Try.f19.body [1,1,0,1,0,0,1,1,0,0,1,1,1,0,0]).getD .skip) st k) m p
noncomputable def Zd_L4 (n:Nat) (x1:Int) (x2:Graph) (m:Nat) (p:Int):Option (PUnit⊕Bool):=
 loopF (R:=R) 4 (wrC E ((subO Try.f19.body [1,1,0,1,0,0]).getD .skip)) (⟨[(0,TV.int IntKind.i64 x1),(23,TV.lst (T:=R.T) Cp.sh (Ty.st 0) x2.Hoods),(24,TV.int IntKind.i64 (((x2.Hoods.length:Nat):Int)))],[]⟩:MS R.T) (getN Zd_a.loops 4).sh (getN Zd_a.loops 4).outs (fun st k=>codeM E R n false (regs22 n) iters Zd_a ((subO Try.f19.body [1,1,0,1,0,0]).getD .skip) st k) m p
theorem Zd_L9_s (n:Nat) (x1:Int) (x2:Graph) (x3:Int) (r4:Hood) (m:Nat) (x6:Int):Zd_L9 n x1 x2 x3 r4 (m+1) x6=
 bif decide (x6< (((r4.Slots.length:Nat):Int))) then
  (idxL r4.Slots x6).bind fun (r7:Int)=>
  (whenO (bif !(bif decide (r7< (0:Int)) then true else decide (r7>=x1)) then decide (x6> (0:Int)) else false) (idxL r4.Slots (IntKind.wrap .i64 (x6-(1:Int)))) (0:Int)).bind fun (r8:Int)=>
  bif bif bif decide (r7< (0:Int)) then true else decide (r7>=x1) then true else bif decide (x6> (0:Int)) then decide (r7<=r8) else false then
   some (.inr false)
  else
   Zd_L9 n x1 x2 x3 r4 m (IntKind.wrap .i64 (x6+(1:Int)))
 else
  some (.inl (())):=by kernel_rfl
theorem Zd_L4_s (n:Nat) (x1:Int) (x2:Graph) (m:Nat) (x3:Int):Zd_L4 n x1 x2 (m+1) x3=
 bif decide (x3< (((x2.Hoods.length:Nat):Int))) then
  (idxL x2.Hoods x3).bind fun (r4:Hood)=>
  (whenO (!(bif decide (r4.Radius< (0:Int)) then true else decide (r4.Radius> (134217728:Int)))) (XH n ((r4.Slots,x3))) false).bind fun (r5:Bool)=>
  bif bif bif decide (r4.Radius< (0:Int)) then true else decide (r4.Radius> (134217728:Int)) then true else !r5 then
   some (.inr false)
  else
   (Zd_L9 n x1 x2 x3 r4 n (0:Int)).bind fun (r9:PUnit⊕Bool)=>
   Sum.elim (fun (q10:PUnit)=>
    Zd_L4 n x1 x2 m (IntKind.wrap .i64 (x3+(1:Int))))
    (fun (q11:Bool)=>
     some (.inr q11)) r9
 else
  some (.inl (())):=by kernel_rfl
theorem Zd_eq (n:Nat) (x1:Int) (x2:Graph):Zd n (x1,x2)=
 bif bif bif decide (x1< (1:Int)) then true else decide (x1> (4096:Int)) then true else (((x2.Hoods.length:Nat):Int)) !=x1 then
  some false
 else
  (Zd_L4 n x1 x2 n (0:Int)).bind fun (r12:PUnit⊕Bool)=>
  Sum.elim (fun (q13:PUnit)=>
   some true)
   (fun (q14:Bool)=>
    some q14) r12:=by kernel_rfl
theorem ZU_eq (n:Nat) (x1:List Int):ZU n (x1) (())=
 bif !(List.isEmpty x1) then
  bif roomOK x1.length 8 then
   some ((x1,()))
  else
   none
 else
  none:=by kernel_rfl
noncomputable def ZA_L3 (n:Nat) (x2:List Int) (r3:(List Int)×PUnit) (m:Nat) (p:Int×List Int):Option (PUnit×List Int):=
 loopF (R:=R) 3 (wrC E ((subO Try.f34.body [1,1,0,1,0,0]).getD .skip)) (⟨[(1,TV.lst (T:=R.T) Cp.sh (Ty.int IntKind.i64) x2),(5,TV.vw 8 (Ty.int IntKind.i64)),(10,TV.int IntKind.i64 (((r3.1.length:Nat):Int)))],[]⟩:MS R.T) (getN ZA_a.loops 3).sh (getN ZA_a.loops 3).outs (fun st k=>codeM E R n false (regs23 n) (its1 n) ZA_a ((subO Try.f34.body [1,1,0,1,0,0]).getD .skip) st k) m p
theorem ZA_L3_s (n:Nat) (x2:List Int) (r3:(List Int)×PUnit) (m:Nat) (x4:Int) (x5:List Int):ZA_L3 n x2 r3 (m+1) (x4,x5)=
 bif decide (x4< (((r3.1.length:Nat):Int))) then
  bif decide (0<=x4/\x4< ((x5.length:Nat):Int)) then
   (idxL x5 x4).bind fun (r6:Int)=>
   (idxL x2 x4).bind fun (r7:Int)=>
   bif decide (0<=x4/\x4< ((x5.length:Nat):Int)) then
    (idxL x5 x4).bind fun (r8:Int)=>
    ZA_L3 n x2 r3 m ((IntKind.wrap .i64 (x4+(1:Int)),setL x5 x4 (IntKind.wrap .i64 (r6-r7))))
   else
    none
  else
   none
 else
  some (((),x5)):=by kernel_rfl
theorem ZA_eq (n:Nat) (x1:List Int) (x2:List Int):ZA n (x1,x2)=
 (ZU n x1 (())).bind fun (r3:(List Int)×PUnit)=>
 (ZA_L3 n x2 r3 n (((0:Int),r3.1))).bind fun (r9:PUnit×List Int)=>
 some r9.2:=by kernel_rfl
theorem Xy_eq (n:Nat) (x1:Int) (x2:Int):Xy n (x1,x2)=
 some (IntKind.wrap .i64 (x1+(imax x2 (IntKind.wrap .i64 ((0:Int)-x2))))):=by kernel_rfl
noncomputable def ZE_L2 (n:Nat) (x1:List Int) (m:Nat) (p:Int×Int):Option (Int):=
 loopF (R:=R) 2 (wrC E ((subO Try.f55.body [1,0,1,0,0]).getD .skip)) (⟨[(2,TV.fn 52 [] []),(9,TV.lst (T:=R.T) Cp.sh (Ty.int IntKind.i64) x1),(10,TV.int IntKind.i64 (((x1.length:Nat):Int)))],[]⟩:MS R.T) (getN ZE_a.loops 2).sh (getN ZE_a.loops 2).outs (fun st k=>codeM E R n false (regs25 n) (its1 n) ZE_a ((subO Try.f55.body [1,0,1,0,0]).getD .skip) st k) m p
theorem ZE_L2_s (n:Nat) (x1:List Int) (m:Nat) (x3:Int) (x4:Int):ZE_L2 n x1 (m+1) (x3,x4)=
 bif decide (x4< (((x1.length:Nat):Int))) then
  (idxL x1 x4).bind fun (r5:Int)=>
  (Xy n ((x3,r5))).bind fun (r6:Int)=>
  ZE_L2 n x1 m ((r6,IntKind.wrap .i64 (x4+(1:Int))))
 else
  some x3:=by kernel_rfl
theorem ZE_eq (n:Nat) (x1:List Int) (x2:Int):ZE n (x1,(x2,((),())))=
 (ZE_L2 n x1 n ((x2,(0:Int)))).bind fun (r7:Int)=>
 some r7:=by kernel_rfl
theorem Xz_eq (n:Nat) (x1:Int) (x2:Int):Xz n (x1,x2)=
 some (IntKind.wrap .i64 (x1+(IntKind.wrap .i64 (x2*x2)))):=by kernel_rfl
noncomputable def ZF_L2 (n:Nat) (x1:List Int) (m:Nat) (p:Int×Int):Option (Int):=
 loopF (R:=R) 2 (wrC E ((subO Try.f55.body [1,0,1,0,0]).getD .skip)) (⟨[(2,TV.fn 53 [] []),(9,TV.lst (T:=R.T) Cp.sh (Ty.int IntKind.i64) x1),(10,TV.int IntKind.i64 (((x1.length:Nat):Int)))],[]⟩:MS R.T) (getN ZF_a.loops 2).sh (getN ZF_a.loops 2).outs (fun st k=>codeM E R n false (regs27 n) (its1 n) ZF_a ((subO Try.f55.body [1,0,1,0,0]).getD .skip) st k) m p
theorem ZF_L2_s (n:Nat) (x1:List Int) (m:Nat) (x3:Int) (x4:Int):ZF_L2 n x1 (m+1) (x3,x4)=
 bif decide (x4< (((x1.length:Nat):Int))) then
  (idxL x1 x4).bind fun (r5:Int)=>
  (Xz n ((x3,r5))).bind fun (r6:Int)=>
  ZF_L2 n x1 m ((r6,IntKind.wrap .i64 (x4+(1:Int))))
 else
  some x3:=by kernel_rfl
theorem ZF_eq (n:Nat) (x1:List Int) (x2:Int):ZF n (x1,(x2,((),())))=
 (ZF_L2 n x1 n ((x2,(0:Int)))).bind fun (r7:Int)=>
 some r7:=by kernel_rfl
theorem XA_eq (n:Nat) (x1:Int) (x2:Int):XA n (x1,x2)=
 some (imax (imax x1 x2) (IntKind.wrap .i64 ((0:Int)-x2))):=by kernel_rfl
noncomputable def ZG_L2 (n:Nat) (x1:List Int) (m:Nat) (p:Int×Int):Option (Int):=
 loopF (R:=R) 2 (wrC E ((subO Try.f55.body [1,0,1,0,0]).getD .skip)) (⟨[(2,TV.fn 54 [] []),(9,TV.lst (T:=R.T) Cp.sh (Ty.int IntKind.i64) x1),(10,TV.int IntKind.i64 (((x1.length:Nat):Int)))],[]⟩:MS R.T) (getN ZG_a.loops 2).sh (getN ZG_a.loops 2).outs (fun st k=>codeM E R n false (regs29 n) (its1 n) ZG_a ((subO Try.f55.body [1,0,1,0,0]).getD .skip) st k) m p
theorem ZG_L2_s (n:Nat) (x1:List Int) (m:Nat) (x3:Int) (x4:Int):ZG_L2 n x1 (m+1) (x3,x4)=
 bif decide (x4< (((x1.length:Nat):Int))) then
  (idxL x1 x4).bind fun (r5:Int)=>
  (XA n ((x3,r5))).bind fun (r6:Int)=>
  ZG_L2 n x1 m ((r6,IntKind.wrap .i64 (x4+(1:Int))))
 else
  some x3:=by kernel_rfl
theorem ZG_eq (n:Nat) (x1:List Int) (x2:Int):ZG n (x1,(x2,((),())))=
 (ZG_L2 n x1 n ((x2,(0:Int)))).bind fun (r7:Int)=>
 some r7:=by kernel_rfl
theorem Xq_eq (n:Nat) (x1:Int) (x2:List Int):Xq n (x1,x2)=
 bif x1==(1:Int) then
  (ZE n ((x2,((0:Int),((),()))))).bind fun (r3:Int)=>
  some r3
 else
  bif x1==(2:Int) then
   (ZF n ((x2,((0:Int),((),()))))).bind fun (r4:Int)=>
   some r4
  else
   bif x1==(3:Int) then
    (ZG n ((x2,((0:Int),((),()))))).bind fun (r5:Int)=>
    some r5
   else
    none:=by kernel_rfl
theorem Xr_eq (n:Nat) (x1:Int) (x2:List Int) (x3:List Int):Xr n (x1,(x2,x3))=
 (ZA n ((x2,x3))).bind fun (r4:List Int)=>
 (Xq n ((x1,r4))).bind fun (r5:Int)=>
 some r5:=by kernel_rfl
noncomputable def Zm_L3 (n:Nat) (x1:graph_space) (x2:List Int) (m:Nat) (p:(List Int)×Int):Option (List Int):=
 loopF (R:=R) 3 (wrC E ((subO Try.f36.body [1,1,0,1,0,0]).getD .skip)) (⟨[(1,TV.lst (T:=R.T) Cp.sh (Ty.int IntKind.i64) x2),(2,TV.ref 2 0),(9,TV.lst (T:=R.T) Cp.sh (Ty.slice (Ty.int IntKind.i64)) x1.l),(10,TV.int IntKind.i64 (((x1.l.length:Nat):Int)))],[(2,Ob.ro (Ob.cells [TV.int IntKind.i64 x1.m,TV.lst (T:=R.T) Cp.sh (Ty.slice (Ty.int IntKind.i64)) x1.l]))]⟩:MS R.T) (getN Zm_a.loops 3).sh (getN Zm_a.loops 3).outs (fun st k=>codeM E R n false (regs32 n) (its1 n) Zm_a ((subO Try.f36.body [1,1,0,1,0,0]).getD .skip) st k) m p
theorem Zm_L3_s (n:Nat) (x1:graph_space) (x2:List Int) (m:Nat) (x3:List Int) (x4:Int):Zm_L3 n x1 x2 (m+1) (x3,x4)=
 bif decide (x4< (((x1.l.length:Nat):Int))) then
  (idxL x1.l x4).bind fun (r5:List Int)=>
  (Xr n ((x1.m,(r5,x2)))).bind fun (r6:Int)=>
  bif roomOK (x3.length+([r6].length)) 8 then
   Zm_L3 n x1 x2 m ((x3++[r6],IntKind.wrap .i64 (x4+(1:Int))))
  else
   none
 else
  some x3:=by kernel_rfl
theorem Zm_eq (n:Nat) (x1:graph_space) (x2:List Int):Zm n (x1,x2)=
 (Zm_L3 n x1 x2 n (([],(0:Int)))).bind fun (r7:List Int)=>
 some r7:=by kernel_rfl
theorem Xd_eq (n:Nat) (x1:Int) (x2:List (List Int)) (x3:Graph) (x4:List Int) (x5:Int):Xd n (x1,(x2,(x3,(x4,x5))))=
 (Xp n ((⟨x1,x2⟩:graph_space))).bind fun (r6:Bool)=>
 (whenO (!(!r6)) (Zd n ((((x2.length:Nat):Int),x3))) false).bind fun (r7:Bool)=>
 (whenO (!(bif !r6 then true else !r7)) (idxL x2 (0:Int)) []).bind fun (r8:List Int)=>
 (whenO (!(bif !r6 then true else !r7)) (Xx n ((r8,x4))) false).bind fun (r9:Bool)=>
 bif bif bif bif bif !r6 then true else !r7 then true else !r9 then true else decide (x5< (0:Int)) then true else decide (x5>=(((x2.length:Nat):Int))) then
  some (((⟨(⟨x1,x2⟩:graph_space),x3,[]⟩:graph_search),false))
 else
  (Zm n (((⟨x1,x2⟩:graph_space),x4))).bind fun (r10:List Int)=>
  some (((⟨(⟨x1,x2⟩:graph_space),x3,r10⟩:graph_search),true)):=by kernel_rfl
theorem ZW_eq (n:Nat) (x1:graph_search) (x2:Int):ZW n ((x1,x2)) (())=
 some ((((),((x1.space.m,(x1.space.l,(x1.g.Hoods,x1.keyed))),x2)),())):=by kernel_rfl
noncomputable def Zp_R3 (n:Nat) (xs:List Int) (p:PUnit×PUnit×List Int):Option (PUnit×PUnit×List Int):=
 foldF (R:=R) (X:=PayL R.T intEl) 3 (wrR E (subO Try.f45.body [1,0,1,0])) (⟨[(2,TV.ref 2 0)],[]⟩:MS R.T) (getN Zp_a.loops 3).sh (getN Zp_a.loops 3).outs (rndM E R n true (regs34 n) (its2 n) Zp_a (subO Try.f45.body [1,0,1,0]) intEl) xs p
theorem Zp_R3_0 (n:Nat) (x7:List Int):Zp_R3 n [] ((),((),x7))=
 some (((),((),x7))):=by kernel_rfl
theorem Zp_R3_s (n:Nat) (x8:Int) (xs:List Int) (x9:List Int):Zp_R3 n (x8::xs) ((),((),x9))=
 bif roomOK (x9.length+([x8].length)) 8 then
  Zp_R3 n xs (((),((),x9++[x8])))
 else
  none:=by kernel_rfl
theorem Zp_eq (n:Nat) (x1:Int) (x2:List (List Int)) (x3:List Hood) (x4:List Int) (x5:Int):Zp n (((),((),((),(x1,(x2,(x3,x4))))))) (x5)=
 Option.bind (α:=PUnit×PUnit×List Int) (
  (walkR ((x1,(x2,(x3,x4)))) x5).bind fun (r6:List Int)=>
  Zp_R3 n r6 (((),((),[])))) fun (r10:PUnit×PUnit×List Int)=>
 some ((r10.2.2,())):=by kernel_rfl
theorem Xi_eq (n:Nat) (x1:Int) (x2:List (List Int)) (x3:List Hood) (x4:List Int) (x5:Int):Xi n (((),((),(x1,(x2,(x3,x4)))))) (x5)=
 (Zp n (((),((),((),(x1,(x2,(x3,x4))))))) x5).bind fun (r6:(List Int)×PUnit)=>
 some ((r6.1,())):=by kernel_rfl
theorem Xe_eq (n:Nat) (x1:Int) (x2:List (List Int)) (x3:Graph) (x4:List Int) (x5:Int):Xe n (x1,(x2,(x3,(x4,x5))))=
 (Xd n ((x1,(x2,(x3,(x4,x5)))))).bind fun (r6:graph_search×Bool)=>
 bif !r6.2 then
  some (([],(1:Int)))
 else
  (ZW n (((⟨r6.1.space,r6.1.g,r6.1.keyed⟩:graph_search),x5)) (())).bind fun (r7:(PUnit×(Int×(List (List Int))×(List Hood)×List Int)×Int)×PUnit)=>
  (Xi n (((),((),(r7.1.2.1.1,(r7.1.2.1.2.1,(r7.1.2.1.2.2.1,r7.1.2.1.2.2.2)))))) r7.1.2.2).bind fun (r8:(List Int)×PUnit)=>
  some ((r8.1,(0:Int))):=by kernel_rfl
theorem ZQ_eq (n:Nat) (x1:Int):ZQ n x1=
 bif decide (x1>=(4294967296:Int)) then
  bif decide ((0:Int)<=(32:Int)) then
   bif decide ((bitShr .u64 x1 (32:Int))>=(65536:Int)) then
    bif decide ((0:Int)<=(16:Int)) then
     bif decide ((bitShr .u64 (bitShr .u64 x1 (32:Int)) (16:Int))>=(256:Int)) then
      bif decide ((0:Int)<=(8:Int)) then
       (idxL tabS0 (IntKind.wrap .u8 (bitShr .u64 (bitShr .u64 (bitShr .u64 x1 (32:Int)) (16:Int)) (8:Int)))).bind fun (r2:UInt8)=>
       some (IntKind.wrap .i64 ((IntKind.wrap .i64 ((IntKind.wrap .i64 ((32:Int)+(16:Int)))+(8:Int)))+(IntKind.wrap .i64 (((r2.toNat:Nat):Int)))))
      else
       none
     else
      (idxL tabS0 (IntKind.wrap .u8 (bitShr .u64 (bitShr .u64 x1 (32:Int)) (16:Int)))).bind fun (r3:UInt8)=>
      some (IntKind.wrap .i64 ((IntKind.wrap .i64 ((32:Int)+(16:Int)))+(IntKind.wrap .i64 (((r3.toNat:Nat):Int)))))
    else
     none
   else
    bif decide ((bitShr .u64 x1 (32:Int))>=(256:Int)) then
     bif decide ((0:Int)<=(8:Int)) then
      (idxL tabS0 (IntKind.wrap .u8 (bitShr .u64 (bitShr .u64 x1 (32:Int)) (8:Int)))).bind fun (r4:UInt8)=>
      some (IntKind.wrap .i64 ((IntKind.wrap .i64 ((32:Int)+(8:Int)))+(IntKind.wrap .i64 (((r4.toNat:Nat):Int)))))
     else
      none
    else
     (idxL tabS0 (IntKind.wrap .u8 (bitShr .u64 x1 (32:Int)))).bind fun (r5:UInt8)=>
     some (IntKind.wrap .i64 ((32:Int)+(IntKind.wrap .i64 (((r5.toNat:Nat):Int)))))
  else
   none
 else
  bif decide (x1>=(65536:Int)) then
   bif decide ((0:Int)<=(16:Int)) then
    bif decide ((bitShr .u64 x1 (16:Int))>=(256:Int)) then
     bif decide ((0:Int)<=(8:Int)) then
      (idxL tabS0 (IntKind.wrap .u8 (bitShr .u64 (bitShr .u64 x1 (16:Int)) (8:Int)))).bind fun (r6:UInt8)=>
      some (IntKind.wrap .i64 ((IntKind.wrap .i64 ((IntKind.wrap .i64 ((0:Int)+(16:Int)))+(8:Int)))+(IntKind.wrap .i64 (((r6.toNat:Nat):Int)))))
     else
      none
    else
     (idxL tabS0 (IntKind.wrap .u8 (bitShr .u64 x1 (16:Int)))).bind fun (r7:UInt8)=>
     some (IntKind.wrap .i64 ((IntKind.wrap .i64 ((0:Int)+(16:Int)))+(IntKind.wrap .i64 (((r7.toNat:Nat):Int)))))
   else
    none
  else
   bif decide (x1>=(256:Int)) then
    bif decide ((0:Int)<=(8:Int)) then
     (idxL tabS0 (IntKind.wrap .u8 (bitShr .u64 x1 (8:Int)))).bind fun (r8:UInt8)=>
     some (IntKind.wrap .i64 ((IntKind.wrap .i64 ((0:Int)+(8:Int)))+(IntKind.wrap .i64 (((r8.toNat:Nat):Int)))))
    else
     none
   else
    (idxL tabS0 (IntKind.wrap .u8 x1)).bind fun (r9:UInt8)=>
    some (IntKind.wrap .i64 ((0:Int)+(IntKind.wrap .i64 (((r9.toNat:Nat):Int))))):=by kernel_rfl
theorem ZO_eq (n:Nat) (x1:Int):ZO n x1=
 (ZQ n x1).bind fun (r2:Int)=>
 some r2:=by kernel_rfl
noncomputable def ZB_L5 (n:Nat) (r2:Int) (m:Nat) (p:Int):Option (Int):=
 loopF (R:=R) 5 (wrC E ((subO Try.f95.body [1,1,1,1,0,0]).getD .skip)) (⟨[(0,TV.int IntKind.i64 r2)],[]⟩:MS R.T) (getN ZB_a.loops 5).sh (getN ZB_a.loops 5).outs (fun st k=>codeM E R n false (regs38 n) (its4 n) ZB_a ((subO Try.f95.body [1,1,1,1,0,0]).getD .skip) st k) m p
theorem ZB_L5_s (n:Nat) (r2:Int) (m:Nat) (x4:Int):ZB_L5 n r2 (m+1) x4=
 bif !(x4==(0:Int)) then
  bif !((2:Int)==(0:Int)) then
   bif decide ((IntKind.wrap .i64 (Int.tdiv (IntKind.wrap .i64 (x4+(IntKind.wrap .i64 (Int.tdiv r2 x4)))) (2:Int)))>=x4) then
    some x4
   else
    ZB_L5 n r2 m (IntKind.wrap .i64 (Int.tdiv (IntKind.wrap .i64 (x4+(IntKind.wrap .i64 (Int.tdiv r2 x4)))) (2:Int)))
  else
   none
 else
  none:=by kernel_rfl
theorem ZB_eq (n:Nat) (x1:Int):ZB n x1=
 (Xo n ((x1,((0:Int),(1152921504606846976:Int))))).bind fun (r2:Int)=>
 bif r2==(0:Int) then
  some (0:Int)
 else
  (ZO n (IntKind.wrap .u64 r2)).bind fun (r3:Int)=>
  bif !((2:Int)==(0:Int)) then
   bif decide ((0:Int)<=(IntKind.wrap .i64 (Int.tdiv (IntKind.wrap .i64 (r3+(1:Int))) (2:Int)))) then
    (ZB_L5 n r2 n (bitShl .i64 (1:Int) (IntKind.wrap .i64 (Int.tdiv (IntKind.wrap .i64 (r3+(1:Int))) (2:Int))))).bind fun (r5:Int)=>
    some r5
   else
    none
  else
   none:=by kernel_rfl
theorem Xf_eq (n:Nat) (x1:Int) (x2:Int) (x3:Int):Xf n (x1,(x2,x3))=
 (ZB n (IntKind.wrap .i64 ((IntKind.wrap .i64 ((4:Int)*x1))*x2))).bind fun (r4:Int)=>
 some (IntKind.wrap .i64 ((IntKind.wrap .i64 (x1+x2))+(IntKind.wrap .i64 (x3*r4)))):=by kernel_rfl
theorem Xg_eq (n:Nat) (x1:Int) (x2:Int):Xg n (x1,x2)=
 some (IntKind.wrap .i64 (x1+x2)):=by kernel_rfl
theorem ZV_eq (n:Nat) (x1:Int):ZV n x1=
 some (x1 !=x1):=by kernel_rfl
theorem Xj_eq (n:Nat) (x1:Int) (x2:Int):Xj n (x1,x2)=
 (ZV n x1).bind fun (r3:Bool)=>
 (ZV n x2).bind fun (r4:Bool)=>
 bif r3 then
  bif r4 then
   some (0:Int)
  else
   some (-1:Int)
 else
  bif r4 then
   some (1:Int)
  else
   bif decide (x1<x2) then
    some (-1:Int)
   else
    bif decide (x1>x2) then
     some (1:Int)
    else
     some (0:Int):=by kernel_rfl
noncomputable def Zv_L3 (n:Nat) (x1:List Int) (m:Nat) (p:Int):Option (PUnit⊕Int):=
 loopF (R:=R) 3 (wrC E ((subO Try.f50.body [1,1,0,1,0,0]).getD .skip)) (⟨[(3,TV.int IntKind.i64 (0:Int)),(6,TV.lst (T:=R.T) Cp.sh (Ty.int IntKind.i64) x1),(7,TV.int IntKind.i64 (((x1.length:Nat):Int)))],[]⟩:MS R.T) (getN Zv_a.loops 3).sh (getN Zv_a.loops 3).outs (fun st k=>codeM E R n false (regs43 n) (its4 n) Zv_a ((subO Try.f50.body [1,1,0,1,0,0]).getD .skip) st k) m p
theorem Zv_L3_s (n:Nat) (x1:List Int) (m:Nat) (x2:Int):Zv_L3 n x1 (m+1) x2=
 bif decide (x2< (((x1.length:Nat):Int))) then
  (idxL x1 x2).bind fun (r3:Int)=>
  bif r3 !=(0:Int) then
   some (.inr r3)
  else
   Zv_L3 n x1 m (IntKind.wrap .i64 (x2+(1:Int)))
 else
  some (.inl (())):=by kernel_rfl
theorem Zv_eq (n:Nat) (x1:List Int):Zv n x1=
 (Zv_L3 n x1 n (0:Int)).bind fun (r4:PUnit⊕Int)=>
 Sum.elim (fun (q5:PUnit)=>
  some (0:Int))
  (fun (q6:Int)=>
   some q6) r4:=by kernel_rfl
theorem Xk_eq (n:Nat) (x1:graph_search) (x2:Int) (x3:Int):Xk n (x1,(x2,x3))=
 (idxL x1.keyed x2).bind fun (r4:Int)=>
 (idxL x1.keyed x3).bind fun (r5:Int)=>
 (Xj n ((r4,r5))).bind fun (r6:Int)=>
 (Xj n ((x2,x3))).bind fun (r7:Int)=>
 (Zv n [r6,r7]).bind fun (r8:Int)=>
 some r8:=by kernel_rfl
noncomputable def Zl_L5 (n:Nat) (x1:List Int) (x2:graph_search) (m:Nat) (p:Int×Int):Option (Int):=
 loopF (R:=R) 5 (wrC E ((subO Try.f47.body [1,1,1,0,1,0,0]).getD .skip)) (⟨[(0,TV.lst (T:=R.T) Cp.sh (Ty.int IntKind.i64) x1),(1,TV.fn 32 ([TV.agg [TV.int IntKind.i64 x2.space.m,TV.lst (T:=R.T) Cp.sh (Ty.slice (Ty.int IntKind.i64)) x2.space.l,TV.lst (T:=R.T) Cp.sh (Ty.st 0) x2.g.Hoods,TV.lst (T:=R.T) Cp.sh (Ty.int IntKind.i64) x2.keyed]]) [])],[]⟩:MS R.T) (getN Zl_a.loops 5).sh (getN Zl_a.loops 5).outs (fun st k=>codeM E R n false (regs45 n) (its4 n) Zl_a ((subO Try.f47.body [1,1,1,0,1,0,0]).getD .skip) st k) m p
theorem Zl_L5_s (n:Nat) (x1:List Int) (x2:graph_search) (m:Nat) (x4:Int) (x5:Int):Zl_L5 n x1 x2 (m+1) (x4,x5)=
 bif decide (x5< (((x1.length:Nat):Int))) then
  (idxL x1 x5).bind fun (r6:Int)=>
  (Xk n (((⟨x2.space,x2.g,x2.keyed⟩:graph_search),(r6,x4)))).bind fun (r7:Int)=>
  bif decide (r7< (0:Int)) then
   (idxL x1 x5).bind fun (r8:Int)=>
   Zl_L5 n x1 x2 m ((r8,IntKind.wrap .i64 (x5+(1:Int))))
  else
   Zl_L5 n x1 x2 m ((x4,IntKind.wrap .i64 (x5+(1:Int))))
 else
  some x4:=by kernel_rfl
theorem Zl_eq (n:Nat) (x1:List Int) (x2:graph_search):Zl n (x1,(x2,()))=
 bif decide ((((x1.length:Nat):Int))< (1:Int)) then
  none
 else
  (idxL x1 (0:Int)).bind fun (r3:Int)=>
  (Zl_L5 n x1 x2 n ((r3,(1:Int)))).bind fun (r9:Int)=>
  some r9:=by kernel_rfl
theorem Xh_eq (n:Nat) (x1:Int) (x2:Int) (x3:Int) (x4:Int):Xh n (x1,(x2,(x3,x4)))=
 (XI n ((x1,(x2,x3)))).bind fun (r5:Int)=>
 some (decide (r5<=x4)):=by kernel_rfl
theorem Xl_eq (n:Nat) (x1:Int) (x2:Int) (x3:List (List Int)) (x4:List Hood) (x5:List Int) (x6:Int):Xl n (x1,((x2,(x3,(x4,x5))),x6))=
 (idxL x5 x1).bind fun (r7:Int)=>
 some (decide (r7>x6)):=by kernel_rfl
noncomputable def Zw_L2 (n:Nat) (x1:List Int) (x2:Int) (x3:List (List Int)) (x4:List Hood) (x5:List Int) (x6:Int) (m:Nat) (p:Int):Option (PUnit⊕Int):=
 loopF (R:=R) 2 (wrC E ((subO Try.f48.body [1,0,1,0,0]).getD .skip)) (⟨[(0,TV.lst (T:=R.T) Cp.sh (Ty.int IntKind.i64) x1),(1,TV.fn 28 [] ([TV.cref [TV.int IntKind.i64 x2,TV.lst (T:=R.T) Cp.sh (Ty.slice (Ty.int IntKind.i64)) x3,TV.lst (T:=R.T) Cp.sh (Ty.st 0) x4,TV.lst (T:=R.T) Cp.sh (Ty.int IntKind.i64) x5] 0,TV.cref [TV.int IntKind.i64 x6] 0])),(7,TV.int IntKind.i64 (((x1.length:Nat):Int)))],[]⟩:MS R.T) (getN Zw_a.loops 2).sh (getN Zw_a.loops 2).outs (fun st k=>codeM E R n false (regs49 n) (its4 n) Zw_a ((subO Try.f48.body [1,0,1,0,0]).getD .skip) st k) m p
theorem Zw_L2_s (n:Nat) (x1:List Int) (x2:Int) (x3:List (List Int)) (x4:List Hood) (x5:List Int) (x6:Int) (m:Nat) (x7:Int):Zw_L2 n x1 x2 x3 x4 x5 x6 (m+1) x7=
 bif decide (x7< (((x1.length:Nat):Int))) then
  (idxL x1 x7).bind fun (r8:Int)=>
  (Xl n ((r8,((x2,(x3,(x4,x5))),x6)))).bind fun (r9:Bool)=>
  bif r9 then
   some (.inr x7)
  else
   Zw_L2 n x1 x2 x3 x4 x5 x6 m (IntKind.wrap .i64 (x7+(1:Int)))
 else
  some (.inl (())):=by kernel_rfl
theorem Zw_eq (n:Nat) (x1:List Int) (x2:Int) (x3:List (List Int)) (x4:List Hood) (x5:List Int) (x6:Int):Zw n (x1,((),((x2,(x3,(x4,x5))),x6)))=
 (Zw_L2 n x1 x2 x3 x4 x5 x6 n (0:Int)).bind fun (r10:PUnit⊕Int)=>
 Sum.elim (fun (q11:PUnit)=>
  some (-1:Int))
  (fun (q12:Int)=>
   some q12) r10:=by kernel_rfl
noncomputable def Ze_L5 (n:Nat) (x2:graph_search) (x3:Int) (m:Nat) (p:(Int×Int)×List Int):Option (Int×List Int):=
 loopF (R:=R) 5 (wrC E ((subO Try.f29.body [1,1,1,0,1,0,0]).getD .skip)) (⟨[(0,TV.vw 1000000 (Ty.int IntKind.i64)),(1,TV.fn 28 [] [TV.ref 1000001 0,TV.ref 1000002 0])],[(1000001,Ob.ro (Ob.cells [TV.int IntKind.i64 x2.space.m,TV.lst (T:=R.T) Cp.any (Ty.slice (Ty.int IntKind.i64)) x2.space.l,TV.lst (T:=R.T) Cp.any (Ty.st 0) x2.g.Hoods,TV.lst (T:=R.T) Cp.any (Ty.int IntKind.i64) x2.keyed])),(1000002,Ob.ro (Ob.cells [TV.int IntKind.i64 x3]))]⟩:MS R.T) (getN Ze_a.loops 5).sh (getN Ze_a.loops 5).outs (fun st k=>codeM E R n false (regs50 n) (its4 n) Ze_a ((subO Try.f29.body [1,1,1,0,1,0,0]).getD .skip) st k) m p
theorem Ze_L5_s (n:Nat) (x2:graph_search) (x3:Int) (m:Nat) (x5:Int) (x6:Int) (x7:List Int):Ze_L5 n x2 x3 (m+1) ((x5,x6),x7)=
 bif decide (x6< (((x7.length:Nat):Int))) then
  bif decide (0<=x6/\x6< ((x7.length:Nat):Int)) then
   (idxL x7 x6).bind fun (r8:Int)=>
   (Xl n ((r8,((x2.space.m,(x2.space.l,(x2.g.Hoods,x2.keyed))),x3)))).bind fun (r9:Bool)=>
   bif !r9 then
    bif decide (0<=x5/\x5< ((x7.length:Nat):Int)) then
     (idxL x7 x5).bind fun (r10:Int)=>
     Ze_L5 n x2 x3 m (((IntKind.wrap .i64 (x5+(1:Int)),IntKind.wrap .i64 (x6+(1:Int))),setL x7 x5 r8))
    else
     none
   else
    Ze_L5 n x2 x3 m (((x5,IntKind.wrap .i64 (x6+(1:Int))),x7))
  else
   none
 else
  some ((x5,x7)):=by kernel_rfl
theorem Ze_eq (n:Nat) (x1:List Int) (x2:graph_search) (x3:Int):Ze n (((),((),((),())))) ((x1,(x2,x3)))=
 (Zw n ((x1,((),((x2.space.m,(x2.space.l,(x2.g.Hoods,x2.keyed))),x3))))).bind fun (r4:Int)=>
 bif r4==(-1:Int) then
  some ((((0:Int),((x1.length:Nat):Int)),(x1,((⟨x2.space,x2.g,x2.keyed⟩:graph_search),x3))))
 else
  (Ze_L5 n x2 x3 n (((r4,IntKind.wrap .i64 (r4+(1:Int))),x1))).bind fun (r11:Int×List Int)=>
  bif inV r11.1 ((((r11.2.length:Nat):Int))-(0:Int)) ((((r11.2.length:Nat):Int))-(0:Int)) then
   bif inV (0:Int) r11.1 (((((clrL r11.2 ((0:Int)+r11.1) ((0:Int)+((((r11.2.length:Nat):Int))-(0:Int))) (0:Int)).length:Nat):Int))-(0:Int)) then
    some ((((0:Int)+(0:Int),(0:Int)+r11.1),(clrL r11.2 ((0:Int)+r11.1) ((0:Int)+((((r11.2.length:Nat):Int))-(0:Int))) (0:Int),((⟨x2.space,x2.g,x2.keyed⟩:graph_search),x3))))
   else
    none
  else
   none:=by kernel_rfl
noncomputable def Zh_R7 (n:Nat) (x1:Int) (x3:Graph) (xs:List Int) (p:PUnit×Int×(Int×Int)×Int×Bool×Int×graph_search×Int×List Int):Option ((PUnit×Int×(Int×Int)×Int×Bool×Int×graph_search×Int×List Int)⊕(PUnit×Int×(Int×Int)×Int×Bool×Int×graph_search×Int×List Int)):=
 foldF (R:=R) (X:=PayL R.T intEl) 7 (wrR E (subO Try.f12.body [1,1,1,1,0,1,0])) (⟨[(6,TV.ref 6 0),(8,TV.ref 8 0),(11,TV.ref 11 0),(12,TV.ref 12 0),(13,TV.ref 13 0),(14,TV.ref 14 0),(15,TV.ref 15 0),(16,TV.ref 16 0),(18,TV.ref 18 0)],[(6,Ob.ro (Ob.cells [TV.int IntKind.i64 x1])),(8,Ob.ro (Ob.cells [TV.lst (T:=R.T) Cp.sh (Ty.st 0) x3.Hoods]))]⟩:MS R.T) (getN Zh_a.loops 7).sh (getN Zh_a.loops 7).outs (rndM E R n false (regs50 n) (its5 n) Zh_a (subO Try.f12.body [1,1,1,1,0,1,0]) intEl) xs p
theorem Zh_R7_0 (n:Nat) (x1:Int) (x3:Graph) (x10:Int) (x11:Int) (x12:Int) (x13:Int) (x14:Bool) (x15:Int) (x16:graph_search) (x17:Int) (x18:List Int):Zh_R7 n x1 x3 [] ((),(x10,((x11,x12),(x13,(x14,(x15,(x16,(x17,x18))))))))=
 some (.inl (((),(x10,((x11,x12),(x13,(x14,(x15,((⟨x16.space,x16.g,x16.keyed⟩:graph_search),(x17,x18)))))))))):=by kernel_rfl
theorem Zh_R7_s (n:Nat) (x1:Int) (x3:Graph) (x19:Int) (xs:List Int) (x20:Int) (x21:Int) (x22:Int) (x23:Int) (x24:Bool) (x25:Int) (x26:graph_search) (x27:Int) (x28:List Int):Zh_R7 n x1 x3 (x19::xs) ((),(x20,((x21,x22),(x23,(x24,(x25,(x26,(x27,x28))))))))=
 (idxL x3.Hoods x19).bind fun (r29:Hood)=>
 (idxL x26.keyed x19).bind fun (r30:Int)=>
 (Xh n ((x1,(r30,(x20,r29.Radius))))).bind fun (r31:Bool)=>
 bif r31 then
  (ZU n r29.Slots (())).bind fun (r32:(List Int)×PUnit)=>
  (Ze n (((),((),((),())))) ((r32.1,((⟨x26.space,x26.g,x26.keyed⟩:graph_search),x20)))).bind fun (r33:(Int×Int)×(List Int)×graph_search×Int)=>
  some (.inr (((),(r33.2.2.2,((r33.1.1,r33.1.2),(x19,(true,((0:Int),((⟨r33.2.2.1.space,r33.2.2.1.g,r33.2.2.1.keyed⟩:graph_search),(x19,r33.2.1))))))))))
 else
  Zh_R7 n x1 x3 xs (((),(x20,((x21,x22),(x23,(x24,(x25,((⟨x26.space,x26.g,x26.keyed⟩:graph_search),(x19,x28))))))))):=by kernel_rfl
theorem Zh_eq (n:Nat) (x1:Int) (x2:List (List Int)) (x3:Graph) (x4:List Int) (x5:Int) (x6:Int):Zh n (x1,(x2,(x3,(x4,(x5,x6)))))=
 (Xd n ((x1,(x2,(x3,(x4,x5)))))).bind fun (r7:graph_search×Bool)=>
 bif bif bif !r7.2 then true else decide (x6< (0:Int)) then true else decide (x6> (134217728:Int)) then
  some (([],((0:Int),(false,(1:Int)))))
 else
  (ZW n (((⟨r7.1.space,r7.1.g,r7.1.keyed⟩:graph_search),x5)) (())).bind fun (r8:(PUnit×(Int×(List (List Int))×(List Hood)×List Int)×Int)×PUnit)=>
  Option.bind (α:=(PUnit×Int×(Int×Int)×Int×Bool×Int×graph_search×Int×List Int)⊕(PUnit×Int×(Int×Int)×Int×Bool×Int×graph_search×Int×List Int)) (
   (walkR ((r8.1.2.1.1,(r8.1.2.1.2.1,(r8.1.2.1.2.2.1,r8.1.2.1.2.2.2)))) r8.1.2.2).bind fun (r9:List Int)=>
   Zh_R7 n x1 x3 r9 (((),(x6,(((0:Int),(0:Int)),((0:Int),(false,((0:Int),((⟨r7.1.space,r7.1.g,r7.1.keyed⟩:graph_search),(x5,[])))))))))) fun (r34:(PUnit×Int×(Int×Int)×Int×Bool×Int×graph_search×Int×List Int)⊕(PUnit×Int×(Int×Int)×Int×Bool×Int×graph_search×Int×List Int))=>
  Sum.elim (fun (q35:PUnit×Int×(Int×Int)×Int×Bool×Int×graph_search×Int×List Int)=>
   some (([],(q35.2.2.2.2.2.2.2.1,(false,(0:Int))))))
   (fun (q36:PUnit×Int×(Int×Int)×Int×Bool×Int×graph_search×Int×List Int)=>
    some ((subI q36.2.2.2.2.2.2.2.2 q36.2.2.1.1 q36.2.2.1.2,(q36.2.2.2.1,(q36.2.2.2.2.1,q36.2.2.2.2.2.1))))) r34:=by kernel_rfl
noncomputable def Zi_L4 (n:Nat) (x1:Int) (x2:Int) (x3:graph_search) (x5:Int) (m:Nat) (p:Int×List Int):Option (PUnit×List Int):=
 loopF (R:=R) 4 (wrC E ((subO Try.f74.body [1,0,0,1,0,0,1,0,0]).getD .skip)) (⟨[(0,TV.vw 1000000 (Ty.int IntKind.i64)),(1,TV.int IntKind.i64 x1),(2,TV.int IntKind.i64 x2),(3,TV.fn 32 ([TV.agg [TV.int IntKind.i64 x3.space.m,TV.lst (T:=R.T) Cp.any (Ty.slice (Ty.int IntKind.i64)) x3.space.l,TV.lst (T:=R.T) Cp.any (Ty.st 0) x3.g.Hoods,TV.lst (T:=R.T) Cp.any (Ty.int IntKind.i64) x3.keyed]]) []),(8,TV.int IntKind.i64 x5)],[]⟩:MS R.T) (getN Zi_a.loops 4).sh (getN Zi_a.loops 4).outs (fun st k=>codeM E R n false (regs51 n) (its5 n) Zi_a ((subO Try.f74.body [1,0,0,1,0,0,1,0,0]).getD .skip) st k) m p
noncomputable def Zi_L1 (n:Nat) (x1:Int) (x2:Int) (x3:graph_search) (m:Nat) (p:Int×List Int):Option (PUnit×List Int):=
 loopF (R:=R) 1 (wrC E ((subO Try.f74.body [1,0,0]).getD .skip)) (⟨[(0,TV.vw 1000000 (Ty.int IntKind.i64)),(1,TV.int IntKind.i64 x1),(2,TV.int IntKind.i64 x2),(3,TV.fn 32 ([TV.agg [TV.int IntKind.i64 x3.space.m,TV.lst (T:=R.T) Cp.any (Ty.slice (Ty.int IntKind.i64)) x3.space.l,TV.lst (T:=R.T) Cp.any (Ty.st 0) x3.g.Hoods,TV.lst (T:=R.T) Cp.any (Ty.int IntKind.i64) x3.keyed]]) [])],[]⟩:MS R.T) (getN Zi_a.loops 1).sh (getN Zi_a.loops 1).outs (fun st k=>codeM E R n false (regs51 n) (its5 n) Zi_a ((subO Try.f74.body [1,0,0]).getD .skip) st k) m p
theorem Zi_eq (n:Nat) (x1:Int) (x2:Int) (x3:graph_search) (x4:List Int):Zi n (((),(x1,(x2,(x3,()))))) (x4)=
 (Zi_L1 n x1 x2 x3 n ((IntKind.wrap .i64 (x1+(1:Int)),x4))).bind fun (r17:PUnit×List Int)=>
 some (((),r17.2)):=by kernel_rfl
noncomputable def ZL_L1 (n:Nat) (x2:Int) (x3:Int) (x4:graph_search) (m:Nat) (p:Int×List Int):Option ((PUnit×List Int)⊕(PUnit×List Int)):=
 loopF (R:=R) 1 (wrC E ((subO Try.f98.body [1,0,0]).getD .skip)) (⟨[(0,TV.vw 1000000 (Ty.int IntKind.i64)),(2,TV.int IntKind.i64 x2),(3,TV.int IntKind.i64 x3),(4,TV.fn 32 ([TV.agg [TV.int IntKind.i64 x4.space.m,TV.lst (T:=R.T) Cp.any (Ty.slice (Ty.int IntKind.i64)) x4.space.l,TV.lst (T:=R.T) Cp.any (Ty.st 0) x4.g.Hoods,TV.lst (T:=R.T) Cp.any (Ty.int IntKind.i64) x4.keyed]]) [])],[]⟩:MS R.T) (getN ZL_a.loops 1).sh (getN ZL_a.loops 1).outs (fun st k=>codeM E R n false (regs51 n) (its6 n) ZL_a ((subO Try.f98.body [1,0,0]).getD .skip) st k) m p
noncomputable def Zn_L4 (n:Nat) (x1:Int) (x2:Int) (x3:graph_search) (m:Nat) (p:Int×List Int):Option (PUnit×List Int):=
 loopF (R:=R) 4 (wrC E ((subO Try.f75.body [1,1,1,0,1,0,0]).getD .skip)) (⟨[(0,TV.vw 1000000 (Ty.int IntKind.i64)),(3,TV.fn 32 ([TV.agg [TV.int IntKind.i64 x3.space.m,TV.lst (T:=R.T) Cp.any (Ty.slice (Ty.int IntKind.i64)) x3.space.l,TV.lst (T:=R.T) Cp.any (Ty.st 0) x3.g.Hoods,TV.lst (T:=R.T) Cp.any (Ty.int IntKind.i64) x3.keyed]]) []),(8,TV.int IntKind.i64 x1),(9,TV.int IntKind.i64 (0:Int)),(10,TV.int IntKind.i64 (IntKind.wrap .i64 (x2-x1)))],[]⟩:MS R.T) (getN Zn_a.loops 4).sh (getN Zn_a.loops 4).outs (fun st k=>codeM E R n false (regs51 n) (its7 n) Zn_a ((subO Try.f75.body [1,1,1,0,1,0,0]).getD .skip) st k) m p
noncomputable def Zn_L8 (n:Nat) (x1:Int) (x3:graph_search) (m:Nat) (p:Int×List Int):Option (PUnit×List Int):=
 loopF (R:=R) 8 (wrC E ((subO Try.f75.body [1,1,1,1,1,0,0]).getD .skip)) (⟨[(0,TV.vw 1000000 (Ty.int IntKind.i64)),(3,TV.fn 32 ([TV.agg [TV.int IntKind.i64 x3.space.m,TV.lst (T:=R.T) Cp.any (Ty.slice (Ty.int IntKind.i64)) x3.space.l,TV.lst (T:=R.T) Cp.any (Ty.st 0) x3.g.Hoods,TV.lst (T:=R.T) Cp.any (Ty.int IntKind.i64) x3.keyed]]) []),(8,TV.int IntKind.i64 x1),(9,TV.int IntKind.i64 (0:Int))],[]⟩:MS R.T) (getN Zn_a.loops 8).sh (getN Zn_a.loops 8).outs (fun st k=>codeM E R n false (regs51 n) (its7 n) Zn_a ((subO Try.f75.body [1,1,1,1,1,0,0]).getD .skip) st k) m p
theorem Xm_eq (n:Nat) (x1:Int):Xm n x1=
 (ZO n (IntKind.wrap .u64 x1)).bind fun (r2:Int)=>
 bif decide ((0:Int)<=r2) then
  some (bitShl .u64 (1:Int) r2)
 else
  none:=by kernel_rfl
theorem ZP_eq (n:Nat) (x1:Int):ZP n (()) (x1)=
 bif decide ((0:Int)<=(13:Int)) then
  bif decide ((0:Int)<=(7:Int)) then
   bif decide ((0:Int)<=(17:Int)) then
    some ((bitXor .u64 (bitXor .u64 (bitXor .u64 x1 (bitShl .u64 x1 (13:Int))) (bitShr .u64 (bitXor .u64 x1 (bitShl .u64 x1 (13:Int))) (7:Int))) (bitShl .u64 (bitXor .u64 (bitXor .u64 x1 (bitShl .u64 x1 (13:Int))) (bitShr .u64 (bitXor .u64 x1 (bitShl .u64 x1 (13:Int))) (7:Int))) (17:Int)),bitXor .u64 (bitXor .u64 (bitXor .u64 x1 (bitShl .u64 x1 (13:Int))) (bitShr .u64 (bitXor .u64 x1 (bitShl .u64 x1 (13:Int))) (7:Int))) (bitShl .u64 (bitXor .u64 (bitXor .u64 x1 (bitShl .u64 x1 (13:Int))) (bitShr .u64 (bitXor .u64 x1 (bitShl .u64 x1 (13:Int))) (7:Int))) (17:Int))))
   else
    none
  else
   none
 else
  none:=by kernel_rfl
noncomputable def ZH_L5 (n:Nat) (x1:Int) (x2:Int) (r5:Int) (m:Nat) (p:Int×Int×List Int):Option (PUnit×List Int):=
 loopF (R:=R) 5 (wrC E ((subO Try.f76.body [1,1,0,1,1,1,0,0]).getD .skip)) (⟨[(0,TV.vw 1000000 (Ty.int IntKind.i64)),(1,TV.int IntKind.i64 x1),(8,TV.int IntKind.i64 (IntKind.wrap .i64 (x2-x1))),(9,TV.ref 9 0),(10,TV.int IntKind.u64 r5)],[]⟩:MS R.T) (getN ZH_a.loops 5).sh (getN ZH_a.loops 5).outs (fun st k=>codeM E R n false (regs52 n) (its9 n) ZH_a ((subO Try.f76.body [1,1,0,1,1,1,0,0]).getD .skip) st k) m p
noncomputable def Zs_L2 (n:Nat) (m:Nat) (p:(Int×Int)×List Int):Option (PUnit×List Int):=
 loopF (R:=R) 2 (wrC E ((subO Try.f78.body [1,1,0,0]).getD .skip)) (⟨[(0,TV.vw 1000000 (Ty.int IntKind.i64))],[]⟩:MS R.T) (getN Zs_a.loops 2).sh (getN Zs_a.loops 2).outs (fun st k=>codeM E R n false (regs53 n) (its13 n) Zs_a ((subO Try.f78.body [1,1,0,0]).getD .skip) st k) m p
theorem Zs_eq (n:Nat) (x1:Int) (x2:Int) (x3:graph_search) (x4:List Int):Zs n (((),(x1,(x2,(x3,()))))) (x4)=
 (Zs_L2 n n (((x1,IntKind.wrap .i64 (x2-(1:Int))),x4))).bind fun (r12:PUnit×List Int)=>
 some (((),r12.2)):=by kernel_rfl
noncomputable def Zb_L5 (n:Nat) (x1:Int) (x2:Int) (x3:graph_search) (x6:Int) (x7:List Int) (m:Nat) (p:Int):Option (Int):=
 loopF (R:=R) 5 (wrC E ((subO Try.f79.body [1,1,0,1,0,0,1,0,0,0,0,0]).getD .skip)) (⟨[(0,TV.vw 1000000 (Ty.int IntKind.i64)),(1,TV.int IntKind.i64 x1),(2,TV.int IntKind.i64 x2),(3,TV.fn 32 ([TV.agg [TV.int IntKind.i64 x3.space.m,TV.lst (T:=R.T) Cp.any (Ty.slice (Ty.int IntKind.i64)) x3.space.l,TV.lst (T:=R.T) Cp.any (Ty.st 0) x3.g.Hoods,TV.lst (T:=R.T) Cp.any (Ty.int IntKind.i64) x3.keyed]]) []),(10,TV.int IntKind.i64 x6)],[(1000000,Ob.ro (Ob.arr (Ty.int IntKind.i64) x7))]⟩:MS R.T) (getN Zb_a.loops 5).sh (getN Zb_a.loops 5).outs (fun st k=>codeM E R n false (regs53 n) (its14 n) Zb_a ((subO Try.f79.body [1,1,0,1,0,0,1,0,0,0,0,0]).getD .skip) st k) m p
noncomputable def Zb_L14 (n:Nat) (x1:Int) (x2:Int) (x3:graph_search) (x6:Int) (r12:Int) (m:Nat) (p:Int×List Int):Option (PUnit×List Int):=
 loopF (R:=R) 14 (wrC E ((subO Try.f79.body [1,1,0,1,0,0,1,0,0,1,1,1,1,0,1,0,1,0,0]).getD .skip)) (⟨[(0,TV.vw 1000000 (Ty.int IntKind.i64)),(1,TV.int IntKind.i64 x1),(2,TV.int IntKind.i64 x2),(3,TV.fn 32 ([TV.agg [TV.int IntKind.i64 x3.space.m,TV.lst (T:=R.T) Cp.any (Ty.slice (Ty.int IntKind.i64)) x3.space.l,TV.lst (T:=R.T) Cp.any (Ty.st 0) x3.g.Hoods,TV.lst (T:=R.T) Cp.any (Ty.int IntKind.i64) x3.keyed]]) []),(9,TV.int IntKind.i64 r12),(10,TV.int IntKind.i64 x6)],[]⟩:MS R.T) (getN Zb_a.loops 14).sh (getN Zb_a.loops 14).outs (fun st k=>codeM E R n false (regs53 n) (its14 n) Zb_a ((subO Try.f79.body [1,1,0,1,0,0,1,0,0,1,1,1,1,0,1,0,1,0,0]).getD .skip) st k) m p
noncomputable def Zb_L20 (n:Nat) (x1:Int) (x2:Int) (x3:graph_search) (x6:Int) (r12:Int) (m:Nat) (p:Int×List Int):Option (PUnit×List Int):=
 loopF (R:=R) 20 (wrC E ((subO Try.f79.body [1,1,0,1,0,0,1,0,0,1,1,1,1,1,1,0,1,0,0]).getD .skip)) (⟨[(0,TV.vw 1000000 (Ty.int IntKind.i64)),(1,TV.int IntKind.i64 x1),(2,TV.int IntKind.i64 x2),(3,TV.fn 32 ([TV.agg [TV.int IntKind.i64 x3.space.m,TV.lst (T:=R.T) Cp.any (Ty.slice (Ty.int IntKind.i64)) x3.space.l,TV.lst (T:=R.T) Cp.any (Ty.st 0) x3.g.Hoods,TV.lst (T:=R.T) Cp.any (Ty.int IntKind.i64) x3.keyed]]) []),(9,TV.int IntKind.i64 r12),(10,TV.int IntKind.i64 x6)],[]⟩:MS R.T) (getN Zb_a.loops 20).sh (getN Zb_a.loops 20).outs (fun st k=>codeM E R n false (regs53 n) (its14 n) Zb_a ((subO Try.f79.body [1,1,0,1,0,0,1,0,0,1,1,1,1,1,1,0,1,0,0]).getD .skip) st k) m p
noncomputable def Zb_L3 (n:Nat) (x1:Int) (x2:Int) (x3:graph_search) (m:Nat) (p:(Int×Int)×List Int):Option ((PUnit×List Int)⊕(Bool×List Int)):=
 loopF (R:=R) 3 (wrC E ((subO Try.f79.body [1,1,0,1,0,0]).getD .skip)) (⟨[(0,TV.vw 1000000 (Ty.int IntKind.i64)),(1,TV.int IntKind.i64 x1),(2,TV.int IntKind.i64 x2),(3,TV.fn 32 ([TV.agg [TV.int IntKind.i64 x3.space.m,TV.lst (T:=R.T) Cp.any (Ty.slice (Ty.int IntKind.i64)) x3.space.l,TV.lst (T:=R.T) Cp.any (Ty.st 0) x3.g.Hoods,TV.lst (T:=R.T) Cp.any (Ty.int IntKind.i64) x3.keyed]]) [])],[]⟩:MS R.T) (getN Zb_a.loops 3).sh (getN Zb_a.loops 3).outs (fun st k=>codeM E R n false (regs53 n) (its14 n) Zb_a ((subO Try.f79.body [1,1,0,1,0,0]).getD .skip) st k) m p
noncomputable def Zf_L3 (n:Nat) (x1:Int) (x4:graph_search) (x11:Int) (x12:List Int) (m:Nat) (p:Int):Option (Int):=
 loopF (R:=R) 3 (wrC E ((subO Try.f80.body [1,1,1,0,0,0,0,0,0,0]).getD .skip)) (⟨[(0,TV.vw 1000000 (Ty.int IntKind.i64)),(1,TV.int IntKind.i64 x1),(4,TV.fn 32 ([TV.agg [TV.int IntKind.i64 x4.space.m,TV.lst (T:=R.T) Cp.any (Ty.slice (Ty.int IntKind.i64)) x4.space.l,TV.lst (T:=R.T) Cp.any (Ty.st 0) x4.g.Hoods,TV.lst (T:=R.T) Cp.any (Ty.int IntKind.i64) x4.keyed]]) []),(12,TV.int IntKind.i64 x11)],[(1000000,Ob.ro (Ob.arr (Ty.int IntKind.i64) x12))]⟩:MS R.T) (getN Zf_a.loops 3).sh (getN Zf_a.loops 3).outs (fun st k=>codeM E R n false (regs53 n) (its15 n) Zf_a ((subO Try.f80.body [1,1,1,0,0,0,0,0,0,0]).getD .skip) st k) m p
noncomputable def Zf_L5 (n:Nat) (x1:Int) (x4:graph_search) (x12:List Int) (r17:Int) (m:Nat) (p:Int):Option (Int):=
 loopF (R:=R) 5 (wrC E ((subO Try.f80.body [1,1,1,0,0,0,0,1,0,0,0]).getD .skip)) (⟨[(0,TV.vw 1000000 (Ty.int IntKind.i64)),(1,TV.int IntKind.i64 x1),(4,TV.fn 32 ([TV.agg [TV.int IntKind.i64 x4.space.m,TV.lst (T:=R.T) Cp.any (Ty.slice (Ty.int IntKind.i64)) x4.space.l,TV.lst (T:=R.T) Cp.any (Ty.st 0) x4.g.Hoods,TV.lst (T:=R.T) Cp.any (Ty.int IntKind.i64) x4.keyed]]) []),(11,TV.int IntKind.i64 r17)],[(1000000,Ob.ro (Ob.arr (Ty.int IntKind.i64) x12))]⟩:MS R.T) (getN Zf_a.loops 5).sh (getN Zf_a.loops 5).outs (fun st k=>codeM E R n false (regs53 n) (its15 n) Zf_a ((subO Try.f80.body [1,1,1,0,0,0,0,1,0,0,0]).getD .skip) st k) m p
noncomputable def Zf_L503 (n:Nat) (x1:Int) (x4:graph_search) (m:Nat) (p:(Int×Int)×List Int):Option (Int×List Int):=
 loopF (R:=R) 503 (wrC E ((subO Try.f80.body [1,1,1,0,0,0]).getD .skip)) (⟨[(0,TV.vw 1000000 (Ty.int IntKind.i64)),(1,TV.int IntKind.i64 x1),(4,TV.fn 32 ([TV.agg [TV.int IntKind.i64 x4.space.m,TV.lst (T:=R.T) Cp.any (Ty.slice (Ty.int IntKind.i64)) x4.space.l,TV.lst (T:=R.T) Cp.any (Ty.st 0) x4.g.Hoods,TV.lst (T:=R.T) Cp.any (Ty.int IntKind.i64) x4.keyed]]) [])],[]⟩:MS R.T) (getN Zf_a.loops 503).sh (getN Zf_a.loops 503).outs (fun st k=>codeM E R n false (regs53 n) (its15 n) Zf_a ((subO Try.f80.body [1,1,1,0,0,0]).getD .skip) st k) m p
noncomputable def QR_L3 (n:Nat) (x1:Int) (x2:Int) (x3:Int) (x4:graph_search) (x5:List Int) (r6:Int) (r7:Int) (m:Nat) (p:Int):Option (Int):=
 loopF (R:=R) 3 (wrC E ((subO Try.f81.body [1,1,1,0,0,0]).getD .skip)) (⟨[(0,TV.vw 1000000 (Ty.int IntKind.i64)),(1,TV.int IntKind.i64 x1),(4,TV.fn 32 ([TV.agg [TV.int IntKind.i64 x4.space.m,TV.lst (T:=R.T) Cp.any (Ty.slice (Ty.int IntKind.i64)) x4.space.l,TV.lst (T:=R.T) Cp.any (Ty.st 0) x4.g.Hoods,TV.lst (T:=R.T) Cp.any (Ty.int IntKind.i64) x4.keyed]]) []),(13,TV.int IntKind.i64 (IntKind.wrap .i64 (x2-(1:Int))))],[(1000000,Ob.ro (Ob.arr (Ty.int IntKind.i64) (setL (setL x5 x1 r6) x3 r7)))]⟩:MS R.T) (getN QR_a.loops 3).sh (getN QR_a.loops 3).outs (fun st k=>codeM E R n false (regs53 n) (its16 n) QR_a ((subO Try.f81.body [1,1,1,0,0,0]).getD .skip) st k) m p
noncomputable def QR_L5 (n:Nat) (x1:Int) (x3:Int) (x4:graph_search) (x5:List Int) (r6:Int) (r7:Int) (r14:Int) (m:Nat) (p:Int):Option (Int):=
 loopF (R:=R) 5 (wrC E ((subO Try.f81.body [1,1,1,1,0,0,0]).getD .skip)) (⟨[(0,TV.vw 1000000 (Ty.int IntKind.i64)),(1,TV.int IntKind.i64 x1),(4,TV.fn 32 ([TV.agg [TV.int IntKind.i64 x4.space.m,TV.lst (T:=R.T) Cp.any (Ty.slice (Ty.int IntKind.i64)) x4.space.l,TV.lst (T:=R.T) Cp.any (Ty.st 0) x4.g.Hoods,TV.lst (T:=R.T) Cp.any (Ty.int IntKind.i64) x4.keyed]]) []),(12,TV.int IntKind.i64 r14)],[(1000000,Ob.ro (Ob.arr (Ty.int IntKind.i64) (setL (setL x5 x1 r6) x3 r7)))]⟩:MS R.T) (getN QR_a.loops 5).sh (getN QR_a.loops 5).outs (fun st k=>codeM E R n false (regs53 n) (its16 n) QR_a ((subO Try.f81.body [1,1,1,1,0,0,0]).getD .skip) st k) m p
noncomputable def QR_L13 (n:Nat) (x1:Int) (x4:graph_search) (x29:Int) (x30:List Int) (m:Nat) (p:Int):Option (Int):=
 loopF (R:=R) 13 (wrC E ((subO Try.f81.body [1,1,1,1,1,1,1,1,1,0,0,0,0,0,0,0]).getD .skip)) (⟨[(0,TV.vw 1000000 (Ty.int IntKind.i64)),(1,TV.int IntKind.i64 x1),(4,TV.fn 32 ([TV.agg [TV.int IntKind.i64 x4.space.m,TV.lst (T:=R.T) Cp.any (Ty.slice (Ty.int IntKind.i64)) x4.space.l,TV.lst (T:=R.T) Cp.any (Ty.st 0) x4.g.Hoods,TV.lst (T:=R.T) Cp.any (Ty.int IntKind.i64) x4.keyed]]) []),(13,TV.int IntKind.i64 x29)],[(1000000,Ob.ro (Ob.arr (Ty.int IntKind.i64) x30))]⟩:MS R.T) (getN QR_a.loops 13).sh (getN QR_a.loops 13).outs (fun st k=>codeM E R n false (regs53 n) (its16 n) QR_a ((subO Try.f81.body [1,1,1,1,1,1,1,1,1,0,0,0,0,0,0,0]).getD .skip) st k) m p
noncomputable def QR_L15 (n:Nat) (x1:Int) (x4:graph_search) (x30:List Int) (r35:Int) (m:Nat) (p:Int):Option (Int):=
 loopF (R:=R) 15 (wrC E ((subO Try.f81.body [1,1,1,1,1,1,1,1,1,0,0,0,0,1,0,0,0]).getD .skip)) (⟨[(0,TV.vw 1000000 (Ty.int IntKind.i64)),(1,TV.int IntKind.i64 x1),(4,TV.fn 32 ([TV.agg [TV.int IntKind.i64 x4.space.m,TV.lst (T:=R.T) Cp.any (Ty.slice (Ty.int IntKind.i64)) x4.space.l,TV.lst (T:=R.T) Cp.any (Ty.st 0) x4.g.Hoods,TV.lst (T:=R.T) Cp.any (Ty.int IntKind.i64) x4.keyed]]) []),(12,TV.int IntKind.i64 r35)],[(1000000,Ob.ro (Ob.arr (Ty.int IntKind.i64) x30))]⟩:MS R.T) (getN QR_a.loops 15).sh (getN QR_a.loops 15).outs (fun st k=>codeM E R n false (regs53 n) (its16 n) QR_a ((subO Try.f81.body [1,1,1,1,1,1,1,1,1,0,0,0,0,1,0,0,0]).getD .skip) st k) m p
noncomputable def QR_L513 (n:Nat) (x1:Int) (x4:graph_search) (m:Nat) (p:(Int×Int)×List Int):Option (Int×List Int):=
 loopF (R:=R) 513 (wrC E ((subO Try.f81.body [1,1,1,1,1,1,1,1,1,0,0,0]).getD .skip)) (⟨[(0,TV.vw 1000000 (Ty.int IntKind.i64)),(1,TV.int IntKind.i64 x1),(4,TV.fn 32 ([TV.agg [TV.int IntKind.i64 x4.space.m,TV.lst (T:=R.T) Cp.any (Ty.slice (Ty.int IntKind.i64)) x4.space.l,TV.lst (T:=R.T) Cp.any (Ty.st 0) x4.g.Hoods,TV.lst (T:=R.T) Cp.any (Ty.int IntKind.i64) x4.keyed]]) [])],[]⟩:MS R.T) (getN QR_a.loops 513).sh (getN QR_a.loops 513).outs (fun st k=>codeM E R n false (regs53 n) (its16 n) QR_a ((subO Try.f81.body [1,1,1,1,1,1,1,1,1,0,0,0]).getD .skip) st k) m p
noncomputable def QP_m_L2 (n:Nat) (g:Nat) (x4:graph_search) (m:Nat) (p:(Int×Int×Int×Bool×Bool)×List Int):Option (PUnit×List Int):=
 loopF (R:=R) 2 (wrC E ((subO Try.f64.body [1,1,0,0]).getD .skip)) (⟨[(0,TV.vw 1000000 (Ty.int IntKind.i64)),(4,TV.fn 32 ([TV.agg [TV.int IntKind.i64 x4.space.m,TV.lst (T:=R.T) Cp.any (Ty.slice (Ty.int IntKind.i64)) x4.space.l,TV.lst (T:=R.T) Cp.any (Ty.st 0) x4.g.Hoods,TV.lst (T:=R.T) Cp.any (Ty.int IntKind.i64) x4.keyed]]) [])],[]⟩:MS R.T) (getN QP_a.loops 2).sh (getN QP_a.loops 2).outs (fun st k=>codeM E R n false (regs53 n) (addM 64 (mkM QP_p QP_o QP_r (QP_m n g)) (its17 n)) QP_a ((subO Try.f64.body [1,1,0,0]).getD .skip) st k) m p
theorem ZR_eq (n:Nat) (x1:graph_search) (x2:List Int):ZR n (((),(x1,()))) (x2)=
 (ZO n (IntKind.wrap .u64 (((x2.length:Nat):Int)))).bind fun (r3:Int)=>
 (QP n (((),((0:Int),(((x2.length:Nat):Int),(r3,((⟨x1.space,x1.g,x1.keyed⟩:graph_search),())))))) x2).bind fun (r4:PUnit×List Int)=>
 some (((),r4.2)):=by kernel_rfl
theorem Xs_eq (n:Nat) (x1:List Int) (x2:graph_search):Xs n (x1,(x2,()))=
 (ZU n x1 (())).bind fun (r3:(List Int)×PUnit)=>
 (ZR n (((),((⟨x2.space,x2.g,x2.keyed⟩:graph_search),()))) r3.1).bind fun (r4:PUnit×List Int)=>
 some r4.2:=by kernel_rfl
noncomputable def Zq_R7 (n:Nat) (x1:Int) (x2:List (List Int)) (x3:Graph) (x6:Int) (r7:graph_search×Bool) (xs:List Int) (p:PUnit×Int):Option (PUnit×Int):=
 foldF (R:=R) (X:=PayL R.T intEl) 7 (wrR E (subO Try.f13.body [1,1,1,1,0,1,0])) (⟨[(0,TV.int IntKind.i64 x1),(1,TV.lst (T:=R.T) Cp.sh (Ty.slice (Ty.int IntKind.i64)) x2),(5,TV.int IntKind.i64 x6),(8,TV.ref 8 0),(16,TV.ref 16 0),(18,TV.ref 18 0)],[(8,Ob.ro (Ob.cells [TV.lst (T:=R.T) Cp.sh (Ty.st 0) x3.Hoods])),(16,Ob.ro (Ob.cells [TV.int IntKind.i64 r7.1.space.m,TV.lst (T:=R.T) Cp.sh (Ty.slice (Ty.int IntKind.i64)) r7.1.space.l,TV.lst (T:=R.T) Cp.sh (Ty.st 0) r7.1.g.Hoods,TV.lst (T:=R.T) Cp.sh (Ty.int IntKind.i64) r7.1.keyed]))]⟩:MS R.T) (getN Zq_a.loops 7).sh (getN Zq_a.loops 7).outs (rndM E R n false (regs54 n) (its19 n) Zq_a (subO Try.f13.body [1,1,1,1,0,1,0]) intEl) xs p
theorem Zq_R7_0 (n:Nat) (x1:Int) (x2:List (List Int)) (x3:Graph) (x6:Int) (r7:graph_search×Bool) (x10:Int):Zq_R7 n x1 x2 x3 x6 r7 [] ((),x10)=
 some (((),x10)):=by kernel_rfl
theorem Zq_R7_s (n:Nat) (x1:Int) (x2:List (List Int)) (x3:Graph) (x6:Int) (r7:graph_search×Bool) (x11:Int) (xs:List Int) (x12:Int):Zq_R7 n x1 x2 x3 x6 r7 (x11::xs) ((),x12)=
 Zq_R7 n x1 x2 x3 x6 r7 xs (((),x11)):=by kernel_rfl
theorem Zq_eq (n:Nat) (x1:Int) (x2:List (List Int)) (x3:Graph) (x4:List Int) (x5:Int) (x6:Int):Zq n (x1,(x2,(x3,(x4,(x5,x6)))))=
 (Xd n ((x1,(x2,(x3,(x4,x5)))))).bind fun (r7:graph_search×Bool)=>
 bif bif bif !r7.2 then true else decide (x6< (1:Int)) then true else decide (x6> (64:Int)) then
  some (([],((0:Int),(false,(1:Int)))))
 else
  (ZW n (((⟨r7.1.space,r7.1.g,r7.1.keyed⟩:graph_search),x5)) (())).bind fun (r8:(PUnit×(Int×(List (List Int))×(List Hood)×List Int)×Int)×PUnit)=>
  Option.bind (α:=PUnit×Int) (
   (walkR ((r8.1.2.1.1,(r8.1.2.1.2.1,(r8.1.2.1.2.2.1,r8.1.2.1.2.2.2)))) r8.1.2.2).bind fun (r9:List Int)=>
   Zq_R7 n x1 x2 x3 x6 r7 r9 (((),x5))) fun (r13:PUnit×Int)=>
  (idxL x3.Hoods r13.2).bind fun (r14:Hood)=>
  (Xs n ((r14.Slots,((⟨r7.1.space,r7.1.g,r7.1.keyed⟩:graph_search),())))).bind fun (r15:List Int)=>
  bif decide ((((r15.length:Nat):Int))>=x6) then
   bif inB x6 r15.length then
    bif !((((r15.length:Nat):Int))==(((x2.length:Nat):Int))) then
     (idxL r7.1.keyed r13.2).bind fun (r16:Int)=>
     (idxL (List.take (Int.toNat x6) r15) (IntKind.wrap .i64 (x6-(1:Int)))).bind fun (r17:Int)=>
     (idxL r7.1.keyed r17).bind fun (r18:Int)=>
     (Xh n ((x1,(r16,(r18,r14.Radius))))).bind fun (r19:Bool)=>
     some ((List.take (Int.toNat x6) r15,(r13.2,(r19,(0:Int)))))
    else
     some ((List.take (Int.toNat x6) r15,(r13.2,(true,(0:Int)))))
   else
    none
  else
   some ((r15,(r13.2,((((r15.length:Nat):Int))==(((x2.length:Nat):Int)),(0:Int))))):=by kernel_rfl
theorem XB_eq (n:Nat) (x1:List Int):XB n x1=
 some (((),x1)):=by kernel_rfl
noncomputable def Zr_R3 (n:Nat) (xs:List Int) (p:PUnit×PUnit×List Int):Option (PUnit×PUnit×List Int):=
 foldF (R:=R) (X:=PayL R.T intEl) 3 (wrR E (subO Try.f45.body [1,0,1,0])) (⟨[(2,TV.ref 2 0)],[]⟩:MS R.T) (getN Zr_a.loops 3).sh (getN Zr_a.loops 3).outs (rndM E R n true (regs57 n) (its19 n) Zr_a (subO Try.f45.body [1,0,1,0]) intEl) xs p
theorem Zr_R3_0 (n:Nat) (x3:List Int):Zr_R3 n [] ((),((),x3))=
 some (((),((),x3))):=by kernel_rfl
theorem Zr_R3_s (n:Nat) (x4:Int) (xs:List Int) (x5:List Int):Zr_R3 n (x4::xs) ((),((),x5))=
 bif roomOK (x5.length+([x4].length)) 8 then
  Zr_R3 n xs (((),((),x5++[x4])))
 else
  none:=by kernel_rfl
theorem Zr_eq (n:Nat) (x1:List Int):Zr n (((),((),x1))) (())=
 Option.bind (α:=PUnit×PUnit×List Int) (
  (valF x1).bind fun (r2:List Int)=>
  Zr_R3 n r2 (((),((),[])))) fun (r6:PUnit×PUnit×List Int)=>
 some ((r6.2.2,())):=by kernel_rfl
theorem Xn_eq (n:Nat) (x1:List Int):Xn n (((),x1)) (())=
 (Zr n (((),((),x1))) (())).bind fun (r2:(List Int)×PUnit)=>
 some ((r2.1,())):=by kernel_rfl
theorem Xt_eq (n:Nat) (x1:Int) (x2:Int):Xt n (x1,x2)=
 (ZV n x1).bind fun (r3:Bool)=>
 (whenO r3 (ZV n x2) false).bind fun (r4:Bool)=>
 some (bif bif r3 then !r4 else false then true else decide (x1<x2)):=by kernel_rfl
noncomputable def Zj_L4 (n:Nat) (x1:Int) (x2:Int) (x4:Int) (m:Nat) (p:Int×List Int):Option (PUnit×List Int):=
 loopF (R:=R) 4 (wrC E ((subO Try.f84.body [1,0,0,1,0,0,1,0,0]).getD .skip)) (⟨[(0,TV.vw 1000000 (Ty.int IntKind.i64)),(1,TV.int IntKind.i64 x1),(2,TV.int IntKind.i64 x2),(6,TV.int IntKind.i64 x4)],[]⟩:MS R.T) (getN Zj_a.loops 4).sh (getN Zj_a.loops 4).outs (fun st k=>codeM E R n false (regs58 n) (its21 n) Zj_a ((subO Try.f84.body [1,0,0,1,0,0,1,0,0]).getD .skip) st k) m p
noncomputable def Zj_L1 (n:Nat) (x1:Int) (x2:Int) (m:Nat) (p:Int×List Int):Option (PUnit×List Int):=
 loopF (R:=R) 1 (wrC E ((subO Try.f84.body [1,0,0]).getD .skip)) (⟨[(0,TV.vw 1000000 (Ty.int IntKind.i64)),(1,TV.int IntKind.i64 x1),(2,TV.int IntKind.i64 x2)],[]⟩:MS R.T) (getN Zj_a.loops 1).sh (getN Zj_a.loops 1).outs (fun st k=>codeM E R n false (regs58 n) (its21 n) Zj_a ((subO Try.f84.body [1,0,0]).getD .skip) st k) m p
theorem Zj_eq (n:Nat) (x1:Int) (x2:Int) (x3:List Int):Zj n (((),(x1,x2))) (x3)=
 (Zj_L1 n x1 x2 n ((IntKind.wrap .i64 (x1+(1:Int)),x3))).bind fun (r16:PUnit×List Int)=>
 some (((),r16.2)):=by kernel_rfl
noncomputable def ZM_L1 (n:Nat) (x2:Int) (x3:Int) (m:Nat) (p:Int×List Int):Option ((PUnit×List Int)⊕(PUnit×List Int)):=
 loopF (R:=R) 1 (wrC E ((subO Try.f103.body [1,0,0]).getD .skip)) (⟨[(0,TV.vw 1000000 (Ty.int IntKind.i64)),(2,TV.int IntKind.i64 x2),(3,TV.int IntKind.i64 x3)],[]⟩:MS R.T) (getN ZM_a.loops 1).sh (getN ZM_a.loops 1).outs (fun st k=>codeM E R n false (regs58 n) (its22 n) ZM_a ((subO Try.f103.body [1,0,0]).getD .skip) st k) m p
noncomputable def Zo_L4 (n:Nat) (x1:Int) (x2:Int) (m:Nat) (p:Int×List Int):Option (PUnit×List Int):=
 loopF (R:=R) 4 (wrC E ((subO Try.f85.body [1,1,1,0,1,0,0]).getD .skip)) (⟨[(0,TV.vw 1000000 (Ty.int IntKind.i64)),(6,TV.int IntKind.i64 x1),(7,TV.int IntKind.i64 (0:Int)),(8,TV.int IntKind.i64 (IntKind.wrap .i64 (x2-x1)))],[]⟩:MS R.T) (getN Zo_a.loops 4).sh (getN Zo_a.loops 4).outs (fun st k=>codeM E R n false (regs58 n) (its23 n) Zo_a ((subO Try.f85.body [1,1,1,0,1,0,0]).getD .skip) st k) m p
noncomputable def Zo_L8 (n:Nat) (x1:Int) (m:Nat) (p:Int×List Int):Option (PUnit×List Int):=
 loopF (R:=R) 8 (wrC E ((subO Try.f85.body [1,1,1,1,1,0,0]).getD .skip)) (⟨[(0,TV.vw 1000000 (Ty.int IntKind.i64)),(6,TV.int IntKind.i64 x1),(7,TV.int IntKind.i64 (0:Int))],[]⟩:MS R.T) (getN Zo_a.loops 8).sh (getN Zo_a.loops 8).outs (fun st k=>codeM E R n false (regs58 n) (its23 n) Zo_a ((subO Try.f85.body [1,1,1,1,1,0,0]).getD .skip) st k) m p
noncomputable def ZI_L5 (n:Nat) (x1:Int) (x2:Int) (r4:Int) (m:Nat) (p:Int×Int×List Int):Option (PUnit×List Int):=
 loopF (R:=R) 5 (wrC E ((subO Try.f86.body [1,1,0,1,1,1,0,0]).getD .skip)) (⟨[(0,TV.vw 1000000 (Ty.int IntKind.i64)),(1,TV.int IntKind.i64 x1),(6,TV.int IntKind.i64 (IntKind.wrap .i64 (x2-x1))),(7,TV.ref 7 0),(8,TV.int IntKind.u64 r4)],[]⟩:MS R.T) (getN ZI_a.loops 5).sh (getN ZI_a.loops 5).outs (fun st k=>codeM E R n false (regs58 n) (its24 n) ZI_a ((subO Try.f86.body [1,1,0,1,1,1,0,0]).getD .skip) st k) m p
noncomputable def Zt_L2 (n:Nat) (m:Nat) (p:(Int×Int)×List Int):Option (PUnit×List Int):=
 loopF (R:=R) 2 (wrC E ((subO Try.f88.body [1,1,0,0]).getD .skip)) (⟨[(0,TV.vw 1000000 (Ty.int IntKind.i64))],[]⟩:MS R.T) (getN Zt_a.loops 2).sh (getN Zt_a.loops 2).outs (fun st k=>codeM E R n false (regs59 n) (its28 n) Zt_a ((subO Try.f88.body [1,1,0,0]).getD .skip) st k) m p
theorem Zt_eq (n:Nat) (x1:Int) (x2:Int) (x3:List Int):Zt n (((),(x1,x2))) (x3)=
 (Zt_L2 n n (((x1,IntKind.wrap .i64 (x2-(1:Int))),x3))).bind fun (r11:PUnit×List Int)=>
 some (((),r11.2)):=by kernel_rfl
noncomputable def Zc_L5 (n:Nat) (x1:Int) (x2:Int) (x5:Int) (x6:List Int) (m:Nat) (p:Int):Option (Int):=
 loopF (R:=R) 5 (wrC E ((subO Try.f89.body [1,1,0,1,0,0,1,0,0,0,0,0]).getD .skip)) (⟨[(0,TV.vw 1000000 (Ty.int IntKind.i64)),(1,TV.int IntKind.i64 x1),(2,TV.int IntKind.i64 x2),(8,TV.int IntKind.i64 x5)],[(1000000,Ob.ro (Ob.arr (Ty.int IntKind.i64) x6))]⟩:MS R.T) (getN Zc_a.loops 5).sh (getN Zc_a.loops 5).outs (fun st k=>codeM E R n false (regs59 n) (its29 n) Zc_a ((subO Try.f89.body [1,1,0,1,0,0,1,0,0,0,0,0]).getD .skip) st k) m p
noncomputable def Zc_L14 (n:Nat) (x1:Int) (x2:Int) (x5:Int) (r11:Int) (m:Nat) (p:Int×List Int):Option (PUnit×List Int):=
 loopF (R:=R) 14 (wrC E ((subO Try.f89.body [1,1,0,1,0,0,1,0,0,1,1,1,1,0,1,0,1,0,0]).getD .skip)) (⟨[(0,TV.vw 1000000 (Ty.int IntKind.i64)),(1,TV.int IntKind.i64 x1),(2,TV.int IntKind.i64 x2),(7,TV.int IntKind.i64 r11),(8,TV.int IntKind.i64 x5)],[]⟩:MS R.T) (getN Zc_a.loops 14).sh (getN Zc_a.loops 14).outs (fun st k=>codeM E R n false (regs59 n) (its29 n) Zc_a ((subO Try.f89.body [1,1,0,1,0,0,1,0,0,1,1,1,1,0,1,0,1,0,0]).getD .skip) st k) m p
noncomputable def Zc_L20 (n:Nat) (x1:Int) (x2:Int) (x5:Int) (r11:Int) (m:Nat) (p:Int×List Int):Option (PUnit×List Int):=
 loopF (R:=R) 20 (wrC E ((subO Try.f89.body [1,1,0,1,0,0,1,0,0,1,1,1,1,1,1,0,1,0,0]).getD .skip)) (⟨[(0,TV.vw 1000000 (Ty.int IntKind.i64)),(1,TV.int IntKind.i64 x1),(2,TV.int IntKind.i64 x2),(7,TV.int IntKind.i64 r11),(8,TV.int IntKind.i64 x5)],[]⟩:MS R.T) (getN Zc_a.loops 20).sh (getN Zc_a.loops 20).outs (fun st k=>codeM E R n false (regs59 n) (its29 n) Zc_a ((subO Try.f89.body [1,1,0,1,0,0,1,0,0,1,1,1,1,1,1,0,1,0,0]).getD .skip) st k) m p
noncomputable def Zc_L3 (n:Nat) (x1:Int) (x2:Int) (m:Nat) (p:(Int×Int)×List Int):Option ((PUnit×List Int)⊕(Bool×List Int)):=
 loopF (R:=R) 3 (wrC E ((subO Try.f89.body [1,1,0,1,0,0]).getD .skip)) (⟨[(0,TV.vw 1000000 (Ty.int IntKind.i64)),(1,TV.int IntKind.i64 x1),(2,TV.int IntKind.i64 x2)],[]⟩:MS R.T) (getN Zc_a.loops 3).sh (getN Zc_a.loops 3).outs (fun st k=>codeM E R n false (regs59 n) (its29 n) Zc_a ((subO Try.f89.body [1,1,0,1,0,0]).getD .skip) st k) m p
noncomputable def Zg_L3 (n:Nat) (x1:Int) (x10:Int) (x11:List Int) (m:Nat) (p:Int):Option (Int):=
 loopF (R:=R) 3 (wrC E ((subO Try.f91.body [1,1,1,0,0,0,0,0,0,0]).getD .skip)) (⟨[(0,TV.vw 1000000 (Ty.int IntKind.i64)),(1,TV.int IntKind.i64 x1),(10,TV.int IntKind.i64 x10)],[(1000000,Ob.ro (Ob.arr (Ty.int IntKind.i64) x11))]⟩:MS R.T) (getN Zg_a.loops 3).sh (getN Zg_a.loops 3).outs (fun st k=>codeM E R n false (regs59 n) (its30 n) Zg_a ((subO Try.f91.body [1,1,1,0,0,0,0,0,0,0]).getD .skip) st k) m p
noncomputable def Zg_L5 (n:Nat) (x1:Int) (x11:List Int) (r16:Int) (m:Nat) (p:Int):Option (Int):=
 loopF (R:=R) 5 (wrC E ((subO Try.f91.body [1,1,1,0,0,0,0,1,0,0,0]).getD .skip)) (⟨[(0,TV.vw 1000000 (Ty.int IntKind.i64)),(1,TV.int IntKind.i64 x1),(9,TV.int IntKind.i64 r16)],[(1000000,Ob.ro (Ob.arr (Ty.int IntKind.i64) x11))]⟩:MS R.T) (getN Zg_a.loops 5).sh (getN Zg_a.loops 5).outs (fun st k=>codeM E R n false (regs59 n) (its30 n) Zg_a ((subO Try.f91.body [1,1,1,0,0,0,0,1,0,0,0]).getD .skip) st k) m p
noncomputable def Zg_L503 (n:Nat) (x1:Int) (m:Nat) (p:(Int×Int)×List Int):Option (Int×List Int):=
 loopF (R:=R) 503 (wrC E ((subO Try.f91.body [1,1,1,0,0,0]).getD .skip)) (⟨[(0,TV.vw 1000000 (Ty.int IntKind.i64)),(1,TV.int IntKind.i64 x1)],[]⟩:MS R.T) (getN Zg_a.loops 503).sh (getN Zg_a.loops 503).outs (fun st k=>codeM E R n false (regs59 n) (its30 n) Zg_a ((subO Try.f91.body [1,1,1,0,0,0]).getD .skip) st k) m p
noncomputable def Za_L3 (n:Nat) (x1:Int) (x2:Int) (x3:Int) (x4:List Int) (r5:Int) (r6:Int) (m:Nat) (p:Int):Option (Int):=
 loopF (R:=R) 3 (wrC E ((subO Try.f92.body [1,1,1,0,0,0]).getD .skip)) (⟨[(0,TV.vw 1000000 (Ty.int IntKind.i64)),(1,TV.int IntKind.i64 x1),(11,TV.int IntKind.i64 (IntKind.wrap .i64 (x2-(1:Int))))],[(1000000,Ob.ro (Ob.arr (Ty.int IntKind.i64) (setL (setL x4 x1 r5) x3 r6)))]⟩:MS R.T) (getN Za_a.loops 3).sh (getN Za_a.loops 3).outs (fun st k=>codeM E R n false (regs59 n) (its31 n) Za_a ((subO Try.f92.body [1,1,1,0,0,0]).getD .skip) st k) m p
noncomputable def Za_L5 (n:Nat) (x1:Int) (x3:Int) (x4:List Int) (r5:Int) (r6:Int) (r13:Int) (m:Nat) (p:Int):Option (Int):=
 loopF (R:=R) 5 (wrC E ((subO Try.f92.body [1,1,1,1,0,0,0]).getD .skip)) (⟨[(0,TV.vw 1000000 (Ty.int IntKind.i64)),(1,TV.int IntKind.i64 x1),(10,TV.int IntKind.i64 r13)],[(1000000,Ob.ro (Ob.arr (Ty.int IntKind.i64) (setL (setL x4 x1 r5) x3 r6)))]⟩:MS R.T) (getN Za_a.loops 5).sh (getN Za_a.loops 5).outs (fun st k=>codeM E R n false (regs59 n) (its31 n) Za_a ((subO Try.f92.body [1,1,1,1,0,0,0]).getD .skip) st k) m p
noncomputable def Za_L13 (n:Nat) (x1:Int) (x28:Int) (x29:List Int) (m:Nat) (p:Int):Option (Int):=
 loopF (R:=R) 13 (wrC E ((subO Try.f92.body [1,1,1,1,1,1,1,1,1,0,0,0,0,0,0,0]).getD .skip)) (⟨[(0,TV.vw 1000000 (Ty.int IntKind.i64)),(1,TV.int IntKind.i64 x1),(11,TV.int IntKind.i64 x28)],[(1000000,Ob.ro (Ob.arr (Ty.int IntKind.i64) x29))]⟩:MS R.T) (getN Za_a.loops 13).sh (getN Za_a.loops 13).outs (fun st k=>codeM E R n false (regs59 n) (its31 n) Za_a ((subO Try.f92.body [1,1,1,1,1,1,1,1,1,0,0,0,0,0,0,0]).getD .skip) st k) m p
noncomputable def Za_L15 (n:Nat) (x1:Int) (x29:List Int) (r34:Int) (m:Nat) (p:Int):Option (Int):=
 loopF (R:=R) 15 (wrC E ((subO Try.f92.body [1,1,1,1,1,1,1,1,1,0,0,0,0,1,0,0,0]).getD .skip)) (⟨[(0,TV.vw 1000000 (Ty.int IntKind.i64)),(1,TV.int IntKind.i64 x1),(10,TV.int IntKind.i64 r34)],[(1000000,Ob.ro (Ob.arr (Ty.int IntKind.i64) x29))]⟩:MS R.T) (getN Za_a.loops 15).sh (getN Za_a.loops 15).outs (fun st k=>codeM E R n false (regs59 n) (its31 n) Za_a ((subO Try.f92.body [1,1,1,1,1,1,1,1,1,0,0,0,0,1,0,0,0]).getD .skip) st k) m p
noncomputable def Za_L513 (n:Nat) (x1:Int) (m:Nat) (p:(Int×Int)×List Int):Option (Int×List Int):=
 loopF (R:=R) 513 (wrC E ((subO Try.f92.body [1,1,1,1,1,1,1,1,1,0,0,0]).getD .skip)) (⟨[(0,TV.vw 1000000 (Ty.int IntKind.i64)),(1,TV.int IntKind.i64 x1)],[]⟩:MS R.T) (getN Za_a.loops 513).sh (getN Za_a.loops 513).outs (fun st k=>codeM E R n false (regs59 n) (its31 n) Za_a ((subO Try.f92.body [1,1,1,1,1,1,1,1,1,0,0,0]).getD .skip) st k) m p
noncomputable def QQ_m_L2 (n:Nat) (g:Nat) (m:Nat) (p:(Int×Int×Int×Bool×Bool)×List Int):Option (PUnit×List Int):=
 loopF (R:=R) 2 (wrC E ((subO Try.f69.body [1,1,0,0]).getD .skip)) (⟨[(0,TV.vw 1000000 (Ty.int IntKind.i64))],[]⟩:MS R.T) (getN QQ_a.loops 2).sh (getN QQ_a.loops 2).outs (fun st k=>codeM E R n false (regs59 n) (addM 69 (mkM QQ_p QQ_o QQ_r (QQ_m n g)) (its32 n)) QQ_a ((subO Try.f69.body [1,1,0,0]).getD .skip) st k) m p
theorem ZS_eq (n:Nat) (x1:List Int):ZS n (()) (x1)=
 (ZO n (IntKind.wrap .u64 (((x1.length:Nat):Int)))).bind fun (r2:Int)=>
 (QQ n (((),((0:Int),(((x1.length:Nat):Int),r2)))) x1).bind fun (r3:PUnit×List Int)=>
 some (((),r3.2)):=by kernel_rfl
theorem Xu_eq (n:Nat) (x1:List Int):Xu n ((),x1)=
 (Xn n (((),x1)) (())).bind fun (r2:(List Int)×PUnit)=>
 (ZS n (()) r2.1).bind fun (r3:PUnit×List Int)=>
 some r3.2:=by kernel_rfl
noncomputable def Zu_L3 (n:Nat) (x1:List Int) (x2:Int) (m:Nat) (p:(List Int)×Int):Option (List Int):=
 loopF (R:=R) 3 (wrC E ((subO Try.f39.body [1,1,0,1,0,0]).getD .skip)) (⟨[(1,TV.int IntKind.i64 x2),(8,TV.lst (T:=R.T) Cp.sh (Ty.int IntKind.i64) x1),(9,TV.int IntKind.i64 (((x1.length:Nat):Int)))],[]⟩:MS R.T) (getN Zu_a.loops 3).sh (getN Zu_a.loops 3).outs (fun st k=>codeM E R n false (regs60 n) (its34 n) Zu_a ((subO Try.f39.body [1,1,0,1,0,0]).getD .skip) st k) m p
theorem Zu_L3_s (n:Nat) (x1:List Int) (x2:Int) (m:Nat) (x3:List Int) (x4:Int):Zu_L3 n x1 x2 (m+1) (x3,x4)=
 bif decide (x4< (((x1.length:Nat):Int))) then
  (idxL x1 x4).bind fun (r5:Int)=>
  bif decide (r5<=x2) then
   bif roomOK (x3.length+([x4].length)) 8 then
    Zu_L3 n x1 x2 m ((x3++[x4],IntKind.wrap .i64 (x4+(1:Int))))
   else
    none
  else
   Zu_L3 n x1 x2 m ((x3,IntKind.wrap .i64 (x4+(1:Int))))
 else
  some x3:=by kernel_rfl
theorem Zu_eq (n:Nat) (x1:List Int) (x2:Int):Zu n (x1,x2)=
 (Zu_L3 n x1 x2 n (([],(0:Int)))).bind fun (r6:List Int)=>
 some r6:=by kernel_rfl
noncomputable def Zx_L6 (n:Nat) (x1:Int) (x2:List (List Int)) (x3:Int) (m:Nat) (p:Int×List Hood):Option (PUnit×List Hood):=
 loopF (R:=R) 6 (wrC E ((subO Try.f17.body [1,1,1,1,0,1,0,0]).getD .skip)) (⟨[(1,TV.lst (T:=R.T) Cp.sh (Ty.slice (Ty.int IntKind.i64)) x2),(2,TV.int IntKind.i64 x3),(6,TV.ref 6 0),(8,TV.ref 8 0),(9,TV.ref 9 0),(29,TV.lst (T:=R.T) Cp.sh (Ty.slice (Ty.int IntKind.i64)) x2),(30,TV.int IntKind.i64 (((x2.length:Nat):Int)))],[(6,Ob.ro (Ob.cells [TV.nils])),(8,Ob.ro (Ob.cells [TV.int IntKind.i64 x1,TV.lst (T:=R.T) Cp.sh (Ty.slice (Ty.int IntKind.i64)) x2]))]⟩:MS R.T) (getN Zx_a.loops 6).sh (getN Zx_a.loops 6).outs (fun st k=>codeM E R n false (regs61 n) (its34 n) Zx_a ((subO Try.f17.body [1,1,1,1,0,1,0,0]).getD .skip) st k) m p
theorem Zx_L6_s (n:Nat) (x1:Int) (x2:List (List Int)) (x3:Int) (m:Nat) (x5:Int) (x6:List Hood):Zx_L6 n x1 x2 x3 (m+1) (x5,x6)=
 bif decide (x5< (((x2.length:Nat):Int))) then
  (idxL x2 x5).bind fun (r7:List Int)=>
  (Zm n (((⟨x1,x2⟩:graph_space),r7))).bind fun (r8:List Int)=>
  (XB n r8).bind fun (r9:PUnit×List Int)=>
  (Xu n (((),r9.2))).bind fun (r10:List Int)=>
  (idxL r10 (IntKind.wrap .i64 ((imin x3 (((x2.length:Nat):Int)))-(1:Int)))).bind fun (r11:Int)=>
  (Zu n ((r8,r11))).bind fun (r12:List Int)=>
  bif roomOK (x6.length+([(⟨r11,r12⟩:Hood)].length)) 32 then
   Zx_L6 n x1 x2 x3 m ((IntKind.wrap .i64 (x5+(1:Int)),x6++[(⟨r11,r12⟩:Hood)]))
  else
   none
 else
  some (((),x6)):=by kernel_rfl
theorem Zx_eq (n:Nat) (x1:Int) (x2:List (List Int)) (x3:Int):Zx n (x1,(x2,x3))=
 (Xp n ((⟨x1,x2⟩:graph_space))).bind fun (r4:Bool)=>
 bif bif bif !r4 then true else decide (x3< (1:Int)) then true else decide (x3> (4096:Int)) then
  some (((⟨[]⟩:Graph),(1:Int)))
 else
  (Zx_L6 n x1 x2 x3 n (((0:Int),[]))).bind fun (r13:PUnit×List Hood)=>
  some (((⟨r13.2⟩:Graph),(0:Int))):=by kernel_rfl
noncomputable def ZC_L4 (n:Nat) (x1:List Int) (x2:List Int) (m:Nat) (p:Int):Option (PUnit⊕Bool):=
 loopF (R:=R) 4 (wrC E ((subO Try.f40.body [1,1,0,1,0,0]).getD .skip)) (⟨[(0,TV.lst (T:=R.T) Cp.sh (Ty.int IntKind.i64) x1),(1,TV.lst (T:=R.T) Cp.sh (Ty.int IntKind.i64) x2),(12,TV.int IntKind.i64 (((x1.length:Nat):Int)))],[]⟩:MS R.T) (getN ZC_a.loops 4).sh (getN ZC_a.loops 4).outs (fun st k=>codeM E R n false (regs62 n) (its34 n) ZC_a ((subO Try.f40.body [1,1,0,1,0,0]).getD .skip) st k) m p
theorem ZC_L4_s (n:Nat) (x1:List Int) (x2:List Int) (m:Nat) (x3:Int):ZC_L4 n x1 x2 (m+1) x3=
 bif decide (x3< (((x1.length:Nat):Int))) then
  (idxL x1 x3).bind fun (r4:Int)=>
  (idxL x2 x3).bind fun (r5:Int)=>
  bif r4 !=r5 then
   some (.inr false)
  else
   ZC_L4 n x1 x2 m (IntKind.wrap .i64 (x3+(1:Int)))
 else
  some (.inl (())):=by kernel_rfl
theorem ZC_eq (n:Nat) (x1:List Int) (x2:List Int):ZC n (x1,x2)=
 bif (((x1.length:Nat):Int)) !=(((x2.length:Nat):Int)) then
  some false
 else
  (ZC_L4 n x1 x2 n (0:Int)).bind fun (r6:PUnit⊕Bool)=>
  Sum.elim (fun (q7:PUnit)=>
   some true)
   (fun (q8:Bool)=>
    some q8) r6:=by kernel_rfl
noncomputable def Zy_L5 (n:Nat) (x1:Int) (x2:List (List Int)) (x3:Graph) (m:Nat) (p:Int):Option (PUnit⊕(Int×Int)):=
 loopF (R:=R) 5 (wrC E ((subO Try.f18.body [1,1,1,0,1,0,0]).getD .skip)) (⟨[(1,TV.lst (T:=R.T) Cp.sh (Ty.slice (Ty.int IntKind.i64)) x2),(8,TV.ref 8 0),(25,TV.lst (T:=R.T) Cp.sh (Ty.st 0) x3.Hoods),(26,TV.int IntKind.i64 (((x3.Hoods.length:Nat):Int)))],[(8,Ob.ro (Ob.cells [TV.int IntKind.i64 x1,TV.lst (T:=R.T) Cp.sh (Ty.slice (Ty.int IntKind.i64)) x2]))]⟩:MS R.T) (getN Zy_a.loops 5).sh (getN Zy_a.loops 5).outs (fun st k=>codeM E R n false (regs63 n) (its34 n) Zy_a ((subO Try.f18.body [1,1,1,0,1,0,0]).getD .skip) st k) m p
theorem Zy_L5_s (n:Nat) (x1:Int) (x2:List (List Int)) (x3:Graph) (m:Nat) (x6:Int):Zy_L5 n x1 x2 x3 (m+1) x6=
 bif decide (x6< (((x3.Hoods.length:Nat):Int))) then
  (idxL x3.Hoods x6).bind fun (r7:Hood)=>
  (idxL x2 x6).bind fun (r8:List Int)=>
  (Zm n (((⟨x1,x2⟩:graph_space),r8))).bind fun (r9:List Int)=>
  (Zu n ((r9,r7.Radius))).bind fun (r10:List Int)=>
  (ZC n ((r7.Slots,r10))).bind fun (r11:Bool)=>
  bif !r11 then
   some (.inr ((x6,(0:Int))))
  else
   Zy_L5 n x1 x2 x3 m (IntKind.wrap .i64 (x6+(1:Int)))
 else
  some (.inl (())):=by kernel_rfl
theorem Zy_eq (n:Nat) (x1:Int) (x2:List (List Int)) (x3:Graph):Zy n (x1,(x2,x3))=
 (Xp n ((⟨x1,x2⟩:graph_space))).bind fun (r4:Bool)=>
 (whenO (!(!r4)) (Zd n ((((x2.length:Nat):Int),x3))) false).bind fun (r5:Bool)=>
 bif bif !r4 then true else !r5 then
  some (((0:Int),(1:Int)))
 else
  (Zy_L5 n x1 x2 x3 n (0:Int)).bind fun (r12:PUnit⊕(Int×Int))=>
  Sum.elim (fun (q13:PUnit)=>
   some (((-1:Int),(0:Int))))
   (fun (q14:Int×Int)=>
    some ((q14.1,q14.2))) r12:=by kernel_rfl
noncomputable def ZT_L11 (n:Nat) (x1:Int) (x2:List (List Int)) (x3:List Int) (x4:Int) (x5:Int) (r13:Graph×Int) (m:Nat) (p:Int×List Hood):Option (PUnit×List Hood):=
 loopF (R:=R) 11 (wrC E ((subO Try.f5.body [1,1,1,1,1,1,1,1,0,1,0,0]).getD .skip)) (⟨[(0,TV.int IntKind.i64 x1),(1,TV.lst (T:=R.T) Cp.sh (Ty.slice (Ty.int IntKind.i64)) x2),(2,TV.lst (T:=R.T) Cp.sh (Ty.int IntKind.i64) x3),(4,TV.int IntKind.i64 x5),(13,TV.int IntKind.i64 (Int.tmod (IntKind.wrap .i64 x4) (((x2.length:Nat):Int)))),(14,TV.ref 14 0),(22,TV.ref 22 0)],[(14,Ob.ro (Ob.cells [TV.lst (T:=R.T) Cp.sh (Ty.st 0) r13.1.Hoods]))]⟩:MS R.T) (getN ZT_a.loops 11).sh (getN ZT_a.loops 11).outs (fun st k=>codeM E R n false (regs65 n) (its34 n) ZT_a ((subO Try.f5.body [1,1,1,1,1,1,1,1,0,1,0,0]).getD .skip) st k) m p
theorem ZT_L11_s (n:Nat) (x1:Int) (x2:List (List Int)) (x3:List Int) (x4:Int) (x5:Int) (r13:Graph×Int) (m:Nat) (x16:Int) (x17:List Hood):ZT_L11 n x1 x2 x3 x4 x5 r13 (m+1) (x16,x17)=
 bif decide (x16< (((r13.1.Hoods.length:Nat):Int))) then
  (idxL r13.1.Hoods x16).bind fun (r18:Hood)=>
  bif roomOK (x17.length+([(⟨(134217728:Int),r18.Slots⟩:Hood)].length)) 32 then
   ZT_L11 n x1 x2 x3 x4 x5 r13 m ((IntKind.wrap .i64 (x16+(1:Int)),x17++[(⟨(134217728:Int),r18.Slots⟩:Hood)]))
  else
   none
 else
  some (((),x17)):=by kernel_rfl
theorem ZT_eq (n:Nat) (x1:Int) (x2:List (List Int)) (x3:List Int) (x4:Int) (x5:Int) (x6:Int):ZT n (x1,(x2,(x3,(x4,(x5,x6)))))=
 (Zz n ((x2,(25:Int)))).bind fun (r7:Bool)=>
 (whenO (!(!r7)) (XC n x1) false).bind fun (r8:Bool)=>
 (whenO (!(bif !r7 then true else !r8)) (ZD n x2) false).bind fun (r9:Bool)=>
 (whenO (!(bif bif !r7 then true else !r8 then true else !r9)) (idxL x2 (0:Int)) []).bind fun (r10:List Int)=>
 (whenO (!(bif bif !r7 then true else !r8 then true else !r9)) (XD n ((r10,x3))) false).bind fun (r11:Bool)=>
 bif bif bif bif bif bif !r7 then true else !r8 then true else !r9 then true else !r11 then true else decide (x5< (0:Int)) then true else decide (x5> (134217728:Int)) then
  (Xv n (())).bind fun (r12:Bool)=>
  some r12
 else
  bif !((((x2.length:Nat):Int))==(0:Int)) then
   (Zx n ((x1,(x2,((x2.length:Nat):Int))))).bind fun (r13:Graph×Int)=>
   (Xe n ((x1,(x2,(r13.1,(x3,Int.tmod (IntKind.wrap .i64 x4) (((x2.length:Nat):Int)))))))).bind fun (r14:(List Int)×Int)=>
   bif !((64:Int)==(0:Int)) then
    (Zq n ((x1,(x2,(r13.1,(x3,(Int.tmod (IntKind.wrap .i64 x4) (((x2.length:Nat):Int)),IntKind.wrap .i64 ((1:Int)+(Int.tmod (IntKind.wrap .i64 x6) (64:Int)))))))))).bind fun (r15:(List Int)×Int×Bool×Int)=>
    bif bif bif bif bif r13.2 !=(0:Int) then true else r14.2 !=(0:Int) then true else r15.2.2.2 !=(0:Int) then true else decide ((((r14.1.length:Nat):Int))> (2:Int)) then true else !r15.2.2.1 then
     some false
    else
     (ZT_L11 n x1 x2 x3 x4 x5 r13 n (((0:Int),[]))).bind fun (r19:PUnit×List Hood)=>
     (Zy n ((x1,(x2,(⟨r19.2⟩:Graph))))).bind fun (r20:Int×Int)=>
     (Zh n ((x1,(x2,((⟨r19.2⟩:Graph),(x3,(Int.tmod (IntKind.wrap .i64 x4) (((x2.length:Nat):Int)),x5))))))).bind fun (r21:(List Int)×Int×Bool×Int)=>
     (Xv n (())).bind fun (r22:Bool)=>
     some (bif bif bif bif r22 then r20.2==(0:Int) else false then r20.1==(-1:Int) else false then r21.2.2.2==(0:Int) else false then r21.2.2.1 else false)
   else
    none
  else
   none:=by kernel_rfl
attribute [irreducible] Zz_L4 Zk_L2 ZD_L2 ZN_L2 ZJ_L2 ZK_L2 Zd_L9 Zd_L4 ZA_L3 ZE_L2 ZF_L2 ZG_L2 Zm_L3 Zp_R3 ZB_L5 Zv_L3 Zl_L5 Zw_L2 Ze_L5 Zh_R7 Zi_L4 Zi_L1 ZL_L1 Zn_L4 Zn_L8 ZH_L5 Zs_L2 Zb_L5 Zb_L14 Zb_L20 Zb_L3 Zf_L3 Zf_L5 Zf_L503 QR_L3 QR_L5 QR_L13 QR_L15 QR_L513 QP_m_L2 Zq_R7 Zr_R3 Zj_L4 Zj_L1 ZM_L1 Zo_L4 Zo_L8 ZI_L5 Zt_L2 Zc_L5 Zc_L14 Zc_L20 Zc_L3 Zg_L3 Zg_L5 Zg_L503 Za_L3 Za_L5 Za_L13 Za_L15 Za_L513 QQ_m_L2 Zu_L3 Zx_L6 ZC_L4 Zy_L5 ZT_L11
end Sh
