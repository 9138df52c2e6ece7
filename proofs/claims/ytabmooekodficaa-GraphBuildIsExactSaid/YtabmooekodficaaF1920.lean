/- Part of the proof of a law. -/
import Derived.Test.YtabmooekodficaaF1919
set_option linter.all false
set_option linter.unusedSimpArgs false
set_option linter.unusedSectionVars false
open Go Go.Proofs Aq
namespace Sh
set_option maxRecDepth 100000
set_option linter.unusedVariables false
def getN (l:List (Nat×Note)) (k:Nat):Note:=match look l k with
 |some q=>q
 |none=>⟨[],[],⟨[],[]⟩,[]⟩
abbrev tabS0:List UInt8:=[0,1,2,2,3,3,3,3,4,4,4,4,4,4,4,4,5,5,5,5,5,5,5,5,5,5,5,5,5,5,5,5,6,6,6,6,6,6,6,6,6,6,6,6,6,6,6,6,6,6,6,6,6,6,6,6,6,6,6,6,6,6,6,6,7,7,7,7,7,7,7,7,7,7,7,7,7,7,7,7,7,7,7,7,7,7,7,7,7,7,7,7,7,7,7,7,7,7,7,7,7,7,7,7,7,7,7,7,7,7,7,7,7,7,7,7,7,7,7,7,7,7,7,7,7,7,7,7,8,8,8,8,8,8,8,8,8,8,8,8,8,8,8,8,8,8,8,8,8,8,8,8,8,8,8,8,8,8,8,8,8,8,8,8,8,8,8,8,8,8,8,8,8,8,8,8,8,8,8,8,8,8,8,8,8,8,8,8,8,8,8,8,8,8,8,8,8,8,8,8,8,8,8,8,8,8,8,8,8,8,8,8,8,8,8,8,8,8,8,8,8,8,8,8,8,8,8,8,8,8,8,8,8,8,8,8,8,8,8,8,8,8,8,8,8,8,8,8,8,8,8,8,8,8,8,8]
noncomputable def ref09_Few_L4 (n:Nat) (x1:List (List Int)) (m:Nat) (p:Int):Option (PUnit⊕Bool):=
 loopF (R:=R) 4 (wrC E ((subO Try.f6.body [1,1,0,1,0,0]).getD .skip)) (⟨[(0,TV.lst (T:=R.T) Cp.sh (Ty.slice (Ty.int IntKind.i64)) x1)],[]⟩:MS R.T) (getN ref09_Few_a.loops 4).sh (getN ref09_Few_a.loops 4).outs (fun st k=>codeM E R n false (regs0 n) iters ref09_Few_a ((subO Try.f6.body [1,1,0,1,0,0]).getD .skip) st k) m p
theorem ref09_Few_L4_s (n:Nat) (x1:List (List Int)) (m:Nat) (x3:Int):ref09_Few_L4 n x1 (m+1) x3=
 bif decide (x3< (((x1.length:Nat):Int))) then
  (idxL x1 x3).bind fun (r4:List Int)=>
  bif decide ((((r4.length:Nat):Int))> (40:Int)) then
   some (.inr false)
  else
   ref09_Few_L4 n x1 m (IntKind.wrap IntKind.i64 (x3+(1:Int)))
 else
  some (.inl (())):=by kernel_rfl
theorem ref09_Few_eq (n:Nat) (x1:List (List Int)) (x2:Int):ref09_Few n (x1,x2)=
 bif decide ((((x1.length:Nat):Int))>x2) then
  some false
 else
  (ref09_Few_L4 n x1 n (0:Int)).bind fun (r5:PUnit⊕Bool)=>
  Sum.elim (fun (q6:PUnit)=>
   some true)
   (fun (q7:Bool)=>
    some q7) r5:=by kernel_rfl
theorem ref09_Metric_eq (n:Nat) (x1:Int):ref09_Metric n x1=
 some (bif decide (x1≥(1:Int)) then decide (x1≤(3:Int)) else false):=by kernel_rfl
noncomputable def ref04_Valid_L2 (n:Nat) (x1:List Int) (m:Nat) (p:Int):Option (PUnit⊕Bool):=
 loopF (R:=R) 2 (wrC E ((subO Try.f21.body [1,0,1,0,0]).getD .skip)) (⟨[(0,TV.lst (T:=R.T) Cp.sh (Ty.int IntKind.i64) x1)],[]⟩:MS R.T) (getN ref04_Valid_a.loops 2).sh (getN ref04_Valid_a.loops 2).outs (fun st k=>codeM E R n false (regs3 n) iters ref04_Valid_a ((subO Try.f21.body [1,0,1,0,0]).getD .skip) st k) m p
theorem ref04_Valid_L2_s (n:Nat) (x1:List Int) (m:Nat) (x2:Int):ref04_Valid_L2 n x1 (m+1) x2=
 bif decide (x2< (((x1.length:Nat):Int))) then
  (idxL x1 x2).bind fun (r3:Int)=>
  (whenO (!(decide (r3< (-1000:Int)))) (idxL x1 x2) (0:Int)).bind fun (r4:Int)=>
  bif bif decide (r3< (-1000:Int)) then true else decide (r4> (1000:Int)) then
   some (.inr false)
  else
   ref04_Valid_L2 n x1 m (IntKind.wrap IntKind.i64 (x2+(1:Int)))
 else
  some (.inl (())):=by kernel_rfl
theorem ref04_Valid_eq (n:Nat) (x1:List Int):ref04_Valid n x1=
 (ref04_Valid_L2 n x1 n (0:Int)).bind fun (r5:PUnit⊕Bool)=>
 Sum.elim (fun (q6:PUnit)=>
  some (bif decide ((((x1.length:Nat):Int))≥(1:Int)) then decide ((((x1.length:Nat):Int))≤(32:Int)) else false))
  (fun (q7:Bool)=>
   some q7) r5:=by kernel_rfl
noncomputable def ref09_Fit_L2 (n:Nat) (x1:List (List Int)) (m:Nat) (p:Int):Option (PUnit⊕Bool):=
 loopF (R:=R) 2 (wrC E ((subO Try.f16.body [1,0,1,0,0]).getD .skip)) (⟨[(0,TV.lst (T:=R.T) Cp.sh (Ty.slice (Ty.int IntKind.i64)) x1)],[]⟩:MS R.T) (getN ref09_Fit_a.loops 2).sh (getN ref09_Fit_a.loops 2).outs (fun st k=>codeM E R n false (regs4 n) iters ref09_Fit_a ((subO Try.f16.body [1,0,1,0,0]).getD .skip) st k) m p
theorem ref09_Fit_L2_s (n:Nat) (x1:List (List Int)) (m:Nat) (x2:Int):ref09_Fit_L2 n x1 (m+1) x2=
 bif decide (x2< (((x1.length:Nat):Int))) then
  (idxL x1 x2).bind fun (r3:List Int)=>
  (ref04_Valid n r3).bind fun (r4:Bool)=>
  bif !(!r4) then
   (idxL x1 x2).bind fun (r5:List Int)=>
   (idxL x1 (0:Int)).bind fun (r6:List Int)=>
   bif (((r5.length:Nat):Int)) !=(((r6.length:Nat):Int)) then
    some (.inr false)
   else
    ref09_Fit_L2 n x1 m (IntKind.wrap IntKind.i64 (x2+(1:Int)))
  else
   some (.inr false)
 else
  some (.inl (())):=by kernel_rfl
theorem ref09_Fit_eq (n:Nat) (x1:List (List Int)):ref09_Fit n x1=
 (ref09_Fit_L2 n x1 n (0:Int)).bind fun (r7:PUnit⊕Bool)=>
 Sum.elim (fun (q8:PUnit)=>
  some (bif decide ((((x1.length:Nat):Int))≥(1:Int)) then decide ((((x1.length:Nat):Int))≤(4096:Int)) else false))
  (fun (q9:Bool)=>
   some q9) r7:=by kernel_rfl
theorem metric_clamp_int_eq (n:Nat) (x1:Int) (x2:Int) (x3:Int):metric_clamp_int n (x1,(x2,x3))=
 some (imax x2 (imin x1 x3)):=by kernel_rfl
theorem metric_Valid_eq (n:Nat) (x1:Int) (x2:Int):metric_Valid n (x1,x2)=
 (whenO (bif decide (x1≥(1:Int)) then decide (x1≤(3:Int)) else false) (metric_clamp_int n ((x2,((0:Int),(134217728:Int))))) (0:Int)).bind fun (r3:Int)=>
 some (bif bif decide (x1≥(1:Int)) then decide (x1≤(3:Int)) else false then r3==x2 else false):=by kernel_rfl
theorem vector_Valid_1_eq (n:Nat) (x1:Bool) (x2:Int):vector_Valid_1 n (x1,x2)=
 some (bif bif x1 then decide (x2≥(-1000:Int)) else false then decide (x2≤(1000:Int)) else false):=by kernel_rfl
noncomputable def vector_fold_bool_L2 (n:Nat) (x1:List Int) (m:Nat) (p:Bool×Int):Option (Bool):=
 loopF (R:=R) 2 (wrC E ((subO Try.f72.body [1,0,1,0,0]).getD .skip)) (⟨[(2,TV.fn 73 [] []),(9,TV.lst (T:=R.T) Cp.sh (Ty.int IntKind.i64) x1),(10,TV.int IntKind.i64 (((x1.length:Nat):Int)))],[]⟩:MS R.T) (getN vector_fold_bool_a.loops 2).sh (getN vector_fold_bool_a.loops 2).outs (fun st k=>codeM E R n false (regs13 n) iters vector_fold_bool_a ((subO Try.f72.body [1,0,1,0,0]).getD .skip) st k) m p
theorem vector_fold_bool_L2_s (n:Nat) (x1:List Int) (m:Nat) (x3:Bool) (x4:Int):vector_fold_bool_L2 n x1 (m+1) (x3,x4)=
 bif decide (x4< (((x1.length:Nat):Int))) then
  (idxL x1 x4).bind fun (r5:Int)=>
  (vector_Valid_1 n ((x3,r5))).bind fun (r6:Bool)=>
  vector_fold_bool_L2 n x1 m ((r6,IntKind.wrap IntKind.i64 (x4+(1:Int))))
 else
  some x3:=by kernel_rfl
theorem vector_fold_bool_eq (n:Nat) (x1:List Int) (x2:Bool):vector_fold_bool n (x1,(x2,((),())))=
 (vector_fold_bool_L2 n x1 n ((x2,(0:Int)))).bind fun (r7:Bool)=>
 some r7:=by kernel_rfl
theorem vector_Valid_eq (n:Nat) (x1:List Int):vector_Valid n x1=
 (vector_fold_bool n ((x1,(true,((),()))))).bind fun (r2:Bool)=>
 some (bif bif r2 then decide ((((x1.length:Nat):Int))≥(1:Int)) else false then decide ((((x1.length:Nat):Int))≤(32:Int)) else false):=by kernel_rfl
theorem vector_Alike_eq (n:Nat) (x1:List Int) (x2:List Int):vector_Alike n (x1,x2)=
 (whenO ((((x1.length:Nat):Int))==(((x2.length:Nat):Int))) (vector_Valid n x1) false).bind fun (r3:Bool)=>
 (whenO (bif (((x1.length:Nat):Int))==(((x2.length:Nat):Int)) then r3 else false) (vector_Valid n x2) false).bind fun (r4:Bool)=>
 some (bif bif (((x1.length:Nat):Int))==(((x2.length:Nat):Int)) then r3 else false then r4 else false):=by kernel_rfl
theorem graph_space_isRight_1_eq (n:Nat) (x1:List Int) (x2:Int) (x3:List (List Int)):graph_space_isRight_1 n (x1,(x2,x3))=
 (idxL x3 (0:Int)).bind fun (r4:List Int)=>
 (vector_Alike n ((r4,x1))).bind fun (r5:Bool)=>
 some (!r5):=by kernel_rfl
noncomputable def slices_IndexFunc_int_intx_L2 (n:Nat) (x1:List (List Int)) (x2:Int) (x3:List (List Int)) (m:Nat) (p:Int):Option (PUnit⊕Int):=
 loopF (R:=R) 2 (wrC E ((subO Try.f68.body [1,0,1,0,0]).getD .skip)) (⟨[(0,TV.lst (T:=R.T) Cp.sh (Ty.slice (Ty.int IntKind.i64)) x1),(1,TV.fn 56 [] ([TV.cref [TV.int IntKind.i64 x2,TV.lst (T:=R.T) Cp.sh (Ty.slice (Ty.int IntKind.i64)) x3] 0])),(7,TV.int IntKind.i64 (((x1.length:Nat):Int)))],[]⟩:MS R.T) (getN slices_IndexFunc_int_intx_a.loops 2).sh (getN slices_IndexFunc_int_intx_a.loops 2).outs (fun st k=>codeM E R n false (regs17 n) iters slices_IndexFunc_int_intx_a ((subO Try.f68.body [1,0,1,0,0]).getD .skip) st k) m p
theorem slices_IndexFunc_int_intx_L2_s (n:Nat) (x1:List (List Int)) (x2:Int) (x3:List (List Int)) (m:Nat) (x4:Int):slices_IndexFunc_int_intx_L2 n x1 x2 x3 (m+1) x4=
 bif decide (x4< (((x1.length:Nat):Int))) then
  (idxL x1 x4).bind fun (r5:List Int)=>
  (graph_space_isRight_1 n ((r5,(x2,x3)))).bind fun (r6:Bool)=>
  bif r6 then
   some (.inr x4)
  else
   slices_IndexFunc_int_intx_L2 n x1 x2 x3 m (IntKind.wrap IntKind.i64 (x4+(1:Int)))
 else
  some (.inl (())):=by kernel_rfl
theorem slices_IndexFunc_int_intx_eq (n:Nat) (x1:List (List Int)) (x2:Int) (x3:List (List Int)):slices_IndexFunc_int_intx n (x1,((),(x2,x3)))=
 (slices_IndexFunc_int_intx_L2 n x1 x2 x3 n (0:Int)).bind fun (r7:PUnit⊕Int)=>
 Sum.elim (fun (q8:PUnit)=>
  some (-1:Int))
  (fun (q9:Int)=>
   some q9) r7:=by kernel_rfl
theorem slices_ContainsFunc_int_int_eq (n:Nat) (x1:List (List Int)) (x2:Int) (x3:List (List Int)):slices_ContainsFunc_int_int n (x1,((),(x2,x3)))=
 (slices_IndexFunc_int_intx n ((x1,((),(x2,x3))))).bind fun (r4:Int)=>
 some (decide (r4≥(0:Int))):=by kernel_rfl
theorem graph_space_isRight_eq (n:Nat) (x1:graph_space):graph_space_isRight n x1=
 (metric_Valid n ((x1.m,(0:Int)))).bind fun (r2:Bool)=>
 (whenO (bif bif r2 then decide ((((x1.l.length:Nat):Int))≥(1:Int)) else false then decide ((((x1.l.length:Nat):Int))≤(4096:Int)) else false) (slices_ContainsFunc_int_int n ((x1.l,((),(x1.m,x1.l))))) false).bind fun (r3:Bool)=>
 some (bif bif bif r2 then decide ((((x1.l.length:Nat):Int))≥(1:Int)) else false then decide ((((x1.l.length:Nat):Int))≤(4096:Int)) else false then !r3 else false):=by kernel_rfl
noncomputable def slices_Index_int_int_L2 (n:Nat) (x1:List Int) (x2:Int) (m:Nat) (p:Int):Option (PUnit⊕Int):=
 loopF (R:=R) 2 (wrC E ((subO Try.f61.body [1,0,1,0,0]).getD .skip)) (⟨[(0,TV.lst (T:=R.T) Cp.sh (Ty.int IntKind.i64) x1),(1,TV.int IntKind.i64 x2),(7,TV.int IntKind.i64 (((x1.length:Nat):Int)))],[]⟩:MS R.T) (getN slices_Index_int_int_a.loops 2).sh (getN slices_Index_int_int_a.loops 2).outs (fun st k=>codeM E R n false (regs20 n) iters slices_Index_int_int_a ((subO Try.f61.body [1,0,1,0,0]).getD .skip) st k) m p
theorem slices_Index_int_int_L2_s (n:Nat) (x1:List Int) (x2:Int) (m:Nat) (x3:Int):slices_Index_int_int_L2 n x1 x2 (m+1) x3=
 bif decide (x3< (((x1.length:Nat):Int))) then
  (idxL x1 x3).bind fun (r4:Int)=>
  bif x2==r4 then
   some (.inr x3)
  else
   slices_Index_int_int_L2 n x1 x2 m (IntKind.wrap IntKind.i64 (x3+(1:Int)))
 else
  some (.inl (())):=by kernel_rfl
theorem slices_Index_int_int_eq (n:Nat) (x1:List Int) (x2:Int):slices_Index_int_int n (x1,x2)=
 (slices_Index_int_int_L2 n x1 x2 n (0:Int)).bind fun (r5:PUnit⊕Int)=>
 Sum.elim (fun (q6:PUnit)=>
  some (-1:Int))
  (fun (q7:Int)=>
   some q7) r5:=by kernel_rfl
theorem slices_Contains_int_int_eq (n:Nat) (x1:List Int) (x2:Int):slices_Contains_int_int n (x1,x2)=
 (slices_Index_int_int n ((x1,x2))).bind fun (r3:Int)=>
 some (decide (r3≥(0:Int))):=by kernel_rfl
noncomputable def graph_Valid_L9 (n:Nat) (x1:Int) (x2:Graph) (x3:Int) (r4:Hood) (m:Nat) (p:Int):Option (PUnit⊕Bool):=
 loopF (R:=R) 9 (wrC E ((subO Try.f19.body [1,1,0,1,0,0,1,1,0,0,1,1,1,0,0]).getD .skip)) (⟨[(0,TV.int IntKind.i64 x1),(6,TV.ref 6 0),(23,TV.lst (T:=R.T) Cp.sh (Ty.st 0) x2.Hoods),(24,TV.int IntKind.i64 (((x2.Hoods.length:Nat):Int))),(25,TV.int IntKind.i64 x3),(46,TV.lst (T:=R.T) Cp.sh (Ty.int IntKind.i64) r4.Slots),(47,TV.int IntKind.i64 (((r4.Slots.length:Nat):Int)))],[(6,Ob.ro (Ob.cells [TV.int IntKind.i64 r4.Radius,TV.lst (T:=R.T) Cp.sh (Ty.int IntKind.i64) r4.Slots]))]⟩:MS R.T) (getN graph_Valid_a.loops 9).sh (getN graph_Valid_a.loops 9).outs (fun st k=>codeM E R n false (regs22 n) iters graph_Valid_a ((subO Try.f19.body [1,1,0,1,0,0,1,1,0,0,1,1,1,0,0]).getD .skip) st k) m p
noncomputable def graph_Valid_L4 (n:Nat) (x1:Int) (x2:Graph) (m:Nat) (p:Int):Option (PUnit⊕Bool):=
 loopF (R:=R) 4 (wrC E ((subO Try.f19.body [1,1,0,1,0,0]).getD .skip)) (⟨[(0,TV.int IntKind.i64 x1),(23,TV.lst (T:=R.T) Cp.sh (Ty.st 0) x2.Hoods),(24,TV.int IntKind.i64 (((x2.Hoods.length:Nat):Int)))],[]⟩:MS R.T) (getN graph_Valid_a.loops 4).sh (getN graph_Valid_a.loops 4).outs (fun st k=>codeM E R n false (regs22 n) iters graph_Valid_a ((subO Try.f19.body [1,1,0,1,0,0]).getD .skip) st k) m p
theorem graph_Valid_L9_s (n:Nat) (x1:Int) (x2:Graph) (x3:Int) (r4:Hood) (m:Nat) (x6:Int):graph_Valid_L9 n x1 x2 x3 r4 (m+1) x6=
 bif decide (x6< (((r4.Slots.length:Nat):Int))) then
  (idxL r4.Slots x6).bind fun (r7:Int)=>
  (whenO (bif !(bif decide (r7< (0:Int)) then true else decide (r7≥x1)) then decide (x6> (0:Int)) else false) (idxL r4.Slots (IntKind.wrap IntKind.i64 (x6-(1:Int)))) (0:Int)).bind fun (r8:Int)=>
  bif bif bif decide (r7< (0:Int)) then true else decide (r7≥x1) then true else bif decide (x6> (0:Int)) then decide (r7≤r8) else false then
   some (.inr false)
  else
   graph_Valid_L9 n x1 x2 x3 r4 m (IntKind.wrap IntKind.i64 (x6+(1:Int)))
 else
  some (.inl (())):=by kernel_rfl
theorem graph_Valid_L4_s (n:Nat) (x1:Int) (x2:Graph) (m:Nat) (x3:Int):graph_Valid_L4 n x1 x2 (m+1) x3=
 bif decide (x3< (((x2.Hoods.length:Nat):Int))) then
  (idxL x2.Hoods x3).bind fun (r4:Hood)=>
  (whenO (!(bif decide (r4.Radius< (0:Int)) then true else decide (r4.Radius> (134217728:Int)))) (slices_Contains_int_int n ((r4.Slots,x3))) false).bind fun (r5:Bool)=>
  bif bif bif decide (r4.Radius< (0:Int)) then true else decide (r4.Radius> (134217728:Int)) then true else !r5 then
   some (.inr false)
  else
   (graph_Valid_L9 n x1 x2 x3 r4 n (0:Int)).bind fun (r9:PUnit⊕Bool)=>
   Sum.elim (fun (q10:PUnit)=>
    graph_Valid_L4 n x1 x2 m (IntKind.wrap IntKind.i64 (x3+(1:Int))))
    (fun (q11:Bool)=>
     some (.inr q11)) r9
 else
  some (.inl (())):=by kernel_rfl
theorem graph_Valid_eq (n:Nat) (x1:Int) (x2:Graph):graph_Valid n (x1,x2)=
 bif bif bif decide (x1< (1:Int)) then true else decide (x1> (4096:Int)) then true else (((x2.Hoods.length:Nat):Int)) !=x1 then
  some false
 else
  (graph_Valid_L4 n x1 x2 n (0:Int)).bind fun (r12:PUnit⊕Bool)=>
  Sum.elim (fun (q13:PUnit)=>
   some true)
   (fun (q14:Bool)=>
    some q14) r12:=by kernel_rfl
theorem slices_Clone_int_int_eq (n:Nat) (x1:List Int):slices_Clone_int_int n (x1) (())=
 bif !(List.isEmpty x1) then
  bif roomOK x1.length 8 then
   some ((x1,()))
  else
   none
 else
  none:=by kernel_rfl
noncomputable def vector_Sub_L3 (n:Nat) (x2:List Int) (r3:(List Int)×PUnit) (m:Nat) (p:Int×List Int):Option (PUnit×List Int):=
 loopF (R:=R) 3 (wrC E ((subO Try.f34.body [1,1,0,1,0,0]).getD .skip)) (⟨[(1,TV.lst (T:=R.T) Cp.sh (Ty.int IntKind.i64) x2),(5,TV.vw 8 (Ty.int IntKind.i64)),(10,TV.int IntKind.i64 (((r3.1.length:Nat):Int)))],[]⟩:MS R.T) (getN vector_Sub_a.loops 3).sh (getN vector_Sub_a.loops 3).outs (fun st k=>codeM E R n false (regs23 n) (its1 n) vector_Sub_a ((subO Try.f34.body [1,1,0,1,0,0]).getD .skip) st k) m p
theorem vector_Sub_L3_s (n:Nat) (x2:List Int) (r3:(List Int)×PUnit) (m:Nat) (x4:Int) (x5:List Int):vector_Sub_L3 n x2 r3 (m+1) (x4,x5)=
 bif decide (x4< (((r3.1.length:Nat):Int))) then
  bif decide (0≤x4∧x4< ((x5.length:Nat):Int)) then
   (idxL x5 x4).bind fun (r6:Int)=>
   (idxL x2 x4).bind fun (r7:Int)=>
   bif decide (0≤x4∧x4< ((x5.length:Nat):Int)) then
    (idxL x5 x4).bind fun (r8:Int)=>
    vector_Sub_L3 n x2 r3 m ((IntKind.wrap IntKind.i64 (x4+(1:Int)),setL x5 x4 (IntKind.wrap IntKind.i64 (r6-r7))))
   else
    none
  else
   none
 else
  some (((),x5)):=by kernel_rfl
theorem vector_Sub_eq (n:Nat) (x1:List Int) (x2:List Int):vector_Sub n (x1,x2)=
 (slices_Clone_int_int n x1 (())).bind fun (r3:(List Int)×PUnit)=>
 (vector_Sub_L3 n x2 r3 n (((0:Int),r3.1))).bind fun (r9:PUnit×List Int)=>
 some r9.2:=by kernel_rfl
theorem vector_Norm_1_eq (n:Nat) (x1:Int) (x2:Int):vector_Norm_1 n (x1,x2)=
 some (IntKind.wrap IntKind.i64 (x1+(imax x2 (IntKind.wrap IntKind.i64 ((0:Int)-x2))))):=by kernel_rfl
noncomputable def vector_fold_int_L2 (n:Nat) (x1:List Int) (m:Nat) (p:Int×Int):Option (Int):=
 loopF (R:=R) 2 (wrC E ((subO Try.f55.body [1,0,1,0,0]).getD .skip)) (⟨[(2,TV.fn 52 [] []),(9,TV.lst (T:=R.T) Cp.sh (Ty.int IntKind.i64) x1),(10,TV.int IntKind.i64 (((x1.length:Nat):Int)))],[]⟩:MS R.T) (getN vector_fold_int_a.loops 2).sh (getN vector_fold_int_a.loops 2).outs (fun st k=>codeM E R n false (regs25 n) (its1 n) vector_fold_int_a ((subO Try.f55.body [1,0,1,0,0]).getD .skip) st k) m p
theorem vector_fold_int_L2_s (n:Nat) (x1:List Int) (m:Nat) (x3:Int) (x4:Int):vector_fold_int_L2 n x1 (m+1) (x3,x4)=
 bif decide (x4< (((x1.length:Nat):Int))) then
  (idxL x1 x4).bind fun (r5:Int)=>
  (vector_Norm_1 n ((x3,r5))).bind fun (r6:Int)=>
  vector_fold_int_L2 n x1 m ((r6,IntKind.wrap IntKind.i64 (x4+(1:Int))))
 else
  some x3:=by kernel_rfl
theorem vector_fold_int_eq (n:Nat) (x1:List Int) (x2:Int):vector_fold_int n (x1,(x2,((),())))=
 (vector_fold_int_L2 n x1 n ((x2,(0:Int)))).bind fun (r7:Int)=>
 some r7:=by kernel_rfl
theorem vector_Norm_2_eq (n:Nat) (x1:Int) (x2:Int):vector_Norm_2 n (x1,x2)=
 some (IntKind.wrap IntKind.i64 (x1+(IntKind.wrap IntKind.i64 (x2*x2)))):=by kernel_rfl
noncomputable def vector_fold_int_2_L2 (n:Nat) (x1:List Int) (m:Nat) (p:Int×Int):Option (Int):=
 loopF (R:=R) 2 (wrC E ((subO Try.f55.body [1,0,1,0,0]).getD .skip)) (⟨[(2,TV.fn 53 [] []),(9,TV.lst (T:=R.T) Cp.sh (Ty.int IntKind.i64) x1),(10,TV.int IntKind.i64 (((x1.length:Nat):Int)))],[]⟩:MS R.T) (getN vector_fold_int_2_a.loops 2).sh (getN vector_fold_int_2_a.loops 2).outs (fun st k=>codeM E R n false (regs27 n) (its1 n) vector_fold_int_2_a ((subO Try.f55.body [1,0,1,0,0]).getD .skip) st k) m p
theorem vector_fold_int_2_L2_s (n:Nat) (x1:List Int) (m:Nat) (x3:Int) (x4:Int):vector_fold_int_2_L2 n x1 (m+1) (x3,x4)=
 bif decide (x4< (((x1.length:Nat):Int))) then
  (idxL x1 x4).bind fun (r5:Int)=>
  (vector_Norm_2 n ((x3,r5))).bind fun (r6:Int)=>
  vector_fold_int_2_L2 n x1 m ((r6,IntKind.wrap IntKind.i64 (x4+(1:Int))))
 else
  some x3:=by kernel_rfl
theorem vector_fold_int_2_eq (n:Nat) (x1:List Int) (x2:Int):vector_fold_int_2 n (x1,(x2,((),())))=
 (vector_fold_int_2_L2 n x1 n ((x2,(0:Int)))).bind fun (r7:Int)=>
 some r7:=by kernel_rfl
theorem vector_Norm_3_eq (n:Nat) (x1:Int) (x2:Int):vector_Norm_3 n (x1,x2)=
 some (imax (imax x1 x2) (IntKind.wrap IntKind.i64 ((0:Int)-x2))):=by kernel_rfl
noncomputable def vector_fold_int_3_L2 (n:Nat) (x1:List Int) (m:Nat) (p:Int×Int):Option (Int):=
 loopF (R:=R) 2 (wrC E ((subO Try.f55.body [1,0,1,0,0]).getD .skip)) (⟨[(2,TV.fn 54 [] []),(9,TV.lst (T:=R.T) Cp.sh (Ty.int IntKind.i64) x1),(10,TV.int IntKind.i64 (((x1.length:Nat):Int)))],[]⟩:MS R.T) (getN vector_fold_int_3_a.loops 2).sh (getN vector_fold_int_3_a.loops 2).outs (fun st k=>codeM E R n false (regs29 n) (its1 n) vector_fold_int_3_a ((subO Try.f55.body [1,0,1,0,0]).getD .skip) st k) m p
theorem vector_fold_int_3_L2_s (n:Nat) (x1:List Int) (m:Nat) (x3:Int) (x4:Int):vector_fold_int_3_L2 n x1 (m+1) (x3,x4)=
 bif decide (x4< (((x1.length:Nat):Int))) then
  (idxL x1 x4).bind fun (r5:Int)=>
  (vector_Norm_3 n ((x3,r5))).bind fun (r6:Int)=>
  vector_fold_int_3_L2 n x1 m ((r6,IntKind.wrap IntKind.i64 (x4+(1:Int))))
 else
  some x3:=by kernel_rfl
theorem vector_fold_int_3_eq (n:Nat) (x1:List Int) (x2:Int):vector_fold_int_3 n (x1,(x2,((),())))=
 (vector_fold_int_3_L2 n x1 n ((x2,(0:Int)))).bind fun (r7:Int)=>
 some r7:=by kernel_rfl
theorem vector_Norm_eq (n:Nat) (x1:Int) (x2:List Int):vector_Norm n (x1,x2)=
 bif x1==(1:Int) then
  (vector_fold_int n ((x2,((0:Int),((),()))))).bind fun (r3:Int)=>
  some r3
 else
  bif x1==(2:Int) then
   (vector_fold_int_2 n ((x2,((0:Int),((),()))))).bind fun (r4:Int)=>
   some r4
  else
   bif x1==(3:Int) then
    (vector_fold_int_3 n ((x2,((0:Int),((),()))))).bind fun (r5:Int)=>
    some r5
   else
    none:=by kernel_rfl
theorem vector_Key_eq (n:Nat) (x1:Int) (x2:List Int) (x3:List Int):vector_Key n (x1,(x2,x3))=
 (vector_Sub n ((x2,x3))).bind fun (r4:List Int)=>
 (vector_Norm n ((x1,r4))).bind fun (r5:Int)=>
 some r5:=by kernel_rfl
noncomputable def graph_space_keys_L3 (n:Nat) (x1:graph_space) (x2:List Int) (m:Nat) (p:(List Int)×Int):Option (List Int):=
 loopF (R:=R) 3 (wrC E ((subO Try.f36.body [1,1,0,1,0,0]).getD .skip)) (⟨[(1,TV.lst (T:=R.T) Cp.sh (Ty.int IntKind.i64) x2),(2,TV.ref 2 0),(9,TV.lst (T:=R.T) Cp.sh (Ty.slice (Ty.int IntKind.i64)) x1.l),(10,TV.int IntKind.i64 (((x1.l.length:Nat):Int)))],[(2,Ob.ro (Ob.cells [TV.int IntKind.i64 x1.m,TV.lst (T:=R.T) Cp.sh (Ty.slice (Ty.int IntKind.i64)) x1.l]))]⟩:MS R.T) (getN graph_space_keys_a.loops 3).sh (getN graph_space_keys_a.loops 3).outs (fun st k=>codeM E R n false (regs32 n) (its1 n) graph_space_keys_a ((subO Try.f36.body [1,1,0,1,0,0]).getD .skip) st k) m p
theorem graph_space_keys_L3_s (n:Nat) (x1:graph_space) (x2:List Int) (m:Nat) (x3:List Int) (x4:Int):graph_space_keys_L3 n x1 x2 (m+1) (x3,x4)=
 bif decide (x4< (((x1.l.length:Nat):Int))) then
  (idxL x1.l x4).bind fun (r5:List Int)=>
  (vector_Key n ((x1.m,(r5,x2)))).bind fun (r6:Int)=>
  bif roomOK (x3.length+([r6].length)) 8 then
   graph_space_keys_L3 n x1 x2 m ((x3++[r6],IntKind.wrap IntKind.i64 (x4+(1:Int))))
  else
   none
 else
  some x3:=by kernel_rfl
theorem graph_space_keys_eq (n:Nat) (x1:graph_space) (x2:List Int):graph_space_keys n (x1,x2)=
 (graph_space_keys_L3 n x1 x2 n (([],(0:Int)))).bind fun (r7:List Int)=>
 some r7:=by kernel_rfl
theorem math_bits_Len64_eq (n:Nat) (x1:Int):math_bits_Len64 n x1=
 bif decide (x1≥(4294967296:Int)) then
  bif decide ((0:Int)≤(32:Int)) then
   bif decide ((bitShr IntKind.u64 x1 (32:Int))≥(65536:Int)) then
    bif decide ((0:Int)≤(16:Int)) then
     bif decide ((bitShr IntKind.u64 (bitShr IntKind.u64 x1 (32:Int)) (16:Int))≥(256:Int)) then
      bif decide ((0:Int)≤(8:Int)) then
       (idxL tabS0 (IntKind.wrap IntKind.u8 (bitShr IntKind.u64 (bitShr IntKind.u64 (bitShr IntKind.u64 x1 (32:Int)) (16:Int)) (8:Int)))).bind fun (r2:UInt8)=>
       some (IntKind.wrap IntKind.i64 ((IntKind.wrap IntKind.i64 ((IntKind.wrap IntKind.i64 ((32:Int)+(16:Int)))+(8:Int)))+(IntKind.wrap IntKind.i64 (((r2.toNat:Nat):Int)))))
      else
       none
     else
      (idxL tabS0 (IntKind.wrap IntKind.u8 (bitShr IntKind.u64 (bitShr IntKind.u64 x1 (32:Int)) (16:Int)))).bind fun (r3:UInt8)=>
      some (IntKind.wrap IntKind.i64 ((IntKind.wrap IntKind.i64 ((32:Int)+(16:Int)))+(IntKind.wrap IntKind.i64 (((r3.toNat:Nat):Int)))))
    else
     none
   else
    bif decide ((bitShr IntKind.u64 x1 (32:Int))≥(256:Int)) then
     bif decide ((0:Int)≤(8:Int)) then
      (idxL tabS0 (IntKind.wrap IntKind.u8 (bitShr IntKind.u64 (bitShr IntKind.u64 x1 (32:Int)) (8:Int)))).bind fun (r4:UInt8)=>
      some (IntKind.wrap IntKind.i64 ((IntKind.wrap IntKind.i64 ((32:Int)+(8:Int)))+(IntKind.wrap IntKind.i64 (((r4.toNat:Nat):Int)))))
     else
      none
    else
     (idxL tabS0 (IntKind.wrap IntKind.u8 (bitShr IntKind.u64 x1 (32:Int)))).bind fun (r5:UInt8)=>
     some (IntKind.wrap IntKind.i64 ((32:Int)+(IntKind.wrap IntKind.i64 (((r5.toNat:Nat):Int)))))
  else
   none
 else
  bif decide (x1≥(65536:Int)) then
   bif decide ((0:Int)≤(16:Int)) then
    bif decide ((bitShr IntKind.u64 x1 (16:Int))≥(256:Int)) then
     bif decide ((0:Int)≤(8:Int)) then
      (idxL tabS0 (IntKind.wrap IntKind.u8 (bitShr IntKind.u64 (bitShr IntKind.u64 x1 (16:Int)) (8:Int)))).bind fun (r6:UInt8)=>
      some (IntKind.wrap IntKind.i64 ((IntKind.wrap IntKind.i64 ((IntKind.wrap IntKind.i64 ((0:Int)+(16:Int)))+(8:Int)))+(IntKind.wrap IntKind.i64 (((r6.toNat:Nat):Int)))))
     else
      none
    else
     (idxL tabS0 (IntKind.wrap IntKind.u8 (bitShr IntKind.u64 x1 (16:Int)))).bind fun (r7:UInt8)=>
     some (IntKind.wrap IntKind.i64 ((IntKind.wrap IntKind.i64 ((0:Int)+(16:Int)))+(IntKind.wrap IntKind.i64 (((r7.toNat:Nat):Int)))))
   else
    none
  else
   bif decide (x1≥(256:Int)) then
    bif decide ((0:Int)≤(8:Int)) then
     (idxL tabS0 (IntKind.wrap IntKind.u8 (bitShr IntKind.u64 x1 (8:Int)))).bind fun (r8:UInt8)=>
     some (IntKind.wrap IntKind.i64 ((IntKind.wrap IntKind.i64 ((0:Int)+(8:Int)))+(IntKind.wrap IntKind.i64 (((r8.toNat:Nat):Int)))))
    else
     none
   else
    (idxL tabS0 (IntKind.wrap IntKind.u8 x1)).bind fun (r9:UInt8)=>
    some (IntKind.wrap IntKind.i64 ((0:Int)+(IntKind.wrap IntKind.i64 (((r9.toNat:Nat):Int))))):=by kernel_rfl
theorem math_bits_Len_eq (n:Nat) (x1:Int):math_bits_Len n x1=
 (math_bits_Len64 n x1).bind fun (r2:Int)=>
 some r2:=by kernel_rfl
theorem cmp_isNaN_int_eq (n:Nat) (x1:Int):cmp_isNaN_int n x1=
 some (x1 !=x1):=by kernel_rfl
theorem slices_nextPowerOfTwo_eq (n:Nat) (x1:Int):slices_nextPowerOfTwo n x1=
 (math_bits_Len n (IntKind.wrap IntKind.u64 x1)).bind fun (r2:Int)=>
 bif decide ((0:Int)≤r2) then
  some (bitShl IntKind.u64 (1:Int) r2)
 else
  none:=by kernel_rfl
theorem slices_xorshift_Next_eq (n:Nat) (x1:Int):slices_xorshift_Next n (()) (x1)=
 bif decide ((0:Int)≤(13:Int)) then
  bif decide ((0:Int)≤(7:Int)) then
   bif decide ((0:Int)≤(17:Int)) then
    some ((bitXor IntKind.u64 (bitXor IntKind.u64 (bitXor IntKind.u64 x1 (bitShl IntKind.u64 x1 (13:Int))) (bitShr IntKind.u64 (bitXor IntKind.u64 x1 (bitShl IntKind.u64 x1 (13:Int))) (7:Int))) (bitShl IntKind.u64 (bitXor IntKind.u64 (bitXor IntKind.u64 x1 (bitShl IntKind.u64 x1 (13:Int))) (bitShr IntKind.u64 (bitXor IntKind.u64 x1 (bitShl IntKind.u64 x1 (13:Int))) (7:Int))) (17:Int)),bitXor IntKind.u64 (bitXor IntKind.u64 (bitXor IntKind.u64 x1 (bitShl IntKind.u64 x1 (13:Int))) (bitShr IntKind.u64 (bitXor IntKind.u64 x1 (bitShl IntKind.u64 x1 (13:Int))) (7:Int))) (bitShl IntKind.u64 (bitXor IntKind.u64 (bitXor IntKind.u64 x1 (bitShl IntKind.u64 x1 (13:Int))) (bitShr IntKind.u64 (bitXor IntKind.u64 x1 (bitShl IntKind.u64 x1 (13:Int))) (7:Int))) (17:Int))))
   else
    none
  else
   none
 else
  none:=by kernel_rfl
theorem slices_Values_int_int_eq (n:Nat) (x1:List Int):slices_Values_int_int n x1=
 some (((),x1)):=by kernel_rfl
noncomputable def slices_AppendSeq_int_int_2_R3 (n:Nat) (xs:List Int) (p:PUnit×PUnit×List Int):Option (PUnit×PUnit×List Int):=
 foldF (R:=R) (X:=PayL R.T intEl) 3 (wrR E (subO Try.f45.body [1,0,1,0])) (⟨[(2,TV.ref 2 0)],[]⟩:MS R.T) (getN slices_AppendSeq_int_int_2_a.loops 3).sh (getN slices_AppendSeq_int_int_2_a.loops 3).outs (rndM E R n true (regs57 n) (its19 n) slices_AppendSeq_int_int_2_a (subO Try.f45.body [1,0,1,0]) intEl) xs p
theorem slices_AppendSeq_int_int_2_R3_0 (n:Nat) (x3:List Int):slices_AppendSeq_int_int_2_R3 n [] ((),((),x3))=
 some (((),((),x3))):=by kernel_rfl
theorem slices_AppendSeq_int_int_2_R3_s (n:Nat) (x4:Int) (xs:List Int) (x5:List Int):slices_AppendSeq_int_int_2_R3 n (x4::xs) ((),((),x5))=
 bif roomOK (x5.length+([x4].length)) 8 then
  slices_AppendSeq_int_int_2_R3 n xs (((),((),x5++[x4])))
 else
  none:=by kernel_rfl
theorem slices_AppendSeq_int_int_2_eq (n:Nat) (x1:List Int):slices_AppendSeq_int_int_2 n (((),((),x1))) (())=
 Option.bind (α:=PUnit×PUnit×List Int) (
  (valF x1).bind fun (r2:List Int)=>
  slices_AppendSeq_int_int_2_R3 n r2 (((),((),[])))) fun (r6:PUnit×PUnit×List Int)=>
 some ((r6.2.2,())):=by kernel_rfl
theorem slices_Collect_int_2_eq (n:Nat) (x1:List Int):slices_Collect_int_2 n (((),x1)) (())=
 (slices_AppendSeq_int_int_2 n (((),((),x1))) (())).bind fun (r2:(List Int)×PUnit)=>
 some ((r2.1,())):=by kernel_rfl
theorem cmp_Less_int_eq (n:Nat) (x1:Int) (x2:Int):cmp_Less_int n (x1,x2)=
 (cmp_isNaN_int n x1).bind fun (r3:Bool)=>
 (whenO r3 (cmp_isNaN_int n x2) false).bind fun (r4:Bool)=>
 some (bif bif r3 then !r4 else false then true else decide (x1<x2)):=by kernel_rfl
noncomputable def slices_insertionSortOrdered_int_L4 (n:Nat) (x1:Int) (x2:Int) (x4:Int) (m:Nat) (p:Int×List Int):Option (PUnit×List Int):=
 loopF (R:=R) 4 (wrC E ((subO Try.f84.body [1,0,0,1,0,0,1,0,0]).getD .skip)) (⟨[(0,TV.vw 1000000 (Ty.int IntKind.i64)),(1,TV.int IntKind.i64 x1),(2,TV.int IntKind.i64 x2),(6,TV.int IntKind.i64 x4)],[]⟩:MS R.T) (getN slices_insertionSortOrdered_int_a.loops 4).sh (getN slices_insertionSortOrdered_int_a.loops 4).outs (fun st k=>codeM E R n false (regs58 n) (its21 n) slices_insertionSortOrdered_int_a ((subO Try.f84.body [1,0,0,1,0,0,1,0,0]).getD .skip) st k) m p
noncomputable def slices_insertionSortOrdered_int_L1 (n:Nat) (x1:Int) (x2:Int) (m:Nat) (p:Int×List Int):Option (PUnit×List Int):=
 loopF (R:=R) 1 (wrC E ((subO Try.f84.body [1,0,0]).getD .skip)) (⟨[(0,TV.vw 1000000 (Ty.int IntKind.i64)),(1,TV.int IntKind.i64 x1),(2,TV.int IntKind.i64 x2)],[]⟩:MS R.T) (getN slices_insertionSortOrdered_int_a.loops 1).sh (getN slices_insertionSortOrdered_int_a.loops 1).outs (fun st k=>codeM E R n false (regs58 n) (its21 n) slices_insertionSortOrdered_int_a ((subO Try.f84.body [1,0,0]).getD .skip) st k) m p
theorem slices_insertionSortOrdered_int_eq (n:Nat) (x1:Int) (x2:Int) (x3:List Int):slices_insertionSortOrdered_int n (((),(x1,x2))) (x3)=
 (slices_insertionSortOrdered_int_L1 n x1 x2 n ((IntKind.wrap IntKind.i64 (x1+(1:Int)),x3))).bind fun (r16:PUnit×List Int)=>
 some (((),r16.2)):=by kernel_rfl
noncomputable def slices_siftDownOrdered_int_L1 (n:Nat) (x2:Int) (x3:Int) (m:Nat) (p:Int×List Int):Option ((PUnit×List Int)⊕(PUnit×List Int)):=
 loopF (R:=R) 1 (wrC E ((subO Try.f103.body [1,0,0]).getD .skip)) (⟨[(0,TV.vw 1000000 (Ty.int IntKind.i64)),(2,TV.int IntKind.i64 x2),(3,TV.int IntKind.i64 x3)],[]⟩:MS R.T) (getN slices_siftDownOrdered_int_a.loops 1).sh (getN slices_siftDownOrdered_int_a.loops 1).outs (fun st k=>codeM E R n false (regs58 n) (its22 n) slices_siftDownOrdered_int_a ((subO Try.f103.body [1,0,0]).getD .skip) st k) m p
noncomputable def slices_heapSortOrdered_int_L4 (n:Nat) (x1:Int) (x2:Int) (m:Nat) (p:Int×List Int):Option (PUnit×List Int):=
 loopF (R:=R) 4 (wrC E ((subO Try.f85.body [1,1,1,0,1,0,0]).getD .skip)) (⟨[(0,TV.vw 1000000 (Ty.int IntKind.i64)),(6,TV.int IntKind.i64 x1),(7,TV.int IntKind.i64 (0:Int)),(8,TV.int IntKind.i64 (IntKind.wrap IntKind.i64 (x2-x1)))],[]⟩:MS R.T) (getN slices_heapSortOrdered_int_a.loops 4).sh (getN slices_heapSortOrdered_int_a.loops 4).outs (fun st k=>codeM E R n false (regs58 n) (its23 n) slices_heapSortOrdered_int_a ((subO Try.f85.body [1,1,1,0,1,0,0]).getD .skip) st k) m p
noncomputable def slices_heapSortOrdered_int_L8 (n:Nat) (x1:Int) (m:Nat) (p:Int×List Int):Option (PUnit×List Int):=
 loopF (R:=R) 8 (wrC E ((subO Try.f85.body [1,1,1,1,1,0,0]).getD .skip)) (⟨[(0,TV.vw 1000000 (Ty.int IntKind.i64)),(6,TV.int IntKind.i64 x1),(7,TV.int IntKind.i64 (0:Int))],[]⟩:MS R.T) (getN slices_heapSortOrdered_int_a.loops 8).sh (getN slices_heapSortOrdered_int_a.loops 8).outs (fun st k=>codeM E R n false (regs58 n) (its23 n) slices_heapSortOrdered_int_a ((subO Try.f85.body [1,1,1,1,1,0,0]).getD .skip) st k) m p
noncomputable def slices_breakPatternsOrdered_int_L5 (n:Nat) (x1:Int) (x2:Int) (r4:Int) (m:Nat) (p:Int×Int×List Int):Option (PUnit×List Int):=
 loopF (R:=R) 5 (wrC E ((subO Try.f86.body [1,1,0,1,1,1,0,0]).getD .skip)) (⟨[(0,TV.vw 1000000 (Ty.int IntKind.i64)),(1,TV.int IntKind.i64 x1),(6,TV.int IntKind.i64 (IntKind.wrap IntKind.i64 (x2-x1))),(7,TV.ref 7 0),(8,TV.int IntKind.u64 r4)],[]⟩:MS R.T) (getN slices_breakPatternsOrdered_int_a.loops 5).sh (getN slices_breakPatternsOrdered_int_a.loops 5).outs (fun st k=>codeM E R n false (regs58 n) (its24 n) slices_breakPatternsOrdered_int_a ((subO Try.f86.body [1,1,0,1,1,1,0,0]).getD .skip) st k) m p
noncomputable def slices_reverseRangeOrdered_int_L2 (n:Nat) (m:Nat) (p:(Int×Int)×List Int):Option (PUnit×List Int):=
 loopF (R:=R) 2 (wrC E ((subO Try.f88.body [1,1,0,0]).getD .skip)) (⟨[(0,TV.vw 1000000 (Ty.int IntKind.i64))],[]⟩:MS R.T) (getN slices_reverseRangeOrdered_int_a.loops 2).sh (getN slices_reverseRangeOrdered_int_a.loops 2).outs (fun st k=>codeM E R n false (regs59 n) (its28 n) slices_reverseRangeOrdered_int_a ((subO Try.f88.body [1,1,0,0]).getD .skip) st k) m p
theorem slices_reverseRangeOrdered_int_eq (n:Nat) (x1:Int) (x2:Int) (x3:List Int):slices_reverseRangeOrdered_int n (((),(x1,x2))) (x3)=
 (slices_reverseRangeOrdered_int_L2 n n (((x1,IntKind.wrap IntKind.i64 (x2-(1:Int))),x3))).bind fun (r11:PUnit×List Int)=>
 some (((),r11.2)):=by kernel_rfl
noncomputable def slices_partialInsertionSortOrdered_int_L5 (n:Nat) (x1:Int) (x2:Int) (x5:Int) (x6:List Int) (m:Nat) (p:Int):Option (Int):=
 loopF (R:=R) 5 (wrC E ((subO Try.f89.body [1,1,0,1,0,0,1,0,0,0,0,0]).getD .skip)) (⟨[(0,TV.vw 1000000 (Ty.int IntKind.i64)),(1,TV.int IntKind.i64 x1),(2,TV.int IntKind.i64 x2),(8,TV.int IntKind.i64 x5)],[(1000000,Ob.ro (Ob.arr (Ty.int IntKind.i64) x6))]⟩:MS R.T) (getN slices_partialInsertionSortOrdered_int_a.loops 5).sh (getN slices_partialInsertionSortOrdered_int_a.loops 5).outs (fun st k=>codeM E R n false (regs59 n) (its29 n) slices_partialInsertionSortOrdered_int_a ((subO Try.f89.body [1,1,0,1,0,0,1,0,0,0,0,0]).getD .skip) st k) m p
noncomputable def slices_partialInsertionSortOrdered_int_L14 (n:Nat) (x1:Int) (x2:Int) (x5:Int) (r11:Int) (m:Nat) (p:Int×List Int):Option (PUnit×List Int):=
 loopF (R:=R) 14 (wrC E ((subO Try.f89.body [1,1,0,1,0,0,1,0,0,1,1,1,1,0,1,0,1,0,0]).getD .skip)) (⟨[(0,TV.vw 1000000 (Ty.int IntKind.i64)),(1,TV.int IntKind.i64 x1),(2,TV.int IntKind.i64 x2),(7,TV.int IntKind.i64 r11),(8,TV.int IntKind.i64 x5)],[]⟩:MS R.T) (getN slices_partialInsertionSortOrdered_int_a.loops 14).sh (getN slices_partialInsertionSortOrdered_int_a.loops 14).outs (fun st k=>codeM E R n false (regs59 n) (its29 n) slices_partialInsertionSortOrdered_int_a ((subO Try.f89.body [1,1,0,1,0,0,1,0,0,1,1,1,1,0,1,0,1,0,0]).getD .skip) st k) m p
noncomputable def slices_partialInsertionSortOrdered_int_L20 (n:Nat) (x1:Int) (x2:Int) (x5:Int) (r11:Int) (m:Nat) (p:Int×List Int):Option (PUnit×List Int):=
 loopF (R:=R) 20 (wrC E ((subO Try.f89.body [1,1,0,1,0,0,1,0,0,1,1,1,1,1,1,0,1,0,0]).getD .skip)) (⟨[(0,TV.vw 1000000 (Ty.int IntKind.i64)),(1,TV.int IntKind.i64 x1),(2,TV.int IntKind.i64 x2),(7,TV.int IntKind.i64 r11),(8,TV.int IntKind.i64 x5)],[]⟩:MS R.T) (getN slices_partialInsertionSortOrdered_int_a.loops 20).sh (getN slices_partialInsertionSortOrdered_int_a.loops 20).outs (fun st k=>codeM E R n false (regs59 n) (its29 n) slices_partialInsertionSortOrdered_int_a ((subO Try.f89.body [1,1,0,1,0,0,1,0,0,1,1,1,1,1,1,0,1,0,0]).getD .skip) st k) m p
noncomputable def slices_partialInsertionSortOrdered_int_L3 (n:Nat) (x1:Int) (x2:Int) (m:Nat) (p:(Int×Int)×List Int):Option ((PUnit×List Int)⊕(Bool×List Int)):=
 loopF (R:=R) 3 (wrC E ((subO Try.f89.body [1,1,0,1,0,0]).getD .skip)) (⟨[(0,TV.vw 1000000 (Ty.int IntKind.i64)),(1,TV.int IntKind.i64 x1),(2,TV.int IntKind.i64 x2)],[]⟩:MS R.T) (getN slices_partialInsertionSortOrdered_int_a.loops 3).sh (getN slices_partialInsertionSortOrdered_int_a.loops 3).outs (fun st k=>codeM E R n false (regs59 n) (its29 n) slices_partialInsertionSortOrdered_int_a ((subO Try.f89.body [1,1,0,1,0,0]).getD .skip) st k) m p
noncomputable def slices_partitionEqualOrdered_int_L3 (n:Nat) (x1:Int) (x10:Int) (x11:List Int) (m:Nat) (p:Int):Option (Int):=
 loopF (R:=R) 3 (wrC E ((subO Try.f91.body [1,1,1,0,0,0,0,0,0,0]).getD .skip)) (⟨[(0,TV.vw 1000000 (Ty.int IntKind.i64)),(1,TV.int IntKind.i64 x1),(10,TV.int IntKind.i64 x10)],[(1000000,Ob.ro (Ob.arr (Ty.int IntKind.i64) x11))]⟩:MS R.T) (getN slices_partitionEqualOrdered_int_a.loops 3).sh (getN slices_partitionEqualOrdered_int_a.loops 3).outs (fun st k=>codeM E R n false (regs59 n) (its30 n) slices_partitionEqualOrdered_int_a ((subO Try.f91.body [1,1,1,0,0,0,0,0,0,0]).getD .skip) st k) m p
noncomputable def slices_partitionEqualOrdered_int_L5 (n:Nat) (x1:Int) (x11:List Int) (r16:Int) (m:Nat) (p:Int):Option (Int):=
 loopF (R:=R) 5 (wrC E ((subO Try.f91.body [1,1,1,0,0,0,0,1,0,0,0]).getD .skip)) (⟨[(0,TV.vw 1000000 (Ty.int IntKind.i64)),(1,TV.int IntKind.i64 x1),(9,TV.int IntKind.i64 r16)],[(1000000,Ob.ro (Ob.arr (Ty.int IntKind.i64) x11))]⟩:MS R.T) (getN slices_partitionEqualOrdered_int_a.loops 5).sh (getN slices_partitionEqualOrdered_int_a.loops 5).outs (fun st k=>codeM E R n false (regs59 n) (its30 n) slices_partitionEqualOrdered_int_a ((subO Try.f91.body [1,1,1,0,0,0,0,1,0,0,0]).getD .skip) st k) m p
noncomputable def slices_partitionEqualOrdered_int_L503 (n:Nat) (x1:Int) (m:Nat) (p:(Int×Int)×List Int):Option (Int×List Int):=
 loopF (R:=R) 503 (wrC E ((subO Try.f91.body [1,1,1,0,0,0]).getD .skip)) (⟨[(0,TV.vw 1000000 (Ty.int IntKind.i64)),(1,TV.int IntKind.i64 x1)],[]⟩:MS R.T) (getN slices_partitionEqualOrdered_int_a.loops 503).sh (getN slices_partitionEqualOrdered_int_a.loops 503).outs (fun st k=>codeM E R n false (regs59 n) (its30 n) slices_partitionEqualOrdered_int_a ((subO Try.f91.body [1,1,1,0,0,0]).getD .skip) st k) m p
noncomputable def slices_partitionOrdered_int_L3 (n:Nat) (x1:Int) (x2:Int) (x3:Int) (x4:List Int) (r5:Int) (r6:Int) (m:Nat) (p:Int):Option (Int):=
 loopF (R:=R) 3 (wrC E ((subO Try.f92.body [1,1,1,0,0,0]).getD .skip)) (⟨[(0,TV.vw 1000000 (Ty.int IntKind.i64)),(1,TV.int IntKind.i64 x1),(11,TV.int IntKind.i64 (IntKind.wrap IntKind.i64 (x2-(1:Int))))],[(1000000,Ob.ro (Ob.arr (Ty.int IntKind.i64) (setL (setL x4 x1 r5) x3 r6)))]⟩:MS R.T) (getN slices_partitionOrdered_int_a.loops 3).sh (getN slices_partitionOrdered_int_a.loops 3).outs (fun st k=>codeM E R n false (regs59 n) (its31 n) slices_partitionOrdered_int_a ((subO Try.f92.body [1,1,1,0,0,0]).getD .skip) st k) m p
noncomputable def slices_partitionOrdered_int_L5 (n:Nat) (x1:Int) (x3:Int) (x4:List Int) (r5:Int) (r6:Int) (r13:Int) (m:Nat) (p:Int):Option (Int):=
 loopF (R:=R) 5 (wrC E ((subO Try.f92.body [1,1,1,1,0,0,0]).getD .skip)) (⟨[(0,TV.vw 1000000 (Ty.int IntKind.i64)),(1,TV.int IntKind.i64 x1),(10,TV.int IntKind.i64 r13)],[(1000000,Ob.ro (Ob.arr (Ty.int IntKind.i64) (setL (setL x4 x1 r5) x3 r6)))]⟩:MS R.T) (getN slices_partitionOrdered_int_a.loops 5).sh (getN slices_partitionOrdered_int_a.loops 5).outs (fun st k=>codeM E R n false (regs59 n) (its31 n) slices_partitionOrdered_int_a ((subO Try.f92.body [1,1,1,1,0,0,0]).getD .skip) st k) m p
noncomputable def slices_partitionOrdered_int_L13 (n:Nat) (x1:Int) (x28:Int) (x29:List Int) (m:Nat) (p:Int):Option (Int):=
 loopF (R:=R) 13 (wrC E ((subO Try.f92.body [1,1,1,1,1,1,1,1,1,0,0,0,0,0,0,0]).getD .skip)) (⟨[(0,TV.vw 1000000 (Ty.int IntKind.i64)),(1,TV.int IntKind.i64 x1),(11,TV.int IntKind.i64 x28)],[(1000000,Ob.ro (Ob.arr (Ty.int IntKind.i64) x29))]⟩:MS R.T) (getN slices_partitionOrdered_int_a.loops 13).sh (getN slices_partitionOrdered_int_a.loops 13).outs (fun st k=>codeM E R n false (regs59 n) (its31 n) slices_partitionOrdered_int_a ((subO Try.f92.body [1,1,1,1,1,1,1,1,1,0,0,0,0,0,0,0]).getD .skip) st k) m p
noncomputable def slices_partitionOrdered_int_L15 (n:Nat) (x1:Int) (x29:List Int) (r34:Int) (m:Nat) (p:Int):Option (Int):=
 loopF (R:=R) 15 (wrC E ((subO Try.f92.body [1,1,1,1,1,1,1,1,1,0,0,0,0,1,0,0,0]).getD .skip)) (⟨[(0,TV.vw 1000000 (Ty.int IntKind.i64)),(1,TV.int IntKind.i64 x1),(10,TV.int IntKind.i64 r34)],[(1000000,Ob.ro (Ob.arr (Ty.int IntKind.i64) x29))]⟩:MS R.T) (getN slices_partitionOrdered_int_a.loops 15).sh (getN slices_partitionOrdered_int_a.loops 15).outs (fun st k=>codeM E R n false (regs59 n) (its31 n) slices_partitionOrdered_int_a ((subO Try.f92.body [1,1,1,1,1,1,1,1,1,0,0,0,0,1,0,0,0]).getD .skip) st k) m p
noncomputable def slices_partitionOrdered_int_L513 (n:Nat) (x1:Int) (m:Nat) (p:(Int×Int)×List Int):Option (Int×List Int):=
 loopF (R:=R) 513 (wrC E ((subO Try.f92.body [1,1,1,1,1,1,1,1,1,0,0,0]).getD .skip)) (⟨[(0,TV.vw 1000000 (Ty.int IntKind.i64)),(1,TV.int IntKind.i64 x1)],[]⟩:MS R.T) (getN slices_partitionOrdered_int_a.loops 513).sh (getN slices_partitionOrdered_int_a.loops 513).outs (fun st k=>codeM E R n false (regs59 n) (its31 n) slices_partitionOrdered_int_a ((subO Try.f92.body [1,1,1,1,1,1,1,1,1,0,0,0]).getD .skip) st k) m p
noncomputable def slices_pdqsortOrdered_int_m_L2 (n:Nat) (g:Nat) (m:Nat) (p:(Int×Int×Int×Bool×Bool)×List Int):Option (PUnit×List Int):=
 loopF (R:=R) 2 (wrC E ((subO Try.f69.body [1,1,0,0]).getD .skip)) (⟨[(0,TV.vw 1000000 (Ty.int IntKind.i64))],[]⟩:MS R.T) (getN slices_pdqsortOrdered_int_a.loops 2).sh (getN slices_pdqsortOrdered_int_a.loops 2).outs (fun st k=>codeM E R n false (regs59 n) (addM 69 (mkM slices_pdqsortOrdered_int_p slices_pdqsortOrdered_int_o slices_pdqsortOrdered_int_r (slices_pdqsortOrdered_int_m n g)) (its32 n)) slices_pdqsortOrdered_int_a ((subO Try.f69.body [1,1,0,0]).getD .skip) st k) m p
theorem slices_Sort_int_int_eq (n:Nat) (x1:List Int):slices_Sort_int_int n (()) (x1)=
 (math_bits_Len n (IntKind.wrap IntKind.u64 (((x1.length:Nat):Int)))).bind fun (r2:Int)=>
 (slices_pdqsortOrdered_int n (((),((0:Int),(((x1.length:Nat):Int),r2)))) x1).bind fun (r3:PUnit×List Int)=>
 some (((),r3.2)):=by kernel_rfl
theorem slices_Sorted_int_eq (n:Nat) (x1:List Int):slices_Sorted_int n ((),x1)=
 (slices_Collect_int_2 n (((),x1)) (())).bind fun (r2:(List Int)×PUnit)=>
 (slices_Sort_int_int n (()) r2.1).bind fun (r3:PUnit×List Int)=>
 some r3.2:=by kernel_rfl
noncomputable def graph_around_L3 (n:Nat) (x1:List Int) (x2:Int) (m:Nat) (p:(List Int)×Int):Option (List Int):=
 loopF (R:=R) 3 (wrC E ((subO Try.f39.body [1,1,0,1,0,0]).getD .skip)) (⟨[(1,TV.int IntKind.i64 x2),(8,TV.lst (T:=R.T) Cp.sh (Ty.int IntKind.i64) x1),(9,TV.int IntKind.i64 (((x1.length:Nat):Int)))],[]⟩:MS R.T) (getN graph_around_a.loops 3).sh (getN graph_around_a.loops 3).outs (fun st k=>codeM E R n false (regs60 n) (its34 n) graph_around_a ((subO Try.f39.body [1,1,0,1,0,0]).getD .skip) st k) m p
theorem graph_around_L3_s (n:Nat) (x1:List Int) (x2:Int) (m:Nat) (x3:List Int) (x4:Int):graph_around_L3 n x1 x2 (m+1) (x3,x4)=
 bif decide (x4< (((x1.length:Nat):Int))) then
  (idxL x1 x4).bind fun (r5:Int)=>
  bif decide (r5≤x2) then
   bif roomOK (x3.length+([x4].length)) 8 then
    graph_around_L3 n x1 x2 m ((x3++[x4],IntKind.wrap IntKind.i64 (x4+(1:Int))))
   else
    none
  else
   graph_around_L3 n x1 x2 m ((x3,IntKind.wrap IntKind.i64 (x4+(1:Int))))
 else
  some x3:=by kernel_rfl
theorem graph_around_eq (n:Nat) (x1:List Int) (x2:Int):graph_around n (x1,x2)=
 (graph_around_L3 n x1 x2 n (([],(0:Int)))).bind fun (r6:List Int)=>
 some r6:=by kernel_rfl
noncomputable def graph_Build_L6 (n:Nat) (x1:Int) (x2:List (List Int)) (x3:Int) (m:Nat) (p:Int×List Hood):Option (PUnit×List Hood):=
 loopF (R:=R) 6 (wrC E ((subO Try.f17.body [1,1,1,1,0,1,0,0]).getD .skip)) (⟨[(1,TV.lst (T:=R.T) Cp.sh (Ty.slice (Ty.int IntKind.i64)) x2),(2,TV.int IntKind.i64 x3),(6,TV.ref 6 0),(8,TV.ref 8 0),(9,TV.ref 9 0),(29,TV.lst (T:=R.T) Cp.sh (Ty.slice (Ty.int IntKind.i64)) x2),(30,TV.int IntKind.i64 (((x2.length:Nat):Int)))],[(6,Ob.ro (Ob.cells [TV.nils])),(8,Ob.ro (Ob.cells [TV.int IntKind.i64 x1,TV.lst (T:=R.T) Cp.sh (Ty.slice (Ty.int IntKind.i64)) x2]))]⟩:MS R.T) (getN graph_Build_a.loops 6).sh (getN graph_Build_a.loops 6).outs (fun st k=>codeM E R n false (regs61 n) (its34 n) graph_Build_a ((subO Try.f17.body [1,1,1,1,0,1,0,0]).getD .skip) st k) m p
theorem graph_Build_L6_s (n:Nat) (x1:Int) (x2:List (List Int)) (x3:Int) (m:Nat) (x5:Int) (x6:List Hood):graph_Build_L6 n x1 x2 x3 (m+1) (x5,x6)=
 bif decide (x5< (((x2.length:Nat):Int))) then
  (idxL x2 x5).bind fun (r7:List Int)=>
  (graph_space_keys n (((⟨x1,x2⟩:graph_space),r7))).bind fun (r8:List Int)=>
  (slices_Values_int_int n r8).bind fun (r9:PUnit×List Int)=>
  (slices_Sorted_int n (((),r9.2))).bind fun (r10:List Int)=>
  (idxL r10 (IntKind.wrap IntKind.i64 ((imin x3 (((x2.length:Nat):Int)))-(1:Int)))).bind fun (r11:Int)=>
  (graph_around n ((r8,r11))).bind fun (r12:List Int)=>
  bif roomOK (x6.length+([(⟨r11,r12⟩:Hood)].length)) 32 then
   graph_Build_L6 n x1 x2 x3 m ((IntKind.wrap IntKind.i64 (x5+(1:Int)),x6++[(⟨r11,r12⟩:Hood)]))
  else
   none
 else
  some (((),x6)):=by kernel_rfl
theorem graph_Build_eq (n:Nat) (x1:Int) (x2:List (List Int)) (x3:Int):graph_Build n (x1,(x2,x3))=
 (graph_space_isRight n ((⟨x1,x2⟩:graph_space))).bind fun (r4:Bool)=>
 bif bif bif !r4 then true else decide (x3< (1:Int)) then true else decide (x3> (4096:Int)) then
  some (((⟨[]⟩:Graph),(1:Int)))
 else
  (graph_Build_L6 n x1 x2 x3 n (((0:Int),[]))).bind fun (r13:PUnit×List Hood)=>
  some (((⟨r13.2⟩:Graph),(0:Int))):=by kernel_rfl
noncomputable def slices_Equal_int_int_L4 (n:Nat) (x1:List Int) (x2:List Int) (m:Nat) (p:Int):Option (PUnit⊕Bool):=
 loopF (R:=R) 4 (wrC E ((subO Try.f40.body [1,1,0,1,0,0]).getD .skip)) (⟨[(0,TV.lst (T:=R.T) Cp.sh (Ty.int IntKind.i64) x1),(1,TV.lst (T:=R.T) Cp.sh (Ty.int IntKind.i64) x2),(12,TV.int IntKind.i64 (((x1.length:Nat):Int)))],[]⟩:MS R.T) (getN slices_Equal_int_int_a.loops 4).sh (getN slices_Equal_int_int_a.loops 4).outs (fun st k=>codeM E R n false (regs62 n) (its34 n) slices_Equal_int_int_a ((subO Try.f40.body [1,1,0,1,0,0]).getD .skip) st k) m p
theorem slices_Equal_int_int_L4_s (n:Nat) (x1:List Int) (x2:List Int) (m:Nat) (x3:Int):slices_Equal_int_int_L4 n x1 x2 (m+1) x3=
 bif decide (x3< (((x1.length:Nat):Int))) then
  (idxL x1 x3).bind fun (r4:Int)=>
  (idxL x2 x3).bind fun (r5:Int)=>
  bif r4 !=r5 then
   some (.inr false)
  else
   slices_Equal_int_int_L4 n x1 x2 m (IntKind.wrap IntKind.i64 (x3+(1:Int)))
 else
  some (.inl (())):=by kernel_rfl
theorem slices_Equal_int_int_eq (n:Nat) (x1:List Int) (x2:List Int):slices_Equal_int_int n (x1,x2)=
 bif (((x1.length:Nat):Int)) !=(((x2.length:Nat):Int)) then
  some false
 else
  (slices_Equal_int_int_L4 n x1 x2 n (0:Int)).bind fun (r6:PUnit⊕Bool)=>
  Sum.elim (fun (q7:PUnit)=>
   some true)
   (fun (q8:Bool)=>
    some q8) r6:=by kernel_rfl
noncomputable def graph_Check_L5 (n:Nat) (x1:Int) (x2:List (List Int)) (x3:Graph) (m:Nat) (p:Int):Option (PUnit⊕(Int×Int)):=
 loopF (R:=R) 5 (wrC E ((subO Try.f18.body [1,1,1,0,1,0,0]).getD .skip)) (⟨[(1,TV.lst (T:=R.T) Cp.sh (Ty.slice (Ty.int IntKind.i64)) x2),(8,TV.ref 8 0),(25,TV.lst (T:=R.T) Cp.sh (Ty.st 0) x3.Hoods),(26,TV.int IntKind.i64 (((x3.Hoods.length:Nat):Int)))],[(8,Ob.ro (Ob.cells [TV.int IntKind.i64 x1,TV.lst (T:=R.T) Cp.sh (Ty.slice (Ty.int IntKind.i64)) x2]))]⟩:MS R.T) (getN graph_Check_a.loops 5).sh (getN graph_Check_a.loops 5).outs (fun st k=>codeM E R n false (regs63 n) (its34 n) graph_Check_a ((subO Try.f18.body [1,1,1,0,1,0,0]).getD .skip) st k) m p
theorem graph_Check_L5_s (n:Nat) (x1:Int) (x2:List (List Int)) (x3:Graph) (m:Nat) (x6:Int):graph_Check_L5 n x1 x2 x3 (m+1) x6=
 bif decide (x6< (((x3.Hoods.length:Nat):Int))) then
  (idxL x3.Hoods x6).bind fun (r7:Hood)=>
  (idxL x2 x6).bind fun (r8:List Int)=>
  (graph_space_keys n (((⟨x1,x2⟩:graph_space),r8))).bind fun (r9:List Int)=>
  (graph_around n ((r9,r7.Radius))).bind fun (r10:List Int)=>
  (slices_Equal_int_int n ((r7.Slots,r10))).bind fun (r11:Bool)=>
  bif !r11 then
   some (.inr ((x6,(0:Int))))
  else
   graph_Check_L5 n x1 x2 x3 m (IntKind.wrap IntKind.i64 (x6+(1:Int)))
 else
  some (.inl (())):=by kernel_rfl
theorem graph_Check_eq (n:Nat) (x1:Int) (x2:List (List Int)) (x3:Graph):graph_Check n (x1,(x2,x3))=
 (graph_space_isRight n ((⟨x1,x2⟩:graph_space))).bind fun (r4:Bool)=>
 (whenO (!(!r4)) (graph_Valid n ((((x2.length:Nat):Int),x3))) false).bind fun (r5:Bool)=>
 bif bif !r4 then true else !r5 then
  some (((0:Int),(1:Int)))
 else
  (graph_Check_L5 n x1 x2 x3 n (0:Int)).bind fun (r12:PUnit⊕(Int×Int))=>
  Sum.elim (fun (q13:PUnit)=>
   some (((-1:Int),(0:Int))))
   (fun (q14:Int×Int)=>
    some ((q14.1,q14.2))) r12:=by kernel_rfl
noncomputable def law27_GraphBuildIsExact_L14 (n:Nat) (x1:Int) (x2:List (List Int)) (x3:Int) (r8:Graph×Int) (x11:Int) (r12:Hood) (m:Nat) (p:Int×Int):Option (Int):=
 loopF (R:=R) 14 (wrC E ((subO Try.f4.body [1,1,1,1,1,1,0,1,0,0,1,0,0,1,1,0,1,0,0]).getD .skip)) (⟨[(0,TV.int IntKind.i64 x1),(1,TV.lst (T:=R.T) Cp.sh (Ty.slice (Ty.int IntKind.i64)) x2),(7,TV.int IntKind.i64 (IntKind.wrap IntKind.i64 ((1:Int)+(IntKind.wrap IntKind.i64 x3)))),(8,TV.ref 8 0),(12,TV.int IntKind.i64 x11),(13,TV.ref 13 0)],[(8,Ob.ro (Ob.ro (Ob.cells [TV.lst (T:=R.T) Cp.sh (Ty.st 0) r8.1.Hoods]))),(13,Ob.ro (Ob.cells [TV.int IntKind.i64 r12.Radius,TV.lst (T:=R.T) Cp.sh (Ty.int IntKind.i64) r12.Slots]))]⟩:MS R.T) (getN law27_GraphBuildIsExact_a.loops 14).sh (getN law27_GraphBuildIsExact_a.loops 14).outs (fun st k=>codeM E R n false (regs64 n) (its34 n) law27_GraphBuildIsExact_a ((subO Try.f4.body [1,1,1,1,1,1,0,1,0,0,1,0,0,1,1,0,1,0,0]).getD .skip) st k) m p
noncomputable def law27_GraphBuildIsExact_L9 (n:Nat) (x1:Int) (x2:List (List Int)) (x3:Int) (r8:Graph×Int) (m:Nat) (p:Int):Option (PUnit⊕Bool):=
 loopF (R:=R) 9 (wrC E ((subO Try.f4.body [1,1,1,1,1,1,0,1,0,0]).getD .skip)) (⟨[(0,TV.int IntKind.i64 x1),(1,TV.lst (T:=R.T) Cp.sh (Ty.slice (Ty.int IntKind.i64)) x2),(7,TV.int IntKind.i64 (IntKind.wrap IntKind.i64 ((1:Int)+(IntKind.wrap IntKind.i64 x3)))),(8,TV.ref 8 0)],[(8,Ob.ro (Ob.cells [TV.lst (T:=R.T) Cp.sh (Ty.st 0) r8.1.Hoods]))]⟩:MS R.T) (getN law27_GraphBuildIsExact_a.loops 9).sh (getN law27_GraphBuildIsExact_a.loops 9).outs (fun st k=>codeM E R n false (regs64 n) (its34 n) law27_GraphBuildIsExact_a ((subO Try.f4.body [1,1,1,1,1,1,0,1,0,0]).getD .skip) st k) m p
theorem law27_GraphBuildIsExact_L14_s (n:Nat) (x1:Int) (x2:List (List Int)) (x3:Int) (r8:Graph×Int) (x11:Int) (r12:Hood) (m:Nat) (x13:Int) (x14:Int):law27_GraphBuildIsExact_L14 n x1 x2 x3 r8 x11 r12 (m+1) (x13,x14)=
 bif decide (x14< (((x2.length:Nat):Int))) then
  (idxL x2 x11).bind fun (r15:List Int)=>
  (idxL x2 x14).bind fun (r16:List Int)=>
  (vector_Key n ((x1,(r15,r16)))).bind fun (r17:Int)=>
  bif decide (r17<r12.Radius) then
   law27_GraphBuildIsExact_L14 n x1 x2 x3 r8 x11 r12 m ((IntKind.wrap IntKind.i64 (x13+(1:Int)),IntKind.wrap IntKind.i64 (x14+(1:Int))))
  else
   law27_GraphBuildIsExact_L14 n x1 x2 x3 r8 x11 r12 m ((x13,IntKind.wrap IntKind.i64 (x14+(1:Int))))
 else
  some x13:=by kernel_rfl
theorem law27_GraphBuildIsExact_L9_s (n:Nat) (x1:Int) (x2:List (List Int)) (x3:Int) (r8:Graph×Int) (m:Nat) (x11:Int):law27_GraphBuildIsExact_L9 n x1 x2 x3 r8 (m+1) x11=
 bif decide (x11< (((x2.length:Nat):Int))) then
  (idxL r8.1.Hoods x11).bind fun (r12:Hood)=>
  (law27_GraphBuildIsExact_L14 n x1 x2 x3 r8 x11 r12 n (((0:Int),(0:Int)))).bind fun (r18:Int)=>
  bif bif decide ((((r12.Slots.length:Nat):Int))< (imin (IntKind.wrap IntKind.i64 ((1:Int)+(IntKind.wrap IntKind.i64 x3))) (((x2.length:Nat):Int)))) then true else decide (r18≥(imin (IntKind.wrap IntKind.i64 ((1:Int)+(IntKind.wrap IntKind.i64 x3))) (((x2.length:Nat):Int)))) then
   some (.inr false)
  else
   law27_GraphBuildIsExact_L9 n x1 x2 x3 r8 m (IntKind.wrap IntKind.i64 (x11+(1:Int)))
 else
  some (.inl (())):=by kernel_rfl
theorem law27_GraphBuildIsExact_eq (n:Nat) (x1:Int) (x2:List (List Int)) (x3:Int):law27_GraphBuildIsExact n (x1,(x2,x3))=
 (ref09_Few n ((x2,(25:Int)))).bind fun (r4:Bool)=>
 (whenO (!(!r4)) (ref09_Metric n x1) false).bind fun (r5:Bool)=>
 (whenO (!(bif !r4 then true else !r5)) (ref09_Fit n x2) false).bind fun (r6:Bool)=>
 bif bif bif !r4 then true else !r5 then true else !r6 then
  (law27_sanity n (())).bind fun (r7:Bool)=>
  some r7
 else
  (graph_Build n ((x1,(x2,IntKind.wrap IntKind.i64 ((1:Int)+(IntKind.wrap IntKind.i64 x3)))))).bind fun (r8:Graph×Int)=>
  (graph_Check n ((x1,(x2,r8.1)))).bind fun (r9:Int×Int)=>
  (whenO (!(bif bif r8.2 !=(0:Int) then true else r9.2 !=(0:Int) then true else r9.1 !=(-1:Int))) (graph_Valid n ((((x2.length:Nat):Int),r8.1))) false).bind fun (r10:Bool)=>
  bif bif bif bif bif r8.2 !=(0:Int) then true else r9.2 !=(0:Int) then true else r9.1 !=(-1:Int) then true else !r10 then true else (((r8.1.Hoods.length:Nat):Int)) !=(((x2.length:Nat):Int)) then
   some false
  else
   (law27_GraphBuildIsExact_L9 n x1 x2 x3 r8 n (0:Int)).bind fun (r19:PUnit⊕Bool)=>
   Sum.elim (fun (q20:PUnit)=>
    (law27_sanity n (())).bind fun (r22:Bool)=>
    some r22)
    (fun (q21:Bool)=>
     some q21) r19:=by kernel_rfl
attribute [irreducible] ref09_Few_L4 ref04_Valid_L2 ref09_Fit_L2 vector_fold_bool_L2 slices_IndexFunc_int_intx_L2 slices_Index_int_int_L2 graph_Valid_L9 graph_Valid_L4 vector_Sub_L3 vector_fold_int_L2 vector_fold_int_2_L2 vector_fold_int_3_L2 graph_space_keys_L3 slices_AppendSeq_int_int_2_R3 slices_insertionSortOrdered_int_L4 slices_insertionSortOrdered_int_L1 slices_siftDownOrdered_int_L1 slices_heapSortOrdered_int_L4 slices_heapSortOrdered_int_L8 slices_breakPatternsOrdered_int_L5 slices_reverseRangeOrdered_int_L2 slices_partialInsertionSortOrdered_int_L5 slices_partialInsertionSortOrdered_int_L14 slices_partialInsertionSortOrdered_int_L20 slices_partialInsertionSortOrdered_int_L3 slices_partitionEqualOrdered_int_L3 slices_partitionEqualOrdered_int_L5 slices_partitionEqualOrdered_int_L503 slices_partitionOrdered_int_L3 slices_partitionOrdered_int_L5 slices_partitionOrdered_int_L13 slices_partitionOrdered_int_L15 slices_partitionOrdered_int_L513 slices_pdqsortOrdered_int_m_L2 graph_around_L3 graph_Build_L6 slices_Equal_int_int_L4 graph_Check_L5 law27_GraphBuildIsExact_L14 law27_GraphBuildIsExact_L9
end Sh
