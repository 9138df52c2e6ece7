/- Part of the proof of a law. -/
import Derived.Test.YtgdialomgeijcaaGreatF3422
set_option linter.all false
set_option linter.unusedSimpArgs false
set_option linter.unusedSectionVars false
open Go Go.Proofs Aq
namespace Sh
set_option maxRecDepth 100000
set_option linter.unusedVariables false
def iy (l:List (Nat×Note)) (k:Nat):Note:=match look l k with
 |some q=>q
 |none=>⟨[],[],⟨[],[]⟩,[]⟩
noncomputable def wm (n:Nat) (g:Nat) (x1:Pred) (m:Nat) (p:(List Pred)×Int):Option (List Pred):=
 kX (R:=R) 3 (aN ((fZ Tryz.f39.body [1,1,0,1,0,0]).getD .skip)) (⟨[(1,TV.ref 1 0)],[(1,Ob.ro (Ob.cells [TV.int IntKind.i64 x1.Op,TV.str x1.Name,TV.int IntKind.i64 x1.N,TV.int IntKind.i64 x1.M,TV.str x1.S,TV.aj (T:=R.T) Cp.sh (Ty.st 0) x1.aG]))]⟩:MS R.T) (iy DU.loops 3).sh (iy DU.loops 3).outs (fun st k=>dh E R n false (DV n (nX n g)) cB DU ((fZ Tryz.f39.body [1,1,0,1,0,0]).getD .skip) st k) m p
theorem V3 (n:Nat) (g:Nat) (x1:Pred) (m:Nat) (x2:List Pred) (x3:Int):wm n g x1 (m+1) (x2,x3)=
 bif bif decide (x3< (((x1.aG.length:Nat):Int))) then decide ((((x2.length:Nat):Int))< (1000:Int)) else false then
  (dX x1.aG x3).bind fun (r4:Pred)=>
  (AY n g r4.re).bind fun (r5:List Pred)=>
  bif iY (x2.length+r5.length) 80 then
   wm n g x1 m ((x2++r5,IntKind.wrap IntKind.i64 (x3+(1:Int))))
  else
   none
 else
  some x2:=by kernel_rfl
theorem agk (n g:Nat) (x1:Pred):AY n (g+1) x1=
 (wm n g x1 n (([x1.re],(0:Int)))).bind fun (r6:List Pred)=>
 bif decide ((((r6.length:Nat):Int))> (1000:Int)) then
  bif jw (1000:Int) r6.length then
   some (List.take (Int.toNat (1000:Int)) r6)
  else
   none
 else
  some r6:=by kernel_rfl
theorem agl (n:Nat) (x1:Pred):vV n x1=
 (xZ n x1.re).bind fun (r2:List Pred)=>
 some (((r2.length:Nat):Int)):=by kernel_rfl
noncomputable def wo (n:Nat) (g:Nat) (x1:Pred) (x2:Int) (m:Nat) (p:Int):Option (PUnit⊕Bool):=
 kX (R:=R) 4 (aN ((fZ Tryz.f10.body [1,1,0,1,0,0]).getD .skip)) (⟨[(1,TV.int IntKind.i64 x2),(2,TV.ref 2 0)],[(2,Ob.ro (Ob.cells [TV.int IntKind.i64 x1.Op,TV.str x1.Name,TV.int IntKind.i64 x1.N,TV.int IntKind.i64 x1.M,TV.str x1.S,TV.aj (T:=R.T) Cp.sh (Ty.st 0) x1.aG]))]⟩:MS R.T) (iy DX.loops 4).sh (iy DX.loops 4).outs (fun st k=>dh E R n false (DY n (nZ n g)) cB DX ((fZ Tryz.f10.body [1,1,0,1,0,0]).getD .skip) st k) m p
theorem V4 (n:Nat) (g:Nat) (x1:Pred) (x2:Int) (m:Nat) (x4:Int):wo n g x1 x2 (m+1) x4=
 bif decide (x4< (((x1.aG.length:Nat):Int))) then
  (dX x1.aG x4).bind fun (r5:Pred)=>
  (AZ n g ((r5.re,IntKind.wrap IntKind.i64 (x2-(1:Int))))).bind fun (r6:Bool)=>
  bif !r6 then
   some (.inr false)
  else
   wo n g x1 x2 m (IntKind.wrap IntKind.i64 (x4+(1:Int)))
 else
  some (.inl (())):=by kernel_rfl
theorem agm (n g:Nat) (x1:Pred) (x2:Int):AZ n (g+1) (x1,x2)=
 (Ga (!(decide (x2< (1:Int)))) (vV n x1.re) (0:Int)).bind fun (r3:Int)=>
 bif bif decide (x2< (1:Int)) then true else decide (r3> (100:Int)) then
  some false
 else
  (wo n g x1 x2 n (0:Int)).bind fun (r7:PUnit⊕Bool)=>
  Sum.elim (fun (q8:PUnit)=>
   some true)
   (fun (q9:Bool)=>
    some q9) r7:=by kernel_rfl
theorem agn (n:Nat) (x1:List Attr) (x2:Pred):A8 n (x1,x2)=
 some true:=by kernel_rfl
theorem agp (n:Nat) (x1:Attr) (x2:List UInt8):D8 n (x1,x2)=
 some (x1.Name==x2):=by kernel_rfl
noncomputable def ED (n:Nat) (x1:List Attr) (x2:List UInt8) (m:Nat) (p:Int):Option (PUnit⊕Int):=
 kX (R:=R) 2 (aN ((fZ Tryz.f99.body [1,0,1,0,0]).getD .skip)) (⟨[(0,TV.aj (T:=R.T) Cp.sh (Ty.st 3) x1),(1,TV.fn 100 [] ([TV.aH [TV.str x2] 0])),(7,TV.int IntKind.i64 (((x1.length:Nat):Int)))],[]⟩:MS R.T) (iy Hz.loops 2).sh (iy Hz.loops 2).outs (fun st k=>dh E R n false (Hy n) cB Hz ((fZ Tryz.f99.body [1,0,1,0,0]).getD .skip) st k) m p
theorem V5 (n:Nat) (x1:List Attr) (x2:List UInt8) (m:Nat) (x3:Int):ED n x1 x2 (m+1) x3=
 bif decide (x3< (((x1.length:Nat):Int))) then
  (dX x1 x3).bind fun (r4:Attr)=>
  (D8 n ((r4,x2))).bind fun (r5:Bool)=>
  bif r5 then
   some (.inr x3)
  else
   ED n x1 x2 m (IntKind.wrap IntKind.i64 (x3+(1:Int)))
 else
  some (.inl (())):=by kernel_rfl
theorem agq (n:Nat) (x1:List Attr) (x2:List UInt8):Ea n (x1,((),x2))=
 (ED n x1 x2 n (0:Int)).bind fun (r6:PUnit⊕Int)=>
 Sum.elim (fun (q7:PUnit)=>
  some (-1:Int))
  (fun (q8:Int)=>
   some q8) r6:=by kernel_rfl
theorem agr (n:Nat) (x1:List Attr) (x2:List UInt8):vY n (x1,x2)=
 (Ea n ((x1,((),x2)))).bind fun (r3:Int)=>
 bif decide (r3< (0:Int)) then
  some (((⟨[],(0:Int),(0:Int),[]⟩:Attr),false))
 else
  (dX x1 r3).bind fun (r4:Attr)=>
  some ((r4,true)):=by kernel_rfl
theorem ags (n:Nat) (x1:List Attr) (x2:Pred):A9 n (x1,x2)=
 (vY n ((x1,x2.Name))).bind fun (r3:Attr×Bool)=>
 some r3.2:=by kernel_rfl
theorem agt (n:Nat) (x1:List Attr) (x2:Pred):Ba n (x1,x2)=
 (vY n ((x1,x2.Name))).bind fun (r3:Attr×Bool)=>
 some (bif bif bif r3.2 then r3.1.Kind==(1:Int) else false then decide (r3.1.N≥x2.N) else false then decide (r3.1.N≤x2.M) else false):=by kernel_rfl
theorem agu (n:Nat) (x1:List Attr) (x2:Pred):Bb n (x1,x2)=
 (vY n ((x1,x2.Name))).bind fun (r3:Attr×Bool)=>
 some (bif bif r3.2 then r3.1.Kind==(2:Int) else false then r3.1.S==x2.S else false):=by kernel_rfl
theorem agv (n g:Nat) (x1:List Attr) (x2:Pred):sw n (g+1) (x1,x2)=
 bif x2.Op==(1:Int) then
  (A8 n ((x1,x2.re))).bind fun (r3:Bool)=>
  some r3
 else
  bif x2.Op==(2:Int) then
   (Ei n g ((x1,x2.re))).bind fun (r4:Bool)=>
   some r4
  else
   bif x2.Op==(3:Int) then
    (Bd n g ((x1,x2.re))).bind fun (r5:Bool)=>
    some r5
   else
    bif x2.Op==(4:Int) then
     (El n g ((x1,x2.re))).bind fun (r6:Bool)=>
     some r6
    else
     bif x2.Op==(5:Int) then
      (A9 n ((x1,x2.re))).bind fun (r7:Bool)=>
      some r7
     else
      bif x2.Op==(6:Int) then
       (Ba n ((x1,x2.re))).bind fun (r8:Bool)=>
       some r8
      else
       bif x2.Op==(7:Int) then
        (Bb n ((x1,x2.re))).bind fun (r9:Bool)=>
        some r9
       else
        some false:=by kernel_rfl
noncomputable def EF (n:Nat) (g:Nat) (x1:List Attr) (x2:Pred) (m:Nat) (p:Int):Option (PUnit⊕Bool):=
 kX (R:=R) 2 (aN ((fZ Tryz.f63.body [1,0,1,0,0]).getD .skip)) (⟨[(0,TV.aj (T:=R.T) Cp.sh (Ty.st 3) x1),(8,TV.aj (T:=R.T) Cp.sh (Ty.st 0) x2.aG),(9,TV.int IntKind.i64 (((x2.aG.length:Nat):Int)))],[]⟩:MS R.T) (iy Ef.loops 2).sh (iy Ef.loops 2).outs (fun st k=>dh E R n false (kZ n (bK n g)) cB Ef ((fZ Tryz.f63.body [1,0,1,0,0]).getD .skip) st k) m p
theorem V6 (n:Nat) (g:Nat) (x1:List Attr) (x2:Pred) (m:Nat) (x3:Int):EF n g x1 x2 (m+1) x3=
 bif decide (x3< (((x2.aG.length:Nat):Int))) then
  (dX x2.aG x3).bind fun (r4:Pred)=>
  (sw n g ((x1,r4.re))).bind fun (r5:Bool)=>
  bif !r5 then
   some (.inr false)
  else
   EF n g x1 x2 m (IntKind.wrap IntKind.i64 (x3+(1:Int)))
 else
  some (.inl (())):=by kernel_rfl
theorem agw (n g:Nat) (x1:List Attr) (x2:Pred):Ei n (g+1) (x1,x2)=
 (EF n g x1 x2 n (0:Int)).bind fun (r6:PUnit⊕Bool)=>
 Sum.elim (fun (q7:PUnit)=>
  some true)
  (fun (q8:Bool)=>
   some q8) r6:=by kernel_rfl
theorem V7 (n g:Nat) (x1:List Attr) (x2:Pred):Bd n (g+1) (x1,x2)=
 (Ej n g ((x2.aG,(x1,())))).bind fun (r3:Bool)=>
 some r3:=by kernel_rfl
theorem agx (n g:Nat) (x1:List Pred) (x2:List Attr):Ej n (g+1) (x1,(x2,()))=
 (H8 n g ((x1,(x2,())))).bind fun (r3:Int)=>
 some (decide (r3≥(0:Int))):=by kernel_rfl
noncomputable def EG (n:Nat) (g:Nat) (x1:List Pred) (x2:List Attr) (m:Nat) (p:Int):Option (PUnit⊕Int):=
 kX (R:=R) 2 (aN ((fZ Tryz.f98.body [1,0,1,0,0]).getD .skip)) (⟨[(0,TV.aj (T:=R.T) Cp.sh (Ty.st 0) x1),(1,TV.fn 36 [TV.aj (T:=R.T) Cp.sh (Ty.st 3) x2] []),(7,TV.int IntKind.i64 (((x1.length:Nat):Int)))],[]⟩:MS R.T) (iy Eh.loops 2).sh (iy Eh.loops 2).outs (fun st k=>dh E R n false (kZ n (bK n g)) cB Eh ((fZ Tryz.f98.body [1,0,1,0,0]).getD .skip) st k) m p
theorem V8 (n:Nat) (g:Nat) (x1:List Pred) (x2:List Attr) (m:Nat) (x3:Int):EG n g x1 x2 (m+1) x3=
 bif decide (x3< (((x1.length:Nat):Int))) then
  (dX x1 x3).bind fun (r4:Pred)=>
  (sw n g ((x2,r4.re))).bind fun (r5:Bool)=>
  bif r5 then
   some (.inr x3)
  else
   EG n g x1 x2 m (IntKind.wrap IntKind.i64 (x3+(1:Int)))
 else
  some (.inl (())):=by kernel_rfl
theorem agy (n g:Nat) (x1:List Pred) (x2:List Attr):H8 n (g+1) (x1,(x2,()))=
 (EG n g x1 x2 n (0:Int)).bind fun (r6:PUnit⊕Int)=>
 Sum.elim (fun (q7:PUnit)=>
  some (-1:Int))
  (fun (q8:Int)=>
   some q8) r6:=by kernel_rfl
theorem agz (n g:Nat) (x1:List Attr) (x2:Pred):El n (g+1) (x1,x2)=
 (Bd n g ((x1,x2.re))).bind fun (r3:Bool)=>
 some (!r3):=by kernel_rfl
theorem agA (n:Nat) (x1:Pred) (x2:List Attr):Bf n (x1,x2)=
 (Bc n ((x2,x1.re))).bind fun (r3:Bool)=>
 some r3:=by kernel_rfl
noncomputable def Bn (n:Nat) (x1:List Attr) (x2:List UInt8) (m:Nat) (p:Int×dz):Option ((PUnit×dz)⊕(PUnit×dz)):=
 kX (R:=R) 2 (aN ((fZ Tryz.f37.body [1,0,1,0,0]).getD .skip)) (⟨[(0,TV.aj (T:=R.T) Cp.sh (Ty.st 3) x1),(1,TV.str x2),(4,TV.ref 4 0)],[]⟩:MS R.T) (iy Ib.loops 2).sh (iy Ib.loops 2).outs (fun st k=>dh E R n false (Ia n) cB Ib ((fZ Tryz.f37.body [1,0,1,0,0]).getD .skip) st k) m p
theorem V9 (n:Nat) (x1:List Attr) (x2:List UInt8) (m:Nat) (x3:Int) (x4:dz):Bn n x1 x2 (m+1) (x3,x4)=
 bif decide (x3< (((x1.length:Nat):Int))) then
  (dX x1 x3).bind fun (r5:Attr)=>
  bif r5.Name==x2 then
   (dX x1 x3).bind fun (r6:Attr)=>
   some (.inr (((),(⟨r6,true⟩:dz))))
  else
   Bn n x1 x2 m ((IntKind.wrap IntKind.i64 (x3+(1:Int)),x4))
 else
  some (.inl (((),x4))):=by kernel_rfl
theorem agB (n:Nat) (x1:List Attr) (x2:List UInt8):vZ n (x1,x2)=
 (Bn n x1 x2 n (((0:Int),(⟨(⟨[],(0:Int),(0:Int),[]⟩:Attr),false⟩:dz)))).bind fun (r7:(PUnit×dz)⊕(PUnit×dz))=>
 Sum.elim (fun (q8:PUnit×dz)=>
  some ((⟨(⟨[],(0:Int),(0:Int),[]⟩:Attr),false⟩:dz)))
  (fun (q9:PUnit×dz)=>
   some q9.2) r7:=by kernel_rfl
noncomputable def yx (n:Nat) (g:Nat) (x1:Pred) (x2:List Attr) (m:Nat) (p:Int×Int):Option (Int):=
 kX (R:=R) 3 (aN ((fZ Tryz.f13.body [1,1,0,1,0,0]).getD .skip)) (⟨[(1,TV.aj (T:=R.T) Cp.sh (Ty.st 3) x2),(2,TV.ref 2 0)],[(2,Ob.ro (Ob.cells [TV.int IntKind.i64 x1.Op,TV.str x1.Name,TV.int IntKind.i64 x1.N,TV.int IntKind.i64 x1.M,TV.str x1.S,TV.aj (T:=R.T) Cp.sh (Ty.st 0) x1.aG]))]⟩:MS R.T) (iy Eo.loops 3).sh (iy Eo.loops 3).outs (fun st k=>dh E R n false (Ep n (oh n g)) cB Eo ((fZ Tryz.f13.body [1,1,0,1,0,0]).getD .skip) st k) m p
theorem Wd (n:Nat) (g:Nat) (x1:Pred) (x2:List Attr) (m:Nat) (x3:Int) (x4:Int):yx n g x1 x2 (m+1) (x3,x4)=
 bif decide (x4< (((x1.aG.length:Nat):Int))) then
  (dX x1.aG x4).bind fun (r5:Pred)=>
  (Bg n g ((r5.re,x2))).bind fun (r6:Bool)=>
  bif r6 then
   yx n g x1 x2 m ((IntKind.wrap IntKind.i64 (x3+(1:Int)),IntKind.wrap IntKind.i64 (x4+(1:Int))))
  else
   yx n g x1 x2 m ((x3,IntKind.wrap IntKind.i64 (x4+(1:Int))))
 else
  some x3:=by kernel_rfl
theorem agC (n g:Nat) (x1:Pred) (x2:List Attr):Bg n (g+1) (x1,x2)=
 (yx n g x1 x2 n (((0:Int),(0:Int)))).bind fun (r7:Int)=>
 (vZ n ((x2,x1.Name))).bind fun (r8:dz)=>
 bif x1.Op==(1:Int) then
  some true
 else
  bif x1.Op==(2:Int) then
   some (r7==(((x1.aG.length:Nat):Int)))
  else
   bif x1.Op==(3:Int) then
    some (decide (r7> (0:Int)))
   else
    bif x1.Op==(4:Int) then
     some (r7==(0:Int))
    else
     bif x1.Op==(5:Int) then
      some r8.Is
     else
      bif x1.Op==(6:Int) then
       some (bif bif bif r8.Is then r8.A.Kind==(1:Int) else false then decide (r8.A.N≥x1.N) else false then decide (r8.A.N≤x1.M) else false)
      else
       some (bif bif bif x1.Op==(7:Int) then r8.Is else false then r8.A.Kind==(2:Int) else false then r8.A.S==x1.S else false):=by kernel_rfl
theorem agD (n:Nat) (x1:Pred):Es n x1=
 some (((),(x1.Op,(x1.Name,(x1.N,(x1.M,(x1.S,x1.aG))))))):=by kernel_rfl
noncomputable def uG (n:Nat) (xs:List Pred) (p:PUnit×Int):Option ((PUnit×Int)⊕(PUnit×Int)):=
 z8 (R:=R) (X:=ak R.T Hr) 3 (wrR (fZ Tryz.f14.body [1,1,0,1,0])) (⟨[(3,TV.ref 3 0)],[]⟩:MS R.T) (iy Ih.loops 3).sh (iy Ih.loops 3).outs (adi E R n false (Ig n) cB Ih (fZ Tryz.f14.body [1,1,0,1,0]) Hr) xs p
theorem agE (n:Nat) (x4:Int):uG n [] ((),x4)=
 some (.inl (((),x4))):=by kernel_rfl
theorem agF (n:Nat) (x5:Pred) (xs:List Pred) (x6:Int):uG n (x5::xs) ((),x6)=
 bif (IntKind.wrap IntKind.i64 (x6+(1:Int)))==(1000:Int) then
  some (.inr (((),IntKind.wrap IntKind.i64 (x6+(1:Int)))))
 else
  uG n xs (((),IntKind.wrap IntKind.i64 (x6+(1:Int)))):=by kernel_rfl
theorem agG (n:Nat) (x1:Pred):Bh n x1=
 (Es n x1.re).bind fun (r2:PUnit×Int×(List UInt8)×Int×Int×(List UInt8)×List Pred)=>
 ((AX ((⟨r2.2.1,r2.2.2.1,r2.2.2.2.1,r2.2.2.2.2.1,r2.2.2.2.2.2.1,r2.2.2.2.2.2.2⟩:Pred))).bind fun (r3:List Pred)=>uG n r3 (((),(0:Int)))).bind fun (r7:(PUnit×Int)⊕(PUnit×Int))=>
 Sum.elim (fun (q8:PUnit×Int)=>
  some q8.2)
  (fun (q9:PUnit×Int)=>
   some q9.2) r7:=by kernel_rfl
theorem agH (n:Nat) (x1:Int):cmp_isNaN_int n x1=
 some (x1 !=x1):=by kernel_rfl
theorem agI (n:Nat) (x1:Int) (x2:Int):cmp_Compare_int n (x1,x2)=
 (cmp_isNaN_int n x1).bind fun (r3:Bool)=>
 (cmp_isNaN_int n x2).bind fun (r4:Bool)=>
 bif r3 then
  bif r4 then
   some (0:Int)
  else
   some (-1:Int)
 else
  bif r4 then
   some (1:Int)
  else
   bif decide (x1<x2) then
    some (-1:Int)
   else
    bif decide (x1>x2) then
     some (1:Int)
    else
     some (0:Int):=by kernel_rfl
noncomputable def Bo (n:Nat) (x1:List Int) (m:Nat) (p:Int):Option (PUnit⊕Int):=
 kX (R:=R) 3 (aN ((fZ Tryz.f40.body [1,1,0,1,0,0]).getD .skip)) (⟨[(3,TV.int IntKind.i64 (0:Int)),(6,TV.aj (T:=R.T) Cp.sh (Ty.int IntKind.i64) x1),(7,TV.int IntKind.i64 (((x1.length:Nat):Int)))],[]⟩:MS R.T) (iy Io.loops 3).sh (iy Io.loops 3).outs (fun st k=>dh E R n false (Im n) cB Io ((fZ Tryz.f40.body [1,1,0,1,0,0]).getD .skip) st k) m p
theorem Wh (n:Nat) (x1:List Int) (m:Nat) (x2:Int):Bo n x1 (m+1) x2=
 bif decide (x2< (((x1.length:Nat):Int))) then
  (dX x1 x2).bind fun (r3:Int)=>
  bif r3 !=(0:Int) then
   some (.inr r3)
  else
   Bo n x1 m (IntKind.wrap IntKind.i64 (x2+(1:Int)))
 else
  some (.inl (())):=by kernel_rfl
theorem agJ (n:Nat) (x1:List Int):Bj n x1=
 (Bo n x1 n (0:Int)).bind fun (r4:PUnit⊕Int)=>
 Sum.elim (fun (q5:PUnit)=>
  some (0:Int))
  (fun (q6:Int)=>
   some q6) r4:=by kernel_rfl
theorem agK (n g:Nat) (x1:Pred) (x2:Pred):yh n (g+1) (x1,x2)=
 (cmp_Compare_int n ((x1.Op,x2.Op))).bind fun (r3:Int)=>
 (strings_Compare n ((x1.Name,x2.Name))).bind fun (r4:Int)=>
 (cmp_Compare_int n ((x1.N,x2.N))).bind fun (r5:Int)=>
 (cmp_Compare_int n ((x1.M,x2.M))).bind fun (r6:Int)=>
 (strings_Compare n ((x1.S,x2.S))).bind fun (r7:Int)=>
 (EA n g ((x1.aG,(x2.aG,((),()))))).bind fun (r8:Int)=>
 (Bj n [r3,r4,r5,r6,r7,r8]).bind fun (r9:Int)=>
 some r9:=by kernel_rfl
noncomputable def Bp (n:Nat) (g:Nat) (x1:List Pred) (x2:List Pred) (m:Nat) (p:Int):Option (PUnit⊕Int):=
 kX (R:=R) 2 (aN ((fZ Tryz.f43.body [1,0,1,0,0]).getD .skip)) (⟨[(0,TV.aj (T:=R.T) Cp.sh (Ty.st 0) x1),(1,TV.aj (T:=R.T) Cp.sh (Ty.st 0) x2),(2,TV.fn 16 [] []),(11,TV.aj (T:=R.T) Cp.sh (Ty.st 0) x1),(12,TV.int IntKind.i64 (((x1.length:Nat):Int)))],[]⟩:MS R.T) (iy Ez.loops 2).sh (iy Ez.loops 2).outs (fun st k=>dh E R n false (yg n (iW n g)) cB Ez ((fZ Tryz.f43.body [1,0,1,0,0]).getD .skip) st k) m p
theorem Wi (n:Nat) (g:Nat) (x1:List Pred) (x2:List Pred) (m:Nat) (x3:Int):Bp n g x1 x2 (m+1) x3=
 bif decide (x3< (((x1.length:Nat):Int))) then
  (dX x1 x3).bind fun (r4:Pred)=>
  bif decide (x3≥(((x2.length:Nat):Int))) then
   some (.inr (1:Int))
  else
   (dX x2 x3).bind fun (r5:Pred)=>
   (yh n g ((r4.re,r5.re))).bind fun (r6:Int)=>
   bif r6 !=(0:Int) then
    some (.inr r6)
   else
    Bp n g x1 x2 m (IntKind.wrap IntKind.i64 (x3+(1:Int)))
 else
  some (.inl (())):=by kernel_rfl
theorem agL (n g:Nat) (x1:List Pred) (x2:List Pred):EA n (g+1) (x1,(x2,((),())))=
 (Bp n g x1 x2 n (0:Int)).bind fun (r7:PUnit⊕Int)=>
 Sum.elim (fun (q8:PUnit)=>
  bif decide ((((x1.length:Nat):Int))< (((x2.length:Nat):Int))) then
   some (-1:Int)
  else
   some (0:Int))
  (fun (q9:Int)=>
   some q9) r7:=by kernel_rfl
theorem agM (n:Nat) (x1:Int) (x2:Int):uF n (x1,x2)=
 bif decide (x1<x2) then
  some (-1:Int)
 else
  bif decide (x1>x2) then
   some (1:Int)
  else
   some (0:Int):=by kernel_rfl
theorem agN (n:Nat) (x1:List UInt8) (x2:List UInt8):yt n (x1,x2)=
 bif Go.Op.bytesLess x1 x2 then
  some (-1:Int)
 else
  bif !((Go.Op.bytesLess x1 x2)||(x1==x2)) then
   some (1:Int)
  else
   some (0:Int):=by kernel_rfl
noncomputable def yA (n:Nat) (g:Nat) (x1:Pred) (x2:Pred) (r3:Int) (r4:Int) (r5:Int) (r6:Int) (r7:Int) (m:Nat) (p:Int):Option (PUnit⊕Int):=
 kX (R:=R) 3 (aN ((fZ Tryz.f17.body [1,1,0,1,0,0]).getD .skip)) (⟨[(2,TV.ref 2 0),(3,TV.ref 3 0),(5,TV.aj (T:=R.T) Cp.full (Ty.int IntKind.i64) [r3,r4,r5,r6,r7])],[(2,Ob.ro (Ob.cells [TV.int IntKind.i64 x1.Op,TV.str x1.Name,TV.int IntKind.i64 x1.N,TV.int IntKind.i64 x1.M,TV.str x1.S,TV.aj (T:=R.T) Cp.sh (Ty.st 0) x1.aG])),(3,Ob.ro (Ob.cells [TV.int IntKind.i64 x2.Op,TV.str x2.Name,TV.int IntKind.i64 x2.N,TV.int IntKind.i64 x2.M,TV.str x2.S,TV.aj (T:=R.T) Cp.sh (Ty.st 0) x2.aG]))]⟩:MS R.T) (iy wh.loops 3).sh (iy wh.loops 3).outs (fun st k=>dh E R n false (Bl n (mV n g)) cB wh ((fZ Tryz.f17.body [1,1,0,1,0,0]).getD .skip) st k) m p
noncomputable def yB (n:Nat) (g:Nat) (x1:Pred) (x2:Pred) (m:Nat) (p:Int):Option (PUnit⊕Int):=
 kX (R:=R) 8 (aN ((fZ Tryz.f17.body [1,1,1,0,1,0,0]).getD .skip)) (⟨[(2,TV.ref 2 0),(3,TV.ref 3 0)],[(2,Ob.ro (Ob.cells [TV.int IntKind.i64 x1.Op,TV.str x1.Name,TV.int IntKind.i64 x1.N,TV.int IntKind.i64 x1.M,TV.str x1.S,TV.aj (T:=R.T) Cp.sh (Ty.st 0) x1.aG])),(3,Ob.ro (Ob.cells [TV.int IntKind.i64 x2.Op,TV.str x2.Name,TV.int IntKind.i64 x2.N,TV.int IntKind.i64 x2.M,TV.str x2.S,TV.aj (T:=R.T) Cp.sh (Ty.st 0) x2.aG]))]⟩:MS R.T) (iy wh.loops 8).sh (iy wh.loops 8).outs (fun st k=>dh E R n false (Bl n (mV n g)) cB wh ((fZ Tryz.f17.body [1,1,1,0,1,0,0]).getD .skip) st k) m p
theorem Wj (n:Nat) (g:Nat) (x1:Pred) (x2:Pred) (r3:Int) (r4:Int) (r5:Int) (r6:Int) (r7:Int) (m:Nat) (x8:Int):yA n g x1 x2 r3 r4 r5 r6 r7 (m+1) x8=
 bif decide (x8< ((([r3,r4,r5,r6,r7].length:Nat):Int))) then
  (dX [r3,r4,r5,r6,r7] x8).bind fun (r9:Int)=>
  bif r9 !=(0:Int) then
   (dX [r3,r4,r5,r6,r7] x8).bind fun (N8:Int)=>
   some (.inr N8)
  else
   yA n g x1 x2 r3 r4 r5 r6 r7 m (IntKind.wrap IntKind.i64 (x8+(1:Int)))
 else
  some (.inl (())):=by kernel_rfl
theorem Wm (n:Nat) (g:Nat) (x1:Pred) (x2:Pred) (m:Nat) (Bq:Int):yB n g x1 x2 (m+1) Bq=
 bif bif decide (Bq< (((x1.aG.length:Nat):Int))) then decide (Bq< (((x2.aG.length:Nat):Int))) else false then
  (dX x1.aG Bq).bind fun (r15:Pred)=>
  (dX x2.aG Bq).bind fun (r16:Pred)=>
  (yu n g ((r15.re,r16.re))).bind fun (Wn:Int)=>
  bif Wn !=(0:Int) then
   some (.inr Wn)
  else
   yB n g x1 x2 m (IntKind.wrap IntKind.i64 (Bq+(1:Int)))
 else
  some (.inl (())):=by kernel_rfl
theorem agP (n g:Nat) (x1:Pred) (x2:Pred):yu n (g+1) (x1,x2)=
 (uF n ((x1.Op,x2.Op))).bind fun (r3:Int)=>
 (yt n ((x1.Name,x2.Name))).bind fun (r4:Int)=>
 (uF n ((x1.N,x2.N))).bind fun (r5:Int)=>
 (uF n ((x1.M,x2.M))).bind fun (r6:Int)=>
 (yt n ((x1.S,x2.S))).bind fun (r7:Int)=>
 (yA n g x1 x2 r3 r4 r5 r6 r7 n (0:Int)).bind fun (N9:PUnit⊕Int)=>
 Sum.elim (fun (q12:PUnit)=>
  (yB n g x1 x2 n (0:Int)).bind fun (r18:PUnit⊕Int)=>
  Sum.elim (fun (q19:PUnit)=>
   (uF n ((((x1.aG.length:Nat):Int),((x2.aG.length:Nat):Int)))).bind fun (r21:Int)=>
   some r21)
   (fun (q20:Int)=>
    some q20) r18)
  (fun (q13:Int)=>
   some q13) N9:=by kernel_rfl
theorem agU (n:Nat) (x1:Pred) (x2:Pred) (x3:List Attr):Iw n (x1,(x2,x3))=
 (vW n ((x1.re,(100:Int)))).bind fun (r4:Bool)=>
 (vW n ((x2.re,(100:Int)))).bind fun (r5:Bool)=>
 bif bif bif !r4 then true else !r5 then true else decide ((((x3.length:Nat):Int))> (20:Int)) then
  (vX n (())).bind fun (r6:Bool)=>
  some r6
 else
  (vX n (())).bind fun (r7:Bool)=>
  bif r7 then
   (Bf n ((x1.re,x3))).bind fun (r8:Bool)=>
   (x9 n ((x1.re,x3))).bind fun (r9:Bool)=>
   bif r8==r9 then
    (Bh n x1.re).bind fun (N8:Int)=>
    (vV n x1.re).bind fun (N9:Int)=>
    bif N8==N9 then
     (yj n ((x1.re,x2.re))).bind fun (r12:Int)=>
     (yw n ((x1.re,x2.re))).bind fun (r13:Int)=>
     some (r12==r13)
    else
     some false
   else
    some false
  else
   some false:=by kernel_rfl
attribute [irreducible] wm wo ED EF EG Bn yx uG Bo Bp yA yB
end Sh
