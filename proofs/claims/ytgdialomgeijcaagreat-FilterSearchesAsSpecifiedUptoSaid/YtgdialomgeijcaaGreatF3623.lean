import Derived.Test.YtgdialomgeijcaaGreatF3622
set_option linter.all false
open Go Go.Proofs Aq
namespace Sh
set_option maxRecDepth 100000
def Vr (l:List (Nat×Note))(k:Nat):Note:=match look l k with
 |some q=>q|none=>⟨[],[],⟨[],[]⟩,[]⟩
noncomputable abbrev Sc (n:Nat)(om:Bool)(K:Nat->List (FR R))(I:IR R)(a:Rs)(c:Option Code)(q:List Nat)(l:Nat)(b:MS R.T)(m:Nat)(p:VY R.T (Vr a.loops l).sh):Option (Out R.T (Vr a.loops l).outs):=abF (R:=R) l (Ro E ((TL c q).getD .skip)) b (Vr a.loops l).sh (Vr a.loops l).outs (fun st k=>Tg E R n om K I a ((TL c q).getD .skip) st k) m p
abbrev YT:List UInt8:=[0,1,2,2,3,3,3,3,4,4,4,4,4,4,4,4,5,5,5,5,5,5,5,5,5,5,5,5,5,5,5,5,6,6,6,6,6,6,6,6,6,6,6,6,6,6,6,6,6,6,6,6,6,6,6,6,6,6,6,6,6,6,6,6,7,7,7,7,7,7,7,7,7,7,7,7,7,7,7,7,7,7,7,7,7,7,7,7,7,7,7,7,7,7,7,7,7,7,7,7,7,7,7,7,7,7,7,7,7,7,7,7,7,7,7,7,7,7,7,7,7,7,7,7,7,7,7,7,8,8,8,8,8,8,8,8,8,8,8,8,8,8,8,8,8,8,8,8,8,8,8,8,8,8,8,8,8,8,8,8,8,8,8,8,8,8,8,8,8,8,8,8,8,8,8,8,8,8,8,8,8,8,8,8,8,8,8,8,8,8,8,8,8,8,8,8,8,8,8,8,8,8,8,8,8,8,8,8,8,8,8,8,8,8,8,8,8,8,8,8,8,8,8,8,8,8,8,8,8,8,8,8,8,8,8,8,8,8,8,8,8,8,8,8,8,8,8,8,8,8,8,8,8,8,8,8]
theorem arV (n:Nat)(x1:List Attr)(x2:Pred):Xq n (x1,x2)=some true:=by kernel_rfl
theorem arW (n:Nat)(x1:Attr)(x2:List UInt8):Xx n (x1,x2)=some (x1.Name==x2):=by kernel_rfl
noncomputable def adH (n:Nat)(x1:List Attr)(x2:List UInt8)(m:Nat)(p:Int):Option (PUnit⊕Int):=
 Sc n false (g_2 n) Rx aml Tryz.f99.body [1,0,1,0,0] 2 ⟨[(0,.tX .sh (.st 3) x1),(1,.fn 100 [] ([.Q5 [.str x2] 0])),(7,.int .i64 (x1.length:Int))],[]⟩ m p
theorem amS (n:Nat)(x1:List Attr)(x2:List UInt8)(m:Nat)(x3:Int):adH n x1 x2 (m+1) x3=bif decide (x3< (x1.length:Int)) then (Fb x1 x3).bind fun (r4:Attr)=>(Xx n ((r4,x2))).bind fun (r5:Bool)=>bif r5 then some (.inr x3)else adH n x1 x2 m (IntKind.wrap .i64 (x3+(1:Int)))else some (.inl (())):=by kernel_rfl
theorem arX (n:Nat)(x1:List Attr)(x2:List UInt8):ZO n (x1,((),x2))=(adH n x1 x2 n (0:Int)).bind fun (r6:PUnit⊕Int)=>
 Sum.elim (fun (q7:PUnit)=>some (-1:Int))
  (fun (q8:Int)=>some q8) r6:=by kernel_rfl
theorem arY (n:Nat)(x1:List Attr)(x2:List UInt8):ZZ n (x1,x2)=(ZO n ((x1,((),x2)))).bind fun (r3:Int)=>bif decide (r3< (0:Int)) then some (((⟨[],(0:Int),(0:Int),[]⟩:Attr),false))else (Fb x1 r3).bind fun (r4:Attr)=>some ((r4,true)):=by kernel_rfl
theorem arZ (n:Nat)(x1:List Attr)(x2:Pred):Xr n (x1,x2)=(ZZ n ((x1,x2.Name))).bind fun (r3:Attr×Bool)=>some r3.2:=by kernel_rfl
theorem ar0 (n:Nat)(x1:List Attr)(x2:Pred):Xs n (x1,x2)=(ZZ n ((x1,x2.Name))).bind fun (r3:Attr×Bool)=>some (bif bif bif r3.2 then r3.1.Kind==(1:Int) else false then decide (r3.1.N>=x2.N) else false then decide (r3.1.N<=x2.M) else false):=by kernel_rfl
theorem ar1 (n:Nat)(x1:List Attr)(x2:Pred):Xt n (x1,x2)=(ZZ n ((x1,x2.Name))).bind fun (r3:Attr×Bool)=>some (bif bif r3.2 then r3.1.Kind==(2:Int) else false then r3.1.S==x2.S else false):=by kernel_rfl
theorem ar2 (n g:Nat)(x1:List Attr)(x2:Pred):YP n (g+1) (x1,x2)=bif x2.Op==(1:Int) then (Xq n ((x1,x2.re))).bind fun (r3:Bool)=>some r3 else bif x2.Op==(2:Int) then (adA n g ((x1,x2.re))).bind fun (r4:Bool)=>some r4 else bif x2.Op==(3:Int) then (acH n g ((x1,x2.re))).bind fun (r5:Bool)=>some r5 else bif x2.Op==(4:Int) then (adC n g ((x1,x2.re))).bind fun (r6:Bool)=>some r6 else bif x2.Op==(5:Int) then (Xr n ((x1,x2.re))).bind fun (r7:Bool)=>some r7 else bif x2.Op==(6:Int) then (Xs n ((x1,x2.re))).bind fun (r8:Bool)=>some r8 else bif x2.Op==(7:Int) then (Xt n ((x1,x2.re))).bind fun (r9:Bool)=>some r9 else some false:=by kernel_rfl
noncomputable def adI (n:Nat)(g:Nat)(x1:List Attr)(x2:Pred)(m:Nat)(p:Int):Option (PUnit⊕Bool):=
 Sc n false (VP n (R6 n g)) Rx ahz Tryz.f63.body [1,0,1,0,0] 2 ⟨[(0,.tX .sh (.st 3) x1),(8,.tX .sh (.st 0) x2.Rj),(9,.int .i64 (((x2.Rj.length:Nat):Int)))],[]⟩ m p
theorem amT (n g:Nat)(x1:List Attr)(x2:Pred)(m:Nat)(x3:Int):adI n g x1 x2 (m+1) x3=bif decide (x3< (((x2.Rj.length:Nat):Int))) then (Fb x2.Rj x3).bind fun (r4:Pred)=>(YP n g ((x1,r4.re))).bind fun (r5:Bool)=>bif !r5 then some (.inr false)else adI n g x1 x2 m (IntKind.wrap .i64 (x3+(1:Int)))else some (.inl (())):=by kernel_rfl
theorem ar3 (n g:Nat)(x1:List Attr)(x2:Pred):adA n (g+1) (x1,x2)=(adI n g x1 x2 n (0:Int)).bind fun (r6:PUnit⊕Bool)=>
 Sum.elim (fun (q7:PUnit)=>some true)
  (fun (q8:Bool)=>some q8) r6:=by kernel_rfl
theorem amU (n g:Nat)(x1:List Attr)(x2:Pred):acH n (g+1) (x1,x2)=(adB n g ((x2.Rj,(x1,())))).bind fun (r3:Bool)=>some r3:=by kernel_rfl
theorem ar4 (n g:Nat)(x1:List Pred)(x2:List Attr):adB n (g+1) (x1,(x2,()))=(afv n g ((x1,(x2,())))).bind fun (r3:Int)=>some (decide (r3>=(0:Int))):=by kernel_rfl
noncomputable def adJ (n:Nat)(g:Nat)(x1:List Pred)(x2:List Attr)(m:Nat)(p:Int):Option (PUnit⊕Int):=
 Sc n false (VP n (R6 n g)) Rx ahA Tryz.f98.body [1,0,1,0,0] 2 ⟨[(0,.tX .sh (.st 0) x1),(1,.fn 36 [.tX .sh (.st 3) x2] []),(7,.int .i64 (x1.length:Int))],[]⟩ m p
theorem amV (n g:Nat)(x1:List Pred)(x2:List Attr)(m:Nat)(x3:Int):adJ n g x1 x2 (m+1) x3=bif decide (x3< (x1.length:Int)) then (Fb x1 x3).bind fun (r4:Pred)=>(YP n g ((x2,r4.re))).bind fun (r5:Bool)=>bif r5 then some (.inr x3)else adJ n g x1 x2 m (IntKind.wrap .i64 (x3+(1:Int)))else some (.inl (())):=by kernel_rfl
theorem ar5 (n g:Nat)(x1:List Pred)(x2:List Attr):afv n (g+1) (x1,(x2,()))=(adJ n g x1 x2 n (0:Int)).bind fun (r6:PUnit⊕Int)=>
 Sum.elim (fun (q7:PUnit)=>some (-1:Int))
  (fun (q8:Int)=>some q8) r6:=by kernel_rfl
theorem ar6 (n g:Nat)(x1:List Attr)(x2:Pred):adC n (g+1) (x1,x2)=(acH n g ((x1,x2.re))).bind fun (r3:Bool)=>some (!r3):=by kernel_rfl
theorem ar7 (n:Nat)(x1:Pred)(x2:List Attr):Xg n (x1,x2)=(Zc n ((x2,x1.re))).bind fun (r3:Bool)=>some r3:=by kernel_rfl
noncomputable def acJ (n:Nat)(x1:List Attr)(x2:List UInt8)(m:Nat)(p:Int×SE):Option ((PUnit×SE)⊕(PUnit×SE)):=
 Sc n false (afx n) Rx amL Tryz.f37.body [1,0,1,0,0] 2 ⟨[(0,.tX .sh (.st 3) x1),(1,.str x2),(4,.ref 4 0)],[]⟩ m p
theorem amW (n:Nat)(x1:List Attr)(x2:List UInt8)(m:Nat)(x3:Int)(x4:SE):acJ n x1 x2 (m+1) (x3,x4)=bif decide (x3< (x1.length:Int)) then (Fb x1 x3).bind fun (r5:Attr)=>bif r5.Name==x2 then (Fb x1 x3).bind fun (r6:Attr)=>some (.inr (((),(⟨r6,true⟩:SE))))else acJ n x1 x2 m ((IntKind.wrap .i64 (x3+(1:Int)),x4))else some (.inl (((),x4))):=by kernel_rfl
theorem ar8 (n:Nat)(x1:List Attr)(x2:List UInt8):ZB n (x1,x2)=(acJ n x1 x2 n (((0:Int),(⟨(⟨[],(0:Int),(0:Int),[]⟩:Attr),false⟩:SE)))).bind fun (r7:(PUnit×SE)⊕(PUnit×SE))=>
 Sum.elim (fun (q8:PUnit×SE)=>some ((⟨(⟨[],(0:Int),(0:Int),[]⟩:Attr),false⟩:SE)))
  (fun (q9:PUnit×SE)=>some q9.2) r7:=by kernel_rfl
noncomputable def abN (n:Nat)(g:Nat)(x1:Pred)(x2:List Attr)(m:Nat)(p:Int×Int):Option (Int):=
 Sc n false (adE n (WK n g)) Rx ahG Tryz.f13.body [1,1,0,1,0,0] 3 ⟨[(1,.tX .sh (.st 3) x2),(2,.ref 2 0)],[(2,.ro (.cells [.int .i64 x1.Op,.str x1.Name,.int .i64 x1.N,.int .i64 x1.M,.str x1.S,.tX .sh (.st 0) x1.Rj]))]⟩ m p
theorem amX (n g:Nat)(x1:Pred)(x2:List Attr)(m:Nat)(x3 x4:Int):abN n g x1 x2 (m+1) (x3,x4)=bif decide (x4< (((x1.Rj.length:Nat):Int))) then (Fb x1.Rj x4).bind fun (r5:Pred)=>(acI n g ((r5.re,x2))).bind fun (r6:Bool)=>bif r6 then abN n g x1 x2 m ((IntKind.wrap .i64 (x3+(1:Int)),IntKind.wrap .i64 (x4+(1:Int))))else abN n g x1 x2 m ((x3,IntKind.wrap .i64 (x4+(1:Int))))else some x3:=by kernel_rfl
theorem ar9 (n g:Nat)(x1:Pred)(x2:List Attr):acI n (g+1) (x1,x2)=(abN n g x1 x2 n (((0:Int),(0:Int)))).bind fun (r7:Int)=>(ZB n ((x2,x1.Name))).bind fun (r8:SE)=>bif x1.Op==(1:Int) then some true else bif x1.Op==(2:Int) then some (r7==(((x1.Rj.length:Nat):Int)))else bif x1.Op==(3:Int) then some (decide (r7> (0:Int)))else bif x1.Op==(4:Int) then some (r7==(0:Int))else bif x1.Op==(5:Int) then some r8.Is else bif x1.Op==(6:Int) then some (bif bif bif r8.Is then r8.A.Kind==(1:Int) else false then decide (r8.A.N>=x1.N) else false then decide (r8.A.N<=x1.M) else false)else some (bif bif bif x1.Op==(7:Int) then r8.Is else false then r8.A.Kind==(2:Int) else false then r8.A.S==x1.S else false):=by kernel_rfl
noncomputable def adK (n:Nat)(x1:List (List Q7))(m:Nat)(p:Int×Int):Option (Int⊕Int):=
 Sc n false (afy n) Rx amQ Tryz.f55.body [1,1,0,1,0,0] 3 ⟨[(6,.tX .sh (.slice (.st 7)) x1),(7,.int .i64 (x1.length:Int))],[]⟩ m p
theorem amY (n:Nat)(x1:List (List Q7))(m:Nat)(x2 x3:Int):adK n x1 (m+1) (x2,x3)=bif decide (x3< (x1.length:Int)) then (Fb x1 x3).bind fun (r4:List Q7)=>bif decide ((IntKind.wrap .i64 (x2*(r4.length:Int)))> (4096:Int)) then some (.inr (4097:Int))else adK n x1 m ((IntKind.wrap .i64 (x2*(r4.length:Int)),IntKind.wrap .i64 (x3+(1:Int))))else some (.inl x2):=by kernel_rfl
theorem asa (n:Nat)(x1:List (List Q7)):ZI n x1=(adK n x1 n (((1:Int),(0:Int)))).bind fun (r5:Int⊕Int)=>
 Sum.elim (fun (q6:Int)=>some q6)
  (fun (q7:Int)=>some q7) r5:=by kernel_rfl
attribute [irreducible] adH adI adJ acJ abN adK
end Sh
