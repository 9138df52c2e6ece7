import Derived.Test.YtgdialomgeijcaaGreatF3922
set_option linter.all false
open Go Go.Proofs Aq
namespace Sh
set_option maxRecDepth 100000
def Vt (l:List (Nat×Note))(k:Nat):Note:=match look l k with
 |some q=>q|none=>⟨[],[],⟨[],[]⟩,[]⟩
noncomputable abbrev Sj (n:Nat)(om:Bool)(K:Nat->List (FR R))(I:IR R)(a:Rt)(c:Option Code)(q:List Nat)(l:Nat)(b:MS R.T)(m:Nat)(p:V6 R.T (Vt a.loops l).sh):Option (Out R.T (Vt a.loops l).outs):=abz (R:=R) l (Rn E ((TG c q).getD .skip)) b (Vt a.loops l).sh (Vt a.loops l).outs (fun st k=>Tc E R n om K I a ((TG c q).getD .skip) st k) m p
abbrev YS:List UInt8:=[0,1,2,2,3,3,3,3,4,4,4,4,4,4,4,4,5,5,5,5,5,5,5,5,5,5,5,5,5,5,5,5,6,6,6,6,6,6,6,6,6,6,6,6,6,6,6,6,6,6,6,6,6,6,6,6,6,6,6,6,6,6,6,6,7,7,7,7,7,7,7,7,7,7,7,7,7,7,7,7,7,7,7,7,7,7,7,7,7,7,7,7,7,7,7,7,7,7,7,7,7,7,7,7,7,7,7,7,7,7,7,7,7,7,7,7,7,7,7,7,7,7,7,7,7,7,7,7,8,8,8,8,8,8,8,8,8,8,8,8,8,8,8,8,8,8,8,8,8,8,8,8,8,8,8,8,8,8,8,8,8,8,8,8,8,8,8,8,8,8,8,8,8,8,8,8,8,8,8,8,8,8,8,8,8,8,8,8,8,8,8,8,8,8,8,8,8,8,8,8,8,8,8,8,8,8,8,8,8,8,8,8,8,8,8,8,8,8,8,8,8,8,8,8,8,8,8,8,8,8,8,8,8,8,8,8,8,8,8,8,8,8,8,8,8,8,8,8,8,8,8,8,8,8,8,8]
theorem arD (n:Nat)(x1:List Attr)(x2:Pred):Xm n (x1,x2)=some true:=by kernel_rfl
theorem arE (n:Nat)(x1:Attr)(x2:List UInt8):Xu n (x1,x2)=some (x1.Name==x2):=by kernel_rfl
noncomputable def adC (n:Nat)(x1:List Attr)(x2:List UInt8)(m:Nat)(p:Int):Option (PUnit⊕Int):=
 Sj n false (g_2 n) Rw al2 Tryz.f99.body [1,0,1,0,0] 2 ⟨[(0,.tX .sh (.st 3) x1),(1,.fn 100 [] ([.Q5 [.str x2] 0])),(7,.int .i64 (x1.length:Int))],[]⟩ m p
theorem amA (n:Nat)(x1:List Attr)(x2:List UInt8)(m:Nat)(x3:Int):adC n x1 x2 (m+1) x3=bif decide (x3< (x1.length:Int)) then (Fb x1 x3).bind fun (r4:Attr)=>(Xu n ((r4,x2))).bind fun (r5:Bool)=>bif r5 then some (.inr x3)else adC n x1 x2 m (IntKind.wrap .i64 (x3+(1:Int)))else some (.inl (())):=by kernel_rfl
theorem arF (n:Nat)(x1:List Attr)(x2:List UInt8):ZO n (x1,((),x2))=(adC n x1 x2 n (0:Int)).bind fun (r6:PUnit⊕Int)=>
 Sum.elim (fun (q7:PUnit)=>some (-1:Int))
  (fun (q8:Int)=>some q8) r6:=by kernel_rfl
theorem arG (n:Nat)(x1:List Attr)(x2:List UInt8):ZZ n (x1,x2)=(ZO n ((x1,((),x2)))).bind fun (r3:Int)=>bif decide (r3< (0:Int)) then some (((⟨[],(0:Int),(0:Int),[]⟩:Attr),false))else (Fb x1 r3).bind fun (r4:Attr)=>some ((r4,true)):=by kernel_rfl
theorem arH (n:Nat)(x1:List Attr)(x2:Pred):Xn n (x1,x2)=(ZZ n ((x1,x2.Name))).bind fun (r3:Attr×Bool)=>some r3.2:=by kernel_rfl
theorem arI (n:Nat)(x1:List Attr)(x2:Pred):Xo n (x1,x2)=(ZZ n ((x1,x2.Name))).bind fun (r3:Attr×Bool)=>some (bif bif bif r3.2 then r3.1.Kind==(1:Int) else false then decide (r3.1.N>=x2.N) else false then decide (r3.1.N<=x2.M) else false):=by kernel_rfl
theorem arJ (n:Nat)(x1:List Attr)(x2:Pred):Xp n (x1,x2)=(ZZ n ((x1,x2.Name))).bind fun (r3:Attr×Bool)=>some (bif bif r3.2 then r3.1.Kind==(2:Int) else false then r3.1.S==x2.S else false):=by kernel_rfl
theorem arK (n g:Nat)(x1:List Attr)(x2:Pred):YM n (g+1) (x1,x2)=bif x2.Op==(1:Int) then (Xm n ((x1,x2.re))).bind fun (r3:Bool)=>some r3 else bif x2.Op==(2:Int) then (adw n g ((x1,x2.re))).bind fun (r4:Bool)=>some r4 else bif x2.Op==(3:Int) then (acB n g ((x1,x2.re))).bind fun (r5:Bool)=>some r5 else bif x2.Op==(4:Int) then (ady n g ((x1,x2.re))).bind fun (r6:Bool)=>some r6 else bif x2.Op==(5:Int) then (Xn n ((x1,x2.re))).bind fun (r7:Bool)=>some r7 else bif x2.Op==(6:Int) then (Xo n ((x1,x2.re))).bind fun (r8:Bool)=>some r8 else bif x2.Op==(7:Int) then (Xp n ((x1,x2.re))).bind fun (r9:Bool)=>some r9 else some false:=by kernel_rfl
noncomputable def adD (n:Nat)(g:Nat)(x1:List Attr)(x2:Pred)(m:Nat)(p:Int):Option (PUnit⊕Bool):=
 Sj n false (VQ n (R6 n g)) Rw ahr Tryz.f63.body [1,0,1,0,0] 2 ⟨[(0,.tX .sh (.st 3) x1),(8,.tX .sh (.st 0) x2.Rq),(9,.int .i64 (((x2.Rq.length:Nat):Int)))],[]⟩ m p
theorem amB (n g:Nat)(x1:List Attr)(x2:Pred)(m:Nat)(x3:Int):adD n g x1 x2 (m+1) x3=bif decide (x3< (((x2.Rq.length:Nat):Int))) then (Fb x2.Rq x3).bind fun (r4:Pred)=>(YM n g ((x1,r4.re))).bind fun (r5:Bool)=>bif !r5 then some (.inr false)else adD n g x1 x2 m (IntKind.wrap .i64 (x3+(1:Int)))else some (.inl (())):=by kernel_rfl
theorem arL (n g:Nat)(x1:List Attr)(x2:Pred):adw n (g+1) (x1,x2)=(adD n g x1 x2 n (0:Int)).bind fun (r6:PUnit⊕Bool)=>
 Sum.elim (fun (q7:PUnit)=>some true)
  (fun (q8:Bool)=>some q8) r6:=by kernel_rfl
theorem amC (n g:Nat)(x1:List Attr)(x2:Pred):acB n (g+1) (x1,x2)=(adx n g ((x2.Rq,(x1,())))).bind fun (r3:Bool)=>some r3:=by kernel_rfl
theorem arM (n g:Nat)(x1:List Pred)(x2:List Attr):adx n (g+1) (x1,(x2,()))=(afl n g ((x1,(x2,())))).bind fun (r3:Int)=>some (decide (r3>=(0:Int))):=by kernel_rfl
noncomputable def adE (n:Nat)(g:Nat)(x1:List Pred)(x2:List Attr)(m:Nat)(p:Int):Option (PUnit⊕Int):=
 Sj n false (VQ n (R6 n g)) Rw ahs Tryz.f98.body [1,0,1,0,0] 2 ⟨[(0,.tX .sh (.st 0) x1),(1,.fn 36 [.tX .sh (.st 3) x2] []),(7,.int .i64 (x1.length:Int))],[]⟩ m p
theorem amD (n g:Nat)(x1:List Pred)(x2:List Attr)(m:Nat)(x3:Int):adE n g x1 x2 (m+1) x3=bif decide (x3< (x1.length:Int)) then (Fb x1 x3).bind fun (r4:Pred)=>(YM n g ((x2,r4.re))).bind fun (r5:Bool)=>bif r5 then some (.inr x3)else adE n g x1 x2 m (IntKind.wrap .i64 (x3+(1:Int)))else some (.inl (())):=by kernel_rfl
theorem arN (n g:Nat)(x1:List Pred)(x2:List Attr):afl n (g+1) (x1,(x2,()))=(adE n g x1 x2 n (0:Int)).bind fun (r6:PUnit⊕Int)=>
 Sum.elim (fun (q7:PUnit)=>some (-1:Int))
  (fun (q8:Int)=>some q8) r6:=by kernel_rfl
theorem arO (n g:Nat)(x1:List Attr)(x2:Pred):ady n (g+1) (x1,x2)=(acB n g ((x1,x2.re))).bind fun (r3:Bool)=>some (!r3):=by kernel_rfl
theorem arP (n:Nat)(x1:Pred)(x2:List Attr):ZD n (x1,x2)=(Zc n ((x2,x1.re))).bind fun (r3:Bool)=>some r3:=by kernel_rfl
noncomputable def adF (n:Nat)(x1:List (List Q6))(m:Nat)(p:Int×Int):Option (Int⊕Int):=
 Sj n false (afo n) Rw amx Tryz.f55.body [1,1,0,1,0,0] 3 ⟨[(6,.tX .sh (.slice (.st 7)) x1),(7,.int .i64 (x1.length:Int))],[]⟩ m p
theorem amE (n:Nat)(x1:List (List Q6))(m:Nat)(x2 x3:Int):adF n x1 (m+1) (x2,x3)=bif decide (x3< (x1.length:Int)) then (Fb x1 x3).bind fun (r4:List Q6)=>bif decide ((IntKind.wrap .i64 (x2*(r4.length:Int)))> (4096:Int)) then some (.inr (4097:Int))else adF n x1 m ((IntKind.wrap .i64 (x2*(r4.length:Int)),IntKind.wrap .i64 (x3+(1:Int))))else some (.inl x2):=by kernel_rfl
theorem arQ (n:Nat)(x1:List (List Q6)):ZI n x1=(adF n x1 n (((1:Int),(0:Int)))).bind fun (r5:Int⊕Int)=>
 Sum.elim (fun (q6:Int)=>some q6)
  (fun (q7:Int)=>some q7) r5:=by kernel_rfl
attribute [irreducible] adC adD adE adF
end Sh
