import Derived.Test.YtgdialomgeijcaaGreatF4022
set_option linter.all false
open Go Go.Proofs Aq
namespace Sh
set_option maxRecDepth 100000
def Vw (l:List (Nat×Note))(k:Nat):Note:=match look l k with
 |some q=>q|none=>⟨[],[],⟨[],[]⟩,[]⟩
noncomputable abbrev RL (n:Nat)(om:Bool)(K:Nat->List (FR R))(I:IR R)(a:Rs)(c:Option Code)(q:List Nat)(l:Nat)(b:MS R.T)(m:Nat)(p:WJ R.T (Vw a.loops l).sh):Option (Out R.T (Vw a.loops l).outs):=acj (R:=R) l (Rv E ((TM c q).getD .skip)) b (Vw a.loops l).sh (Vw a.loops l).outs (fun st k=>Tt E R n om K I a ((TM c q).getD .skip) st k) m p
abbrev aa7:List UInt8:=[0,1,2,2,3,3,3,3,4,4,4,4,4,4,4,4,5,5,5,5,5,5,5,5,5,5,5,5,5,5,5,5,6,6,6,6,6,6,6,6,6,6,6,6,6,6,6,6,6,6,6,6,6,6,6,6,6,6,6,6,6,6,6,6,7,7,7,7,7,7,7,7,7,7,7,7,7,7,7,7,7,7,7,7,7,7,7,7,7,7,7,7,7,7,7,7,7,7,7,7,7,7,7,7,7,7,7,7,7,7,7,7,7,7,7,7,7,7,7,7,7,7,7,7,7,7,7,7,8,8,8,8,8,8,8,8,8,8,8,8,8,8,8,8,8,8,8,8,8,8,8,8,8,8,8,8,8,8,8,8,8,8,8,8,8,8,8,8,8,8,8,8,8,8,8,8,8,8,8,8,8,8,8,8,8,8,8,8,8,8,8,8,8,8,8,8,8,8,8,8,8,8,8,8,8,8,8,8,8,8,8,8,8,8,8,8,8,8,8,8,8,8,8,8,8,8,8,8,8,8,8,8,8,8,8,8,8,8,8,8,8,8,8,8,8,8,8,8,8,8,8,8,8,8,8,8]
theorem awU (n:Nat)(x1:List Attr)(x2:Pred):XN n (x1,x2)=some true:=by kernel_rfl
theorem awV (n:Nat)(x1:Attr)(x2:List UInt8):XX n (x1,x2)=some (x1.Name==x2):=by kernel_rfl
noncomputable def afj (n:Nat)(x1:List Attr)(x2:List UInt8)(m:Nat)(p:Int):Option (PUnit⊕Int):=
 RL n false (g_2 n) RF apN Tryz.f99.body [1,0,1,0,0] 2 ⟨[(0,.tX .sh (.st 3) x1),(1,.fn 100 [] ([.Q9 [.str x2] 0])),(7,.int .i64 (x1.length:Int))],[]⟩ m p
theorem aqj (n:Nat)(x1:List Attr)(x2:List UInt8)(m:Nat)(x3:Int):afj n x1 x2 (m+1) x3=bif decide (x3< (x1.length:Int)) then (Q5 x1 x3).bind fun (r4:Attr)=>(XX n ((r4,x2))).bind fun (r5:Bool)=>bif r5 then some (.inr x3)else afj n x1 x2 m (IntKind.wrap .i64 (x3+(1:Int)))else some (.inl (())):=by kernel_rfl
theorem awW (n:Nat)(x1:List Attr)(x2:List UInt8):Xb n (x1,((),x2))=(afj n x1 x2 n (0:Int)).bind fun (r6:PUnit⊕Int)=>
 Sum.elim (fun (q7:PUnit)=>some (-1:Int))
  (fun (q8:Int)=>some q8) r6:=by kernel_rfl
theorem awX (n:Nat)(x1:List Attr)(x2:List UInt8):Xv n (x1,x2)=(Xb n ((x1,((),x2)))).bind fun (r3:Int)=>bif decide (r3< (0:Int)) then some (((⟨[],(0:Int),(0:Int),[]⟩:Attr),false))else (Q5 x1 r3).bind fun (r4:Attr)=>some ((r4,true)):=by kernel_rfl
theorem awY (n:Nat)(x1:List Attr)(x2:Pred):XO n (x1,x2)=(Xv n ((x1,x2.Name))).bind fun (r3:Attr×Bool)=>some r3.2:=by kernel_rfl
theorem awZ (n:Nat)(x1:List Attr)(x2:Pred):XP n (x1,x2)=(Xv n ((x1,x2.Name))).bind fun (r3:Attr×Bool)=>some (bif bif bif r3.2 then r3.1.Kind==(1:Int) else false then decide (r3.1.N>=x2.N) else false then decide (r3.1.N<=x2.M) else false):=by kernel_rfl
theorem aw0 (n:Nat)(x1:List Attr)(x2:Pred):XQ n (x1,x2)=(Xv n ((x1,x2.Name))).bind fun (r3:Attr×Bool)=>some (bif bif r3.2 then r3.1.Kind==(2:Int) else false then r3.1.S==x2.S else false):=by kernel_rfl
theorem aw1 (n g:Nat)(x1:List Attr)(x2:Pred):aa4 n (g+1) (x1,x2)=bif x2.Op==(1:Int) then (XN n ((x1,x2.re))).bind fun (r3:Bool)=>some r3 else bif x2.Op==(2:Int) then (afd n g ((x1,x2.re))).bind fun (r4:Bool)=>some r4 else bif x2.Op==(3:Int) then (aef n g ((x1,x2.re))).bind fun (r5:Bool)=>some r5 else bif x2.Op==(4:Int) then (aff n g ((x1,x2.re))).bind fun (r6:Bool)=>some r6 else bif x2.Op==(5:Int) then (XO n ((x1,x2.re))).bind fun (r7:Bool)=>some r7 else bif x2.Op==(6:Int) then (XP n ((x1,x2.re))).bind fun (r8:Bool)=>some r8 else bif x2.Op==(7:Int) then (XQ n ((x1,x2.re))).bind fun (r9:Bool)=>some r9 else some false:=by kernel_rfl
noncomputable def afk (n:Nat)(g:Nat)(x1:List Attr)(x2:Pred)(m:Nat)(p:Int):Option (PUnit⊕Bool):=
 RL n false (Ww n (Sq n g)) RF ajG Tryz.f63.body [1,0,1,0,0] 2 ⟨[(0,.tX .sh (.st 3) x1),(8,.tX .sh (.st 0) x2.Ra),(9,.int .i64 (((x2.Ra.length:Nat):Int)))],[]⟩ m p
theorem aqk (n g:Nat)(x1:List Attr)(x2:Pred)(m:Nat)(x3:Int):afk n g x1 x2 (m+1) x3=bif decide (x3< (((x2.Ra.length:Nat):Int))) then (Q5 x2.Ra x3).bind fun (r4:Pred)=>(aa4 n g ((x1,r4.re))).bind fun (r5:Bool)=>bif !r5 then some (.inr false)else afk n g x1 x2 m (IntKind.wrap .i64 (x3+(1:Int)))else some (.inl (())):=by kernel_rfl
theorem aw2 (n g:Nat)(x1:List Attr)(x2:Pred):afd n (g+1) (x1,x2)=(afk n g x1 x2 n (0:Int)).bind fun (r6:PUnit⊕Bool)=>
 Sum.elim (fun (q7:PUnit)=>some true)
  (fun (q8:Bool)=>some q8) r6:=by kernel_rfl
theorem aql (n g:Nat)(x1:List Attr)(x2:Pred):aef n (g+1) (x1,x2)=(afe n g ((x2.Ra,(x1,())))).bind fun (r3:Bool)=>some r3:=by kernel_rfl
theorem aw3 (n g:Nat)(x1:List Pred)(x2:List Attr):afe n (g+1) (x1,(x2,()))=(ahe n g ((x1,(x2,())))).bind fun (r3:Int)=>some (decide (r3>=(0:Int))):=by kernel_rfl
noncomputable def afl (n:Nat)(g:Nat)(x1:List Pred)(x2:List Attr)(m:Nat)(p:Int):Option (PUnit⊕Int):=
 RL n false (Ww n (Sq n g)) RF ajH Tryz.f98.body [1,0,1,0,0] 2 ⟨[(0,.tX .sh (.st 0) x1),(1,.fn 36 [.tX .sh (.st 3) x2] []),(7,.int .i64 (x1.length:Int))],[]⟩ m p
theorem aqm (n g:Nat)(x1:List Pred)(x2:List Attr)(m:Nat)(x3:Int):afl n g x1 x2 (m+1) x3=bif decide (x3< (x1.length:Int)) then (Q5 x1 x3).bind fun (r4:Pred)=>(aa4 n g ((x2,r4.re))).bind fun (r5:Bool)=>bif r5 then some (.inr x3)else afl n g x1 x2 m (IntKind.wrap .i64 (x3+(1:Int)))else some (.inl (())):=by kernel_rfl
theorem aw4 (n g:Nat)(x1:List Pred)(x2:List Attr):ahe n (g+1) (x1,(x2,()))=(afl n g x1 x2 n (0:Int)).bind fun (r6:PUnit⊕Int)=>
 Sum.elim (fun (q7:PUnit)=>some (-1:Int))
  (fun (q8:Int)=>some q8) r6:=by kernel_rfl
theorem aw5 (n g:Nat)(x1:List Attr)(x2:Pred):aff n (g+1) (x1,x2)=(aef n g ((x1,x2.re))).bind fun (r3:Bool)=>some (!r3):=by kernel_rfl
theorem aw6 (n:Nat)(x1:Pred)(x2:List Attr):XD n (x1,x2)=(Zf n ((x2,x1.re))).bind fun (r3:Bool)=>some r3:=by kernel_rfl
noncomputable def afm (n:Nat)(x1:List (List Rb))(m:Nat)(p:Int×Int):Option (Int⊕Int):=
 RL n false (ahh n) RF aqh Tryz.f55.body [1,1,0,1,0,0] 3 ⟨[(6,.tX .sh (.slice (.st 7)) x1),(7,.int .i64 (x1.length:Int))],[]⟩ m p
theorem aqn (n:Nat)(x1:List (List Rb))(m:Nat)(x2 x3:Int):afm n x1 (m+1) (x2,x3)=bif decide (x3< (x1.length:Int)) then (Q5 x1 x3).bind fun (r4:List Rb)=>bif decide ((IntKind.wrap .i64 (x2*(r4.length:Int)))> (4096:Int)) then some (.inr (4097:Int))else afm n x1 m ((IntKind.wrap .i64 (x2*(r4.length:Int)),IntKind.wrap .i64 (x3+(1:Int))))else some (.inl x2):=by kernel_rfl
theorem aw7 (n:Nat)(x1:List (List Rb)):ZS n x1=(afm n x1 n (((1:Int),(0:Int)))).bind fun (r5:Int⊕Int)=>
 Sum.elim (fun (q6:Int)=>some q6)
  (fun (q7:Int)=>some q7) r5:=by kernel_rfl
attribute [irreducible] afj afk afl afm
end Sh
