import Derived.Test.YthadiihdjhakdaaGreatF2217
set_option linter.all false
open Go Go.Proofs aR
namespace Sh
set_option maxRecDepth 100000
def qd (l:List (Nat×Note))(k:Nat):Note:=match look l k with
 |some q=>q|none=>⟨[],[],⟨[],[]⟩,[]⟩
noncomputable abbrev eG (n:Nat)(aj:Bool)(K:Nat->List (fC R))(I:IR R)(a:bC)(c:Option Code)(q:List Nat)(l:Nat)(b:aH R.T)(m:Nat)(p:qY R.T (qd a.loops l).sh):Option (Out R.T (qd a.loops l).outs):=yF (R:=R) l (bJ E ((oQ c q).getD .skip)) b (qd a.loops l).sh (qd a.loops l).outs (fun st k=>fK E R n aj K I a ((oQ c q).getD .skip) st k) m p
theorem abN (n:Nat)(x1:aG):WN n x1=some x1.ID:=aA
theorem ajG (n:Nat)(x1:Int):We n x1=some (x1 !=x1):=aA
theorem ajH (n:Nat)(x1 x2:Int):UP n (x1,x2)=(We n x1).bind fun (r3:Bool)=>(We n x2).bind fun (r4:Bool)=>bif r3 then bif r4 then some (0:Int)else some (-1:Int)else bif r4 then some (1:Int)else bif decide (x1<x2) then some (-1:Int)else bif decide (x1>x2) then some (1:Int)else some (0:Int):=aA
noncomputable def Ai (n:Nat)(x1:List Int)(m:Nat)(p:Int):Option (PUnit⊕Int):=
 eG n false (WT n) uE ajx Tryz.f149.body [1,1,0,1,0,0] 3 ⟨[(3,.int .i64 (0:Int)),(6,.ay .sh (.int .i64) x1),(7,.int .i64 (x1.length:Int))],[]⟩ m p
theorem ajI (n:Nat)(x1:List Int)(m:Nat)(x2:Int):Ai n x1 (m+1) x2=bif decide (x2< (x1.length:Int)) then (aN x1 x2).bind fun (r3:Int)=>bif r3 !=(0:Int) then some (.inr r3)else Ai n x1 m (IntKind.wrap .i64 (x2+(1:Int)))else some (.inl (())):=aA
theorem awx (n:Nat)(x1:List Int):Js n x1=(Ai n x1 n (0:Int)).bind fun (r4:PUnit⊕Int)=>
 Sum.elim (fun (q5:PUnit)=>some (0:Int))
  (fun (q6:Int)=>some q6) r4:=aA
theorem awy (n:Nat)(x1 x2:aG):Jt n (x1,x2)=(UP n ((x1.Key,x2.Key))).bind fun (r3:Int)=>(UP n ((x1.ID,x2.ID))).bind fun (r4:Int)=>(UP n ((x1.iL,x2.iL))).bind fun (r5:Int)=>(Js n [r3,r4,r5]).bind fun (r6:Int)=>some r6:=aA
noncomputable def DL (n:Nat)(x1:List aG)(m:Nat)(p:Int×List (Int×aG)):Option (PUnit×List (Int×aG)):=
 eG n true (FQ n) uE WW Tryz.f99.body [1,1,0,1,0,0] 3 ⟨[(3,.ref 3 0),(7,.cu 15),(16,.ay .sh (.st 10) x1),(17,.int .i64 (x1.length:Int))],[(3,.ro (.cells ([.fn 148 [] [],.fn 150 [] []])))]⟩ m p
theorem ajJ (n:Nat)(x1:List aG)(m:Nat)(x3:Int)(x4:List (Int×aG)):DL n x1 (m+1) (x3,x4)=bif decide (x3< (x1.length:Int)) then (aN x1 x3).bind fun (r5:aG)=>(WN n r5).bind fun (r6:Int)=>(jS (!(!(Option.isSome (oV (jo R (Ty.int IntKind.i64)) r6 x4)))) (Jt n ((r5,(EZ ((⟨(0:Int),(0:Int),(0:Int)⟩:aG)) (oV (jo R (Ty.int IntKind.i64)) r6 x4))))) (0:Int)).bind fun (r7:Int)=>bif bif !(Option.isSome (oV (jo R (Ty.int IntKind.i64)) r6 x4)) then true else decide (r7< (0:Int)) then (WN n r5).bind fun (r8:Int)=>
   DL n x1 m ((IntKind.wrap .i64 (x3+(1:Int)),wT (jo R (Ty.int IntKind.i64)) r8 r5 x4))else DL n x1 m ((IntKind.wrap .i64 (x3+(1:Int)),x4))else some (((),x4)):=aA
theorem awz (n:Nat)(x1:List aG)(x2:Int):Jx n ((((),()),((),())),(x1,x2))=(DL n x1 n (((0:Int),[]))).bind fun (dI:PUnit×List (Int×aG))=>some dI.2:=aA
theorem awC (n:Nat)(x1:List aG)(x2:Int):PN n (x1,x2)=bif Vu (0:Int) (tV x2 (x1.length:Int)) ((x1.length:Int)-(0:Int)) then some (Bq x1 ((0:Int)+(0:Int)) ((0:Int)+(tV x2 (x1.length:Int))))else none:=aA
attribute [irreducible] Ai DL
end Sh
