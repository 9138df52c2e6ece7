import Derived.Test.YtgdialomgeijcaaGreatF3925
set_option linter.all false
noncomputable section
open Go.IntKind (wrap)
open Go Go.Proofs Aq
namespace Sh
set_option maxRecDepth 100000
def aa1 (n:Nat)(x1:Ri)(x2 x3:Int)(r4:Def)(m:Nat)(p:Int):Option (PUnit⊕Bool):=
 Sj n false (adB n) Rw ahB Tryz.f46.body [1,0,1,0,0,1,0,0,1,1,1,0,0] 8 ⟨[(1,.int .i64 x2),(2,.ref 2 0),(5,.int .i64 x3),(6,.ref 6 0)],[(2,.ro (.ro (.cells [.int .i64 x1.VJ,.int .i64 x1.XP,.tX .sh (.st 1) x1.Defs]))),(6,.ro (.cells [.str r4.Name,.int .i64 r4.Kind,.int .i64 r4.Lo,.int .i64 r4.Hi,.tX .sh .str r4.Words]))]⟩ m p
def aa2 (n:Nat)(x1:Ri)(x2:Int)(m:Nat)(p:Int):Option (PUnit⊕Bool):=
 Sj n false (adB n) Rw ahB Tryz.f46.body [1,0,1,0,0] 2 ⟨[(1,.int .i64 x2),(2,.ref 2 0)],[(2,.ro (.cells [.int .i64 x1.VJ,.int .i64 x1.XP,.tX .sh (.st 1) x1.Defs]))]⟩ m p
theorem anj (n:Nat)(x1:Ri)(x2 x3:Int)(r4:Def)(m:Nat)(x5:Int):aa1 n x1 x2 x3 r4 (m+1) x5=bif decide (x5< (((r4.Words.length:Nat):Int))) then (Fb r4.Words x5).bind fun (r6:List UInt8)=>bif decide ((r6.length:Int)> (100:Int)) then some (.inr false)else aa1 n x1 x2 x3 r4 m (wrap .i64 (x5+(1:Int)))else some (.inl (())):=by kernel_rfl
theorem ank (n:Nat)(x1:Ri)(x2:Int)(m:Nat)(x3:Int):aa2 n x1 x2 (m+1) x3=bif bif decide (x3< (((x1.Defs.length:Nat):Int))) then decide (x3<=x2) else false then (Fb x1.Defs x3).bind fun (r4:Def)=>bif bif decide ((((r4.Words.length:Nat):Int))> (60:Int)) then true else decide ((((r4.Name.length:Nat):Int))> (100:Int)) then some (.inr false)else (aa1 n x1 x2 x3 r4 n (0:Int)).bind fun (r7:PUnit⊕Bool)=>
   Sum.elim (fun (q8:PUnit)=>
    aa2 n x1 x2 m (wrap .i64 (x3+(1:Int))))
    (fun (q9:Bool)=>some (.inr q9)) r7 else some (.inl (())):=by kernel_rfl
theorem atL (n:Nat)(x1:Ri)(x2:Int):Zi n (x1,x2)=(aa2 n x1 x2 n (0:Int)).bind fun (RU:PUnit⊕Bool)=>
 Sum.elim (fun (q11:PUnit)=>some (decide ((((x1.Defs.length:Nat):Int))<=x2)))
  (fun (q12:Bool)=>some q12) RU:=by kernel_rfl
theorem atM (n:Nat)(x1:Int):Xq n x1=some (bif decide (x1>=(1:Int)) then decide (x1<=(3:Int)) else false):=by kernel_rfl
def ad5 (n:Nat)(x1:List (List UInt8))(x2:List UInt8)(m:Nat)(p:Int):Option (PUnit⊕Bool):=
 Sj n false (afv n) Rw amQ Tryz.f83.body [1,0,1,0,0] 2 ⟨[(0,.tX .sh .str x1),(1,.str x2)],[]⟩ m p
theorem anl (n:Nat)(x1:List (List UInt8))(x2:List UInt8)(m:Nat)(x3:Int):ad5 n x1 x2 (m+1) x3=bif decide (x3< (x1.length:Int)) then (Fb x1 x3).bind fun (r4:List UInt8)=>bif r4==x2 then some (.inr true)else ad5 n x1 x2 m (wrap .i64 (x3+(1:Int)))else some (.inl (())):=by kernel_rfl
theorem atN (n:Nat)(x1:List (List UInt8))(x2:List UInt8):ZC n (x1,x2)=(ad5 n x1 x2 n (0:Int)).bind fun (r5:PUnit⊕Bool)=>
 Sum.elim (fun (q6:PUnit)=>some false)
  (fun (q7:Bool)=>some q7) r5:=by kernel_rfl
def aa3 (n:Nat)(x1:List UInt8)(m:Nat)(p:Int):Option (PUnit⊕Bool):=
 Sj n false (afw n) Rw amR Tryz.f87.body [1,0,1,0,0] 2 ⟨[(0,.str x1)],[]⟩ m p
theorem anm (n:Nat)(x1:List UInt8)(m:Nat)(x2:Int):aa3 n x1 (m+1) x2=bif decide (x2< (x1.length:Int)) then (Fb x1 x2).bind fun (r3:UInt8)=>bif bif !(bif decide ((r3.toNat:Int)>=(97:Int)) then decide ((r3.toNat:Int)<=(122:Int)) else false) then bif x2==(0:Int) then true else !(bif bif decide ((r3.toNat:Int)>=(48:Int)) then decide ((r3.toNat:Int)<=(57:Int)) else false then true else (r3.toNat:Int)==(95:Int)) else false then some (.inr false)else aa3 n x1 m (wrap .i64 (x2+(1:Int)))else some (.inl (())):=by kernel_rfl
theorem atO (n:Nat)(x1:List UInt8):Zx n x1=(aa3 n x1 n (0:Int)).bind fun (r4:PUnit⊕Bool)=>
 Sum.elim (fun (q5:PUnit)=>(TM (bif decide ((x1.length:Int)>=(1:Int)) then decide ((x1.length:Int)<=(40:Int)) else false) (ZC n (([[(97:UInt8),(108:UInt8),(108:UInt8)],[(97:UInt8),(110:UInt8),(100:UInt8)],[(104:UInt8),(97:UInt8),(115:UInt8)],[(105:UInt8),(110:UInt8)],[(110:UInt8),(111:UInt8),(116:UInt8)],[(111:UInt8),(114:UInt8)]],x1))) false).bind fun (r7:Bool)=>some (bif bif decide ((x1.length:Int)>=(1:Int)) then decide ((x1.length:Int)<=(40:Int)) else false then !r7 else false))
  (fun (q6:Bool)=>some q6) r4:=by kernel_rfl
def aa4 (n:Nat)(x1:List (List UInt8))(m:Nat)(p:Int):Option (PUnit⊕Int):=
 Sj n false (adI n) Rw ahL Tryz.f88.body [1,1,0,1,0,0] 4 ⟨[(0,.tX .sh .str x1)],[]⟩ m p
def aa5 (n:Nat)(x1:List (List UInt8))(m:Nat)(p:Int):Option (PUnit⊕Int):=
 Sj n false (adI n) Rw ahL Tryz.f88.body [1,1,1,0,1,0,0] 9 ⟨[(0,.tX .sh .str x1)],[]⟩ m p
theorem ano (n:Nat)(x1:List (List UInt8))(m:Nat)(x2:Int):aa4 n x1 (m+1) x2=bif decide (x2< (x1.length:Int)) then (Fb x1 x2).bind fun (r3:List UInt8)=>(Zx n r3).bind fun (r4:Bool)=>bif !r4 then some (.inr (5:Int))else aa4 n x1 m (wrap .i64 (x2+(1:Int)))else some (.inl (())):=by kernel_rfl
theorem anp (n:Nat)(x1:List (List UInt8))(m:Nat)(x8:Int):aa5 n x1 (m+1) x8=bif decide (x8< (x1.length:Int)) then (Fb x1 x8).bind fun (r9:List UInt8)=>(Fb x1 (wrap .i64 (x8-(1:Int)))).bind fun (RU:List UInt8)=>bif (Go.Op.bytesLess r9 RU)||(r9==RU) then some (.inr (6:Int))else aa5 n x1 m (wrap .i64 (x8+(1:Int)))else some (.inl (())):=by kernel_rfl
theorem anq (n:Nat)(x1:List (List UInt8)):Zf n x1=bif bif decide ((x1.length:Int)< (1:Int)) then true else decide ((x1.length:Int)> (50:Int)) then some (2:Int)else (aa4 n x1 n (0:Int)).bind fun (r5:PUnit⊕Int)=>
  Sum.elim (fun (q6:PUnit)=>(aa5 n x1 n (1:Int)).bind fun (Rx:PUnit⊕Int)=>
   Sum.elim (fun (q12:PUnit)=>some (0:Int))
    (fun (q13:Int)=>some q13) Rx)
   (fun (q7:Int)=>some q7) r5:=by kernel_rfl
theorem anr (n:Nat)(x1:Def)(x2:List UInt8):Xa n (x1,x2)=(Zx n x1.Name).bind fun (r3:Bool)=>bif !r3 then some (5:Int)else bif (Go.Op.bytesLess x1.Name x2)||(x1.Name==x2) then some (6:Int)else bif x1.Kind==(1:Int) then bif bif bif decide (x1.Lo< (-1099511627776:Int)) then true else decide (x1.Hi> (1099511627776:Int)) then true else decide (x1.Lo>x1.Hi) then some (131:Int)else bif decide ((((x1.Words.length:Nat):Int))> (0:Int)) then some (3:Int)else some (0:Int)else bif x1.Kind==(2:Int) then bif bif x1.Lo !=(0:Int) then true else x1.Hi !=(0:Int) then some (3:Int)else (Zf n x1.Words).bind fun (r4:Int)=>some r4 else some (130:Int):=by kernel_rfl
def Y7 (n:Nat)(x1:Ri)(m:Nat)(p:(List UInt8)×Int):Option (PUnit⊕Int):=
 Sj n false (afx n) Rw amS Tryz.f47.body [1,1,1,1,0,1,0,0] 7 ⟨[(1,.ref 1 0)],[(1,.ro (.cells [.int .i64 x1.VJ,.int .i64 x1.XP,.tX .sh (.st 1) x1.Defs]))]⟩ m p
theorem ant (n:Nat)(x1:Ri)(p:(List UInt8)×Int):Y7 n x1 0 p=none:=by kernel_rfl
theorem afV (n:Nat)(x1:Ri)(m:Nat)(x3:List UInt8)(x4:Int):Y7 n x1 (m+1) (x3,x4)=bif decide (x4< (((x1.Defs.length:Nat):Int))) then (Fb x1.Defs x4).bind fun (r5:Def)=>(Xa n ((r5,x3))).bind fun (r6:Int)=>bif r6 !=(0:Int) then some (.inr r6)else (Fb x1.Defs x4).bind fun (r7:Def)=>
   Y7 n x1 m ((r7.Name,wrap .i64 (x4+(1:Int))))else some (.inl (())):=by kernel_rfl
theorem anu (n:Nat)(x1:Ri):Zp n x1=(TM (!(bif decide (x1.VJ< (1:Int)) then true else decide (x1.VJ> (32:Int)))) (Xq n x1.XP) false).bind fun (r2:Bool)=>bif bif bif decide (x1.VJ< (1:Int)) then true else decide (x1.VJ> (32:Int)) then true else !r2 then some (1:Int)else bif decide ((((x1.Defs.length:Nat):Int))> (16:Int)) then some (2:Int)else (Y7 n x1 n (([],(0:Int)))).bind fun (r8:PUnit⊕Int)=>
   Sum.elim (fun (q9:PUnit)=>some (0:Int))
    (fun (q10:Int)=>some q10) r8:=by kernel_rfl
theorem anv (n:Nat)(x1:Ri):Xd n x1=(Zi n ((x1,(16:Int)))).bind fun (r2:Bool)=>(TM r2 (Zp n x1) (0:Int)).bind fun (r3:Int)=>some (bif r2 then r3==(0:Int) else false):=by kernel_rfl
def aa6 (n g:Nat)(x1:Pred)(m:Nat)(p:(List Pred)×Int):Option (List Pred):=
 Sj n false (adJ n (WS n g)) Rw ahY Tryz.f39.body [1,1,0,1,0,0] 3 ⟨[(1,.ref 1 0)],[(1,.ro (.cells [.int .i64 x1.Op,.str x1.Name,.int .i64 x1.N,.int .i64 x1.M,.str x1.S,.tX .sh (.st 0) x1.Rq]))]⟩ m p
theorem anw (n g:Nat)(x1:Pred)(m:Nat)(x2:List Pred)(x3:Int):aa6 n g x1 (m+1) (x2,x3)=bif bif decide (x3< (((x1.Rq.length:Nat):Int))) then decide ((x2.length:Int)< (1000:Int)) else false then (Fb x1.Rq x3).bind fun (r4:Pred)=>(acE n g r4.re).bind fun (r5:List Pred)=>bif Sl (x2.length+r5.length) 80 then aa6 n g x1 m ((x2++r5,wrap .i64 (x3+(1:Int))))else none else some x2:=by kernel_rfl
theorem atQ (n g:Nat)(x1:Pred):acE n (g+1) x1=(aa6 n g x1 n (([x1.re],(0:Int)))).bind fun (r6:List Pred)=>bif decide ((r6.length:Int)> (1000:Int)) then bif WJ (1000:Int) r6.length then some (List.take (Int.toNat (1000:Int)) r6)else none else some r6:=by kernel_rfl
theorem atS (n:Nat)(x1:Pred):ZX n x1=(Za n x1.re).bind fun (r2:List Pred)=>some (r2.length:Int):=by kernel_rfl
def aa7 (n g:Nat)(x1:Pred)(x2:Int)(m:Nat)(p:Int):Option (PUnit⊕Bool):=
 Sj n false (adK n (WU n g)) Rw ah4 Tryz.f10.body [1,1,0,1,0,0] 4 ⟨[(1,.int .i64 x2),(2,.ref 2 0)],[(2,.ro (.cells [.int .i64 x1.Op,.str x1.Name,.int .i64 x1.N,.int .i64 x1.M,.str x1.S,.tX .sh (.st 0) x1.Rq]))]⟩ m p
theorem anx (n g:Nat)(x1:Pred)(x2:Int)(m:Nat)(x4:Int):aa7 n g x1 x2 (m+1) x4=bif decide (x4< (((x1.Rq.length:Nat):Int))) then (Fb x1.Rq x4).bind fun (r5:Pred)=>(abH n g ((r5.re,wrap .i64 (x2-(1:Int))))).bind fun (r6:Bool)=>bif !r6 then some (.inr false)else aa7 n g x1 x2 m (wrap .i64 (x4+(1:Int)))else some (.inl (())):=by kernel_rfl
theorem anz (n g:Nat)(x1:Pred)(x2:Int):abH n (g+1) (x1,x2)=(TM (!(decide (x2< (1:Int)))) (ZX n x1.re) (0:Int)).bind fun (r3:Int)=>bif bif decide (x2< (1:Int)) then true else decide (r3> (100:Int)) then some false else (aa7 n g x1 x2 n (0:Int)).bind fun (r7:PUnit⊕Bool)=>
  Sum.elim (fun (q8:PUnit)=>some true)
   (fun (q9:Bool)=>some q9) r7:=by kernel_rfl
theorem atT (n:Nat)(x1 x2:Pred):Xv n (x1,x2)=some ((⟨(2:Int),[],(0:Int),(0:Int),[],[x1.re,x2.re]⟩:Pred)):=by kernel_rfl
def ad6 (n:Nat)(x1:List Pred)(x2:List UInt8)(m:Nat)(p:Int):Option (PUnit⊕Bool):=
 Sj n false (afy n) Rw amZ Tryz.f79.body [1,0,1,0,0] 2 ⟨[(0,.tX .sh (.st 0) x1),(1,.str x2)],[]⟩ m p
theorem anA (n:Nat)(x1:List Pred)(x2:List UInt8)(m:Nat)(x3:Int):ad6 n x1 x2 (m+1) x3=bif decide (x3< (x1.length:Int)) then (Fb x1 x3).bind fun (r4:Pred)=>(TM (decide (r4.Op>=(5:Int))) (Fb x1 x3) ((⟨(0:Int),[],(0:Int),(0:Int),[],[]⟩:Pred))).bind fun (r5:Pred)=>bif bif decide (r4.Op>=(5:Int)) then r5.Name==x2 else false then some (.inr true)else ad6 n x1 x2 m (wrap .i64 (x3+(1:Int)))else some (.inl (())):=by kernel_rfl
theorem atU (n:Nat)(x1:List Pred)(x2:List UInt8):ZL n (x1,x2)=(ad6 n x1 x2 n (0:Int)).bind fun (r6:PUnit⊕Bool)=>
 Sum.elim (fun (q7:PUnit)=>some false)
  (fun (q8:Bool)=>some q8) r6:=by kernel_rfl
def acJ (n:Nat)(x1:List Pred)(x2:List UInt8)(x3 x4:Int)(m:Nat)(p:Int):Option (PUnit⊕Bool):=
 Sj n false (afz n) Rw am0 Tryz.f96.body [1,0,1,0,0] 2 ⟨[(0,.tX .sh (.st 0) x1),(1,.str x2),(2,.int .i64 x3),(3,.int .i64 x4)],[]⟩ m p
theorem anB (n:Nat)(x1:List Pred)(x2:List UInt8)(x3 x4:Int)(m:Nat)(x5:Int):acJ n x1 x2 x3 x4 (m+1) x5=bif decide (x5< (x1.length:Int)) then (Fb x1 x5).bind fun (r6:Pred)=>(TM (r6.Op==(6:Int)) (Fb x1 x5) ((⟨(0:Int),[],(0:Int),(0:Int),[],[]⟩:Pred))).bind fun (r7:Pred)=>bif bif r6.Op==(6:Int) then r7.Name==x2 else false then (Fb x1 x5).bind fun (r8:Pred)=>(TM (decide (x3>=r8.N)) (Fb x1 x5) ((⟨(0:Int),[],(0:Int),(0:Int),[],[]⟩:Pred))).bind fun (r9:Pred)=>(Fb x1 x5).bind fun (RU:Pred)=>(TM (decide (x4>=RU.N)) (Fb x1 x5) ((⟨(0:Int),[],(0:Int),(0:Int),[],[]⟩:Pred))).bind fun (Rx:Pred)=>bif !((bif decide (x3>=r8.N) then decide (x3<=r9.M) else false)==(bif decide (x4>=RU.N) then decide (x4<=Rx.M) else false)) then some (.inr false)else acJ n x1 x2 x3 x4 m (wrap .i64 (x5+(1:Int)))else acJ n x1 x2 x3 x4 m (wrap .i64 (x5+(1:Int)))else some (.inl (())):=by kernel_rfl
theorem atV (n:Nat)(x1:List Pred)(x2:List UInt8)(x3 x4:Int):ZJ n (x1,(x2,(x3,x4)))=(acJ n x1 x2 x3 x4 n (0:Int)).bind fun (Tk:PUnit⊕Bool)=>
 Sum.elim (fun (q13:PUnit)=>some true)
  (fun (q14:Bool)=>some q14) Tk:=by kernel_rfl
def aa8 (n:Nat)(x1:Def)(x2:List Pred)(x4:Bool)(x5:Int)(m:Nat)(p:(List Ry)×Bool×Int):Option ((List Ry)×Bool):=
 Sj n false (abI n) Rw adL Tryz.f80.body [1,1,0,1,0,1,0,1,0,0,1,0,0,1,0,1,0,0] 9 ⟨[(1,.tX .sh (.st 0) x2),(2,.Q5 [.str x1.Name,.int .i64 x1.Kind,.int .i64 x1.Lo,.int .i64 x1.Hi,.tX .sh .str x1.Words] 0),(6,.bool x4),(7,.int .i64 x5)],[]⟩ m p
def acK (n:Nat)(x1:Def)(x2:List Pred)(m:Nat)(p:(List Ry)×Bool×Int):Option (List Ry):=
 Sj n false (abI n) Rw adL Tryz.f80.body [1,1,0,1,0,1,0,1,0,0] 5 ⟨[(1,.tX .sh (.st 0) x2),(2,.Q5 [.str x1.Name,.int .i64 x1.Kind,.int .i64 x1.Lo,.int .i64 x1.Hi,.tX .sh .str x1.Words] 0)],[]⟩ m p
def U0 (n:Nat)(x1:Def)(x2:List Pred)(Sr:Int)(m:Nat)(p:(List Ry)×Int×Int):Option ((List Ry)×Int):=
 Sj n false (abI n) Rw adL Tryz.f80.body [1,1,1,1,1,0,0,0,1,0,1,0,0] 20 ⟨[(1,.tX .sh (.st 0) x2),(2,.Q5 [.str x1.Name,.int .i64 x1.Kind,.int .i64 x1.Lo,.int .i64 x1.Hi,.tX .sh .str x1.Words] 0),(10,.int .i64 Sr)],[]⟩ m p
def acL (n:Nat)(x1:Def)(x2:List Pred)(m:Nat)(p:(List Ry)×Int):Option (List Ry):=
 Sj n false (abI n) Rw adL Tryz.f80.body [1,1,1,1,1,0,0] 18 ⟨[(1,.tX .sh (.st 0) x2),(2,.Q5 [.str x1.Name,.int .i64 x1.Kind,.int .i64 x1.Lo,.int .i64 x1.Hi,.tX .sh .str x1.Words] 0)],[]⟩ m p
theorem anC (n:Nat)(x1:Def)(x2:List Pred)(x4:Bool)(x5:Int)(m:Nat)(x6:List Ry)(x7:Bool)(x8:Int):aa8 n x1 x2 x4 x5 (m+1) (x6,(x7,x8))=bif decide (x8< (x2.length:Int)) then bif !x7 then (Fb x2 x8).bind fun (r9:Pred)=>bif r9.Op==(7:Int) then (Fb x2 x8).bind fun (RU:Pred)=>bif RU.Name==x1.Name then (Fb x2 x8).bind fun (Rx:Pred)=>(Fb x1.Words x5).bind fun (Tk:List UInt8)=>
     aa8 n x1 x2 x4 x5 m ((x6,(Rx.S==Tk,wrap .i64 (x8+(1:Int)))))else aa8 n x1 x2 x4 x5 m ((x6,(false,wrap .i64 (x8+(1:Int)))))else aa8 n x1 x2 x4 x5 m ((x6,(false,wrap .i64 (x8+(1:Int)))))else aa8 n x1 x2 x4 x5 m ((x6,(true,wrap .i64 (x8+(1:Int)))))else some ((x6,x7)):=by kernel_rfl
theorem anD (n:Nat)(x1:Def)(x2:List Pred)(m:Nat)(x3:List Ry)(x4:Bool)(x5:Int):acK n x1 x2 (m+1) (x3,(x4,x5))=bif decide (x5< (((x1.Words.length:Nat):Int))) then (aa8 n x1 x2 x4 x5 n ((x3,(false,(0:Int))))).bind fun (RJ:(List Ry)×Bool)=>bif bif RJ.2 then true else !x4 then (Fb x1.Words x5).bind fun (Ta:List UInt8)=>bif Sl (RJ.1.length+([(⟨(⟨x1.Name,x1.Kind,(0:Int),Ta⟩:Attr),true⟩:Ry)].length)) 56 then acK n x1 x2 m ((RJ.1++[(⟨(⟨x1.Name,x1.Kind,(0:Int),Ta⟩:Attr),true⟩:Ry)],(bif x4 then true else !RJ.2,wrap .i64 (x5+(1:Int)))))else none else acK n x1 x2 m ((RJ.1,(bif x4 then true else !RJ.2,wrap .i64 (x5+(1:Int)))))else some x3:=by kernel_rfl
theorem anE (n:Nat)(x1:Def)(x2:List Pred)(Sr:Int)(m:Nat)(x18:List Ry)(x19 x20:Int):U0 n x1 x2 Sr (m+1) (x18,(x19,x20))=bif decide (x20< (x2.length:Int)) then (Fb x2 x20).bind fun (VW:Pred)=>bif VW.Op==(6:Int) then (Fb x2 x20).bind fun (Y8:Pred)=>bif Y8.Name==x1.Name then (Fb x2 x20).bind fun (WV:Pred)=>(TM (decide (WV.N>Sr)) (Fb x2 x20) ((⟨(0:Int),[],(0:Int),(0:Int),[],[]⟩:Pred))).bind fun (r24:Pred)=>bif bif decide (WV.N>Sr) then decide (r24.N<x19) else false then (Fb x2 x20).bind fun (WW:Pred)=>(Fb x2 x20).bind fun (UC:Pred)=>bif decide (UC.M>=Sr) then (Fb x2 x20).bind fun (r27:Pred)=>bif decide (r27.M<x1.Hi) then (Fb x2 x20).bind fun (r28:Pred)=>bif decide ((wrap .i64 (r28.M+(1:Int)))<WW.N) then (Fb x2 x20).bind fun (Vv:Pred)=>
        U0 n x1 x2 Sr m ((x18,(wrap .i64 (Vv.M+(1:Int)),wrap .i64 (x20+(1:Int)))))else U0 n x1 x2 Sr m ((x18,(WW.N,wrap .i64 (x20+(1:Int)))))else U0 n x1 x2 Sr m ((x18,(WW.N,wrap .i64 (x20+(1:Int)))))else U0 n x1 x2 Sr m ((x18,(WW.N,wrap .i64 (x20+(1:Int)))))else (Fb x2 x20).bind fun (r30:Pred)=>bif decide (r30.M>=Sr) then (Fb x2 x20).bind fun (r31:Pred)=>bif decide (r31.M<x1.Hi) then (Fb x2 x20).bind fun (r32:Pred)=>bif decide ((wrap .i64 (r32.M+(1:Int)))<x19) then (Fb x2 x20).bind fun (r33:Pred)=>
        U0 n x1 x2 Sr m ((x18,(wrap .i64 (r33.M+(1:Int)),wrap .i64 (x20+(1:Int)))))else U0 n x1 x2 Sr m ((x18,(x19,wrap .i64 (x20+(1:Int)))))else U0 n x1 x2 Sr m ((x18,(x19,wrap .i64 (x20+(1:Int)))))else U0 n x1 x2 Sr m ((x18,(x19,wrap .i64 (x20+(1:Int)))))else U0 n x1 x2 Sr m ((x18,(x19,wrap .i64 (x20+(1:Int)))))else U0 n x1 x2 Sr m ((x18,(x19,wrap .i64 (x20+(1:Int)))))else some ((x18,x19)):=by kernel_rfl
theorem anF (n:Nat)(x1:Def)(x2:List Pred)(m:Nat)(SN:List Ry)(Sr:Int):acL n x1 x2 (m+1) (SN,Sr)=(U0 n x1 x2 Sr n ((SN,(wrap .i64 (x1.Hi+(1:Int)),(0:Int))))).bind fun (TN:(List Ry)×Int)=>bif decide (TN.2>x1.Hi) then some TN.1 else (ZJ n ((x2,(x1.Name,(wrap .i64 (TN.2-(1:Int)),TN.2))))).bind fun (r35:Bool)=>bif !r35 then bif Sl (TN.1.length+(([(⟨(⟨x1.Name,x1.Kind,TN.2,[]⟩:Attr),true⟩:Ry)]).length)) 56 then acL n x1 x2 m ((TN.1++([(⟨(⟨x1.Name,x1.Kind,TN.2,[]⟩:Attr),true⟩:Ry)]),TN.2))else none else acL n x1 x2 m ((TN.1,TN.2)):=by kernel_rfl
theorem atW (n:Nat)(x1:Def)(x2:List Pred):QP n (x1,x2)=bif x1.Kind==(2:Int) then (acK n x1 x2 n (([(⟨(⟨[],(0:Int),(0:Int),[]⟩:Attr),false⟩:Ry)],(false,(0:Int))))).bind fun (SX:List Ry)=>some SX else bif Sl ((([(⟨(⟨[],(0:Int),(0:Int),[]⟩:Attr),false⟩:Ry)]).length)+(([(⟨(⟨x1.Name,x1.Kind,x1.Lo,[]⟩:Attr),true⟩:Ry)]).length)) 56 then (acL n x1 x2 n ((([(⟨(⟨[],(0:Int),(0:Int),[]⟩:Attr),false⟩:Ry)])++([(⟨(⟨x1.Name,x1.Kind,x1.Lo,[]⟩:Attr),true⟩:Ry)]),x1.Lo))).bind fun (r36:List Ry)=>some r36 else none:=by kernel_rfl
def acM (n:Nat)(x1:Ri)(r3:List Pred)(m:Nat)(p:(List (List Ry))×Int):Option (List (List Ry)):=
 Sj n false (afA n) Rw am1 Tryz.f57.body [1,1,1,0,1,0,0] 4 ⟨[(2,.ref 2 0),(5,.tX .sh (.st 0) r3)],[(2,.ro (.cells [.int .i64 x1.VJ,.int .i64 x1.XP,.tX .sh (.st 1) x1.Defs]))]⟩ m p
theorem anH (n:Nat)(x1:Ri)(r3:List Pred)(m:Nat)(x4:List (List Ry))(x5:Int):acM n x1 r3 (m+1) (x4,x5)=bif decide (x5< (((x1.Defs.length:Nat):Int))) then (Fb x1.Defs x5).bind fun (r6:Def)=>(ZL n ((r3,r6.Name))).bind fun (r7:Bool)=>bif r7 then (Fb x1.Defs x5).bind fun (r8:Def)=>(QP n ((r8,r3))).bind fun (r9:List Ry)=>bif Sl (x4.length+([r9].length)) 24 then acM n x1 r3 m ((x4++[r9],wrap .i64 (x5+(1:Int))))else none else acM n x1 r3 m ((x4,wrap .i64 (x5+(1:Int))))else some x4:=by kernel_rfl
theorem atX (n:Nat)(x1:Ri)(x2:Pred):ZF n (x1,x2)=(Za n x2.re).bind fun (r3:List Pred)=>(acM n x1 r3 n (([],(0:Int)))).bind fun (RU:List (List Ry))=>some RU:=by kernel_rfl
def aea (n:Nat)(r3:List (List Ry))(m:Nat)(p:Int×Int):Option (Int⊕Int):=
 Sj n false (afB n) Rw am2 Tryz.f24.body [1,1,1,0,1,0,0] 4 ⟨[(5,.tX .sh (.slice (.st 6)) r3)],[]⟩ m p
theorem anI (n:Nat)(r3:List (List Ry))(m:Nat)(x4 x5:Int):aea n r3 (m+1) (x4,x5)=bif decide (x5< (r3.length:Int)) then (Fb r3 x5).bind fun (r6:List Ry)=>bif decide ((wrap .i64 (x4*(r6.length:Int)))> (4096:Int)) then some (.inr (4097:Int))else aea n r3 m ((wrap .i64 (x4*(r6.length:Int)),wrap .i64 (x5+(1:Int))))else some (.inl x4):=by kernel_rfl
theorem atY (n:Nat)(x1:Ri)(x2:Pred):ZM n (x1,x2)=(ZF n ((x1,x2.re))).bind fun (r3:List (List Ry))=>(aea n r3 n (((1:Int),(0:Int)))).bind fun (r7:Int⊕Int)=>
 Sum.elim (fun (q8:Int)=>some q8)
  (fun (q9:Int)=>some q9) r7:=by kernel_rfl
theorem atZ (n:Nat)(x1:Ri)(x2 x3:Pred):Xr n (x1,(x2,x3))=(Xd n x1).bind fun (r4:Bool)=>(QQ n ((x2.re,(100:Int)))).bind fun (r5:Bool)=>(QQ n ((x3.re,(100:Int)))).bind fun (r6:Bool)=>bif bif bif !r4 then true else !r5 then true else !r6 then some false else (Xv n ((x2.re,x3.re))).bind fun (r7:Pred)=>(ZM n ((x1,r7.re))).bind fun (r8:Int)=>some (bif decide (r8<=(600:Int)) then true else decide (r8> (4096:Int))):=by kernel_rfl
def aeb (n:Nat)(x1:Ri)(x2:List UInt8)(m:Nat)(p:Int):Option (PUnit⊕Int):=
 Sj n false (afC n) Rw am3 Tryz.f51.body [1,0,1,0,0] 2 ⟨[(1,.str x2),(2,.ref 2 0)],[(2,.ro (.cells [.int .i64 x1.VJ,.int .i64 x1.XP,.tX .sh (.st 1) x1.Defs]))]⟩ m p
theorem anJ (n:Nat)(x1:Ri)(x2:List UInt8)(m:Nat)(x3:Int):aeb n x1 x2 (m+1) x3=bif decide (x3< (((x1.Defs.length:Nat):Int))) then (Fb x1.Defs x3).bind fun (r4:Def)=>bif r4.Name==x2 then some (.inr x3)else aeb n x1 x2 m (wrap .i64 (x3+(1:Int)))else some (.inl (())):=by kernel_rfl
theorem at0 (n:Nat)(x1:Ri)(x2:List UInt8):ZG n (x1,x2)=(aeb n x1 x2 n (0:Int)).bind fun (r5:PUnit⊕Int)=>
 Sum.elim (fun (q6:PUnit)=>some (-1:Int))
  (fun (q7:Int)=>some q7) r5:=by kernel_rfl
theorem at1 (n:Nat)(x1:Def)(x2:Attr):Xe n (x1,x2)=bif x2.Kind !=x1.Kind then some (130:Int)else bif x2.Kind==(1:Int) then bif !(x2.S==[]) then some (3:Int)else bif bif decide (x2.N<x1.Lo) then true else decide (x2.N>x1.Hi) then some (131:Int)else some (0:Int)else bif x2.N !=(0:Int) then some (3:Int)else (ZC n ((x1.Words,x2.S))).bind fun (r3:Bool)=>bif !r3 then some (131:Int)else some (0:Int):=by kernel_rfl
def abM (n:Nat)(x1:Ri)(x2:List Attr)(m:Nat)(p:Int):Option (PUnit⊕Int):=
 Sj n false (afD n) Rw am4 Tryz.f32.body [1,0,1,0,0] 2 ⟨[(1,.tX .sh (.st 3) x2),(2,.ref 2 0)],[(2,.ro (.cells [.int .i64 x1.VJ,.int .i64 x1.XP,.tX .sh (.st 1) x1.Defs]))]⟩ m p
theorem anK (n:Nat)(x1:Ri)(x2:List Attr)(m:Nat)(x3:Int):abM n x1 x2 (m+1) x3=bif decide (x3< (x2.length:Int)) then (Fb x2 x3).bind fun (r4:Attr)=>(ZG n ((x1,r4.Name))).bind fun (r5:Int)=>bif decide (r5< (0:Int)) then some (.inr (5:Int))else bif decide (x3> (0:Int)) then (Fb x2 x3).bind fun (r6:Attr)=>(Fb x2 (wrap .i64 (x3-(1:Int)))).bind fun (r7:Attr)=>bif (Go.Op.bytesLess r6.Name r7.Name)||(r6.Name==r7.Name) then some (.inr (6:Int))else (Fb x1.Defs r5).bind fun (r8:Def)=>(Fb x2 x3).bind fun (r9:Attr)=>(Xe n ((r8,r9))).bind fun (RU:Int)=>bif RU !=(0:Int) then some (.inr RU)else abM n x1 x2 m (wrap .i64 (x3+(1:Int)))else (Fb x1.Defs r5).bind fun (Rx:Def)=>(Fb x2 x3).bind fun (Tk:Attr)=>(Xe n ((Rx,Tk))).bind fun (RJ:Int)=>bif RJ !=(0:Int) then some (.inr RJ)else abM n x1 x2 m (wrap .i64 (x3+(1:Int)))else some (.inl (())):=by kernel_rfl
theorem at5 (n:Nat)(x1:Ri)(x2:List Attr):Zy n (x1,x2)=(abM n x1 x2 n (0:Int)).bind fun (Ta:PUnit⊕Int)=>
 Sum.elim (fun (q15:PUnit)=>some (0:Int))
  (fun (q16:Int)=>some q16) Ta:=by kernel_rfl
theorem acN (n:Nat)(x1:Pred):ZT n x1=some (((),(x1.Op,(x1.Name,(x1.N,(x1.M,(x1.S,x1.Rq))))))):=by kernel_rfl
def aaw (n:Nat)(xs:List Pred)(p:PUnit×Int):Option ((PUnit×Int)⊕(PUnit×Int)):=
 X8 (R:=R) (X:=Lv R.T Wy) 3 (wrR E (TG Tryz.f14.body [1,1,0,1,0])) (⟨[(3,TV.ref 3 0)],[]⟩:MS R.T) (Vt afF.loops 3).sh (Vt afF.loops 3).outs (acs E R n false (afE n) Rw afF (TG Tryz.f14.body [1,1,0,1,0]) Wy) xs p
theorem at6 (n:Nat)(x4:Int):aaw n [] ((),x4)=some (.inl (((),x4))):=by kernel_rfl
theorem at7 (n:Nat)(x5:Pred)(xs:List Pred)(x6:Int):aaw n (x5::xs) ((),x6)=bif (wrap .i64 (x6+(1:Int)))==(1000:Int) then some (.inr (((),wrap .i64 (x6+(1:Int)))))else aaw n xs (((),wrap .i64 (x6+(1:Int)))):=by kernel_rfl
theorem aua (n:Nat)(x1:Pred):Zz n x1=(ZT n x1.re).bind fun (r2:PUnit×Int×(List UInt8)×Int×Int×(List UInt8)×List Pred)=>
 Option.bind (α:=(PUnit×Int)⊕(PUnit×Int)) (
  (VO ((⟨r2.2.1,r2.2.2.1,r2.2.2.2.1,r2.2.2.2.2.1,r2.2.2.2.2.2.1,r2.2.2.2.2.2.2⟩:Pred))).bind fun (r3:List Pred)=>
  aaw n r3 (((),(0:Int)))) fun (r7:(PUnit×Int)⊕(PUnit×Int))=>
 Sum.elim (fun (q8:PUnit×Int)=>some q8.2)
  (fun (q9:PUnit×Int)=>some q9.2) r7:=by kernel_rfl
theorem aub (n:Nat)(x1:Pred):Xf n x1=bif bif bif bif !(decide (x1.Op>=(5:Int))) then !(x1.Name==[]) else false then true else bif x1.Op !=(6:Int) then bif x1.N !=(0:Int) then true else x1.M !=(0:Int) else false then true else bif x1.Op !=(7:Int) then !(x1.S==[]) else false then some false else bif bif bif decide (x1.N>x1.M) then true else bif bif x1.Op==(2:Int) then true else x1.Op==(3:Int) then (((x1.Rq.length:Nat):Int))==(0:Int) else false then true else bif x1.Op==(4:Int) then (((x1.Rq.length:Nat):Int)) !=(1:Int) else false then some false else some (bif bif bif x1.Op==(2:Int) then true else x1.Op==(3:Int) then true else x1.Op==(4:Int) then true else (((x1.Rq.length:Nat):Int))==(0:Int)):=by kernel_rfl
theorem auc (n:Nat)(x1:Def)(x2:List UInt8):Xw n (x1,x2)=some (x1.Name==x2):=by kernel_rfl
def aec (n:Nat)(x1:List Def)(x2:List UInt8)(m:Nat)(p:Int):Option (PUnit⊕Int):=
 Sj n false (afG n) Rw am6 Tryz.f75.body [1,0,1,0,0] 2 ⟨[(0,.tX .sh (.st 1) x1),(1,.fn 76 [] ([.Q5 [.str x2] 0])),(7,.int .i64 (x1.length:Int))],[]⟩ m p
theorem anL (n:Nat)(x1:List Def)(x2:List UInt8)(m:Nat)(x3:Int):aec n x1 x2 (m+1) x3=bif decide (x3< (x1.length:Int)) then (Fb x1 x3).bind fun (r4:Def)=>(Xw n ((r4,x2))).bind fun (r5:Bool)=>bif r5 then some (.inr x3)else aec n x1 x2 m (wrap .i64 (x3+(1:Int)))else some (.inl (())):=by kernel_rfl
theorem aud (n:Nat)(x1:List Def)(x2:List UInt8):ZP n (x1,((),x2))=(aec n x1 x2 n (0:Int)).bind fun (r6:PUnit⊕Int)=>
 Sum.elim (fun (q7:PUnit)=>some (-1:Int))
  (fun (q8:Int)=>some q8) r6:=by kernel_rfl
theorem aue (n:Nat)(x1:Ri)(x2:List UInt8):Xg n (x1,x2)=(ZP n ((x1.Defs,((),x2)))).bind fun (r3:Int)=>bif decide (r3< (0:Int)) then some (((⟨[],(0:Int),(0:Int),(0:Int),[]⟩:Def),false))else (Fb x1.Defs r3).bind fun (r4:Def)=>some ((r4,true)):=by kernel_rfl
def Ym (n:Nat)(x1:Ri)(xs:List Pred)(p:PUnit×Int):Option ((PUnit×Int)⊕(PUnit×Int)):=
 X8 (R:=R) (X:=Lv R.T Wy) 5 (wrR E (TG Tryz.f19.body [1,1,0,1,0])) (⟨[(2,TV.ref 2 0),(4,TV.ref 4 0)],[(2,Ob.ro (Ob.cells [TV.int IntKind.i64 x1.VJ,TV.int IntKind.i64 x1.XP,TV.tX (T:=R.T) Cp.sh (Ty.st 1) x1.Defs]))]⟩:MS R.T) (Vt afI.loops 5).sh (Vt afI.loops 5).outs (acs E R n false (afH n) Rw afI (TG Tryz.f19.body [1,1,0,1,0]) Wy) xs p
theorem auf (n:Nat)(x1:Ri)(x6:Int):Ym n x1 [] ((),x6)=some (.inl (((),x6))):=by kernel_rfl
theorem aug (n:Nat)(x1:Ri)(x7:Pred)(xs:List Pred)(x8:Int):Ym n x1 (x7::xs) ((),x8)=bif bif decide (x7.Op< (1:Int)) then true else decide (x7.Op> (7:Int)) then some (.inr (((),(1:Int))))else (Xf n x7.re).bind fun (r9:Bool)=>bif !r9 then some (.inr (((),(3:Int))))else bif decide (x7.Op< (5:Int)) then Ym n x1 xs (((),x8))else (Xg n ((x1,x7.Name))).bind fun (RU:Def×Bool)=>bif !RU.2 then some (.inr (((),(5:Int))))else bif bif bif x7.Op==(6:Int) then RU.1.Kind !=(1:Int) else false then true else bif x7.Op==(7:Int) then RU.1.Kind !=(2:Int) else false then some (.inr (((),(130:Int))))else Ym n x1 xs (((),x8)):=by kernel_rfl
theorem auh (n:Nat)(x1:Ri)(x2:Pred):Zm n (x1,x2)=(Zz n x2.re).bind fun (r3:Int)=>bif decide (r3> (64:Int)) then some (2:Int)else (ZT n x2.re).bind fun (r4:PUnit×Int×(List UInt8)×Int×Int×(List UInt8)×List Pred)=>
  Option.bind (α:=(PUnit×Int)⊕(PUnit×Int)) (
   (VO ((⟨r4.2.1,r4.2.2.1,r4.2.2.2.1,r4.2.2.2.2.1,r4.2.2.2.2.2.1,r4.2.2.2.2.2.2⟩:Pred))).bind fun (r5:List Pred)=>
   Ym n x1 r5 (((),(0:Int)))) fun (Rx:(PUnit×Int)⊕(PUnit×Int))=>
  Sum.elim (fun (q12:PUnit×Int)=>some (0:Int))
   (fun (q13:PUnit×Int)=>some q13.2) Rx:=by kernel_rfl
theorem aui (n:Nat)(x1:Pred):Xs n x1=some ((⟨(4:Int),[],(0:Int),(0:Int),[],[x1.re]⟩:Pred)):=by kernel_rfl
theorem aks (n:Nat)(x1:Int):Xk n x1=bif decide (x1>=(4294967296:Int)) then bif decide ((0:Int)<=(32:Int)) then bif decide ((Uz .u64 x1 (32:Int))>=(65536:Int)) then bif decide ((0:Int)<=(16:Int)) then bif decide ((Uz .u64 (Uz .u64 x1 (32:Int)) (16:Int))>=(256:Int)) then bif decide ((0:Int)<=(8:Int)) then (Fb YS (wrap .u8 (Uz .u64 (Uz .u64 (Uz .u64 x1 (32:Int)) (16:Int)) (8:Int)))).bind fun (r2:UInt8)=>some (wrap .i64 ((wrap .i64 ((wrap .i64 ((32:Int)+(16:Int)))+(8:Int)))+(wrap .i64 (r2.toNat:Int))))else none else (Fb YS (wrap .u8 (Uz .u64 (Uz .u64 x1 (32:Int)) (16:Int)))).bind fun (r3:UInt8)=>some (wrap .i64 ((wrap .i64 ((32:Int)+(16:Int)))+(wrap .i64 (r3.toNat:Int))))else none else bif decide ((Uz .u64 x1 (32:Int))>=(256:Int)) then bif decide ((0:Int)<=(8:Int)) then (Fb YS (wrap .u8 (Uz .u64 (Uz .u64 x1 (32:Int)) (8:Int)))).bind fun (r4:UInt8)=>some (wrap .i64 ((wrap .i64 ((32:Int)+(8:Int)))+(wrap .i64 (r4.toNat:Int))))else none else (Fb YS (wrap .u8 (Uz .u64 x1 (32:Int)))).bind fun (r5:UInt8)=>some (wrap .i64 ((32:Int)+(wrap .i64 (r5.toNat:Int))))else none else bif decide (x1>=(65536:Int)) then bif decide ((0:Int)<=(16:Int)) then bif decide ((Uz .u64 x1 (16:Int))>=(256:Int)) then bif decide ((0:Int)<=(8:Int)) then (Fb YS (wrap .u8 (Uz .u64 (Uz .u64 x1 (16:Int)) (8:Int)))).bind fun (r6:UInt8)=>some (wrap .i64 ((wrap .i64 ((wrap .i64 ((0:Int)+(16:Int)))+(8:Int)))+(wrap .i64 (r6.toNat:Int))))else none else (Fb YS (wrap .u8 (Uz .u64 x1 (16:Int)))).bind fun (r7:UInt8)=>some (wrap .i64 ((wrap .i64 ((0:Int)+(16:Int)))+(wrap .i64 (r7.toNat:Int))))else none else bif decide (x1>=(256:Int)) then bif decide ((0:Int)<=(8:Int)) then (Fb YS (wrap .u8 (Uz .u64 x1 (8:Int)))).bind fun (r8:UInt8)=>some (wrap .i64 ((wrap .i64 ((0:Int)+(8:Int)))+(wrap .i64 (r8.toNat:Int))))else none else (Fb YS (wrap .u8 x1)).bind fun (r9:UInt8)=>some (wrap .i64 ((0:Int)+(wrap .i64 (r9.toNat:Int)))):=by kernel_rfl
theorem akt (n:Nat)(x1:Int):ZY n x1=(Xk n x1).bind fun (r2:Int)=>some r2:=by kernel_rfl
theorem auj (n:Nat)(x1:Int):Xl n x1=some (x1 !=x1):=by kernel_rfl
theorem auk (n:Nat)(x1 x2:Int):Xt n (x1,x2)=(Xl n x1).bind fun (r3:Bool)=>(TM r3 (Xl n x2) false).bind fun (r4:Bool)=>some (bif bif r3 then !r4 else false then true else decide (x1<x2)):=by kernel_rfl
def anM (n:Nat)(x1 x2 x4:Int)(m:Nat)(p:Int×List Int):Option (PUnit×List Int):=
 Sj n false (Yk n) Rw ai6 Tryz.f127.body [1,0,0,1,0,0,1,0,0] 4 ⟨[(0,.vw 1000000 (.int .i64)),(1,.int .i64 x1),(2,.int .i64 x2),(6,.int .i64 x4)],[]⟩ m p
def aku (n:Nat)(x1 x2:Int)(m:Nat)(p:Int×List Int):Option (PUnit×List Int):=
 Sj n false (Yk n) Rw ai6 Tryz.f127.body [1,0,0] 1 ⟨[(0,.vw 1000000 (.int .i64)),(1,.int .i64 x1),(2,.int .i64 x2)],[]⟩ m p
theorem aul (n:Nat)(x1 x2:Int)(x3:List Int):Zt n (((),(x1,x2))) (x3)=(aku n x1 x2 n ((wrap .i64 (x1+(1:Int)),x3))).bind fun (r16:PUnit×List Int)=>some (((),r16.2)):=by kernel_rfl
def anN (n:Nat)(x2 x3:Int)(m:Nat)(p:Int×List Int):Option ((PUnit×List Int)⊕(PUnit×List Int)):=
 Sj n false (Yk n) (afK n) am7 Tryz.f137.body [1,0,0] 1 ⟨[(0,.vw 1000000 (.int .i64)),(2,.int .i64 x2),(3,.int .i64 x3)],[]⟩ m p
def anO (n:Nat)(x1 x2:Int)(m:Nat)(p:Int×List Int):Option (PUnit×List Int):=
 Sj n false (Yk n) (adR n) aja Tryz.f128.body [1,1,1,0,1,0,0] 4 ⟨[(0,.vw 1000000 (.int .i64)),(6,.int .i64 x1),(7,.int .i64 (0:Int)),(8,.int .i64 (wrap .i64 (x2-x1)))],[]⟩ m p
def anP (n:Nat)(x1:Int)(m:Nat)(p:Int×List Int):Option (PUnit×List Int):=
 Sj n false (Yk n) (adR n) aja Tryz.f128.body [1,1,1,1,1,0,0] 8 ⟨[(0,.vw 1000000 (.int .i64)),(6,.int .i64 x1),(7,.int .i64 (0:Int))],[]⟩ m p
theorem aum (n:Nat)(x1:Int):Xh n x1=(ZY n (wrap .u64 x1)).bind fun (r2:Int)=>bif decide ((0:Int)<=r2) then some (Wv .u64 (1:Int) r2)else none:=by kernel_rfl
theorem aun (n:Nat)(x1:Int):ZR n (()) (x1)=bif decide ((0:Int)<=(13:Int)) then bif decide ((0:Int)<=(7:Int)) then bif decide ((0:Int)<=(17:Int)) then some ((Wu .u64 (Wu .u64 (Wu .u64 x1 (Wv .u64 x1 (13:Int))) (Uz .u64 (Wu .u64 x1 (Wv .u64 x1 (13:Int))) (7:Int))) (Wv .u64 (Wu .u64 (Wu .u64 x1 (Wv .u64 x1 (13:Int))) (Uz .u64 (Wu .u64 x1 (Wv .u64 x1 (13:Int))) (7:Int))) (17:Int)),Wu .u64 (Wu .u64 (Wu .u64 x1 (Wv .u64 x1 (13:Int))) (Uz .u64 (Wu .u64 x1 (Wv .u64 x1 (13:Int))) (7:Int))) (Wv .u64 (Wu .u64 (Wu .u64 x1 (Wv .u64 x1 (13:Int))) (Uz .u64 (Wu .u64 x1 (Wv .u64 x1 (13:Int))) (7:Int))) (17:Int))))else none else none else none:=by kernel_rfl
def anQ (n:Nat)(x1 x2 r4:Int)(m:Nat)(p:Int×Int×List Int):Option (PUnit×List Int):=
 Sj n false (aas n) (afM n) am9 Tryz.f129.body [1,1,0,1,1,1,0,0] 5 ⟨[(0,.vw 1000000 (.int .i64)),(1,.int .i64 x1),(6,.int .i64 (wrap .i64 (x2-x1))),(7,.ref 7 0),(8,.int .u64 r4)],[]⟩ m p
def akv (n m:Nat)(p:(Int×Int)×List Int):Option (PUnit×List Int):=
 Sj n false (Ui n) (adS n) anb Tryz.f131.body [1,1,0,0] 2 ⟨[(0,.vw 1000000 (.int .i64))],[]⟩ m p
theorem auo (n:Nat)(x1 x2:Int)(x3:List Int):ZE n (((),(x1,x2))) (x3)=(akv n n (((x1,wrap .i64 (x2-(1:Int))),x3))).bind fun (Rx:PUnit×List Int)=>some (((),Rx.2)):=by kernel_rfl
def anR (n:Nat)(x1 x2 x5:Int)(x6:List Int)(m:Nat)(p:Int):Option (Int):=
 Sj n false (Ui n) (abJ n) adT Tryz.f132.body [1,1,0,1,0,0,1,0,0,0,0,0] 5 ⟨[(0,.vw 1000000 (.int .i64)),(1,.int .i64 x1),(2,.int .i64 x2),(8,.int .i64 x5)],[(1000000,.ro (.arr (.int .i64) x6))]⟩ m p
def anS (n:Nat)(x1 x2 x5 Rx:Int)(m:Nat)(p:Int×List Int):Option (PUnit×List Int):=
 Sj n false (Ui n) (abJ n) adT Tryz.f132.body [1,1,0,1,0,0,1,0,0,1,1,1,1,0,1,0,1,0,0] 14 ⟨[(0,.vw 1000000 (.int .i64)),(1,.int .i64 x1),(2,.int .i64 x2),(7,.int .i64 Rx),(8,.int .i64 x5)],[]⟩ m p
def anT (n:Nat)(x1 x2 x5 Rx:Int)(m:Nat)(p:Int×List Int):Option (PUnit×List Int):=
 Sj n false (Ui n) (abJ n) adT Tryz.f132.body [1,1,0,1,0,0,1,0,0,1,1,1,1,1,1,0,1,0,0] 20 ⟨[(0,.vw 1000000 (.int .i64)),(1,.int .i64 x1),(2,.int .i64 x2),(7,.int .i64 Rx),(8,.int .i64 x5)],[]⟩ m p
def anU (n:Nat)(x1 x2:Int)(m:Nat)(p:(Int×Int)×List Int):Option ((PUnit×List Int)⊕(Bool×List Int)):=
 Sj n false (Ui n) (abJ n) adT Tryz.f132.body [1,1,0,1,0,0] 3 ⟨[(0,.vw 1000000 (.int .i64)),(1,.int .i64 x1),(2,.int .i64 x2)],[]⟩ m p
def anV (n:Nat)(x1 x10:Int)(RG:List Int)(m:Nat)(p:Int):Option (Int):=
 Sj n false (Ui n) (acG n) afN Tryz.f134.body [1,1,1,0,0,0,0,0,0,0] 3 ⟨[(0,.vw 1000000 (.int .i64)),(1,.int .i64 x1),(10,.int .i64 x10)],[(1000000,.ro (.arr (.int .i64) RG))]⟩ m p
def anW (n:Nat)(x1:Int)(RG:List Int)(r16:Int)(m:Nat)(p:Int):Option (Int):=
 Sj n false (Ui n) (acG n) afN Tryz.f134.body [1,1,1,0,0,0,0,1,0,0,0] 5 ⟨[(0,.vw 1000000 (.int .i64)),(1,.int .i64 x1),(9,.int .i64 r16)],[(1000000,.ro (.arr (.int .i64) RG))]⟩ m p
def anX (n:Nat)(x1:Int)(m:Nat)(p:(Int×Int)×List Int):Option (Int×List Int):=
 Sj n false (Ui n) (acG n) afN Tryz.f134.body [1,1,1,0,0,0] 503 ⟨[(0,.vw 1000000 (.int .i64)),(1,.int .i64 x1)],[]⟩ m p
def anY (n:Nat)(x1 x2 x3:Int)(x4:List Int)(r5 r6:Int)(m:Nat)(p:Int):Option (Int):=
 Sj n false (Ui n) (aaZ n) acH Tryz.f135.body [1,1,1,0,0,0] 3 ⟨[(0,.vw 1000000 (.int .i64)),(1,.int .i64 x1),(11,.int .i64 (wrap .i64 (x2-(1:Int))))],[(1000000,.ro (.arr (.int .i64) (Rc (Rc x4 x1 r5) x3 r6)))]⟩ m p
def anZ (n:Nat)(x1 x3:Int)(x4:List Int)(r5 r6 RJ:Int)(m:Nat)(p:Int):Option (Int):=
 Sj n false (Ui n) (aaZ n) acH Tryz.f135.body [1,1,1,1,0,0,0] 5 ⟨[(0,.vw 1000000 (.int .i64)),(1,.int .i64 x1),(10,.int .i64 RJ)],[(1000000,.ro (.arr (.int .i64) (Rc (Rc x4 x1 r5) x3 r6)))]⟩ m p
def an0 (n:Nat)(x1 x28:Int)(x29:List Int)(m:Nat)(p:Int):Option (Int):=
 Sj n false (Ui n) (aaZ n) acH Tryz.f135.body [1,1,1,1,1,1,1,1,1,0,0,0,0,0,0,0] 13 ⟨[(0,.vw 1000000 (.int .i64)),(1,.int .i64 x1),(11,.int .i64 x28)],[(1000000,.ro (.arr (.int .i64) x29))]⟩ m p
def an1 (n:Nat)(x1:Int)(x29:List Int)(TN:Int)(m:Nat)(p:Int):Option (Int):=
 Sj n false (Ui n) (aaZ n) acH Tryz.f135.body [1,1,1,1,1,1,1,1,1,0,0,0,0,1,0,0,0] 15 ⟨[(0,.vw 1000000 (.int .i64)),(1,.int .i64 x1),(10,.int .i64 TN)],[(1000000,.ro (.arr (.int .i64) x29))]⟩ m p
def an2 (n:Nat)(x1:Int)(m:Nat)(p:(Int×Int)×List Int):Option (Int×List Int):=
 Sj n false (Ui n) (aaZ n) acH Tryz.f135.body [1,1,1,1,1,1,1,1,1,0,0,0] 513 ⟨[(0,.vw 1000000 (.int .i64)),(1,.int .i64 x1)],[]⟩ m p
def an3 (n g m:Nat)(p:(Int×Int×Int×Bool×Bool)×List Int):Option (PUnit×List Int):=
 abz (R:=R) 2 (Rn E ((TG Tryz.f117.body [1,1,0,0]).getD .skip)) (⟨[(0,TV.vw 1000000 (Ty.int IntKind.i64))],[]⟩:MS R.T) (Vt adV.loops 2).sh (Vt adV.loops 2).outs (fun st k=>Tc E R n false (Ui n) (abE 117 ⟨Wz,VT,XV,Yl n g⟩ (adU n)) adV ((TG Tryz.f117.body [1,1,0,0]).getD .skip) st k) m p
theorem aup (n:Nat)(x1:List Int):ZS n (()) (x1)=(ZY n (wrap .u64 (x1.length:Int))).bind fun (r2:Int)=>(QR n (((),((0:Int),((x1.length:Int),r2)))) x1).bind fun (r3:PUnit×List Int)=>some (((),r3.2)):=by kernel_rfl
def acO (n:Nat)(x2:Int)(x3:List Int)(m:Nat)(p:(Int×Int)×List Int):Option (Int×List Int):=
 Sj n false (Ui n) (adW n) ajQ Tryz.f105.body [1,1,0,1,0,0,1,0,0,1,0,1,0,1,0,0] 9 ⟨[(0,.vw 1000000 (.int .i64)),(4,.sub 1000000 (.int .i64) ((0:Int)+x2) ((0:Int)+((x3.length:Int)-(0:Int))))],[]⟩ m p
def aed (n m:Nat)(p:Int×List Int):Option ((PUnit×List Int)⊕((Int×Int)×List Int)):=
 Sj n false (Ui n) (adW n) ajQ Tryz.f105.body [1,1,0,1,0,0] 4 ⟨[(0,.vw 1000000 (.int .i64))],[]⟩ m p
theorem auq (n:Nat)(x2:Int)(x3:List Int)(m:Nat)(x6 x7:Int)(x8:List Int):acO n x2 x3 (m+1) ((x6,x7),x8)=bif decide (x7< (((Int.toNat (((0:Int)+((x3.length:Int)-(0:Int)))-((0:Int)+x2)):Nat):Int))) then bif UJ x7 (((0:Int)+((x3.length:Int)-(0:Int)))-((0:Int)+x2)) then (Fb x8 (((0:Int)+x2)+x7)).bind fun (r9:Int)=>bif UJ (wrap .i64 (x7-(1:Int))) (((0:Int)+((x3.length:Int)-(0:Int)))-((0:Int)+x2)) then (Fb x8 (((0:Int)+x2)+(wrap .i64 (x7-(1:Int))))).bind fun (RU:Int)=>bif r9 !=RU then bif UJ x7 (((0:Int)+((x3.length:Int)-(0:Int)))-((0:Int)+x2)) then (Fb x8 (((0:Int)+x2)+x7)).bind fun (Rx:Int)=>bif decide (0<=x6/\x6< (x8.length:Int)) then (Fb x8 x6).bind fun (Tk:Int)=>
       acO n x2 x3 m (((wrap .i64 (x6+(1:Int)),wrap .i64 (x7+(1:Int))),Rc x8 x6 Rx))else none else none else acO n x2 x3 m (((x6,wrap .i64 (x7+(1:Int))),x8))else none else none else some ((x6,x8)):=by kernel_rfl
theorem aur (n m:Nat)(x2:Int)(x3:List Int):aed n (m+1) (x2,x3)=bif decide (x2< (x3.length:Int)) then bif decide (0<=x2/\x2< (x3.length:Int)) then (Fb x3 x2).bind fun (r4:Int)=>bif decide (0<=(wrap .i64 (x2-(1:Int)))/\(wrap .i64 (x2-(1:Int)))< (x3.length:Int)) then (Fb x3 (wrap .i64 (x2-(1:Int)))).bind fun (r5:Int)=>bif r4==r5 then bif VH x2 ((x3.length:Int)-(0:Int)) ((x3.length:Int)-(0:Int)) then (acO n x2 x3 n (((x2,(1:Int)),x3))).bind fun (RJ:Int×List Int)=>bif VH RJ.1 ((RJ.2.length:Int)-(0:Int)) ((RJ.2.length:Int)-(0:Int)) then bif VH (0:Int) RJ.1 (((((U5 RJ.2 ((0:Int)+RJ.1) ((0:Int)+((RJ.2.length:Int)-(0:Int))) (0:Int)).length:Nat):Int))-(0:Int)) then some (.inr ((((0:Int)+(0:Int),(0:Int)+RJ.1),U5 RJ.2 ((0:Int)+RJ.1) ((0:Int)+((RJ.2.length:Int)-(0:Int))) (0:Int))))else none else none else none else aed n m ((wrap .i64 (x2+(1:Int)),x3))else none else none else some (.inl (((),x3))):=by kernel_rfl
theorem aus (n:Nat)(x1:List Int):Zg n (()) (x1)=bif decide ((x1.length:Int)< (2:Int)) then some ((((0:Int),(x1.length:Int)),x1))else (aed n n (((1:Int),x1))).bind fun (Ta:(PUnit×List Int)⊕((Int×Int)×List Int))=>
  Sum.elim (fun (q15:PUnit×List Int)=>some ((((0:Int),(q15.2.length:Int)),q15.2)))
   (fun (q16:(Int×Int)×List Int)=>some (((q16.1.1,q16.1.2),q16.2))) Ta:=by kernel_rfl
def aax (n:Nat)(x1:Int)(x8:List UInt8)(x9 x10 RG:Int)(SQ:List (List UInt8))(xs:List Pred)(p:PUnit×List Bool):Option (PUnit×List Bool):=
 X8 (R:=R) (X:=Lv R.T Wy) 4 (wrR E (TG Tryz.f118.body [1,1,0,1,0])) (⟨[(2,TV.Q5 [TV.str x8,TV.int IntKind.i64 x9,TV.int IntKind.i64 x10,TV.int IntKind.i64 RG,TV.tX (T:=R.T) Cp.sh Ty.str SQ] 0),(3,TV.ref 3 0),(5,TV.ref 5 0)],[(3,Ob.ro (Ob.cells [TV.int IntKind.i64 x1]))]⟩:MS R.T) (Vt afP.loops 4).sh (Vt afP.loops 4).outs (acs E R n false (Ui n) (Y6 n) afP (TG Tryz.f118.body [1,1,0,1,0]) Wy) xs p
theorem aut (n:Nat)(x1:Int)(x8:List UInt8)(x9 x10 RG:Int)(SQ:List (List UInt8))(Um:List Bool):aax n x1 x8 x9 x10 RG SQ [] ((),Um)=some (((),Um)):=by kernel_rfl
theorem auu (n:Nat)(x1:Int)(x8:List UInt8)(x9 x10 RG:Int)(SQ:List (List UInt8))(SN:Pred)(xs:List Pred)(Sr:List Bool):aax n x1 x8 x9 x10 RG SQ (SN::xs) ((),Sr)=bif bif SN.Op==(6:Int) then SN.Name==x8 else false then bif Sl (Sr.length+([bif decide (x1>=SN.N) then decide (x1<=SN.M) else false].length)) 1 then aax n x1 x8 x9 x10 RG SQ xs (((),Sr++[bif decide (x1>=SN.N) then decide (x1<=SN.M) else false]))else none else aax n x1 x8 x9 x10 RG SQ xs (((),Sr)):=by kernel_rfl
theorem auv (n:Nat)(x1 x2:Int)(x3:List UInt8)(x4 x5:Int)(x6:List UInt8)(x7:List Pred)(x8:List UInt8)(x9 x10 RG:Int)(SQ:List (List UInt8)):Zw n (x1,((x2,(x3,(x4,(x5,(x6,x7))))),(x8,(x9,(x10,(RG,SQ))))))=(ZT n ((⟨x2,x3,x4,x5,x6,x7⟩:Pred))).bind fun (RJ:PUnit×Int×(List UInt8)×Int×Int×(List UInt8)×List Pred)=>
 Option.bind (α:=PUnit×List Bool) (
  (VO ((⟨RJ.2.1,RJ.2.2.1,RJ.2.2.2.1,RJ.2.2.2.2.1,RJ.2.2.2.2.2.1,RJ.2.2.2.2.2.2⟩:Pred))).bind fun (Ta:List Pred)=>
  aax n x1 x8 x9 x10 RG SQ Ta (((),[]))) fun (TD:PUnit×List Bool)=>some TD.2:=by kernel_rfl
def aee (n:Nat)(x1 x2:List Bool)(m:Nat)(p:Int):Option (PUnit⊕Bool):=
 Sj n false (afQ n) (Y6 n) anf Tryz.f121.body [1,1,0,1,0,0] 4 ⟨[(0,.tX .sh .bool x1),(1,.tX .sh .bool x2),(12,.int .i64 (x1.length:Int))],[]⟩ m p
theorem an4 (n:Nat)(x1 x2:List Bool)(m:Nat)(x3:Int):aee n x1 x2 (m+1) x3=bif decide (x3< (x1.length:Int)) then (Fb x1 x3).bind fun (r4:Bool)=>(Fb x2 x3).bind fun (r5:Bool)=>bif !(r4==r5) then some (.inr false)else aee n x1 x2 m (wrap .i64 (x3+(1:Int)))else some (.inl (())):=by kernel_rfl
theorem auw (n:Nat)(x1 x2:List Bool):ZH n (x1,x2)=bif (x1.length:Int) !=(x2.length:Int) then some false else (aee n x1 x2 n (0:Int)).bind fun (r6:PUnit⊕Bool)=>
  Sum.elim (fun (q7:PUnit)=>some true)
   (fun (q8:Bool)=>some q8) r6:=by kernel_rfl
theorem auy (n:Nat)(x1 x2 x3:Int)(x4:List UInt8)(x5 x6:Int)(x7:List UInt8)(x8:List Pred)(x9:List UInt8)(x10 RG SQ:Int)(UD:List (List UInt8)):Xb n (x1,(x2,((),((x3,(x4,(x5,(x6,(x7,x8))))),(x9,(x10,(RG,(SQ,UD))))))))=(Zw n ((x1,((x3,(x4,(x5,(x6,(x7,x8))))),(x9,(x10,(RG,(SQ,UD)))))))).bind fun (Ta:List Bool)=>(Zw n ((x2,((x3,(x4,(x5,(x6,(x7,x8))))),(x9,(x10,(RG,(SQ,UD)))))))).bind fun (SX:List Bool)=>(ZH n ((Ta,SX))).bind fun (r16:Bool)=>some r16:=by kernel_rfl
def acP (n:Nat)(x1 x2 x4:Int)(x5:List UInt8)(x6 x7:Int)(x8:List UInt8)(x9:List Pred)(x10:List UInt8)(RG SQ UD:Int)(Uj:List (List UInt8))(Um:Int)(m:Nat)(p:(Int×Int)×List Int):Option (Int×List Int):=
 Sj n false (aa0 n) (Y6 n) aj2 Tryz.f119.body [1,1,0,1,0,0,1,0,0,1,0,1,0,1,0,0] 9 ⟨[(0,.sub 1000000 (.int .i64) x1 x2),(1,.fn 120 [] [.ref 1000001 0]),(6,.sub 1000000 (.int .i64) (x1+Um) (x1+(x2-x1)))],[(1000001,.ro (.ro (.cells ([.fn 118 [] ([.Q5 [.int .i64 x4,.str x5,.int .i64 x6,.int .i64 x7,.str x8,.tX .any (.st 0) x9] 0,.Q5 [.str x10,.int .i64 RG,.int .i64 SQ,.int .i64 UD,.tX .any .str Uj] 0])]))))]⟩ m p
def aef (n:Nat)(x1 x2 x4:Int)(x5:List UInt8)(x6 x7:Int)(x8:List UInt8)(x9:List Pred)(x10:List UInt8)(RG SQ UD:Int)(Uj:List (List UInt8))(m:Nat)(p:Int×List Int):Option ((PUnit×List Int)⊕((Int×Int)×List Int)):=
 Sj n false (aa0 n) (Y6 n) aj2 Tryz.f119.body [1,1,0,1,0,0] 4 ⟨[(0,.sub 1000000 (.int .i64) x1 x2),(1,.fn 120 [] [.ref 1000001 0])],[(1000001,.ro (.cells ([.fn 118 [] ([.Q5 [.int .i64 x4,.str x5,.int .i64 x6,.int .i64 x7,.str x8,.tX .any (.st 0) x9] 0,.Q5 [.str x10,.int .i64 RG,.int .i64 SQ,.int .i64 UD,.tX .any .str Uj] 0])])))]⟩ m p
theorem auz (n:Nat)(x1 x2 x4:Int)(x5:List UInt8)(x6 x7:Int)(x8:List UInt8)(x9:List Pred)(x10:List UInt8)(RG SQ UD:Int)(Uj:List (List UInt8))(Um:Int)(m:Nat)(x20 x21:Int)(x22:List Int):acP n x1 x2 x4 x5 x6 x7 x8 x9 x10 RG SQ UD Uj Um (m+1) ((x20,x21),x22)=bif decide (x21< (((Int.toNat ((x1+(x2-x1))-(x1+Um)):Nat):Int))) then bif UJ x21 ((x1+(x2-x1))-(x1+Um)) then (Fb x22 ((x1+Um)+x21)).bind fun (WV:Int)=>bif UJ (wrap .i64 (x21-(1:Int))) ((x1+(x2-x1))-(x1+Um)) then (Fb x22 ((x1+Um)+(wrap .i64 (x21-(1:Int))))).bind fun (r24:Int)=>(Xb n ((WV,(r24,((),((x4,(x5,(x6,(x7,(x8,x9))))),(x10,(RG,(SQ,(UD,Uj)))))))))).bind fun (WW:Bool)=>bif !WW then bif UJ x21 ((x1+(x2-x1))-(x1+Um)) then (Fb x22 ((x1+Um)+x21)).bind fun (UC:Int)=>bif UJ x20 (x2-x1) then (Fb x22 (x1+x20)).bind fun (r27:Int)=>
       acP n x1 x2 x4 x5 x6 x7 x8 x9 x10 RG SQ UD Uj Um m (((wrap .i64 (x20+(1:Int)),wrap .i64 (x21+(1:Int))),Rc x22 (x1+x20) UC))else none else none else acP n x1 x2 x4 x5 x6 x7 x8 x9 x10 RG SQ UD Uj Um m (((x20,wrap .i64 (x21+(1:Int))),x22))else none else none else some ((x20,x22)):=by kernel_rfl
theorem auA (n:Nat)(x1 x2 x4:Int)(x5:List UInt8)(x6 x7:Int)(x8:List UInt8)(x9:List Pred)(x10:List UInt8)(RG SQ UD:Int)(Uj:List (List UInt8))(m:Nat)(Um:Int)(SN:List Int):aef n x1 x2 x4 x5 x6 x7 x8 x9 x10 RG SQ UD Uj (m+1) (Um,SN)=bif decide (Um< (((Int.toNat (x2-x1):Nat):Int))) then bif UJ Um (x2-x1) then (Fb SN (x1+Um)).bind fun (WA:Int)=>bif UJ (wrap .i64 (Um-(1:Int))) (x2-x1) then (Fb SN (x1+(wrap .i64 (Um-(1:Int))))).bind fun (TD:Int)=>(Xb n ((WA,(TD,((),((x4,(x5,(x6,(x7,(x8,x9))))),(x10,(RG,(SQ,(UD,Uj)))))))))).bind fun (Yn:Bool)=>bif Yn then bif VH Um (x2-x1) (x2-x1) then (acP n x1 x2 x4 x5 x6 x7 x8 x9 x10 RG SQ UD Uj Um n (((Um,(1:Int)),SN))).bind fun (r28:Int×List Int)=>bif VH r28.1 (x2-x1) (x2-x1) then bif VH (0:Int) r28.1 (x2-x1) then some (.inr (((x1+(0:Int),x1+r28.1),U5 r28.2 (x1+r28.1) (x1+(x2-x1)) (0:Int))))else none else none else none else aef n x1 x2 x4 x5 x6 x7 x8 x9 x10 RG SQ UD Uj m ((wrap .i64 (Um+(1:Int)),SN))else none else none else some (.inl (((),SN))):=by kernel_rfl
theorem auB (n:Nat)(x1 x2:Int)(x3:List Int)(x4:Int)(x5:List UInt8)(x6 x7:Int)(x8:List UInt8)(x9:List Pred)(x10:List UInt8)(RG SQ UD:Int)(Uj:List (List UInt8)):Zj n (((x1,x2),((),()))) ((x3,((),((x4,(x5,(x6,(x7,(x8,x9))))),(x10,(RG,(SQ,(UD,Uj))))))))=bif decide ((((Int.toNat (x2-x1):Nat):Int))< (2:Int)) then some (((x1,x2),(x3,((),((x4,(x5,(x6,(x7,(x8,x9))))),(x10,(RG,(SQ,(UD,Uj)))))))))else (aef n x1 x2 x4 x5 x6 x7 x8 x9 x10 RG SQ UD Uj n (((1:Int),x3))).bind fun (Vv:(PUnit×List Int)⊕((Int×Int)×List Int))=>
  Sum.elim (fun (q30:PUnit×List Int)=>some (((x1,x2),(q30.2,((),((x4,(x5,(x6,(x7,(x8,x9))))),(x10,(RG,(SQ,(UD,Uj))))))))))
   (fun (q31:(Int×Int)×List Int)=>some (((q31.1.1,q31.1.2),(q31.2,((),((x4,(x5,(x6,(x7,(x8,x9))))),(x10,(RG,(SQ,(UD,Uj)))))))))) Vv:=by kernel_rfl
theorem auD (n:Nat)(x1:Def)(x2:Pred)(x3 x4:Int)(x5:List Int):ZQ n ((x1,(x2,(x3,x4)))) (x5)=(Zj n (((x3,x4),((),()))) ((x5,((),((x2.Op,(x2.Name,(x2.N,(x2.M,(x2.S,x2.Rq))))),(x1.Name,(x1.Kind,(x1.Lo,(x1.Hi,x1.Words))))))))).bind fun (r6:(Int×Int)×(List Int)×PUnit×(Int×(List UInt8)×Int×Int×(List UInt8)×List Pred)×(List UInt8)×Int×Int×Int×List (List UInt8))=>some (((r6.1.1,r6.1.2),r6.2.1)):=by kernel_rfl
def Y9 (n:Nat)(x1:Def)(x2:Pred)(xs:List Pred)(p:PUnit×PUnit×List Int):Option (PUnit×PUnit×List Int):=
 X8 (R:=R) (X:=Lv R.T Wy) 4 (wrR E (TG Tryz.f94.body [1,1,0,1,0])) (⟨[(2,TV.Q5 [TV.str x1.Name,TV.int IntKind.i64 x1.Kind,TV.int IntKind.i64 x1.Lo,TV.int IntKind.i64 x1.Hi,TV.tX (T:=R.T) Cp.sh Ty.str x1.Words] 0),(3,TV.Q5 [TV.int IntKind.i64 x2.Op,TV.str x2.Name,TV.int IntKind.i64 x2.N,TV.int IntKind.i64 x2.M,TV.str x2.S,TV.tX (T:=R.T) Cp.sh (Ty.st 0) x2.Rq] 0),(5,TV.ref 5 0)],[]⟩:MS R.T) (Vt afR.loops 4).sh (Vt afR.loops 4).outs (acs E R n true (aa0 n) (VU n) afR (TG Tryz.f94.body [1,1,0,1,0]) Wy) xs p
theorem auE (n:Nat)(x1:Def)(x2:Pred)(x5:List Int):Y9 n x1 x2 [] ((),((),x5))=some (((),((),x5))):=by kernel_rfl
theorem auF (n:Nat)(x1:Def)(x2 x6:Pred)(xs:List Pred)(x7:List Int):Y9 n x1 x2 (x6::xs) ((),((),x7))=bif bif x6.Op !=(6:Int) then true else !(x6.Name==x1.Name) then Y9 n x1 x2 xs (((),((),x7)))else bif bif decide (x6.N>x1.Lo) then decide (x6.N<=x1.Hi) else false then bif Sl (x7.length+([x6.N].length)) 8 then bif bif decide (x6.M>=x1.Lo) then decide (x6.M<x1.Hi) else false then bif Sl (((x7++[x6.N]).length)+([wrap .i64 (x6.M+(1:Int))].length)) 8 then Y9 n x1 x2 xs (((),((),(x7++[x6.N])++[wrap .i64 (x6.M+(1:Int))])))else none else Y9 n x1 x2 xs (((),((),x7++[x6.N])))else none else bif bif decide (x6.M>=x1.Lo) then decide (x6.M<x1.Hi) else false then bif Sl (x7.length+([wrap .i64 (x6.M+(1:Int))].length)) 8 then Y9 n x1 x2 xs (((),((),x7++[wrap .i64 (x6.M+(1:Int))])))else none else Y9 n x1 x2 xs (((),((),x7))):=by kernel_rfl
theorem auG (n:Nat)(x1:Def)(x2:Pred):Zu n (x1,x2)=(ZT n x2.re).bind fun (r3:PUnit×Int×(List UInt8)×Int×Int×(List UInt8)×List Pred)=>
 Option.bind (α:=PUnit×PUnit×List Int) (
  (VO ((⟨r3.2.1,r3.2.2.1,r3.2.2.2.1,r3.2.2.2.2.1,r3.2.2.2.2.2.1,r3.2.2.2.2.2.2⟩:Pred))).bind fun (r4:List Pred)=>
  Y9 n x1 x2 r4 (((),((),[x1.Lo])))) fun (r8:PUnit×PUnit×List Int)=>(ZS n (()) r8.2.2).bind fun (r9:PUnit×List Int)=>(Zg n (()) r9.2).bind fun (RU:(Int×Int)×List Int)=>(ZQ n ((x1,(x2.re,(RU.1.1,RU.1.2)))) RU.2).bind fun (Rx:(Int×Int)×List Int)=>some (Yx Rx.2 Rx.1.1 Rx.1.2):=by kernel_rfl
def aay (n:Nat)(x1:Def)(xs:List Pred)(p:PUnit×List ((List UInt8)×Bool)):Option (PUnit×List ((List UInt8)×Bool)):=
 X8 (R:=R) (X:=Lv R.T Wy) 4 (wrR E (TG Tryz.f95.body [1,1,0,1,0])) (⟨[(2,TV.Q5 [TV.str x1.Name,TV.int IntKind.i64 x1.Kind,TV.int IntKind.i64 x1.Lo,TV.int IntKind.i64 x1.Hi,TV.tX (T:=R.T) Cp.sh Ty.str x1.Words] 0),(5,TV.ref 5 0)],[(5,Ob.ro (Ob.cells [TV.RA 11]))]⟩:MS R.T) (Vt adY.loops 4).sh (Vt adY.loops 4).outs (acs E R n false (adX n) (VU n) adY (TG Tryz.f95.body [1,1,0,1,0]) Wy) xs p
def acQ (n:Nat)(x1:Def)(r8:PUnit×List ((List UInt8)×Bool))(m:Nat)(p:(List (List UInt8))×Bool×Int):Option (List (List UInt8)):=
 Sj n false (adX n) (VU n) adY Tryz.f95.body [1,1,1,1,1,0,1,0,0] 9 ⟨[(5,.ref 5 0),(29,.tX .sh .str x1.Words),(30,.int .i64 (((x1.Words.length:Nat):Int)))],[(5,.ro (.cells [.RA 11])),(11,.ro (.map .str .bool r8.2))]⟩ m p
theorem an5 (n:Nat)(x1:Def)(r8:PUnit×List ((List UInt8)×Bool))(m:Nat)(x9:List (List UInt8))(x10:Bool)(RG:Int):acQ n x1 r8 (m+1) (x9,(x10,RG))=bif decide (RG< (((x1.Words.length:Nat):Int))) then (Fb x1.Words RG).bind fun (Tk:List UInt8)=>bif bif WK false (UK (SC R Ty.str) Tk r8.2) then true else !x10 then bif Sl (x9.length+([Tk].length)) 16 then acQ n x1 r8 m ((x9++[Tk],(bif x10 then true else !(WK false (UK (SC R Ty.str) Tk r8.2)),wrap .i64 (RG+(1:Int)))))else none else acQ n x1 r8 m ((x9,(bif x10 then true else !(WK false (UK (SC R Ty.str) Tk r8.2)),wrap .i64 (RG+(1:Int)))))else some x9:=by kernel_rfl
theorem auH (n:Nat)(x1:Def)(x5:List ((List UInt8)×Bool)):aay n x1 [] ((),x5)=some (((),x5)):=by kernel_rfl
theorem auI (n:Nat)(x1:Def)(x6:Pred)(xs:List Pred)(x7:List ((List UInt8)×Bool)):aay n x1 (x6::xs) ((),x7)=bif bif x6.Op==(7:Int) then x6.Name==x1.Name else false then aay n x1 xs (((),Wi (SC R Ty.str) x6.S true x7))else aay n x1 xs (((),x7)):=by kernel_rfl
theorem auJ (n:Nat)(x1:Def)(x2:Pred):Zh n (x1,x2)=(ZT n x2.re).bind fun (r3:PUnit×Int×(List UInt8)×Int×Int×(List UInt8)×List Pred)=>
 Option.bind (α:=PUnit×List ((List UInt8)×Bool)) (
  (VO ((⟨r3.2.1,r3.2.2.1,r3.2.2.2.1,r3.2.2.2.2.1,r3.2.2.2.2.2.1,r3.2.2.2.2.2.2⟩:Pred))).bind fun (r4:List Pred)=>
  aay n x1 r4 (((),[]))) fun (r8:PUnit×List ((List UInt8)×Bool))=>(acQ n x1 r8 n (([],(false,(0:Int))))).bind fun (RJ:List (List UInt8))=>some RJ:=by kernel_rfl
def aeg (n:Nat)(x1:Def)(r3:List Int)(m:Nat)(p:(List Q6)×Int):Option (List Q6):=
 Sj n false (adZ n) (VU n) akf Tryz.f78.body [1,1,0,1,0,0,1,0,0] 4 ⟨[(2,.Q5 [.str x1.Name,.int .i64 x1.Kind,.int .i64 x1.Lo,.int .i64 x1.Hi,.tX .sh .str x1.Words] 0),(17,.tX .sh (.int .i64) r3),(18,.int .i64 (r3.length:Int))],[]⟩ m p
def aeh (n:Nat)(x1:Def)(r8:List (List UInt8))(m:Nat)(p:(List Q6)×Int):Option (List Q6):=
 Sj n false (adZ n) (VU n) akf Tryz.f78.body [1,1,1,0,1,0,0] 10 ⟨[(2,.Q5 [.str x1.Name,.int .i64 x1.Kind,.int .i64 x1.Lo,.int .i64 x1.Hi,.tX .sh .str x1.Words] 0),(37,.tX .sh .str r8),(38,.int .i64 (r8.length:Int))],[]⟩ m p
theorem an6 (n:Nat)(x1:Def)(r3:List Int)(m:Nat)(x4:List Q6)(x5:Int):aeg n x1 r3 (m+1) (x4,x5)=bif decide (x5< (r3.length:Int)) then (Fb r3 x5).bind fun (r6:Int)=>bif Sl (x4.length+(([(⟨(⟨x1.Name,x1.Kind,r6,[]⟩:Attr),true⟩:Q6)]).length)) 56 then aeg n x1 r3 m ((x4++([(⟨(⟨x1.Name,x1.Kind,r6,[]⟩:Attr),true⟩:Q6)]),wrap .i64 (x5+(1:Int))))else none else some x4:=by kernel_rfl
theorem an7 (n:Nat)(x1:Def)(r8:List (List UInt8))(m:Nat)(x9:List Q6)(x10:Int):aeh n x1 r8 (m+1) (x9,x10)=bif decide (x10< (r8.length:Int)) then (Fb r8 x10).bind fun (Rx:List UInt8)=>bif Sl (x9.length+([(⟨(⟨x1.Name,x1.Kind,(0:Int),Rx⟩:Attr),true⟩:Q6)].length)) 56 then aeh n x1 r8 m ((x9++[(⟨(⟨x1.Name,x1.Kind,(0:Int),Rx⟩:Attr),true⟩:Q6)],wrap .i64 (x10+(1:Int))))else none else some x9:=by kernel_rfl
theorem auK (n:Nat)(x1:Def)(x2:Pred):Zo n (x1,x2)=bif x1.Kind==(1:Int) then (Zu n ((x1,x2.re))).bind fun (r3:List Int)=>(aeg n x1 r3 n (([(⟨(⟨[],(0:Int),(0:Int),[]⟩:Attr),false⟩:Q6)],(0:Int)))).bind fun (r7:List Q6)=>some r7 else (Zh n ((x1,x2.re))).bind fun (r8:List (List UInt8))=>(aeh n x1 r8 n (([(⟨(⟨[],(0:Int),(0:Int),[]⟩:Attr),false⟩:Q6)],(0:Int)))).bind fun (Tk:List Q6)=>some Tk:=by kernel_rfl
def acR (n:Nat)(x1:Ri)(x2:Pred)(x3:Int)(r5:Def)(xs:List Pred)(p:PUnit×List (List Q6)):Option ((PUnit×List (List Q6))⊕(PUnit×List (List Q6))):=
 X8 (R:=R) (X:=Lv R.T Wy) 7 (wrR E (TG Tryz.f56.body [1,1,0,1,0,0,1,1,0,0,1,1,0])) (⟨[(3,TV.Q5 [TV.int IntKind.i64 x2.Op,TV.str x2.Name,TV.int IntKind.i64 x2.N,TV.int IntKind.i64 x2.M,TV.str x2.S,TV.tX (T:=R.T) Cp.sh (Ty.st 0) x2.Rq] 0),(5,TV.ref 5 0),(7,TV.ref 7 0),(10,TV.tX (T:=R.T) Cp.sh (Ty.st 1) x1.Defs),(11,TV.int IntKind.i64 (((x1.Defs.length:Nat):Int))),(12,TV.int IntKind.i64 x3)],[(7,Ob.ro (Ob.cells [TV.str r5.Name,TV.int IntKind.i64 r5.Kind,TV.int IntKind.i64 r5.Lo,TV.int IntKind.i64 r5.Hi,TV.tX (T:=R.T) Cp.sh Ty.str r5.Words]))]⟩:MS R.T) (Vt ad2.loops 7).sh (Vt ad2.loops 7).outs (acs E R n false (ad1 n) (VU n) ad2 (TG Tryz.f56.body [1,1,0,1,0,0,1,1,0,0,1,1,0]) Wy) xs p
def abb (n:Nat)(x1:Ri)(x2:Pred)(m:Nat)(p:Int×List (List Q6)):Option (PUnit×List (List Q6)):=
 Sj n false (ad1 n) (VU n) ad2 Tryz.f56.body [1,1,0,1,0,0] 3 ⟨[(3,.Q5 [.int .i64 x2.Op,.str x2.Name,.int .i64 x2.N,.int .i64 x2.M,.str x2.S,.tX .sh (.st 0) x2.Rq] 0),(5,.ref 5 0),(10,.tX .sh (.st 1) x1.Defs),(11,.int .i64 (((x1.Defs.length:Nat):Int)))],[]⟩ m p
theorem an8 (n:Nat)(x1:Ri)(x2:Pred)(m:Nat)(x3:Int)(x4:List (List Q6)):abb n x1 x2 (m+1) (x3,x4)=bif decide (x3< (((x1.Defs.length:Nat):Int))) then (Fb x1.Defs x3).bind fun (r5:Def)=>(ZT n x2.re).bind fun (r6:PUnit×Int×(List UInt8)×Int×Int×(List UInt8)×List Pred)=>
  Option.bind (α:=(PUnit×List (List Q6))⊕(PUnit×List (List Q6))) (
   (VO ((⟨r6.2.1,r6.2.2.1,r6.2.2.2.1,r6.2.2.2.2.1,r6.2.2.2.2.2.1,r6.2.2.2.2.2.2⟩:Pred))).bind fun (r7:List Pred)=>
   acR n x1 x2 x3 r5 r7 (((),x4))) fun (Tk:(PUnit×List (List Q6))⊕(PUnit×List (List Q6)))=>
  Sum.elim (fun (q13:PUnit×List (List Q6))=>
   abb n x1 x2 m ((wrap .i64 (x3+(1:Int)),q13.2)))
   (fun (q14:PUnit×List (List Q6))=>
    abb n x1 x2 m ((wrap .i64 (x3+(1:Int)),q14.2))) Tk else some (((),x4)):=by kernel_rfl
theorem auL (n:Nat)(x1:Ri)(x2:Pred)(x3:Int)(r5:Def)(x8:List (List Q6)):acR n x1 x2 x3 r5 [] ((),x8)=some (.inl (((),x8))):=by kernel_rfl
theorem auM (n:Nat)(x1:Ri)(x2:Pred)(x3:Int)(r5:Def)(x9:Pred)(xs:List Pred)(x10:List (List Q6)):acR n x1 x2 x3 r5 (x9::xs) ((),x10)=bif bif decide (x9.Op>=(5:Int)) then x9.Name==r5.Name else false then (Zo n ((r5,x2.re))).bind fun (Rx:List Q6)=>bif Sl (x10.length+([Rx].length)) 24 then some (.inr (((),x10++[Rx])))else none else acR n x1 x2 x3 r5 xs (((),x10)):=by kernel_rfl
theorem auN (n:Nat)(x1:Ri)(x2:Pred):Zl n (x1,x2)=(abb n x1 x2 n (((0:Int),[]))).bind fun (SX:PUnit×List (List Q6))=>some SX.2:=by kernel_rfl
theorem auO (n:Nat)(x1:Ri)(x2:Pred):Xi n (x1,x2)=(Zm n ((x1,x2.re))).bind fun (r3:Int)=>bif r3 !=(0:Int) then some (([],(false,r3)))else (Zl n ((x1,x2.re))).bind fun (r4:List (List Q6))=>(ZI n r4).bind fun (r5:Int)=>bif decide (r5> (4096:Int)) then some (([],(false,(2:Int))))else (Xy n ((r4,x2.re))).bind fun (r6:(List Attr)×Bool)=>some ((r6.1,(r6.2,(0:Int)))):=by kernel_rfl
def abd (n:Nat)(x1:Ri)(x2 x3:Pred)(m:Nat)(p:Int):Option (PUnit⊕((List Attr)×Bool×Int)):=
 Sj n false (afS n) (VU n) anh Tryz.f27.body [1,0,1,0,0] 2 ⟨[(3,.ref 3 0),(4,.Q5 [.int .i64 x2.Op,.str x2.Name,.int .i64 x2.N,.int .i64 x2.M,.str x2.S,.tX .sh (.st 0) x2.Rq] 0),(5,.ref 5 0),(14,.tX .full (.st 0) [x2.re,x3.re]),(15,.int .i64 ((([x2.re,x3.re].length:Nat):Int)))],[(3,.ro (.cells [.int .i64 x1.VJ,.int .i64 x1.XP,.tX .sh (.st 1) x1.Defs])),(5,.ro (.cells [.int .i64 x3.Op,.str x3.Name,.int .i64 x3.N,.int .i64 x3.M,.str x3.S,.tX .sh (.st 0) x3.Rq]))]⟩ m p
theorem akx (n:Nat)(x1:Ri)(x2 x3:Pred)(m:Nat)(x4:Int):abd n x1 x2 x3 (m+1) x4=bif decide (x4< ((([x2.re,x3.re].length:Nat):Int))) then (Fb [x2.re,x3.re] x4).bind fun (r5:Pred)=>(Zm n ((x1,r5.re))).bind fun (r6:Int)=>bif r6 !=(0:Int) then some (.inr (([],(false,r6))))else abd n x1 x2 x3 m (wrap .i64 (x4+(1:Int)))else some (.inl (())):=by kernel_rfl
theorem auP (n:Nat)(x1:Ri)(x2 x3:Pred):ZB n (x1,(x2,x3))=(abd n x1 x2 x3 n (0:Int)).bind fun (r7:PUnit⊕((List Attr)×Bool×Int))=>
 Sum.elim (fun (q8:PUnit)=>(Xs n x3.re).bind fun (RU:Pred)=>(Xi n ((x1,(⟨(2:Int),[],(0:Int),(0:Int),[],[x2.re,RU.re]⟩:Pred)))).bind fun (Rx:(List Attr)×Bool×Int)=>some ((Rx.1,(Rx.2.1,Rx.2.2))))
  (fun (q9:(List Attr)×Bool×Int)=>some ((q9.1,(q9.2.1,q9.2.2)))) r7:=by kernel_rfl
theorem auQ (n:Nat)(x1:Ri)(x2 x3:Pred)(x4:List Attr):Xj n (x1,(x2,(x3,x4)))=(Xr n ((x1,(x2.re,x3.re)))).bind fun (r5:Bool)=>(TM (!(!r5)) (Zy n ((x1,x4))) (0:Int)).bind fun (r6:Int)=>bif bif !r5 then true else r6 !=(0:Int) then (Xc n (())).bind fun (r7:Bool)=>some r7 else (ZB n ((x1,(x2.re,x3.re)))).bind fun (r8:(List Attr)×Bool×Int)=>bif r8.2.2 !=(0:Int) then (Xc n (())).bind fun (r9:Bool)=>some (bif bif r9 then (r8.1.length:Int)==(0:Int) else false then !r8.2.1 else false)else bif r8.2.1 then (Xc n (())).bind fun (RU:Bool)=>(TM (bif RU then (r8.1.length:Int)==(0:Int) else false) (ZD n ((x2.re,x4))) false).bind fun (Rx:Bool)=>(TM (bif bif RU then (r8.1.length:Int)==(0:Int) else false then !(!Rx) else false) (ZD n ((x3.re,x4))) false).bind fun (Tk:Bool)=>some (bif bif RU then (r8.1.length:Int)==(0:Int) else false then bif !Rx then true else Tk else false)else (Xc n (())).bind fun (RJ:Bool)=>(TM RJ (ZD n ((x2.re,r8.1))) false).bind fun (Ta:Bool)=>(TM (bif RJ then Ta else false) (ZD n ((x3.re,r8.1))) false).bind fun (SX:Bool)=>(TM (bif bif RJ then Ta else false then !SX else false) (Zy n ((x1,r8.1))) (0:Int)).bind fun (r16:Int)=>some (bif bif bif RJ then Ta else false then !SX else false then r16==(0:Int) else false):=by kernel_rfl
attribute [irreducible] aa1 aa2 ad5 aa3 aa4 aa5 Y7 aa6 aa7 ad6 acJ aa8 acK U0 acL acM aea aeb abM aaw aec Ym anM aku anN anO anP anQ akv anR anS anT anU anV anW anX anY anZ an0 an1 an2 an3 acO aed aax aee acP aef Y9 aay acQ aeg aeh acR abb abd
end Sh
