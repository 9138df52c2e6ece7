import Derived.Test.YtgdialomgeijcaaGreatF3825
set_option linter.all false
noncomputable section
open Go.IntKind (wrap)
open Go Go.Proofs Aq
namespace Sh
set_option maxRecDepth 100000
def aaZ (n:Nat)(x1:Rk)(x2 x3:Int)(r4:Def)(m:Nat)(p:Int):Option (PUnit⊕Bool):=
 Sj n false (ady n) Rw ahx Tryz.f46.body [1,0,1,0,0,1,0,0,1,1,1,0,0] 8 ⟨[(1,.int .i64 x2),(2,.ref 2 0),(5,.int .i64 x3),(6,.ref 6 0)],[(2,.ro (.ro (.cells [.int .i64 x1.Wi,.int .i64 x1.X4,.tX .sh (.st 1) x1.Defs]))),(6,.ro (.cells [.str r4.Name,.int .i64 r4.Kind,.int .i64 r4.Lo,.int .i64 r4.Hi,.tX .sh .str r4.Words]))]⟩ m p
def aa0 (n:Nat)(x1:Rk)(x2:Int)(m:Nat)(p:Int):Option (PUnit⊕Bool):=
 Sj n false (ady n) Rw ahx Tryz.f46.body [1,0,1,0,0] 2 ⟨[(1,.int .i64 x2),(2,.ref 2 0)],[(2,.ro (.cells [.int .i64 x1.Wi,.int .i64 x1.X4,.tX .sh (.st 1) x1.Defs]))]⟩ m p
theorem am4 (n:Nat)(x1:Rk)(x2 x3:Int)(r4:Def)(m:Nat)(x5:Int):aaZ n x1 x2 x3 r4 (m+1) x5=bif decide (x5< (((r4.Words.length:Nat):Int))) then (Fb r4.Words x5).bind fun (r6:List UInt8)=>bif decide ((r6.length:Int)> (100:Int)) then some (.inr false)else aaZ n x1 x2 x3 r4 m (wrap .i64 (x5+(1:Int)))else some (.inl (())):=by kernel_rfl
theorem am5 (n:Nat)(x1:Rk)(x2:Int)(m:Nat)(x3:Int):aa0 n x1 x2 (m+1) x3=bif bif decide (x3< (((x1.Defs.length:Nat):Int))) then decide (x3<=x2) else false then (Fb x1.Defs x3).bind fun (r4:Def)=>bif bif decide ((((r4.Words.length:Nat):Int))> (60:Int)) then true else decide ((((r4.Name.length:Nat):Int))> (100:Int)) then some (.inr false)else (aaZ n x1 x2 x3 r4 n (0:Int)).bind fun (r7:PUnit⊕Bool)=>
   Sum.elim (fun (q8:PUnit)=>
    aa0 n x1 x2 m (wrap .i64 (x3+(1:Int))))
    (fun (q9:Bool)=>some (.inr q9)) r7 else some (.inl (())):=by kernel_rfl
theorem atr (n:Nat)(x1:Rk)(x2:Int):Zi n (x1,x2)=(aa0 n x1 x2 n (0:Int)).bind fun (R6:PUnit⊕Bool)=>
 Sum.elim (fun (q11:PUnit)=>some (decide ((((x1.Defs.length:Nat):Int))<=x2)))
  (fun (q12:Bool)=>some q12) R6:=by kernel_rfl
theorem att (n:Nat)(x1:Int):Xp n x1=some (bif decide (x1>=(1:Int)) then decide (x1<=(3:Int)) else false):=by kernel_rfl
def ad1 (n:Nat)(x1:List (List UInt8))(x2:List UInt8)(m:Nat)(p:Int):Option (PUnit⊕Bool):=
 Sj n false (afq n) Rw amD Tryz.f83.body [1,0,1,0,0] 2 ⟨[(0,.tX .sh .str x1),(1,.str x2)],[]⟩ m p
theorem am6 (n:Nat)(x1:List (List UInt8))(x2:List UInt8)(m:Nat)(x3:Int):ad1 n x1 x2 (m+1) x3=bif decide (x3< (x1.length:Int)) then (Fb x1 x3).bind fun (r4:List UInt8)=>bif r4==x2 then some (.inr true)else ad1 n x1 x2 m (wrap .i64 (x3+(1:Int)))else some (.inl (())):=by kernel_rfl
theorem atu (n:Nat)(x1:List (List UInt8))(x2:List UInt8):ZB n (x1,x2)=(ad1 n x1 x2 n (0:Int)).bind fun (r5:PUnit⊕Bool)=>
 Sum.elim (fun (q6:PUnit)=>some false)
  (fun (q7:Bool)=>some q7) r5:=by kernel_rfl
def aa1 (n:Nat)(x1:List UInt8)(m:Nat)(p:Int):Option (PUnit⊕Bool):=
 Sj n false (afr n) Rw amE Tryz.f87.body [1,0,1,0,0] 2 ⟨[(0,.str x1)],[]⟩ m p
theorem am7 (n:Nat)(x1:List UInt8)(m:Nat)(x2:Int):aa1 n x1 (m+1) x2=bif decide (x2< (x1.length:Int)) then (Fb x1 x2).bind fun (r3:UInt8)=>bif bif !(bif decide ((r3.toNat:Int)>=(97:Int)) then decide ((r3.toNat:Int)<=(122:Int)) else false) then bif x2==(0:Int) then true else !(bif bif decide ((r3.toNat:Int)>=(48:Int)) then decide ((r3.toNat:Int)<=(57:Int)) else false then true else (r3.toNat:Int)==(95:Int)) else false then some (.inr false)else aa1 n x1 m (wrap .i64 (x2+(1:Int)))else some (.inl (())):=by kernel_rfl
theorem atv (n:Nat)(x1:List UInt8):Zx n x1=(aa1 n x1 n (0:Int)).bind fun (r4:PUnit⊕Bool)=>
 Sum.elim (fun (q5:PUnit)=>(Uh (bif decide ((x1.length:Int)>=(1:Int)) then decide ((x1.length:Int)<=(40:Int)) else false) (ZB n (([[(97:UInt8),(108:UInt8),(108:UInt8)],[(97:UInt8),(110:UInt8),(100:UInt8)],[(104:UInt8),(97:UInt8),(115:UInt8)],[(105:UInt8),(110:UInt8)],[(110:UInt8),(111:UInt8),(116:UInt8)],[(111:UInt8),(114:UInt8)]],x1))) false).bind fun (r7:Bool)=>some (bif bif decide ((x1.length:Int)>=(1:Int)) then decide ((x1.length:Int)<=(40:Int)) else false then !r7 else false))
  (fun (q6:Bool)=>some q6) r4:=by kernel_rfl
def aa2 (n:Nat)(x1:List (List UInt8))(m:Nat)(p:Int):Option (PUnit⊕Int):=
 Sj n false (adE n) Rw ahH Tryz.f88.body [1,1,0,1,0,0] 4 ⟨[(0,.tX .sh .str x1)],[]⟩ m p
def aa3 (n:Nat)(x1:List (List UInt8))(m:Nat)(p:Int):Option (PUnit⊕Int):=
 Sj n false (adE n) Rw ahH Tryz.f88.body [1,1,1,0,1,0,0] 9 ⟨[(0,.tX .sh .str x1)],[]⟩ m p
theorem am8 (n:Nat)(x1:List (List UInt8))(m:Nat)(x2:Int):aa2 n x1 (m+1) x2=bif decide (x2< (x1.length:Int)) then (Fb x1 x2).bind fun (r3:List UInt8)=>(Zx n r3).bind fun (r4:Bool)=>bif !r4 then some (.inr (5:Int))else aa2 n x1 m (wrap .i64 (x2+(1:Int)))else some (.inl (())):=by kernel_rfl
theorem am9 (n:Nat)(x1:List (List UInt8))(m:Nat)(x8:Int):aa3 n x1 (m+1) x8=bif decide (x8< (x1.length:Int)) then (Fb x1 x8).bind fun (r9:List UInt8)=>(Fb x1 (wrap .i64 (x8-(1:Int)))).bind fun (R6:List UInt8)=>bif (Go.Op.bytesLess r9 R6)||(r9==R6) then some (.inr (6:Int))else aa3 n x1 m (wrap .i64 (x8+(1:Int)))else some (.inl (())):=by kernel_rfl
theorem ana (n:Nat)(x1:List (List UInt8)):Zf n x1=bif bif decide ((x1.length:Int)< (1:Int)) then true else decide ((x1.length:Int)> (50:Int)) then some (2:Int)else (aa2 n x1 n (0:Int)).bind fun (r5:PUnit⊕Int)=>
  Sum.elim (fun (q6:PUnit)=>(aa3 n x1 n (1:Int)).bind fun (Rx:PUnit⊕Int)=>
   Sum.elim (fun (q12:PUnit)=>some (0:Int))
    (fun (q13:Int)=>some q13) Rx)
   (fun (q7:Int)=>some q7) r5:=by kernel_rfl
theorem anb (n:Nat)(x1:Def)(x2:List UInt8):ZZ n (x1,x2)=(Zx n x1.Name).bind fun (r3:Bool)=>bif !r3 then some (5:Int)else bif (Go.Op.bytesLess x1.Name x2)||(x1.Name==x2) then some (6:Int)else bif x1.Kind==(1:Int) then bif bif bif decide (x1.Lo< (-1099511627776:Int)) then true else decide (x1.Hi> (1099511627776:Int)) then true else decide (x1.Lo>x1.Hi) then some (131:Int)else bif decide ((((x1.Words.length:Nat):Int))> (0:Int)) then some (3:Int)else some (0:Int)else bif x1.Kind==(2:Int) then bif bif x1.Lo !=(0:Int) then true else x1.Hi !=(0:Int) then some (3:Int)else (Zf n x1.Words).bind fun (r4:Int)=>some r4 else some (130:Int):=by kernel_rfl
def YX (n:Nat)(x1:Rk)(m:Nat)(p:(List UInt8)×Int):Option (PUnit⊕Int):=
 Sj n false (afs n) Rw amF Tryz.f47.body [1,1,1,1,0,1,0,0] 7 ⟨[(1,.ref 1 0)],[(1,.ro (.cells [.int .i64 x1.Wi,.int .i64 x1.X4,.tX .sh (.st 1) x1.Defs]))]⟩ m p
theorem anc (n:Nat)(x1:Rk)(p:(List UInt8)×Int):YX n x1 0 p=none:=by kernel_rfl
theorem afQ (n:Nat)(x1:Rk)(m:Nat)(x3:List UInt8)(x4:Int):YX n x1 (m+1) (x3,x4)=bif decide (x4< (((x1.Defs.length:Nat):Int))) then (Fb x1.Defs x4).bind fun (r5:Def)=>(ZZ n ((r5,x3))).bind fun (r6:Int)=>bif r6 !=(0:Int) then some (.inr r6)else (Fb x1.Defs x4).bind fun (r7:Def)=>
   YX n x1 m ((r7.Name,wrap .i64 (x4+(1:Int))))else some (.inl (())):=by kernel_rfl
theorem ane (n:Nat)(x1:Rk):Zo n x1=(Uh (!(bif decide (x1.Wi< (1:Int)) then true else decide (x1.Wi> (32:Int)))) (Xp n x1.X4) false).bind fun (r2:Bool)=>bif bif bif decide (x1.Wi< (1:Int)) then true else decide (x1.Wi> (32:Int)) then true else !r2 then some (1:Int)else bif decide ((((x1.Defs.length:Nat):Int))> (16:Int)) then some (2:Int)else (YX n x1 n (([],(0:Int)))).bind fun (r8:PUnit⊕Int)=>
   Sum.elim (fun (q9:PUnit)=>some (0:Int))
    (fun (q10:Int)=>some q10) r8:=by kernel_rfl
theorem anf (n:Nat)(x1:Rk):Xc n x1=(Zi n ((x1,(16:Int)))).bind fun (r2:Bool)=>(Uh r2 (Zo n x1) (0:Int)).bind fun (r3:Int)=>some (bif r2 then r3==(0:Int) else false):=by kernel_rfl
def aa4 (n g:Nat)(x1:Pred)(m:Nat)(p:(List Pred)×Int):Option (List Pred):=
 Sj n false (adF n (WR n g)) Rw ahU Tryz.f39.body [1,1,0,1,0,0] 3 ⟨[(1,.ref 1 0)],[(1,.ro (.cells [.int .i64 x1.Op,.str x1.Name,.int .i64 x1.N,.int .i64 x1.M,.str x1.S,.tX .sh (.st 0) x1.Rs]))]⟩ m p
theorem ang (n g:Nat)(x1:Pred)(m:Nat)(x2:List Pred)(x3:Int):aa4 n g x1 (m+1) (x2,x3)=bif bif decide (x3< (((x1.Rs.length:Nat):Int))) then decide ((x2.length:Int)< (1000:Int)) else false then (Fb x1.Rs x3).bind fun (r4:Pred)=>(acA n g r4.re).bind fun (r5:List Pred)=>bif Si (x2.length+r5.length) 80 then aa4 n g x1 m ((x2++r5,wrap .i64 (x3+(1:Int))))else none else some x2:=by kernel_rfl
theorem atx (n g:Nat)(x1:Pred):acA n (g+1) x1=(aa4 n g x1 n (([x1.re],(0:Int)))).bind fun (r6:List Pred)=>bif decide ((r6.length:Int)> (1000:Int)) then bif WH (1000:Int) r6.length then some (List.take (Int.toNat (1000:Int)) r6)else none else some r6:=by kernel_rfl
theorem aty (n:Nat)(x1:Pred):ZW n x1=(Za n x1.re).bind fun (r2:List Pred)=>some (r2.length:Int):=by kernel_rfl
def aa5 (n g:Nat)(x1:Pred)(x2:Int)(m:Nat)(p:Int):Option (PUnit⊕Bool):=
 Sj n false (adG n (WT n g)) Rw ah0 Tryz.f10.body [1,1,0,1,0,0] 4 ⟨[(1,.int .i64 x2),(2,.ref 2 0)],[(2,.ro (.cells [.int .i64 x1.Op,.str x1.Name,.int .i64 x1.N,.int .i64 x1.M,.str x1.S,.tX .sh (.st 0) x1.Rs]))]⟩ m p
theorem anh (n g:Nat)(x1:Pred)(x2:Int)(m:Nat)(x4:Int):aa5 n g x1 x2 (m+1) x4=bif decide (x4< (((x1.Rs.length:Nat):Int))) then (Fb x1.Rs x4).bind fun (r5:Pred)=>(abE n g ((r5.re,wrap .i64 (x2-(1:Int))))).bind fun (r6:Bool)=>bif !r6 then some (.inr false)else aa5 n g x1 x2 m (wrap .i64 (x4+(1:Int)))else some (.inl (())):=by kernel_rfl
theorem ani (n g:Nat)(x1:Pred)(x2:Int):abE n (g+1) (x1,x2)=(Uh (!(decide (x2< (1:Int)))) (ZW n x1.re) (0:Int)).bind fun (r3:Int)=>bif bif decide (x2< (1:Int)) then true else decide (r3> (100:Int)) then some false else (aa5 n g x1 x2 n (0:Int)).bind fun (r7:PUnit⊕Bool)=>
  Sum.elim (fun (q8:PUnit)=>some true)
   (fun (q9:Bool)=>some q9) r7:=by kernel_rfl
theorem atz (n:Nat)(x1 x2:Pred):Xt n (x1,x2)=some ((⟨(2:Int),[],(0:Int),(0:Int),[],[x1.re,x2.re]⟩:Pred)):=by kernel_rfl
def ad2 (n:Nat)(x1:List Pred)(x2:List UInt8)(m:Nat)(p:Int):Option (PUnit⊕Bool):=
 Sj n false (afu n) Rw amM Tryz.f79.body [1,0,1,0,0] 2 ⟨[(0,.tX .sh (.st 0) x1),(1,.str x2)],[]⟩ m p
theorem anj (n:Nat)(x1:List Pred)(x2:List UInt8)(m:Nat)(x3:Int):ad2 n x1 x2 (m+1) x3=bif decide (x3< (x1.length:Int)) then (Fb x1 x3).bind fun (r4:Pred)=>(Uh (decide (r4.Op>=(5:Int))) (Fb x1 x3) ((⟨(0:Int),[],(0:Int),(0:Int),[],[]⟩:Pred))).bind fun (r5:Pred)=>bif bif decide (r4.Op>=(5:Int)) then r5.Name==x2 else false then some (.inr true)else ad2 n x1 x2 m (wrap .i64 (x3+(1:Int)))else some (.inl (())):=by kernel_rfl
theorem atA (n:Nat)(x1:List Pred)(x2:List UInt8):ZJ n (x1,x2)=(ad2 n x1 x2 n (0:Int)).bind fun (r6:PUnit⊕Bool)=>
 Sum.elim (fun (q7:PUnit)=>some false)
  (fun (q8:Bool)=>some q8) r6:=by kernel_rfl
def acG (n:Nat)(x1:List Pred)(x2:List UInt8)(x3 x4:Int)(m:Nat)(p:Int):Option (PUnit⊕Bool):=
 Sj n false (afv n) Rw amN Tryz.f96.body [1,0,1,0,0] 2 ⟨[(0,.tX .sh (.st 0) x1),(1,.str x2),(2,.int .i64 x3),(3,.int .i64 x4)],[]⟩ m p
theorem ank (n:Nat)(x1:List Pred)(x2:List UInt8)(x3 x4:Int)(m:Nat)(x5:Int):acG n x1 x2 x3 x4 (m+1) x5=bif decide (x5< (x1.length:Int)) then (Fb x1 x5).bind fun (r6:Pred)=>(Uh (r6.Op==(6:Int)) (Fb x1 x5) ((⟨(0:Int),[],(0:Int),(0:Int),[],[]⟩:Pred))).bind fun (r7:Pred)=>bif bif r6.Op==(6:Int) then r7.Name==x2 else false then (Fb x1 x5).bind fun (r8:Pred)=>(Uh (decide (x3>=r8.N)) (Fb x1 x5) ((⟨(0:Int),[],(0:Int),(0:Int),[],[]⟩:Pred))).bind fun (r9:Pred)=>(Fb x1 x5).bind fun (R6:Pred)=>(Uh (decide (x4>=R6.N)) (Fb x1 x5) ((⟨(0:Int),[],(0:Int),(0:Int),[],[]⟩:Pred))).bind fun (Rx:Pred)=>bif !((bif decide (x3>=r8.N) then decide (x3<=r9.M) else false)==(bif decide (x4>=R6.N) then decide (x4<=Rx.M) else false)) then some (.inr false)else acG n x1 x2 x3 x4 m (wrap .i64 (x5+(1:Int)))else acG n x1 x2 x3 x4 m (wrap .i64 (x5+(1:Int)))else some (.inl (())):=by kernel_rfl
theorem atB (n:Nat)(x1:List Pred)(x2:List UInt8)(x3 x4:Int):ZH n (x1,(x2,(x3,x4)))=(acG n x1 x2 x3 x4 n (0:Int)).bind fun (Td:PUnit⊕Bool)=>
 Sum.elim (fun (q13:PUnit)=>some true)
  (fun (q14:Bool)=>some q14) Td:=by kernel_rfl
def aa6 (n:Nat)(x1:Def)(x2:List Pred)(x4:Bool)(x5:Int)(m:Nat)(p:(List Ry)×Bool×Int):Option ((List Ry)×Bool):=
 Sj n false (abF n) Rw adH Tryz.f80.body [1,1,0,1,0,1,0,1,0,0,1,0,0,1,0,1,0,0] 9 ⟨[(1,.tX .sh (.st 0) x2),(2,.Q5 [.str x1.Name,.int .i64 x1.Kind,.int .i64 x1.Lo,.int .i64 x1.Hi,.tX .sh .str x1.Words] 0),(6,.bool x4),(7,.int .i64 x5)],[]⟩ m p
def acH (n:Nat)(x1:Def)(x2:List Pred)(m:Nat)(p:(List Ry)×Bool×Int):Option (List Ry):=
 Sj n false (abF n) Rw adH Tryz.f80.body [1,1,0,1,0,1,0,1,0,0] 5 ⟨[(1,.tX .sh (.st 0) x2),(2,.Q5 [.str x1.Name,.int .i64 x1.Kind,.int .i64 x1.Lo,.int .i64 x1.Hi,.tX .sh .str x1.Words] 0)],[]⟩ m p
def UY (n:Nat)(x1:Def)(x2:List Pred)(Sn:Int)(m:Nat)(p:(List Ry)×Int×Int):Option ((List Ry)×Int):=
 Sj n false (abF n) Rw adH Tryz.f80.body [1,1,1,1,1,0,0,0,1,0,1,0,0] 20 ⟨[(1,.tX .sh (.st 0) x2),(2,.Q5 [.str x1.Name,.int .i64 x1.Kind,.int .i64 x1.Lo,.int .i64 x1.Hi,.tX .sh .str x1.Words] 0),(10,.int .i64 Sn)],[]⟩ m p
def acI (n:Nat)(x1:Def)(x2:List Pred)(m:Nat)(p:(List Ry)×Int):Option (List Ry):=
 Sj n false (abF n) Rw adH Tryz.f80.body [1,1,1,1,1,0,0] 18 ⟨[(1,.tX .sh (.st 0) x2),(2,.Q5 [.str x1.Name,.int .i64 x1.Kind,.int .i64 x1.Lo,.int .i64 x1.Hi,.tX .sh .str x1.Words] 0)],[]⟩ m p
theorem anl (n:Nat)(x1:Def)(x2:List Pred)(x4:Bool)(x5:Int)(m:Nat)(x6:List Ry)(x7:Bool)(x8:Int):aa6 n x1 x2 x4 x5 (m+1) (x6,(x7,x8))=bif decide (x8< (x2.length:Int)) then bif !x7 then (Fb x2 x8).bind fun (r9:Pred)=>bif r9.Op==(7:Int) then (Fb x2 x8).bind fun (R6:Pred)=>bif R6.Name==x1.Name then (Fb x2 x8).bind fun (Rx:Pred)=>(Fb x1.Words x5).bind fun (Td:List UInt8)=>
     aa6 n x1 x2 x4 x5 m ((x6,(Rx.S==Td,wrap .i64 (x8+(1:Int)))))else aa6 n x1 x2 x4 x5 m ((x6,(false,wrap .i64 (x8+(1:Int)))))else aa6 n x1 x2 x4 x5 m ((x6,(false,wrap .i64 (x8+(1:Int)))))else aa6 n x1 x2 x4 x5 m ((x6,(true,wrap .i64 (x8+(1:Int)))))else some ((x6,x7)):=by kernel_rfl
theorem anm (n:Nat)(x1:Def)(x2:List Pred)(m:Nat)(x3:List Ry)(x4:Bool)(x5:Int):acH n x1 x2 (m+1) (x3,(x4,x5))=bif decide (x5< (((x1.Words.length:Nat):Int))) then (aa6 n x1 x2 x4 x5 n ((x3,(false,(0:Int))))).bind fun (RL:(List Ry)×Bool)=>bif bif RL.2 then true else !x4 then (Fb x1.Words x5).bind fun (Tj:List UInt8)=>bif Si (RL.1.length+([(⟨(⟨x1.Name,x1.Kind,(0:Int),Tj⟩:Attr),true⟩:Ry)].length)) 56 then acH n x1 x2 m ((RL.1++[(⟨(⟨x1.Name,x1.Kind,(0:Int),Tj⟩:Attr),true⟩:Ry)],(bif x4 then true else !RL.2,wrap .i64 (x5+(1:Int)))))else none else acH n x1 x2 m ((RL.1,(bif x4 then true else !RL.2,wrap .i64 (x5+(1:Int)))))else some x3:=by kernel_rfl
theorem ano (n:Nat)(x1:Def)(x2:List Pred)(Sn:Int)(m:Nat)(x18:List Ry)(x19 x20:Int):UY n x1 x2 Sn (m+1) (x18,(x19,x20))=bif decide (x20< (x2.length:Int)) then (Fb x2 x20).bind fun (VR:Pred)=>bif VR.Op==(6:Int) then (Fb x2 x20).bind fun (YZ:Pred)=>bif YZ.Name==x1.Name then (Fb x2 x20).bind fun (WU:Pred)=>(Uh (decide (WU.N>Sn)) (Fb x2 x20) ((⟨(0:Int),[],(0:Int),(0:Int),[],[]⟩:Pred))).bind fun (r24:Pred)=>bif bif decide (WU.N>Sn) then decide (r24.N<x19) else false then (Fb x2 x20).bind fun (WV:Pred)=>(Fb x2 x20).bind fun (UA:Pred)=>bif decide (UA.M>=Sn) then (Fb x2 x20).bind fun (r27:Pred)=>bif decide (r27.M<x1.Hi) then (Fb x2 x20).bind fun (r28:Pred)=>bif decide ((wrap .i64 (r28.M+(1:Int)))<WV.N) then (Fb x2 x20).bind fun (Vu:Pred)=>
        UY n x1 x2 Sn m ((x18,(wrap .i64 (Vu.M+(1:Int)),wrap .i64 (x20+(1:Int)))))else UY n x1 x2 Sn m ((x18,(WV.N,wrap .i64 (x20+(1:Int)))))else UY n x1 x2 Sn m ((x18,(WV.N,wrap .i64 (x20+(1:Int)))))else UY n x1 x2 Sn m ((x18,(WV.N,wrap .i64 (x20+(1:Int)))))else (Fb x2 x20).bind fun (r30:Pred)=>bif decide (r30.M>=Sn) then (Fb x2 x20).bind fun (r31:Pred)=>bif decide (r31.M<x1.Hi) then (Fb x2 x20).bind fun (r32:Pred)=>bif decide ((wrap .i64 (r32.M+(1:Int)))<x19) then (Fb x2 x20).bind fun (r33:Pred)=>
        UY n x1 x2 Sn m ((x18,(wrap .i64 (r33.M+(1:Int)),wrap .i64 (x20+(1:Int)))))else UY n x1 x2 Sn m ((x18,(x19,wrap .i64 (x20+(1:Int)))))else UY n x1 x2 Sn m ((x18,(x19,wrap .i64 (x20+(1:Int)))))else UY n x1 x2 Sn m ((x18,(x19,wrap .i64 (x20+(1:Int)))))else UY n x1 x2 Sn m ((x18,(x19,wrap .i64 (x20+(1:Int)))))else UY n x1 x2 Sn m ((x18,(x19,wrap .i64 (x20+(1:Int)))))else some ((x18,x19)):=by kernel_rfl
theorem anp (n:Nat)(x1:Def)(x2:List Pred)(m:Nat)(SL:List Ry)(Sn:Int):acI n x1 x2 (m+1) (SL,Sn)=(UY n x1 x2 Sn n ((SL,(wrap .i64 (x1.Hi+(1:Int)),(0:Int))))).bind fun (TM:(List Ry)×Int)=>bif decide (TM.2>x1.Hi) then some TM.1 else (ZH n ((x2,(x1.Name,(wrap .i64 (TM.2-(1:Int)),TM.2))))).bind fun (r35:Bool)=>bif !r35 then bif Si (TM.1.length+(([(⟨(⟨x1.Name,x1.Kind,TM.2,[]⟩:Attr),true⟩:Ry)]).length)) 56 then acI n x1 x2 m ((TM.1++([(⟨(⟨x1.Name,x1.Kind,TM.2,[]⟩:Attr),true⟩:Ry)]),TM.2))else none else acI n x1 x2 m ((TM.1,TM.2)):=by kernel_rfl
theorem atC (n:Nat)(x1:Def)(x2:List Pred):QP n (x1,x2)=bif x1.Kind==(2:Int) then (acH n x1 x2 n (([(⟨(⟨[],(0:Int),(0:Int),[]⟩:Attr),false⟩:Ry)],(false,(0:Int))))).bind fun (Ta:List Ry)=>some Ta else bif Si ((([(⟨(⟨[],(0:Int),(0:Int),[]⟩:Attr),false⟩:Ry)]).length)+(([(⟨(⟨x1.Name,x1.Kind,x1.Lo,[]⟩:Attr),true⟩:Ry)]).length)) 56 then (acI n x1 x2 n ((([(⟨(⟨[],(0:Int),(0:Int),[]⟩:Attr),false⟩:Ry)])++([(⟨(⟨x1.Name,x1.Kind,x1.Lo,[]⟩:Attr),true⟩:Ry)]),x1.Lo))).bind fun (r36:List Ry)=>some r36 else none:=by kernel_rfl
def acJ (n:Nat)(x1:Rk)(r3:List Pred)(m:Nat)(p:(List (List Ry))×Int):Option (List (List Ry)):=
 Sj n false (afw n) Rw amO Tryz.f57.body [1,1,1,0,1,0,0] 4 ⟨[(2,.ref 2 0),(5,.tX .sh (.st 0) r3)],[(2,.ro (.cells [.int .i64 x1.Wi,.int .i64 x1.X4,.tX .sh (.st 1) x1.Defs]))]⟩ m p
theorem anr (n:Nat)(x1:Rk)(r3:List Pred)(m:Nat)(x4:List (List Ry))(x5:Int):acJ n x1 r3 (m+1) (x4,x5)=bif decide (x5< (((x1.Defs.length:Nat):Int))) then (Fb x1.Defs x5).bind fun (r6:Def)=>(ZJ n ((r3,r6.Name))).bind fun (r7:Bool)=>bif r7 then (Fb x1.Defs x5).bind fun (r8:Def)=>(QP n ((r8,r3))).bind fun (r9:List Ry)=>bif Si (x4.length+([r9].length)) 24 then acJ n x1 r3 m ((x4++[r9],wrap .i64 (x5+(1:Int))))else none else acJ n x1 r3 m ((x4,wrap .i64 (x5+(1:Int))))else some x4:=by kernel_rfl
theorem atD (n:Nat)(x1:Rk)(x2:Pred):ZD n (x1,x2)=(Za n x2.re).bind fun (r3:List Pred)=>(acJ n x1 r3 n (([],(0:Int)))).bind fun (R6:List (List Ry))=>some R6:=by kernel_rfl
def ad6 (n:Nat)(r3:List (List Ry))(m:Nat)(p:Int×Int):Option (Int⊕Int):=
 Sj n false (afx n) Rw amP Tryz.f24.body [1,1,1,0,1,0,0] 4 ⟨[(5,.tX .sh (.slice (.st 6)) r3)],[]⟩ m p
theorem ant (n:Nat)(r3:List (List Ry))(m:Nat)(x4 x5:Int):ad6 n r3 (m+1) (x4,x5)=bif decide (x5< (r3.length:Int)) then (Fb r3 x5).bind fun (r6:List Ry)=>bif decide ((wrap .i64 (x4*(r6.length:Int)))> (4096:Int)) then some (.inr (4097:Int))else ad6 n r3 m ((wrap .i64 (x4*(r6.length:Int)),wrap .i64 (x5+(1:Int))))else some (.inl x4):=by kernel_rfl
theorem atE (n:Nat)(x1:Rk)(x2:Pred):ZK n (x1,x2)=(ZD n ((x1,x2.re))).bind fun (r3:List (List Ry))=>(ad6 n r3 n (((1:Int),(0:Int)))).bind fun (r7:Int⊕Int)=>
 Sum.elim (fun (q8:Int)=>some q8)
  (fun (q9:Int)=>some q9) r7:=by kernel_rfl
theorem atF (n:Nat)(x1:Rk)(x2 x3:Pred):Xq n (x1,(x2,x3))=(Xc n x1).bind fun (r4:Bool)=>(QQ n ((x2.re,(100:Int)))).bind fun (r5:Bool)=>(QQ n ((x3.re,(100:Int)))).bind fun (r6:Bool)=>bif bif bif !r4 then true else !r5 then true else !r6 then some false else (Xt n ((x2.re,x3.re))).bind fun (r7:Pred)=>(ZK n ((x1,r7.re))).bind fun (r8:Int)=>some (bif decide (r8<=(600:Int)) then true else decide (r8> (4096:Int))):=by kernel_rfl
def ad7 (n:Nat)(x1:Rk)(x2:List UInt8)(m:Nat)(p:Int):Option (PUnit⊕Int):=
 Sj n false (afy n) Rw amQ Tryz.f51.body [1,0,1,0,0] 2 ⟨[(1,.str x2),(2,.ref 2 0)],[(2,.ro (.cells [.int .i64 x1.Wi,.int .i64 x1.X4,.tX .sh (.st 1) x1.Defs]))]⟩ m p
theorem anu (n:Nat)(x1:Rk)(x2:List UInt8)(m:Nat)(x3:Int):ad7 n x1 x2 (m+1) x3=bif decide (x3< (((x1.Defs.length:Nat):Int))) then (Fb x1.Defs x3).bind fun (r4:Def)=>bif r4.Name==x2 then some (.inr x3)else ad7 n x1 x2 m (wrap .i64 (x3+(1:Int)))else some (.inl (())):=by kernel_rfl
theorem atG (n:Nat)(x1:Rk)(x2:List UInt8):ZE n (x1,x2)=(ad7 n x1 x2 n (0:Int)).bind fun (r5:PUnit⊕Int)=>
 Sum.elim (fun (q6:PUnit)=>some (-1:Int))
  (fun (q7:Int)=>some q7) r5:=by kernel_rfl
theorem atH (n:Nat)(x1:Def)(x2:Attr):Xd n (x1,x2)=bif x2.Kind !=x1.Kind then some (130:Int)else bif x2.Kind==(1:Int) then bif !(x2.S==[]) then some (3:Int)else bif bif decide (x2.N<x1.Lo) then true else decide (x2.N>x1.Hi) then some (131:Int)else some (0:Int)else bif x2.N !=(0:Int) then some (3:Int)else (ZB n ((x1.Words,x2.S))).bind fun (r3:Bool)=>bif !r3 then some (131:Int)else some (0:Int):=by kernel_rfl
def abI (n:Nat)(x1:Rk)(x2:List Attr)(m:Nat)(p:Int):Option (PUnit⊕Int):=
 Sj n false (afz n) Rw amR Tryz.f32.body [1,0,1,0,0] 2 ⟨[(1,.tX .sh (.st 3) x2),(2,.ref 2 0)],[(2,.ro (.cells [.int .i64 x1.Wi,.int .i64 x1.X4,.tX .sh (.st 1) x1.Defs]))]⟩ m p
theorem anv (n:Nat)(x1:Rk)(x2:List Attr)(m:Nat)(x3:Int):abI n x1 x2 (m+1) x3=bif decide (x3< (x2.length:Int)) then (Fb x2 x3).bind fun (r4:Attr)=>(ZE n ((x1,r4.Name))).bind fun (r5:Int)=>bif decide (r5< (0:Int)) then some (.inr (5:Int))else bif decide (x3> (0:Int)) then (Fb x2 x3).bind fun (r6:Attr)=>(Fb x2 (wrap .i64 (x3-(1:Int)))).bind fun (r7:Attr)=>bif (Go.Op.bytesLess r6.Name r7.Name)||(r6.Name==r7.Name) then some (.inr (6:Int))else (Fb x1.Defs r5).bind fun (r8:Def)=>(Fb x2 x3).bind fun (r9:Attr)=>(Xd n ((r8,r9))).bind fun (R6:Int)=>bif R6 !=(0:Int) then some (.inr R6)else abI n x1 x2 m (wrap .i64 (x3+(1:Int)))else (Fb x1.Defs r5).bind fun (Rx:Def)=>(Fb x2 x3).bind fun (Td:Attr)=>(Xd n ((Rx,Td))).bind fun (RL:Int)=>bif RL !=(0:Int) then some (.inr RL)else abI n x1 x2 m (wrap .i64 (x3+(1:Int)))else some (.inl (())):=by kernel_rfl
theorem atI (n:Nat)(x1:Rk)(x2:List Attr):Zy n (x1,x2)=(abI n x1 x2 n (0:Int)).bind fun (Tj:PUnit⊕Int)=>
 Sum.elim (fun (q15:PUnit)=>some (0:Int))
  (fun (q16:Int)=>some q16) Tj:=by kernel_rfl
theorem acK (n:Nat)(x1:Pred):ZS n x1=some (((),(x1.Op,(x1.Name,(x1.N,(x1.M,(x1.S,x1.Rs))))))):=by kernel_rfl
def aas (n:Nat)(xs:List Pred)(p:PUnit×Int):Option ((PUnit×Int)⊕(PUnit×Int)):=
 X3 (R:=R) (X:=Lv R.T Wv) 3 (wrR E (TD Tryz.f14.body [1,1,0,1,0])) (⟨[(3,TV.ref 3 0)],[]⟩:MS R.T) (Vs afB.loops 3).sh (Vs afB.loops 3).outs (acn E R n false (afA n) Rw afB (TD Tryz.f14.body [1,1,0,1,0]) Wv) xs p
theorem atJ (n:Nat)(x4:Int):aas n [] ((),x4)=some (.inl (((),x4))):=by kernel_rfl
theorem atK (n:Nat)(x5:Pred)(xs:List Pred)(x6:Int):aas n (x5::xs) ((),x6)=bif (wrap .i64 (x6+(1:Int)))==(1000:Int) then some (.inr (((),wrap .i64 (x6+(1:Int)))))else aas n xs (((),wrap .i64 (x6+(1:Int)))):=by kernel_rfl
theorem atL (n:Nat)(x1:Pred):Zz n x1=(ZS n x1.re).bind fun (r2:PUnit×Int×(List UInt8)×Int×Int×(List UInt8)×List Pred)=>
 Option.bind (α:=(PUnit×Int)⊕(PUnit×Int)) (
  (VL ((⟨r2.2.1,r2.2.2.1,r2.2.2.2.1,r2.2.2.2.2.1,r2.2.2.2.2.2.1,r2.2.2.2.2.2.2⟩:Pred))).bind fun (r3:List Pred)=>
  aas n r3 (((),(0:Int)))) fun (r7:(PUnit×Int)⊕(PUnit×Int))=>
 Sum.elim (fun (q8:PUnit×Int)=>some q8.2)
  (fun (q9:PUnit×Int)=>some q9.2) r7:=by kernel_rfl
theorem atM (n:Nat)(x1:Pred):Xe n x1=bif bif bif bif !(decide (x1.Op>=(5:Int))) then !(x1.Name==[]) else false then true else bif x1.Op !=(6:Int) then bif x1.N !=(0:Int) then true else x1.M !=(0:Int) else false then true else bif x1.Op !=(7:Int) then !(x1.S==[]) else false then some false else bif bif bif decide (x1.N>x1.M) then true else bif bif x1.Op==(2:Int) then true else x1.Op==(3:Int) then (((x1.Rs.length:Nat):Int))==(0:Int) else false then true else bif x1.Op==(4:Int) then (((x1.Rs.length:Nat):Int)) !=(1:Int) else false then some false else some (bif bif bif x1.Op==(2:Int) then true else x1.Op==(3:Int) then true else x1.Op==(4:Int) then true else (((x1.Rs.length:Nat):Int))==(0:Int)):=by kernel_rfl
theorem atN (n:Nat)(x1:Def)(x2:List UInt8):Xu n (x1,x2)=some (x1.Name==x2):=by kernel_rfl
def ad8 (n:Nat)(x1:List Def)(x2:List UInt8)(m:Nat)(p:Int):Option (PUnit⊕Int):=
 Sj n false (afC n) Rw amT Tryz.f75.body [1,0,1,0,0] 2 ⟨[(0,.tX .sh (.st 1) x1),(1,.fn 76 [] ([.Q5 [.str x2] 0])),(7,.int .i64 (x1.length:Int))],[]⟩ m p
theorem anw (n:Nat)(x1:List Def)(x2:List UInt8)(m:Nat)(x3:Int):ad8 n x1 x2 (m+1) x3=bif decide (x3< (x1.length:Int)) then (Fb x1 x3).bind fun (r4:Def)=>(Xu n ((r4,x2))).bind fun (r5:Bool)=>bif r5 then some (.inr x3)else ad8 n x1 x2 m (wrap .i64 (x3+(1:Int)))else some (.inl (())):=by kernel_rfl
theorem atO (n:Nat)(x1:List Def)(x2:List UInt8):ZN n (x1,((),x2))=(ad8 n x1 x2 n (0:Int)).bind fun (r6:PUnit⊕Int)=>
 Sum.elim (fun (q7:PUnit)=>some (-1:Int))
  (fun (q8:Int)=>some q8) r6:=by kernel_rfl
theorem atP (n:Nat)(x1:Rk)(x2:List UInt8):Xf n (x1,x2)=(ZN n ((x1.Defs,((),x2)))).bind fun (r3:Int)=>bif decide (r3< (0:Int)) then some (((⟨[],(0:Int),(0:Int),(0:Int),[]⟩:Def),false))else (Fb x1.Defs r3).bind fun (r4:Def)=>some ((r4,true)):=by kernel_rfl
def Yi (n:Nat)(x1:Rk)(xs:List Pred)(p:PUnit×Int):Option ((PUnit×Int)⊕(PUnit×Int)):=
 X3 (R:=R) (X:=Lv R.T Wv) 5 (wrR E (TD Tryz.f19.body [1,1,0,1,0])) (⟨[(2,TV.ref 2 0),(4,TV.ref 4 0)],[(2,Ob.ro (Ob.cells [TV.int IntKind.i64 x1.Wi,TV.int IntKind.i64 x1.X4,TV.tX (T:=R.T) Cp.sh (Ty.st 1) x1.Defs]))]⟩:MS R.T) (Vs afE.loops 5).sh (Vs afE.loops 5).outs (acn E R n false (afD n) Rw afE (TD Tryz.f19.body [1,1,0,1,0]) Wv) xs p
theorem atQ (n:Nat)(x1:Rk)(x6:Int):Yi n x1 [] ((),x6)=some (.inl (((),x6))):=by kernel_rfl
theorem atS (n:Nat)(x1:Rk)(x7:Pred)(xs:List Pred)(x8:Int):Yi n x1 (x7::xs) ((),x8)=bif bif decide (x7.Op< (1:Int)) then true else decide (x7.Op> (7:Int)) then some (.inr (((),(1:Int))))else (Xe n x7.re).bind fun (r9:Bool)=>bif !r9 then some (.inr (((),(3:Int))))else bif decide (x7.Op< (5:Int)) then Yi n x1 xs (((),x8))else (Xf n ((x1,x7.Name))).bind fun (R6:Def×Bool)=>bif !R6.2 then some (.inr (((),(5:Int))))else bif bif bif x7.Op==(6:Int) then R6.1.Kind !=(1:Int) else false then true else bif x7.Op==(7:Int) then R6.1.Kind !=(2:Int) else false then some (.inr (((),(130:Int))))else Yi n x1 xs (((),x8)):=by kernel_rfl
theorem atT (n:Nat)(x1:Rk)(x2:Pred):Zs n (x1,x2)=(Zz n x2.re).bind fun (r3:Int)=>bif decide (r3> (64:Int)) then some (2:Int)else (ZS n x2.re).bind fun (r4:PUnit×Int×(List UInt8)×Int×Int×(List UInt8)×List Pred)=>
  Option.bind (α:=(PUnit×Int)⊕(PUnit×Int)) (
   (VL ((⟨r4.2.1,r4.2.2.1,r4.2.2.2.1,r4.2.2.2.2.1,r4.2.2.2.2.2.1,r4.2.2.2.2.2.2⟩:Pred))).bind fun (r5:List Pred)=>
   Yi n x1 r5 (((),(0:Int)))) fun (Rx:(PUnit×Int)⊕(PUnit×Int))=>
  Sum.elim (fun (q12:PUnit×Int)=>some (0:Int))
   (fun (q13:PUnit×Int)=>some q13.2) Rx:=by kernel_rfl
theorem akj (n:Nat)(x1:Int):Xj n x1=bif decide (x1>=(4294967296:Int)) then bif decide ((0:Int)<=(32:Int)) then bif decide ((Uy .u64 x1 (32:Int))>=(65536:Int)) then bif decide ((0:Int)<=(16:Int)) then bif decide ((Uy .u64 (Uy .u64 x1 (32:Int)) (16:Int))>=(256:Int)) then bif decide ((0:Int)<=(8:Int)) then (Fb YM (wrap .u8 (Uy .u64 (Uy .u64 (Uy .u64 x1 (32:Int)) (16:Int)) (8:Int)))).bind fun (r2:UInt8)=>some (wrap .i64 ((wrap .i64 ((wrap .i64 ((32:Int)+(16:Int)))+(8:Int)))+(wrap .i64 (r2.toNat:Int))))else none else (Fb YM (wrap .u8 (Uy .u64 (Uy .u64 x1 (32:Int)) (16:Int)))).bind fun (r3:UInt8)=>some (wrap .i64 ((wrap .i64 ((32:Int)+(16:Int)))+(wrap .i64 (r3.toNat:Int))))else none else bif decide ((Uy .u64 x1 (32:Int))>=(256:Int)) then bif decide ((0:Int)<=(8:Int)) then (Fb YM (wrap .u8 (Uy .u64 (Uy .u64 x1 (32:Int)) (8:Int)))).bind fun (r4:UInt8)=>some (wrap .i64 ((wrap .i64 ((32:Int)+(8:Int)))+(wrap .i64 (r4.toNat:Int))))else none else (Fb YM (wrap .u8 (Uy .u64 x1 (32:Int)))).bind fun (r5:UInt8)=>some (wrap .i64 ((32:Int)+(wrap .i64 (r5.toNat:Int))))else none else bif decide (x1>=(65536:Int)) then bif decide ((0:Int)<=(16:Int)) then bif decide ((Uy .u64 x1 (16:Int))>=(256:Int)) then bif decide ((0:Int)<=(8:Int)) then (Fb YM (wrap .u8 (Uy .u64 (Uy .u64 x1 (16:Int)) (8:Int)))).bind fun (r6:UInt8)=>some (wrap .i64 ((wrap .i64 ((wrap .i64 ((0:Int)+(16:Int)))+(8:Int)))+(wrap .i64 (r6.toNat:Int))))else none else (Fb YM (wrap .u8 (Uy .u64 x1 (16:Int)))).bind fun (r7:UInt8)=>some (wrap .i64 ((wrap .i64 ((0:Int)+(16:Int)))+(wrap .i64 (r7.toNat:Int))))else none else bif decide (x1>=(256:Int)) then bif decide ((0:Int)<=(8:Int)) then (Fb YM (wrap .u8 (Uy .u64 x1 (8:Int)))).bind fun (r8:UInt8)=>some (wrap .i64 ((wrap .i64 ((0:Int)+(8:Int)))+(wrap .i64 (r8.toNat:Int))))else none else (Fb YM (wrap .u8 x1)).bind fun (r9:UInt8)=>some (wrap .i64 ((0:Int)+(wrap .i64 (r9.toNat:Int)))):=by kernel_rfl
theorem akk (n:Nat)(x1:Int):ZX n x1=(Xj n x1).bind fun (r2:Int)=>some r2:=by kernel_rfl
theorem atU (n:Nat)(x1:Int):Xk n x1=some (x1 !=x1):=by kernel_rfl
theorem atV (n:Nat)(x1 x2:Int):Xr n (x1,x2)=(Xk n x1).bind fun (r3:Bool)=>(Uh r3 (Xk n x2) false).bind fun (r4:Bool)=>some (bif bif r3 then !r4 else false then true else decide (x1<x2)):=by kernel_rfl
def anx (n:Nat)(x1 x2 x4:Int)(m:Nat)(p:Int×List Int):Option (PUnit×List Int):=
 Sj n false (Yg n) Rw aiZ Tryz.f127.body [1,0,0,1,0,0,1,0,0] 4 ⟨[(0,.vw 1000000 (.int .i64)),(1,.int .i64 x1),(2,.int .i64 x2),(6,.int .i64 x4)],[]⟩ m p
def akl (n:Nat)(x1 x2:Int)(m:Nat)(p:Int×List Int):Option (PUnit×List Int):=
 Sj n false (Yg n) Rw aiZ Tryz.f127.body [1,0,0] 1 ⟨[(0,.vw 1000000 (.int .i64)),(1,.int .i64 x1),(2,.int .i64 x2)],[]⟩ m p
theorem atW (n:Nat)(x1 x2:Int)(x3:List Int):Zt n (((),(x1,x2))) (x3)=(akl n x1 x2 n ((wrap .i64 (x1+(1:Int)),x3))).bind fun (r16:PUnit×List Int)=>some (((),r16.2)):=by kernel_rfl
def anz (n:Nat)(x2 x3:Int)(m:Nat)(p:Int×List Int):Option ((PUnit×List Int)⊕(PUnit×List Int)):=
 Sj n false (Yg n) (afG n) amU Tryz.f137.body [1,0,0] 1 ⟨[(0,.vw 1000000 (.int .i64)),(2,.int .i64 x2),(3,.int .i64 x3)],[]⟩ m p
def anA (n:Nat)(x1 x2:Int)(m:Nat)(p:Int×List Int):Option (PUnit×List Int):=
 Sj n false (Yg n) (adN n) ai3 Tryz.f128.body [1,1,1,0,1,0,0] 4 ⟨[(0,.vw 1000000 (.int .i64)),(6,.int .i64 x1),(7,.int .i64 (0:Int)),(8,.int .i64 (wrap .i64 (x2-x1)))],[]⟩ m p
def anB (n:Nat)(x1:Int)(m:Nat)(p:Int×List Int):Option (PUnit×List Int):=
 Sj n false (Yg n) (adN n) ai3 Tryz.f128.body [1,1,1,1,1,0,0] 8 ⟨[(0,.vw 1000000 (.int .i64)),(6,.int .i64 x1),(7,.int .i64 (0:Int))],[]⟩ m p
theorem atX (n:Nat)(x1:Int):Xg n x1=(ZX n (wrap .u64 x1)).bind fun (r2:Int)=>bif decide ((0:Int)<=r2) then some (Wt .u64 (1:Int) r2)else none:=by kernel_rfl
theorem atY (n:Nat)(x1:Int):ZP n (()) (x1)=bif decide ((0:Int)<=(13:Int)) then bif decide ((0:Int)<=(7:Int)) then bif decide ((0:Int)<=(17:Int)) then some ((Ws .u64 (Ws .u64 (Ws .u64 x1 (Wt .u64 x1 (13:Int))) (Uy .u64 (Ws .u64 x1 (Wt .u64 x1 (13:Int))) (7:Int))) (Wt .u64 (Ws .u64 (Ws .u64 x1 (Wt .u64 x1 (13:Int))) (Uy .u64 (Ws .u64 x1 (Wt .u64 x1 (13:Int))) (7:Int))) (17:Int)),Ws .u64 (Ws .u64 (Ws .u64 x1 (Wt .u64 x1 (13:Int))) (Uy .u64 (Ws .u64 x1 (Wt .u64 x1 (13:Int))) (7:Int))) (Wt .u64 (Ws .u64 (Ws .u64 x1 (Wt .u64 x1 (13:Int))) (Uy .u64 (Ws .u64 x1 (Wt .u64 x1 (13:Int))) (7:Int))) (17:Int))))else none else none else none:=by kernel_rfl
def anC (n:Nat)(x1 x2 r4:Int)(m:Nat)(p:Int×Int×List Int):Option (PUnit×List Int):=
 Sj n false (aao n) (afI n) amW Tryz.f129.body [1,1,0,1,1,1,0,0] 5 ⟨[(0,.vw 1000000 (.int .i64)),(1,.int .i64 x1),(6,.int .i64 (wrap .i64 (x2-x1))),(7,.ref 7 0),(8,.int .u64 r4)],[]⟩ m p
def akm (n m:Nat)(p:(Int×Int)×List Int):Option (PUnit×List Int):=
 Sj n false (Uf n) (adO n) amY Tryz.f131.body [1,1,0,0] 2 ⟨[(0,.vw 1000000 (.int .i64))],[]⟩ m p
theorem atZ (n:Nat)(x1 x2:Int)(x3:List Int):ZC n (((),(x1,x2))) (x3)=(akm n n (((x1,wrap .i64 (x2-(1:Int))),x3))).bind fun (Rx:PUnit×List Int)=>some (((),Rx.2)):=by kernel_rfl
def anD (n:Nat)(x1 x2 x5:Int)(x6:List Int)(m:Nat)(p:Int):Option (Int):=
 Sj n false (Uf n) (abG n) adP Tryz.f132.body [1,1,0,1,0,0,1,0,0,0,0,0] 5 ⟨[(0,.vw 1000000 (.int .i64)),(1,.int .i64 x1),(2,.int .i64 x2),(8,.int .i64 x5)],[(1000000,.ro (.arr (.int .i64) x6))]⟩ m p
def anE (n:Nat)(x1 x2 x5 Rx:Int)(m:Nat)(p:Int×List Int):Option (PUnit×List Int):=
 Sj n false (Uf n) (abG n) adP Tryz.f132.body [1,1,0,1,0,0,1,0,0,1,1,1,1,0,1,0,1,0,0] 14 ⟨[(0,.vw 1000000 (.int .i64)),(1,.int .i64 x1),(2,.int .i64 x2),(7,.int .i64 Rx),(8,.int .i64 x5)],[]⟩ m p
def anF (n:Nat)(x1 x2 x5 Rx:Int)(m:Nat)(p:Int×List Int):Option (PUnit×List Int):=
 Sj n false (Uf n) (abG n) adP Tryz.f132.body [1,1,0,1,0,0,1,0,0,1,1,1,1,1,1,0,1,0,0] 20 ⟨[(0,.vw 1000000 (.int .i64)),(1,.int .i64 x1),(2,.int .i64 x2),(7,.int .i64 Rx),(8,.int .i64 x5)],[]⟩ m p
def anG (n:Nat)(x1 x2:Int)(m:Nat)(p:(Int×Int)×List Int):Option ((PUnit×List Int)⊕(Bool×List Int)):=
 Sj n false (Uf n) (abG n) adP Tryz.f132.body [1,1,0,1,0,0] 3 ⟨[(0,.vw 1000000 (.int .i64)),(1,.int .i64 x1),(2,.int .i64 x2)],[]⟩ m p
def anH (n:Nat)(x1 x10:Int)(RF:List Int)(m:Nat)(p:Int):Option (Int):=
 Sj n false (Uf n) (acC n) afJ Tryz.f134.body [1,1,1,0,0,0,0,0,0,0] 3 ⟨[(0,.vw 1000000 (.int .i64)),(1,.int .i64 x1),(10,.int .i64 x10)],[(1000000,.ro (.arr (.int .i64) RF))]⟩ m p
def anI (n:Nat)(x1:Int)(RF:List Int)(r16:Int)(m:Nat)(p:Int):Option (Int):=
 Sj n false (Uf n) (acC n) afJ Tryz.f134.body [1,1,1,0,0,0,0,1,0,0,0] 5 ⟨[(0,.vw 1000000 (.int .i64)),(1,.int .i64 x1),(9,.int .i64 r16)],[(1000000,.ro (.arr (.int .i64) RF))]⟩ m p
def anJ (n:Nat)(x1:Int)(m:Nat)(p:(Int×Int)×List Int):Option (Int×List Int):=
 Sj n false (Uf n) (acC n) afJ Tryz.f134.body [1,1,1,0,0,0] 503 ⟨[(0,.vw 1000000 (.int .i64)),(1,.int .i64 x1)],[]⟩ m p
def anK (n:Nat)(x1 x2 x3:Int)(x4:List Int)(r5 r6:Int)(m:Nat)(p:Int):Option (Int):=
 Sj n false (Uf n) (aaX n) acD Tryz.f135.body [1,1,1,0,0,0] 3 ⟨[(0,.vw 1000000 (.int .i64)),(1,.int .i64 x1),(11,.int .i64 (wrap .i64 (x2-(1:Int))))],[(1000000,.ro (.arr (.int .i64) (Rc (Rc x4 x1 r5) x3 r6)))]⟩ m p
def anL (n:Nat)(x1 x3:Int)(x4:List Int)(r5 r6 RL:Int)(m:Nat)(p:Int):Option (Int):=
 Sj n false (Uf n) (aaX n) acD Tryz.f135.body [1,1,1,1,0,0,0] 5 ⟨[(0,.vw 1000000 (.int .i64)),(1,.int .i64 x1),(10,.int .i64 RL)],[(1000000,.ro (.arr (.int .i64) (Rc (Rc x4 x1 r5) x3 r6)))]⟩ m p
def anM (n:Nat)(x1 x28:Int)(x29:List Int)(m:Nat)(p:Int):Option (Int):=
 Sj n false (Uf n) (aaX n) acD Tryz.f135.body [1,1,1,1,1,1,1,1,1,0,0,0,0,0,0,0] 13 ⟨[(0,.vw 1000000 (.int .i64)),(1,.int .i64 x1),(11,.int .i64 x28)],[(1000000,.ro (.arr (.int .i64) x29))]⟩ m p
def anN (n:Nat)(x1:Int)(x29:List Int)(TM:Int)(m:Nat)(p:Int):Option (Int):=
 Sj n false (Uf n) (aaX n) acD Tryz.f135.body [1,1,1,1,1,1,1,1,1,0,0,0,0,1,0,0,0] 15 ⟨[(0,.vw 1000000 (.int .i64)),(1,.int .i64 x1),(10,.int .i64 TM)],[(1000000,.ro (.arr (.int .i64) x29))]⟩ m p
def anO (n:Nat)(x1:Int)(m:Nat)(p:(Int×Int)×List Int):Option (Int×List Int):=
 Sj n false (Uf n) (aaX n) acD Tryz.f135.body [1,1,1,1,1,1,1,1,1,0,0,0] 513 ⟨[(0,.vw 1000000 (.int .i64)),(1,.int .i64 x1)],[]⟩ m p
def anP (n g m:Nat)(p:(Int×Int×Int×Bool×Bool)×List Int):Option (PUnit×List Int):=
 abw (R:=R) 2 (Rn E ((TD Tryz.f117.body [1,1,0,0]).getD .skip)) (⟨[(0,TV.vw 1000000 (Ty.int IntKind.i64))],[]⟩:MS R.T) (Vs adR.loops 2).sh (Vs adR.loops 2).outs (fun st k=>S9 E R n false (Uf n) (abB 117 ⟨Ww,VQ,XQ,Yh n g⟩ (adQ n)) adR ((TD Tryz.f117.body [1,1,0,0]).getD .skip) st k) m p
theorem at0 (n:Nat)(x1:List Int):ZQ n (()) (x1)=(ZX n (wrap .u64 (x1.length:Int))).bind fun (r2:Int)=>(QR n (((),((0:Int),((x1.length:Int),r2)))) x1).bind fun (r3:PUnit×List Int)=>some (((),r3.2)):=by kernel_rfl
def acL (n:Nat)(x2:Int)(x3:List Int)(m:Nat)(p:(Int×Int)×List Int):Option (Int×List Int):=
 Sj n false (Uf n) (adS n) ajJ Tryz.f105.body [1,1,0,1,0,0,1,0,0,1,0,1,0,1,0,0] 9 ⟨[(0,.vw 1000000 (.int .i64)),(4,.sub 1000000 (.int .i64) ((0:Int)+x2) ((0:Int)+((x3.length:Int)-(0:Int))))],[]⟩ m p
def ad9 (n m:Nat)(p:Int×List Int):Option ((PUnit×List Int)⊕((Int×Int)×List Int)):=
 Sj n false (Uf n) (adS n) ajJ Tryz.f105.body [1,1,0,1,0,0] 4 ⟨[(0,.vw 1000000 (.int .i64))],[]⟩ m p
theorem at1 (n:Nat)(x2:Int)(x3:List Int)(m:Nat)(x6 x7:Int)(x8:List Int):acL n x2 x3 (m+1) ((x6,x7),x8)=bif decide (x7< (((Int.toNat (((0:Int)+((x3.length:Int)-(0:Int)))-((0:Int)+x2)):Nat):Int))) then bif UH x7 (((0:Int)+((x3.length:Int)-(0:Int)))-((0:Int)+x2)) then (Fb x8 (((0:Int)+x2)+x7)).bind fun (r9:Int)=>bif UH (wrap .i64 (x7-(1:Int))) (((0:Int)+((x3.length:Int)-(0:Int)))-((0:Int)+x2)) then (Fb x8 (((0:Int)+x2)+(wrap .i64 (x7-(1:Int))))).bind fun (R6:Int)=>bif r9 !=R6 then bif UH x7 (((0:Int)+((x3.length:Int)-(0:Int)))-((0:Int)+x2)) then (Fb x8 (((0:Int)+x2)+x7)).bind fun (Rx:Int)=>bif decide (0<=x6/\x6< (x8.length:Int)) then (Fb x8 x6).bind fun (Td:Int)=>
       acL n x2 x3 m (((wrap .i64 (x6+(1:Int)),wrap .i64 (x7+(1:Int))),Rc x8 x6 Rx))else none else none else acL n x2 x3 m (((x6,wrap .i64 (x7+(1:Int))),x8))else none else none else some ((x6,x8)):=by kernel_rfl
theorem at5 (n m:Nat)(x2:Int)(x3:List Int):ad9 n (m+1) (x2,x3)=bif decide (x2< (x3.length:Int)) then bif decide (0<=x2/\x2< (x3.length:Int)) then (Fb x3 x2).bind fun (r4:Int)=>bif decide (0<=(wrap .i64 (x2-(1:Int)))/\(wrap .i64 (x2-(1:Int)))< (x3.length:Int)) then (Fb x3 (wrap .i64 (x2-(1:Int)))).bind fun (r5:Int)=>bif r4==r5 then bif VG x2 ((x3.length:Int)-(0:Int)) ((x3.length:Int)-(0:Int)) then (acL n x2 x3 n (((x2,(1:Int)),x3))).bind fun (RL:Int×List Int)=>bif VG RL.1 ((RL.2.length:Int)-(0:Int)) ((RL.2.length:Int)-(0:Int)) then bif VG (0:Int) RL.1 (((((U3 RL.2 ((0:Int)+RL.1) ((0:Int)+((RL.2.length:Int)-(0:Int))) (0:Int)).length:Nat):Int))-(0:Int)) then some (.inr ((((0:Int)+(0:Int),(0:Int)+RL.1),U3 RL.2 ((0:Int)+RL.1) ((0:Int)+((RL.2.length:Int)-(0:Int))) (0:Int))))else none else none else none else ad9 n m ((wrap .i64 (x2+(1:Int)),x3))else none else none else some (.inl (((),x3))):=by kernel_rfl
theorem at6 (n:Nat)(x1:List Int):Zg n (()) (x1)=bif decide ((x1.length:Int)< (2:Int)) then some ((((0:Int),(x1.length:Int)),x1))else (ad9 n n (((1:Int),x1))).bind fun (Tj:(PUnit×List Int)⊕((Int×Int)×List Int))=>
  Sum.elim (fun (q15:PUnit×List Int)=>some ((((0:Int),(q15.2.length:Int)),q15.2)))
   (fun (q16:(Int×Int)×List Int)=>some (((q16.1.1,q16.1.2),q16.2))) Tj:=by kernel_rfl
def aat (n:Nat)(x1:Int)(x8:List UInt8)(x9 x10 RF:Int)(SN:List (List UInt8))(xs:List Pred)(p:PUnit×List Bool):Option (PUnit×List Bool):=
 X3 (R:=R) (X:=Lv R.T Wv) 4 (wrR E (TD Tryz.f118.body [1,1,0,1,0])) (⟨[(2,TV.Q5 [TV.str x8,TV.int IntKind.i64 x9,TV.int IntKind.i64 x10,TV.int IntKind.i64 RF,TV.tX (T:=R.T) Cp.sh Ty.str SN] 0),(3,TV.ref 3 0),(5,TV.ref 5 0)],[(3,Ob.ro (Ob.cells [TV.int IntKind.i64 x1]))]⟩:MS R.T) (Vs afL.loops 4).sh (Vs afL.loops 4).outs (acn E R n false (Uf n) (YV n) afL (TD Tryz.f118.body [1,1,0,1,0]) Wv) xs p
theorem at7 (n:Nat)(x1:Int)(x8:List UInt8)(x9 x10 RF:Int)(SN:List (List UInt8))(Ul:List Bool):aat n x1 x8 x9 x10 RF SN [] ((),Ul)=some (((),Ul)):=by kernel_rfl
theorem aua (n:Nat)(x1:Int)(x8:List UInt8)(x9 x10 RF:Int)(SN:List (List UInt8))(SL:Pred)(xs:List Pred)(Sn:List Bool):aat n x1 x8 x9 x10 RF SN (SL::xs) ((),Sn)=bif bif SL.Op==(6:Int) then SL.Name==x8 else false then bif Si (Sn.length+([bif decide (x1>=SL.N) then decide (x1<=SL.M) else false].length)) 1 then aat n x1 x8 x9 x10 RF SN xs (((),Sn++[bif decide (x1>=SL.N) then decide (x1<=SL.M) else false]))else none else aat n x1 x8 x9 x10 RF SN xs (((),Sn)):=by kernel_rfl
theorem aub (n:Nat)(x1 x2:Int)(x3:List UInt8)(x4 x5:Int)(x6:List UInt8)(x7:List Pred)(x8:List UInt8)(x9 x10 RF:Int)(SN:List (List UInt8)):Zw n (x1,((x2,(x3,(x4,(x5,(x6,x7))))),(x8,(x9,(x10,(RF,SN))))))=(ZS n ((⟨x2,x3,x4,x5,x6,x7⟩:Pred))).bind fun (RL:PUnit×Int×(List UInt8)×Int×Int×(List UInt8)×List Pred)=>
 Option.bind (α:=PUnit×List Bool) (
  (VL ((⟨RL.2.1,RL.2.2.1,RL.2.2.2.1,RL.2.2.2.2.1,RL.2.2.2.2.2.1,RL.2.2.2.2.2.2⟩:Pred))).bind fun (Tj:List Pred)=>
  aat n x1 x8 x9 x10 RF SN Tj (((),[]))) fun (TA:PUnit×List Bool)=>some TA.2:=by kernel_rfl
def aea (n:Nat)(x1 x2:List Bool)(m:Nat)(p:Int):Option (PUnit⊕Bool):=
 Sj n false (afM n) (YV n) am1 Tryz.f121.body [1,1,0,1,0,0] 4 ⟨[(0,.tX .sh .bool x1),(1,.tX .sh .bool x2),(12,.int .i64 (x1.length:Int))],[]⟩ m p
theorem anQ (n:Nat)(x1 x2:List Bool)(m:Nat)(x3:Int):aea n x1 x2 (m+1) x3=bif decide (x3< (x1.length:Int)) then (Fb x1 x3).bind fun (r4:Bool)=>(Fb x2 x3).bind fun (r5:Bool)=>bif !(r4==r5) then some (.inr false)else aea n x1 x2 m (wrap .i64 (x3+(1:Int)))else some (.inl (())):=by kernel_rfl
theorem auc (n:Nat)(x1 x2:List Bool):ZF n (x1,x2)=bif (x1.length:Int) !=(x2.length:Int) then some false else (aea n x1 x2 n (0:Int)).bind fun (r6:PUnit⊕Bool)=>
  Sum.elim (fun (q7:PUnit)=>some true)
   (fun (q8:Bool)=>some q8) r6:=by kernel_rfl
theorem aud (n:Nat)(x1 x2 x3:Int)(x4:List UInt8)(x5 x6:Int)(x7:List UInt8)(x8:List Pred)(x9:List UInt8)(x10 RF SN:Int)(UC:List (List UInt8)):Xa n (x1,(x2,((),((x3,(x4,(x5,(x6,(x7,x8))))),(x9,(x10,(RF,(SN,UC))))))))=(Zw n ((x1,((x3,(x4,(x5,(x6,(x7,x8))))),(x9,(x10,(RF,(SN,UC)))))))).bind fun (Tj:List Bool)=>(Zw n ((x2,((x3,(x4,(x5,(x6,(x7,x8))))),(x9,(x10,(RF,(SN,UC)))))))).bind fun (Ta:List Bool)=>(ZF n ((Tj,Ta))).bind fun (r16:Bool)=>some r16:=by kernel_rfl
def acM (n:Nat)(x1 x2 x4:Int)(x5:List UInt8)(x6 x7:Int)(x8:List UInt8)(x9:List Pred)(x10:List UInt8)(RF SN UC:Int)(Ug:List (List UInt8))(Ul:Int)(m:Nat)(p:(Int×Int)×List Int):Option (Int×List Int):=
 Sj n false (aaY n) (YV n) ajV Tryz.f119.body [1,1,0,1,0,0,1,0,0,1,0,1,0,1,0,0] 9 ⟨[(0,.sub 1000000 (.int .i64) x1 x2),(1,.fn 120 [] [.ref 1000001 0]),(6,.sub 1000000 (.int .i64) (x1+Ul) (x1+(x2-x1)))],[(1000001,.ro (.ro (.cells ([.fn 118 [] ([.Q5 [.int .i64 x4,.str x5,.int .i64 x6,.int .i64 x7,.str x8,.tX .any (.st 0) x9] 0,.Q5 [.str x10,.int .i64 RF,.int .i64 SN,.int .i64 UC,.tX .any .str Ug] 0])]))))]⟩ m p
def aeb (n:Nat)(x1 x2 x4:Int)(x5:List UInt8)(x6 x7:Int)(x8:List UInt8)(x9:List Pred)(x10:List UInt8)(RF SN UC:Int)(Ug:List (List UInt8))(m:Nat)(p:Int×List Int):Option ((PUnit×List Int)⊕((Int×Int)×List Int)):=
 Sj n false (aaY n) (YV n) ajV Tryz.f119.body [1,1,0,1,0,0] 4 ⟨[(0,.sub 1000000 (.int .i64) x1 x2),(1,.fn 120 [] [.ref 1000001 0])],[(1000001,.ro (.cells ([.fn 118 [] ([.Q5 [.int .i64 x4,.str x5,.int .i64 x6,.int .i64 x7,.str x8,.tX .any (.st 0) x9] 0,.Q5 [.str x10,.int .i64 RF,.int .i64 SN,.int .i64 UC,.tX .any .str Ug] 0])])))]⟩ m p
theorem aue (n:Nat)(x1 x2 x4:Int)(x5:List UInt8)(x6 x7:Int)(x8:List UInt8)(x9:List Pred)(x10:List UInt8)(RF SN UC:Int)(Ug:List (List UInt8))(Ul:Int)(m:Nat)(x20 x21:Int)(x22:List Int):acM n x1 x2 x4 x5 x6 x7 x8 x9 x10 RF SN UC Ug Ul (m+1) ((x20,x21),x22)=bif decide (x21< (((Int.toNat ((x1+(x2-x1))-(x1+Ul)):Nat):Int))) then bif UH x21 ((x1+(x2-x1))-(x1+Ul)) then (Fb x22 ((x1+Ul)+x21)).bind fun (WU:Int)=>bif UH (wrap .i64 (x21-(1:Int))) ((x1+(x2-x1))-(x1+Ul)) then (Fb x22 ((x1+Ul)+(wrap .i64 (x21-(1:Int))))).bind fun (r24:Int)=>(Xa n ((WU,(r24,((),((x4,(x5,(x6,(x7,(x8,x9))))),(x10,(RF,(SN,(UC,Ug)))))))))).bind fun (WV:Bool)=>bif !WV then bif UH x21 ((x1+(x2-x1))-(x1+Ul)) then (Fb x22 ((x1+Ul)+x21)).bind fun (UA:Int)=>bif UH x20 (x2-x1) then (Fb x22 (x1+x20)).bind fun (r27:Int)=>
       acM n x1 x2 x4 x5 x6 x7 x8 x9 x10 RF SN UC Ug Ul m (((wrap .i64 (x20+(1:Int)),wrap .i64 (x21+(1:Int))),Rc x22 (x1+x20) UA))else none else none else acM n x1 x2 x4 x5 x6 x7 x8 x9 x10 RF SN UC Ug Ul m (((x20,wrap .i64 (x21+(1:Int))),x22))else none else none else some ((x20,x22)):=by kernel_rfl
theorem auf (n:Nat)(x1 x2 x4:Int)(x5:List UInt8)(x6 x7:Int)(x8:List UInt8)(x9:List Pred)(x10:List UInt8)(RF SN UC:Int)(Ug:List (List UInt8))(m:Nat)(Ul:Int)(SL:List Int):aeb n x1 x2 x4 x5 x6 x7 x8 x9 x10 RF SN UC Ug (m+1) (Ul,SL)=bif decide (Ul< (((Int.toNat (x2-x1):Nat):Int))) then bif UH Ul (x2-x1) then (Fb SL (x1+Ul)).bind fun (Wy:Int)=>bif UH (wrap .i64 (Ul-(1:Int))) (x2-x1) then (Fb SL (x1+(wrap .i64 (Ul-(1:Int))))).bind fun (TA:Int)=>(Xa n ((Wy,(TA,((),((x4,(x5,(x6,(x7,(x8,x9))))),(x10,(RF,(SN,(UC,Ug)))))))))).bind fun (Yj:Bool)=>bif Yj then bif VG Ul (x2-x1) (x2-x1) then (acM n x1 x2 x4 x5 x6 x7 x8 x9 x10 RF SN UC Ug Ul n (((Ul,(1:Int)),SL))).bind fun (r28:Int×List Int)=>bif VG r28.1 (x2-x1) (x2-x1) then bif VG (0:Int) r28.1 (x2-x1) then some (.inr (((x1+(0:Int),x1+r28.1),U3 r28.2 (x1+r28.1) (x1+(x2-x1)) (0:Int))))else none else none else none else aeb n x1 x2 x4 x5 x6 x7 x8 x9 x10 RF SN UC Ug m ((wrap .i64 (Ul+(1:Int)),SL))else none else none else some (.inl (((),SL))):=by kernel_rfl
theorem aug (n:Nat)(x1 x2:Int)(x3:List Int)(x4:Int)(x5:List UInt8)(x6 x7:Int)(x8:List UInt8)(x9:List Pred)(x10:List UInt8)(RF SN UC:Int)(Ug:List (List UInt8)):Zj n (((x1,x2),((),()))) ((x3,((),((x4,(x5,(x6,(x7,(x8,x9))))),(x10,(RF,(SN,(UC,Ug))))))))=bif decide ((((Int.toNat (x2-x1):Nat):Int))< (2:Int)) then some (((x1,x2),(x3,((),((x4,(x5,(x6,(x7,(x8,x9))))),(x10,(RF,(SN,(UC,Ug)))))))))else (aeb n x1 x2 x4 x5 x6 x7 x8 x9 x10 RF SN UC Ug n (((1:Int),x3))).bind fun (Vu:(PUnit×List Int)⊕((Int×Int)×List Int))=>
  Sum.elim (fun (q30:PUnit×List Int)=>some (((x1,x2),(q30.2,((),((x4,(x5,(x6,(x7,(x8,x9))))),(x10,(RF,(SN,(UC,Ug))))))))))
   (fun (q31:(Int×Int)×List Int)=>some (((q31.1.1,q31.1.2),(q31.2,((),((x4,(x5,(x6,(x7,(x8,x9))))),(x10,(RF,(SN,(UC,Ug)))))))))) Vu:=by kernel_rfl
theorem aui (n:Nat)(x1:Def)(x2:Pred)(x3 x4:Int)(x5:List Int):ZO n ((x1,(x2,(x3,x4)))) (x5)=(Zj n (((x3,x4),((),()))) ((x5,((),((x2.Op,(x2.Name,(x2.N,(x2.M,(x2.S,x2.Rs))))),(x1.Name,(x1.Kind,(x1.Lo,(x1.Hi,x1.Words))))))))).bind fun (r6:(Int×Int)×(List Int)×PUnit×(Int×(List UInt8)×Int×Int×(List UInt8)×List Pred)×(List UInt8)×Int×Int×Int×List (List UInt8))=>some (((r6.1.1,r6.1.2),r6.2.1)):=by kernel_rfl
def Y6 (n:Nat)(x1:Def)(x2:Pred)(xs:List Pred)(p:PUnit×PUnit×List Int):Option (PUnit×PUnit×List Int):=
 X3 (R:=R) (X:=Lv R.T Wv) 4 (wrR E (TD Tryz.f94.body [1,1,0,1,0])) (⟨[(2,TV.Q5 [TV.str x1.Name,TV.int IntKind.i64 x1.Kind,TV.int IntKind.i64 x1.Lo,TV.int IntKind.i64 x1.Hi,TV.tX (T:=R.T) Cp.sh Ty.str x1.Words] 0),(3,TV.Q5 [TV.int IntKind.i64 x2.Op,TV.str x2.Name,TV.int IntKind.i64 x2.N,TV.int IntKind.i64 x2.M,TV.str x2.S,TV.tX (T:=R.T) Cp.sh (Ty.st 0) x2.Rs] 0),(5,TV.ref 5 0)],[]⟩:MS R.T) (Vs afN.loops 4).sh (Vs afN.loops 4).outs (acn E R n true (aaY n) (Wx n) afN (TD Tryz.f94.body [1,1,0,1,0]) Wv) xs p
theorem auj (n:Nat)(x1:Def)(x2:Pred)(x5:List Int):Y6 n x1 x2 [] ((),((),x5))=some (((),((),x5))):=by kernel_rfl
theorem auk (n:Nat)(x1:Def)(x2 x6:Pred)(xs:List Pred)(x7:List Int):Y6 n x1 x2 (x6::xs) ((),((),x7))=bif bif x6.Op !=(6:Int) then true else !(x6.Name==x1.Name) then Y6 n x1 x2 xs (((),((),x7)))else bif bif decide (x6.N>x1.Lo) then decide (x6.N<=x1.Hi) else false then bif Si (x7.length+([x6.N].length)) 8 then bif bif decide (x6.M>=x1.Lo) then decide (x6.M<x1.Hi) else false then bif Si (((x7++[x6.N]).length)+([wrap .i64 (x6.M+(1:Int))].length)) 8 then Y6 n x1 x2 xs (((),((),(x7++[x6.N])++[wrap .i64 (x6.M+(1:Int))])))else none else Y6 n x1 x2 xs (((),((),x7++[x6.N])))else none else bif bif decide (x6.M>=x1.Lo) then decide (x6.M<x1.Hi) else false then bif Si (x7.length+([wrap .i64 (x6.M+(1:Int))].length)) 8 then Y6 n x1 x2 xs (((),((),x7++[wrap .i64 (x6.M+(1:Int))])))else none else Y6 n x1 x2 xs (((),((),x7))):=by kernel_rfl
theorem aul (n:Nat)(x1:Def)(x2:Pred):Zu n (x1,x2)=(ZS n x2.re).bind fun (r3:PUnit×Int×(List UInt8)×Int×Int×(List UInt8)×List Pred)=>
 Option.bind (α:=PUnit×PUnit×List Int) (
  (VL ((⟨r3.2.1,r3.2.2.1,r3.2.2.2.1,r3.2.2.2.2.1,r3.2.2.2.2.2.1,r3.2.2.2.2.2.2⟩:Pred))).bind fun (r4:List Pred)=>
  Y6 n x1 x2 r4 (((),((),[x1.Lo])))) fun (r8:PUnit×PUnit×List Int)=>(ZQ n (()) r8.2.2).bind fun (r9:PUnit×List Int)=>(Zg n (()) r9.2).bind fun (R6:(Int×Int)×List Int)=>(ZO n ((x1,(x2.re,(R6.1.1,R6.1.2)))) R6.2).bind fun (Rx:(Int×Int)×List Int)=>some (Yu Rx.2 Rx.1.1 Rx.1.2):=by kernel_rfl
def aau (n:Nat)(x1:Def)(xs:List Pred)(p:PUnit×List ((List UInt8)×Bool)):Option (PUnit×List ((List UInt8)×Bool)):=
 X3 (R:=R) (X:=Lv R.T Wv) 4 (wrR E (TD Tryz.f95.body [1,1,0,1,0])) (⟨[(2,TV.Q5 [TV.str x1.Name,TV.int IntKind.i64 x1.Kind,TV.int IntKind.i64 x1.Lo,TV.int IntKind.i64 x1.Hi,TV.tX (T:=R.T) Cp.sh Ty.str x1.Words] 0),(5,TV.ref 5 0)],[(5,Ob.ro (Ob.cells [TV.RA 11]))]⟩:MS R.T) (Vs adU.loops 4).sh (Vs adU.loops 4).outs (acn E R n false (adT n) (Wx n) adU (TD Tryz.f95.body [1,1,0,1,0]) Wv) xs p
def acN (n:Nat)(x1:Def)(r8:PUnit×List ((List UInt8)×Bool))(m:Nat)(p:(List (List UInt8))×Bool×Int):Option (List (List UInt8)):=
 Sj n false (adT n) (Wx n) adU Tryz.f95.body [1,1,1,1,1,0,1,0,0] 9 ⟨[(5,.ref 5 0),(29,.tX .sh .str x1.Words),(30,.int .i64 (((x1.Words.length:Nat):Int)))],[(5,.ro (.cells [.RA 11])),(11,.ro (.map .str .bool r8.2))]⟩ m p
theorem anR (n:Nat)(x1:Def)(r8:PUnit×List ((List UInt8)×Bool))(m:Nat)(x9:List (List UInt8))(x10:Bool)(RF:Int):acN n x1 r8 (m+1) (x9,(x10,RF))=bif decide (RF< (((x1.Words.length:Nat):Int))) then (Fb x1.Words RF).bind fun (Td:List UInt8)=>bif bif WI false (UJ (SB R Ty.str) Td r8.2) then true else !x10 then bif Si (x9.length+([Td].length)) 16 then acN n x1 r8 m ((x9++[Td],(bif x10 then true else !(WI false (UJ (SB R Ty.str) Td r8.2)),wrap .i64 (RF+(1:Int)))))else none else acN n x1 r8 m ((x9,(bif x10 then true else !(WI false (UJ (SB R Ty.str) Td r8.2)),wrap .i64 (RF+(1:Int)))))else some x9:=by kernel_rfl
theorem aum (n:Nat)(x1:Def)(x5:List ((List UInt8)×Bool)):aau n x1 [] ((),x5)=some (((),x5)):=by kernel_rfl
theorem aun (n:Nat)(x1:Def)(x6:Pred)(xs:List Pred)(x7:List ((List UInt8)×Bool)):aau n x1 (x6::xs) ((),x7)=bif bif x6.Op==(7:Int) then x6.Name==x1.Name else false then aau n x1 xs (((),V9 (SB R Ty.str) x6.S true x7))else aau n x1 xs (((),x7)):=by kernel_rfl
theorem auo (n:Nat)(x1:Def)(x2:Pred):Zh n (x1,x2)=(ZS n x2.re).bind fun (r3:PUnit×Int×(List UInt8)×Int×Int×(List UInt8)×List Pred)=>
 Option.bind (α:=PUnit×List ((List UInt8)×Bool)) (
  (VL ((⟨r3.2.1,r3.2.2.1,r3.2.2.2.1,r3.2.2.2.2.1,r3.2.2.2.2.2.1,r3.2.2.2.2.2.2⟩:Pred))).bind fun (r4:List Pred)=>
  aau n x1 r4 (((),[]))) fun (r8:PUnit×List ((List UInt8)×Bool))=>(acN n x1 r8 n (([],(false,(0:Int))))).bind fun (RL:List (List UInt8))=>some RL:=by kernel_rfl
def aec (n:Nat)(x1:Def)(r3:List Int)(m:Nat)(p:(List Q6)×Int):Option (List Q6):=
 Sj n false (adV n) (Wx n) aj7 Tryz.f78.body [1,1,0,1,0,0,1,0,0] 4 ⟨[(2,.Q5 [.str x1.Name,.int .i64 x1.Kind,.int .i64 x1.Lo,.int .i64 x1.Hi,.tX .sh .str x1.Words] 0),(17,.tX .sh (.int .i64) r3),(18,.int .i64 (r3.length:Int))],[]⟩ m p
def aed (n:Nat)(x1:Def)(r8:List (List UInt8))(m:Nat)(p:(List Q6)×Int):Option (List Q6):=
 Sj n false (adV n) (Wx n) aj7 Tryz.f78.body [1,1,1,0,1,0,0] 10 ⟨[(2,.Q5 [.str x1.Name,.int .i64 x1.Kind,.int .i64 x1.Lo,.int .i64 x1.Hi,.tX .sh .str x1.Words] 0),(37,.tX .sh .str r8),(38,.int .i64 (r8.length:Int))],[]⟩ m p
theorem anS (n:Nat)(x1:Def)(r3:List Int)(m:Nat)(x4:List Q6)(x5:Int):aec n x1 r3 (m+1) (x4,x5)=bif decide (x5< (r3.length:Int)) then (Fb r3 x5).bind fun (r6:Int)=>bif Si (x4.length+(([(⟨(⟨x1.Name,x1.Kind,r6,[]⟩:Attr),true⟩:Q6)]).length)) 56 then aec n x1 r3 m ((x4++([(⟨(⟨x1.Name,x1.Kind,r6,[]⟩:Attr),true⟩:Q6)]),wrap .i64 (x5+(1:Int))))else none else some x4:=by kernel_rfl
theorem anT (n:Nat)(x1:Def)(r8:List (List UInt8))(m:Nat)(x9:List Q6)(x10:Int):aed n x1 r8 (m+1) (x9,x10)=bif decide (x10< (r8.length:Int)) then (Fb r8 x10).bind fun (Rx:List UInt8)=>bif Si (x9.length+([(⟨(⟨x1.Name,x1.Kind,(0:Int),Rx⟩:Attr),true⟩:Q6)].length)) 56 then aed n x1 r8 m ((x9++[(⟨(⟨x1.Name,x1.Kind,(0:Int),Rx⟩:Attr),true⟩:Q6)],wrap .i64 (x10+(1:Int))))else none else some x9:=by kernel_rfl
theorem aup (n:Nat)(x1:Def)(x2:Pred):Zn n (x1,x2)=bif x1.Kind==(1:Int) then (Zu n ((x1,x2.re))).bind fun (r3:List Int)=>(aec n x1 r3 n (([(⟨(⟨[],(0:Int),(0:Int),[]⟩:Attr),false⟩:Q6)],(0:Int)))).bind fun (r7:List Q6)=>some r7 else (Zh n ((x1,x2.re))).bind fun (r8:List (List UInt8))=>(aed n x1 r8 n (([(⟨(⟨[],(0:Int),(0:Int),[]⟩:Attr),false⟩:Q6)],(0:Int)))).bind fun (Td:List Q6)=>some Td:=by kernel_rfl
def acO (n:Nat)(x1:Rk)(x2:Pred)(x3:Int)(r5:Def)(xs:List Pred)(p:PUnit×List (List Q6)):Option ((PUnit×List (List Q6))⊕(PUnit×List (List Q6))):=
 X3 (R:=R) (X:=Lv R.T Wv) 7 (wrR E (TD Tryz.f56.body [1,1,0,1,0,0,1,1,0,0,1,1,0])) (⟨[(3,TV.Q5 [TV.int IntKind.i64 x2.Op,TV.str x2.Name,TV.int IntKind.i64 x2.N,TV.int IntKind.i64 x2.M,TV.str x2.S,TV.tX (T:=R.T) Cp.sh (Ty.st 0) x2.Rs] 0),(5,TV.ref 5 0),(7,TV.ref 7 0),(10,TV.tX (T:=R.T) Cp.sh (Ty.st 1) x1.Defs),(11,TV.int IntKind.i64 (((x1.Defs.length:Nat):Int))),(12,TV.int IntKind.i64 x3)],[(7,Ob.ro (Ob.cells [TV.str r5.Name,TV.int IntKind.i64 r5.Kind,TV.int IntKind.i64 r5.Lo,TV.int IntKind.i64 r5.Hi,TV.tX (T:=R.T) Cp.sh Ty.str r5.Words]))]⟩:MS R.T) (Vs adX.loops 7).sh (Vs adX.loops 7).outs (acn E R n false (adW n) (Wx n) adX (TD Tryz.f56.body [1,1,0,1,0,0,1,1,0,0,1,1,0]) Wv) xs p
def aa8 (n:Nat)(x1:Rk)(x2:Pred)(m:Nat)(p:Int×List (List Q6)):Option (PUnit×List (List Q6)):=
 Sj n false (adW n) (Wx n) adX Tryz.f56.body [1,1,0,1,0,0] 3 ⟨[(3,.Q5 [.int .i64 x2.Op,.str x2.Name,.int .i64 x2.N,.int .i64 x2.M,.str x2.S,.tX .sh (.st 0) x2.Rs] 0),(5,.ref 5 0),(10,.tX .sh (.st 1) x1.Defs),(11,.int .i64 (((x1.Defs.length:Nat):Int)))],[]⟩ m p
theorem anU (n:Nat)(x1:Rk)(x2:Pred)(m:Nat)(x3:Int)(x4:List (List Q6)):aa8 n x1 x2 (m+1) (x3,x4)=bif decide (x3< (((x1.Defs.length:Nat):Int))) then (Fb x1.Defs x3).bind fun (r5:Def)=>(ZS n x2.re).bind fun (r6:PUnit×Int×(List UInt8)×Int×Int×(List UInt8)×List Pred)=>
  Option.bind (α:=(PUnit×List (List Q6))⊕(PUnit×List (List Q6))) (
   (VL ((⟨r6.2.1,r6.2.2.1,r6.2.2.2.1,r6.2.2.2.2.1,r6.2.2.2.2.2.1,r6.2.2.2.2.2.2⟩:Pred))).bind fun (r7:List Pred)=>
   acO n x1 x2 x3 r5 r7 (((),x4))) fun (Td:(PUnit×List (List Q6))⊕(PUnit×List (List Q6)))=>
  Sum.elim (fun (q13:PUnit×List (List Q6))=>
   aa8 n x1 x2 m ((wrap .i64 (x3+(1:Int)),q13.2)))
   (fun (q14:PUnit×List (List Q6))=>
    aa8 n x1 x2 m ((wrap .i64 (x3+(1:Int)),q14.2))) Td else some (((),x4)):=by kernel_rfl
theorem auq (n:Nat)(x1:Rk)(x2:Pred)(x3:Int)(r5:Def)(x8:List (List Q6)):acO n x1 x2 x3 r5 [] ((),x8)=some (.inl (((),x8))):=by kernel_rfl
theorem aur (n:Nat)(x1:Rk)(x2:Pred)(x3:Int)(r5:Def)(x9:Pred)(xs:List Pred)(x10:List (List Q6)):acO n x1 x2 x3 r5 (x9::xs) ((),x10)=bif bif decide (x9.Op>=(5:Int)) then x9.Name==r5.Name else false then (Zn n ((r5,x2.re))).bind fun (Rx:List Q6)=>bif Si (x10.length+([Rx].length)) 24 then some (.inr (((),x10++[Rx])))else none else acO n x1 x2 x3 r5 xs (((),x10)):=by kernel_rfl
theorem aus (n:Nat)(x1:Rk)(x2:Pred):Zl n (x1,x2)=(aa8 n x1 x2 n (((0:Int),[]))).bind fun (Ta:PUnit×List (List Q6))=>some Ta.2:=by kernel_rfl
theorem aut (n:Nat)(x1:Rk)(x2:Pred):Xh n (x1,x2)=(Zs n ((x1,x2.re))).bind fun (r3:Int)=>bif r3 !=(0:Int) then some (([],(false,r3)))else (Zl n ((x1,x2.re))).bind fun (r4:List (List Q6))=>(ZG n r4).bind fun (r5:Int)=>bif decide (r5> (4096:Int)) then some (([],(false,(2:Int))))else (Xw n ((r4,x2.re))).bind fun (r6:(List Attr)×Bool)=>some ((r6.1,(r6.2,(0:Int)))):=by kernel_rfl
theorem auu (n:Nat)(x1:Rk)(x2:Pred)(x3:List Attr):Xi n (x1,(x2,x3))=(Xq n ((x1,(x2.re,x2.re)))).bind fun (r4:Bool)=>(Uh (!(!r4)) (Zy n ((x1,x3))) (0:Int)).bind fun (r5:Int)=>bif bif !r4 then true else r5 !=(0:Int) then (Xb n (())).bind fun (r6:Bool)=>some r6 else (Xh n ((x1,x2.re))).bind fun (r7:(List Attr)×Bool×Int)=>bif r7.2.2 !=(0:Int) then (Xb n (())).bind fun (r8:Bool)=>some (bif bif r8 then (r7.1.length:Int)==(0:Int) else false then !r7.2.1 else false)else bif r7.2.1 then (Xb n (())).bind fun (r9:Bool)=>(Uh (bif r9 then (r7.1.length:Int)==(0:Int) else false) (ZR n ((x2.re,x3))) false).bind fun (R6:Bool)=>some (bif bif r9 then (r7.1.length:Int)==(0:Int) else false then !R6 else false)else (Xb n (())).bind fun (Rx:Bool)=>(Uh Rx (ZR n ((x2.re,r7.1))) false).bind fun (Td:Bool)=>(Uh (bif Rx then Td else false) (Zy n ((x1,r7.1))) (0:Int)).bind fun (RL:Int)=>some (bif bif Rx then Td else false then RL==(0:Int) else false):=by kernel_rfl
attribute [irreducible] aaZ aa0 ad1 aa1 aa2 aa3 YX aa4 aa5 ad2 acG aa6 acH UY acI acJ ad6 ad7 abI aas ad8 Yi anx akl anz anA anB anC akm anD anE anF anG anH anI anJ anK anL anM anN anO anP acL ad9 aat aea acM aeb Y6 aau acN aec aed acO aa8
end Sh
