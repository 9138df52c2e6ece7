import Derived.Test.YtgdialomgeijcaaGreatF4025
set_option linter.all false
noncomputable section
open Go.IntKind (wrap)
open Go Go.Proofs Aq
namespace Sh
set_option maxRecDepth 100000
def acB (n:Nat)(x1:Ro)(x2 x3:Int)(r4:Def)(m:Nat)(p:Int):Option (PUnit⊕Bool):=
 RL n false (afi n) RF ajR Tryz.f46.body [1,0,1,0,0,1,0,0,1,1,1,0,0] 8 ⟨[(1,.int .i64 x2),(2,.ref 2 0),(5,.int .i64 x3),(6,.ref 6 0)],[(2,.ro (.ro (.cells [.int .i64 x1.X8,.int .i64 x1.aaX,.tX .sh (.st 1) x1.Defs]))),(6,.ro (.cells [.str r4.Name,.int .i64 r4.Kind,.int .i64 r4.Lo,.int .i64 r4.Hi,.tX .sh .str r4.Words]))]⟩ m p
def acC (n:Nat)(x1:Ro)(x2:Int)(m:Nat)(p:Int):Option (PUnit⊕Bool):=
 RL n false (afi n) RF ajR Tryz.f46.body [1,0,1,0,0] 2 ⟨[(1,.int .i64 x2),(2,.ref 2 0)],[(2,.ro (.cells [.int .i64 x1.X8,.int .i64 x1.aaX,.tX .sh (.st 1) x1.Defs]))]⟩ m p
theorem arn (n:Nat)(x1:Ro)(x2 x3:Int)(r4:Def)(m:Nat)(x5:Int):acB n x1 x2 x3 r4 (m+1) x5=bif decide (x5< (((r4.Words.length:Nat):Int))) then (Q5 r4.Words x5).bind fun (r6:List UInt8)=>bif decide ((r6.length:Int)> (100:Int)) then some (.inr false)else acB n x1 x2 x3 r4 m (wrap .i64 (x5+(1:Int)))else some (.inl (())):=by kernel_rfl
theorem aro (n:Nat)(x1:Ro)(x2:Int)(m:Nat)(x3:Int):acC n x1 x2 (m+1) x3=bif bif decide (x3< (((x1.Defs.length:Nat):Int))) then decide (x3<=x2) else false then (Q5 x1.Defs x3).bind fun (r4:Def)=>bif bif decide ((((r4.Words.length:Nat):Int))> (60:Int)) then true else decide ((((r4.Name.length:Nat):Int))> (100:Int)) then some (.inr false)else (acB n x1 x2 x3 r4 n (0:Int)).bind fun (r7:PUnit⊕Bool)=>
   Sum.elim (fun (q8:PUnit)=>
    acC n x1 x2 m (wrap .i64 (x3+(1:Int))))
    (fun (q9:Bool)=>some (.inr q9)) r7 else some (.inl (())):=by kernel_rfl
theorem azJ (n:Nat)(x1:Ro)(x2:Int):Zq n (x1,x2)=(acC n x1 x2 n (0:Int)).bind fun (Sc:PUnit⊕Bool)=>
 Sum.elim (fun (q11:PUnit)=>some (decide ((((x1.Defs.length:Nat):Int))<=x2)))
  (fun (q12:Bool)=>some q12) Sc:=by kernel_rfl
theorem azK (n:Nat)(x1:Int):XR n x1=some (bif decide (x1>=(1:Int)) then decide (x1<=(3:Int)) else false):=by kernel_rfl
def afS (n:Nat)(x1:List (List UInt8))(x2:List UInt8)(m:Nat)(p:Int):Option (PUnit⊕Bool):=
 RL n false (ahk n) RF aqx Tryz.f83.body [1,0,1,0,0] 2 ⟨[(0,.tX .sh .str x1),(1,.str x2)],[]⟩ m p
theorem arp (n:Nat)(x1:List (List UInt8))(x2:List UInt8)(m:Nat)(x3:Int):afS n x1 x2 (m+1) x3=bif decide (x3< (x1.length:Int)) then (Q5 x1 x3).bind fun (r4:List UInt8)=>bif r4==x2 then some (.inr true)else afS n x1 x2 m (wrap .i64 (x3+(1:Int)))else some (.inl (())):=by kernel_rfl
theorem azL (n:Nat)(x1:List (List UInt8))(x2:List UInt8):ZO n (x1,x2)=(afS n x1 x2 n (0:Int)).bind fun (r5:PUnit⊕Bool)=>
 Sum.elim (fun (q6:PUnit)=>some false)
  (fun (q7:Bool)=>some q7) r5:=by kernel_rfl
def acD (n:Nat)(x1:List UInt8)(m:Nat)(p:Int):Option (PUnit⊕Bool):=
 RL n false (ahl n) RF aqy Tryz.f87.body [1,0,1,0,0] 2 ⟨[(0,.str x1)],[]⟩ m p
theorem arq (n:Nat)(x1:List UInt8)(m:Nat)(x2:Int):acD n x1 (m+1) x2=bif decide (x2< (x1.length:Int)) then (Q5 x1 x2).bind fun (r3:UInt8)=>bif bif !(bif decide ((r3.toNat:Int)>=(97:Int)) then decide ((r3.toNat:Int)<=(122:Int)) else false) then bif x2==(0:Int) then true else !(bif bif decide ((r3.toNat:Int)>=(48:Int)) then decide ((r3.toNat:Int)<=(57:Int)) else false then true else (r3.toNat:Int)==(95:Int)) else false then some (.inr false)else acD n x1 m (wrap .i64 (x2+(1:Int)))else some (.inl (())):=by kernel_rfl
theorem azM (n:Nat)(x1:List UInt8):ZI n x1=(acD n x1 n (0:Int)).bind fun (r4:PUnit⊕Bool)=>
 Sum.elim (fun (q5:PUnit)=>(VZ (bif decide ((x1.length:Int)>=(1:Int)) then decide ((x1.length:Int)<=(40:Int)) else false) (ZO n (([[(97:UInt8),(108:UInt8),(108:UInt8)],[(97:UInt8),(110:UInt8),(100:UInt8)],[(104:UInt8),(97:UInt8),(115:UInt8)],[(105:UInt8),(110:UInt8)],[(110:UInt8),(111:UInt8),(116:UInt8)],[(111:UInt8),(114:UInt8)]],x1))) false).bind fun (r7:Bool)=>some (bif bif decide ((x1.length:Int)>=(1:Int)) then decide ((x1.length:Int)<=(40:Int)) else false then !r7 else false))
  (fun (q6:Bool)=>some q6) r4:=by kernel_rfl
def acE (n:Nat)(x1:List (List UInt8))(m:Nat)(p:Int):Option (PUnit⊕Int):=
 RL n false (afn n) RF aj1 Tryz.f88.body [1,1,0,1,0,0] 4 ⟨[(0,.tX .sh .str x1)],[]⟩ m p
def acF (n:Nat)(x1:List (List UInt8))(m:Nat)(p:Int):Option (PUnit⊕Int):=
 RL n false (afn n) RF aj1 Tryz.f88.body [1,1,1,0,1,0,0] 9 ⟨[(0,.tX .sh .str x1)],[]⟩ m p
theorem ars (n:Nat)(x1:List (List UInt8))(m:Nat)(x2:Int):acE n x1 (m+1) x2=bif decide (x2< (x1.length:Int)) then (Q5 x1 x2).bind fun (r3:List UInt8)=>(ZI n r3).bind fun (r4:Bool)=>bif !r4 then some (.inr (5:Int))else acE n x1 m (wrap .i64 (x2+(1:Int)))else some (.inl (())):=by kernel_rfl
theorem aru (n:Nat)(x1:List (List UInt8))(m:Nat)(x8:Int):acF n x1 (m+1) x8=bif decide (x8< (x1.length:Int)) then (Q5 x1 x8).bind fun (r9:List UInt8)=>(Q5 x1 (wrap .i64 (x8-(1:Int)))).bind fun (Sc:List UInt8)=>bif (Go.Op.bytesLess r9 Sc)||(r9==Sc) then some (.inr (6:Int))else acF n x1 m (wrap .i64 (x8+(1:Int)))else some (.inl (())):=by kernel_rfl
theorem arv (n:Nat)(x1:List (List UInt8)):Zl n x1=bif bif decide ((x1.length:Int)< (1:Int)) then true else decide ((x1.length:Int)> (50:Int)) then some (2:Int)else (acE n x1 n (0:Int)).bind fun (r5:PUnit⊕Int)=>
  Sum.elim (fun (q6:PUnit)=>(acF n x1 n (1:Int)).bind fun (Ry:PUnit⊕Int)=>
   Sum.elim (fun (q12:PUnit)=>some (0:Int))
    (fun (q13:Int)=>some q13) Ry)
   (fun (q7:Int)=>some q7) r5:=by kernel_rfl
theorem arw (n:Nat)(x1:Def)(x2:List UInt8):Xw n (x1,x2)=(ZI n x1.Name).bind fun (r3:Bool)=>bif !r3 then some (5:Int)else bif (Go.Op.bytesLess x1.Name x2)||(x1.Name==x2) then some (6:Int)else bif x1.Kind==(1:Int) then bif bif bif decide (x1.Lo< (-1099511627776:Int)) then true else decide (x1.Hi> (1099511627776:Int)) then true else decide (x1.Lo>x1.Hi) then some (131:Int)else bif decide ((((x1.Words.length:Nat):Int))> (0:Int)) then some (3:Int)else some (0:Int)else bif x1.Kind==(2:Int) then bif bif x1.Lo !=(0:Int) then true else x1.Hi !=(0:Int) then some (3:Int)else (Zl n x1.Words).bind fun (r4:Int)=>some r4 else some (130:Int):=by kernel_rfl
def abk (n:Nat)(x1:Ro)(m:Nat)(p:(List UInt8)×Int):Option (PUnit⊕Int):=
 RL n false (ahm n) RF aqz Tryz.f47.body [1,1,1,1,0,1,0,0] 7 ⟨[(1,.ref 1 0)],[(1,.ro (.cells [.int .i64 x1.X8,.int .i64 x1.aaX,.tX .sh (.st 1) x1.Defs]))]⟩ m p
theorem arx (n:Nat)(x1:Ro)(p:(List UInt8)×Int):abk n x1 0 p=none:=by kernel_rfl
theorem ahR (n:Nat)(x1:Ro)(m:Nat)(x3:List UInt8)(x4:Int):abk n x1 (m+1) (x3,x4)=bif decide (x4< (((x1.Defs.length:Nat):Int))) then (Q5 x1.Defs x4).bind fun (r5:Def)=>(Xw n ((r5,x3))).bind fun (r6:Int)=>bif r6 !=(0:Int) then some (.inr r6)else (Q5 x1.Defs x4).bind fun (r7:Def)=>
   abk n x1 m ((r7.Name,wrap .i64 (x4+(1:Int))))else some (.inl (())):=by kernel_rfl
theorem arz (n:Nat)(x1:Ro):Zx n x1=(VZ (!(bif decide (x1.X8< (1:Int)) then true else decide (x1.X8> (32:Int)))) (XR n x1.aaX) false).bind fun (r2:Bool)=>bif bif bif decide (x1.X8< (1:Int)) then true else decide (x1.X8> (32:Int)) then true else !r2 then some (1:Int)else bif decide ((((x1.Defs.length:Nat):Int))> (16:Int)) then some (2:Int)else (abk n x1 n (([],(0:Int)))).bind fun (r8:PUnit⊕Int)=>
   Sum.elim (fun (q9:PUnit)=>some (0:Int))
    (fun (q10:Int)=>some q10) r8:=by kernel_rfl
theorem arA (n:Nat)(x1:Ro):XE n x1=(Zq n ((x1,(16:Int)))).bind fun (r2:Bool)=>(VZ r2 (Zx n x1) (0:Int)).bind fun (r3:Int)=>some (bif r2 then r3==(0:Int) else false):=by kernel_rfl
def acI (n g:Nat)(x1:Pred)(m:Nat)(p:(List Pred)×Int):Option (List Pred):=
 RL n false (afo n (Yw n g)) RF akf Tryz.f39.body [1,1,0,1,0,0] 3 ⟨[(1,.ref 1 0)],[(1,.ro (.cells [.int .i64 x1.Op,.str x1.Name,.int .i64 x1.N,.int .i64 x1.M,.str x1.S,.tX .sh (.st 0) x1.Ra]))]⟩ m p
theorem arB (n g:Nat)(x1:Pred)(m:Nat)(x2:List Pred)(x3:Int):acI n g x1 (m+1) (x2,x3)=bif bif decide (x3< (((x1.Ra.length:Nat):Int))) then decide ((x2.length:Int)< (1000:Int)) else false then (Q5 x1.Ra x3).bind fun (r4:Pred)=>(aeh n g r4.re).bind fun (r5:List Pred)=>bif SB (x2.length+r5.length) 80 then acI n g x1 m ((x2++r5,wrap .i64 (x3+(1:Int))))else none else some x2:=by kernel_rfl
theorem azO (n g:Nat)(x1:Pred):aeh n (g+1) x1=(acI n g x1 n (([x1.re],(0:Int)))).bind fun (r6:List Pred)=>bif decide ((r6.length:Int)> (1000:Int)) then bif Yn (1000:Int) r6.length then some (List.take (Int.toNat (1000:Int)) r6)else none else some r6:=by kernel_rfl
theorem azP (n:Nat)(x1:Pred):Xh n x1=(Zb n x1.re).bind fun (r2:List Pred)=>some (r2.length:Int):=by kernel_rfl
def acJ (n g:Nat)(x1:Pred)(x2:Int)(m:Nat)(p:Int):Option (PUnit⊕Bool):=
 RL n false (afp n (Yy n g)) RF akl Tryz.f10.body [1,1,0,1,0,0] 4 ⟨[(1,.int .i64 x2),(2,.ref 2 0)],[(2,.ro (.cells [.int .i64 x1.Op,.str x1.Name,.int .i64 x1.N,.int .i64 x1.M,.str x1.S,.tX .sh (.st 0) x1.Ra]))]⟩ m p
theorem arC (n g:Nat)(x1:Pred)(x2:Int)(m:Nat)(x4:Int):acJ n g x1 x2 (m+1) x4=bif decide (x4< (((x1.Ra.length:Nat):Int))) then (Q5 x1.Ra x4).bind fun (r5:Pred)=>(adg n g ((r5.re,wrap .i64 (x2-(1:Int))))).bind fun (r6:Bool)=>bif !r6 then some (.inr false)else acJ n g x1 x2 m (wrap .i64 (x4+(1:Int)))else some (.inl (())):=by kernel_rfl
theorem arD (n g:Nat)(x1:Pred)(x2:Int):adg n (g+1) (x1,x2)=(VZ (!(decide (x2< (1:Int)))) (Xh n x1.re) (0:Int)).bind fun (r3:Int)=>bif bif decide (x2< (1:Int)) then true else decide (r3> (100:Int)) then some false else (acJ n g x1 x2 n (0:Int)).bind fun (r7:PUnit⊕Bool)=>
  Sum.elim (fun (q8:PUnit)=>some true)
   (fun (q9:Bool)=>some q9) r7:=by kernel_rfl
theorem ahS (n:Nat)(x1 x2:Pred):Xt n (x1,x2)=some ((⟨(2:Int),[],(0:Int),(0:Int),[],[x1.re,x2.re]⟩:Pred)):=by kernel_rfl
def afT (n:Nat)(x1:List Pred)(x2:List UInt8)(m:Nat)(p:Int):Option (PUnit⊕Bool):=
 RL n false (ahn n) RF aqG Tryz.f79.body [1,0,1,0,0] 2 ⟨[(0,.tX .sh (.st 0) x1),(1,.str x2)],[]⟩ m p
theorem arE (n:Nat)(x1:List Pred)(x2:List UInt8)(m:Nat)(x3:Int):afT n x1 x2 (m+1) x3=bif decide (x3< (x1.length:Int)) then (Q5 x1 x3).bind fun (r4:Pred)=>(VZ (decide (r4.Op>=(5:Int))) (Q5 x1 x3) ((⟨(0:Int),[],(0:Int),(0:Int),[],[]⟩:Pred))).bind fun (r5:Pred)=>bif bif decide (r4.Op>=(5:Int)) then r5.Name==x2 else false then some (.inr true)else afT n x1 x2 m (wrap .i64 (x3+(1:Int)))else some (.inl (())):=by kernel_rfl
theorem azQ (n:Nat)(x1:List Pred)(x2:List UInt8):ZY n (x1,x2)=(afT n x1 x2 n (0:Int)).bind fun (r6:PUnit⊕Bool)=>
 Sum.elim (fun (q7:PUnit)=>some false)
  (fun (q8:Bool)=>some q8) r6:=by kernel_rfl
def aeo (n:Nat)(x1:List Pred)(x2:List UInt8)(x3 x4:Int)(m:Nat)(p:Int):Option (PUnit⊕Bool):=
 RL n false (aho n) RF aqH Tryz.f96.body [1,0,1,0,0] 2 ⟨[(0,.tX .sh (.st 0) x1),(1,.str x2),(2,.int .i64 x3),(3,.int .i64 x4)],[]⟩ m p
theorem arF (n:Nat)(x1:List Pred)(x2:List UInt8)(x3 x4:Int)(m:Nat)(x5:Int):aeo n x1 x2 x3 x4 (m+1) x5=bif decide (x5< (x1.length:Int)) then (Q5 x1 x5).bind fun (r6:Pred)=>(VZ (r6.Op==(6:Int)) (Q5 x1 x5) ((⟨(0:Int),[],(0:Int),(0:Int),[],[]⟩:Pred))).bind fun (r7:Pred)=>bif bif r6.Op==(6:Int) then r7.Name==x2 else false then (Q5 x1 x5).bind fun (r8:Pred)=>(VZ (decide (x3>=r8.N)) (Q5 x1 x5) ((⟨(0:Int),[],(0:Int),(0:Int),[],[]⟩:Pred))).bind fun (r9:Pred)=>(Q5 x1 x5).bind fun (Sc:Pred)=>(VZ (decide (x4>=Sc.N)) (Q5 x1 x5) ((⟨(0:Int),[],(0:Int),(0:Int),[],[]⟩:Pred))).bind fun (Ry:Pred)=>bif !((bif decide (x3>=r8.N) then decide (x3<=r9.M) else false)==(bif decide (x4>=Sc.N) then decide (x4<=Ry.M) else false)) then some (.inr false)else aeo n x1 x2 x3 x4 m (wrap .i64 (x5+(1:Int)))else aeo n x1 x2 x3 x4 m (wrap .i64 (x5+(1:Int)))else some (.inl (())):=by kernel_rfl
theorem azR (n:Nat)(x1:List Pred)(x2:List UInt8)(x3 x4:Int):ZT n (x1,(x2,(x3,x4)))=(aeo n x1 x2 x3 x4 n (0:Int)).bind fun (Tw:PUnit⊕Bool)=>
 Sum.elim (fun (q13:PUnit)=>some true)
  (fun (q14:Bool)=>some q14) Tw:=by kernel_rfl
def acK (n:Nat)(x1:Def)(x2:List Pred)(x4:Bool)(x5:Int)(m:Nat)(p:(List RI)×Bool×Int):Option ((List RI)×Bool):=
 RL n false (adh n) RF afq Tryz.f80.body [1,1,0,1,0,1,0,1,0,0,1,0,0,1,0,1,0,0] 9 ⟨[(1,.tX .sh (.st 0) x2),(2,.Q9 [.str x1.Name,.int .i64 x1.Kind,.int .i64 x1.Lo,.int .i64 x1.Hi,.tX .sh .str x1.Words] 0),(6,.bool x4),(7,.int .i64 x5)],[]⟩ m p
def aep (n:Nat)(x1:Def)(x2:List Pred)(m:Nat)(p:(List RI)×Bool×Int):Option (List RI):=
 RL n false (adh n) RF afq Tryz.f80.body [1,1,0,1,0,1,0,1,0,0] 5 ⟨[(1,.tX .sh (.st 0) x2),(2,.Q9 [.str x1.Name,.int .i64 x1.Kind,.int .i64 x1.Lo,.int .i64 x1.Hi,.tX .sh .str x1.Words] 0)],[]⟩ m p
def Vp (n:Nat)(x1:Def)(x2:List Pred)(SH:Int)(m:Nat)(p:(List RI)×Int×Int):Option ((List RI)×Int):=
 RL n false (adh n) RF afq Tryz.f80.body [1,1,1,1,1,0,0,0,1,0,1,0,0] 20 ⟨[(1,.tX .sh (.st 0) x2),(2,.Q9 [.str x1.Name,.int .i64 x1.Kind,.int .i64 x1.Lo,.int .i64 x1.Hi,.tX .sh .str x1.Words] 0),(10,.int .i64 SH)],[]⟩ m p
def aer (n:Nat)(x1:Def)(x2:List Pred)(m:Nat)(p:(List RI)×Int):Option (List RI):=
 RL n false (adh n) RF afq Tryz.f80.body [1,1,1,1,1,0,0] 18 ⟨[(1,.tX .sh (.st 0) x2),(2,.Q9 [.str x1.Name,.int .i64 x1.Kind,.int .i64 x1.Lo,.int .i64 x1.Hi,.tX .sh .str x1.Words] 0)],[]⟩ m p
theorem arG (n:Nat)(x1:Def)(x2:List Pred)(x4:Bool)(x5:Int)(m:Nat)(x6:List RI)(x7:Bool)(x8:Int):acK n x1 x2 x4 x5 (m+1) (x6,(x7,x8))=bif decide (x8< (x2.length:Int)) then bif !x7 then (Q5 x2 x8).bind fun (r9:Pred)=>bif r9.Op==(7:Int) then (Q5 x2 x8).bind fun (Sc:Pred)=>bif Sc.Name==x1.Name then (Q5 x2 x8).bind fun (Ry:Pred)=>(Q5 x1.Words x5).bind fun (Tw:List UInt8)=>
     acK n x1 x2 x4 x5 m ((x6,(Ry.S==Tw,wrap .i64 (x8+(1:Int)))))else acK n x1 x2 x4 x5 m ((x6,(false,wrap .i64 (x8+(1:Int)))))else acK n x1 x2 x4 x5 m ((x6,(false,wrap .i64 (x8+(1:Int)))))else acK n x1 x2 x4 x5 m ((x6,(true,wrap .i64 (x8+(1:Int)))))else some ((x6,x7)):=by kernel_rfl
theorem arH (n:Nat)(x1:Def)(x2:List Pred)(m:Nat)(x3:List RI)(x4:Bool)(x5:Int):aep n x1 x2 (m+1) (x3,(x4,x5))=bif decide (x5< (((x1.Words.length:Nat):Int))) then (acK n x1 x2 x4 x5 n ((x3,(false,(0:Int))))).bind fun (RG:(List RI)×Bool)=>bif bif RG.2 then true else !x4 then (Q5 x1.Words x5).bind fun (Tx:List UInt8)=>bif SB (RG.1.length+([(⟨(⟨x1.Name,x1.Kind,(0:Int),Tx⟩:Attr),true⟩:RI)].length)) 56 then aep n x1 x2 m ((RG.1++[(⟨(⟨x1.Name,x1.Kind,(0:Int),Tx⟩:Attr),true⟩:RI)],(bif x4 then true else !RG.2,wrap .i64 (x5+(1:Int)))))else none else aep n x1 x2 m ((RG.1,(bif x4 then true else !RG.2,wrap .i64 (x5+(1:Int)))))else some x3:=by kernel_rfl
theorem arI (n:Nat)(x1:Def)(x2:List Pred)(SH:Int)(m:Nat)(x18:List RI)(x19 x20:Int):Vp n x1 x2 SH (m+1) (x18,(x19,x20))=bif decide (x20< (x2.length:Int)) then (Q5 x2 x20).bind fun (VL:Pred)=>bif VL.Op==(6:Int) then (Q5 x2 x20).bind fun (Yz:Pred)=>bif Yz.Name==x1.Name then (Q5 x2 x20).bind fun (WV:Pred)=>(VZ (decide (WV.N>SH)) (Q5 x2 x20) ((⟨(0:Int),[],(0:Int),(0:Int),[],[]⟩:Pred))).bind fun (r24:Pred)=>bif bif decide (WV.N>SH) then decide (r24.N<x19) else false then (Q5 x2 x20).bind fun (WW:Pred)=>(Q5 x2 x20).bind fun (UR:Pred)=>bif decide (UR.M>=SH) then (Q5 x2 x20).bind fun (r27:Pred)=>bif decide (r27.M<x1.Hi) then (Q5 x2 x20).bind fun (r28:Pred)=>bif decide ((wrap .i64 (r28.M+(1:Int)))<WW.N) then (Q5 x2 x20).bind fun (V4:Pred)=>
        Vp n x1 x2 SH m ((x18,(wrap .i64 (V4.M+(1:Int)),wrap .i64 (x20+(1:Int)))))else Vp n x1 x2 SH m ((x18,(WW.N,wrap .i64 (x20+(1:Int)))))else Vp n x1 x2 SH m ((x18,(WW.N,wrap .i64 (x20+(1:Int)))))else Vp n x1 x2 SH m ((x18,(WW.N,wrap .i64 (x20+(1:Int)))))else (Q5 x2 x20).bind fun (r30:Pred)=>bif decide (r30.M>=SH) then (Q5 x2 x20).bind fun (r31:Pred)=>bif decide (r31.M<x1.Hi) then (Q5 x2 x20).bind fun (r32:Pred)=>bif decide ((wrap .i64 (r32.M+(1:Int)))<x19) then (Q5 x2 x20).bind fun (r33:Pred)=>
        Vp n x1 x2 SH m ((x18,(wrap .i64 (r33.M+(1:Int)),wrap .i64 (x20+(1:Int)))))else Vp n x1 x2 SH m ((x18,(x19,wrap .i64 (x20+(1:Int)))))else Vp n x1 x2 SH m ((x18,(x19,wrap .i64 (x20+(1:Int)))))else Vp n x1 x2 SH m ((x18,(x19,wrap .i64 (x20+(1:Int)))))else Vp n x1 x2 SH m ((x18,(x19,wrap .i64 (x20+(1:Int)))))else Vp n x1 x2 SH m ((x18,(x19,wrap .i64 (x20+(1:Int)))))else some ((x18,x19)):=by kernel_rfl
theorem arJ (n:Nat)(x1:Def)(x2:List Pred)(m:Nat)(Tj:List RI)(SH:Int):aer n x1 x2 (m+1) (Tj,SH)=(Vp n x1 x2 SH n ((Tj,(wrap .i64 (x1.Hi+(1:Int)),(0:Int))))).bind fun (T9:(List RI)×Int)=>bif decide (T9.2>x1.Hi) then some T9.1 else (ZT n ((x2,(x1.Name,(wrap .i64 (T9.2-(1:Int)),T9.2))))).bind fun (r35:Bool)=>bif !r35 then bif SB (T9.1.length+(([(⟨(⟨x1.Name,x1.Kind,T9.2,[]⟩:Attr),true⟩:RI)]).length)) 56 then aer n x1 x2 m ((T9.1++([(⟨(⟨x1.Name,x1.Kind,T9.2,[]⟩:Attr),true⟩:RI)]),T9.2))else none else aer n x1 x2 m ((T9.1,T9.2)):=by kernel_rfl
theorem azS (n:Nat)(x1:Def)(x2:List Pred):QP n (x1,x2)=bif x1.Kind==(2:Int) then (aep n x1 x2 n (([(⟨(⟨[],(0:Int),(0:Int),[]⟩:Attr),false⟩:RI)],(false,(0:Int))))).bind fun (Sr:List RI)=>some Sr else bif SB ((([(⟨(⟨[],(0:Int),(0:Int),[]⟩:Attr),false⟩:RI)]).length)+(([(⟨(⟨x1.Name,x1.Kind,x1.Lo,[]⟩:Attr),true⟩:RI)]).length)) 56 then (aer n x1 x2 n ((([(⟨(⟨[],(0:Int),(0:Int),[]⟩:Attr),false⟩:RI)])++([(⟨(⟨x1.Name,x1.Kind,x1.Lo,[]⟩:Attr),true⟩:RI)]),x1.Lo))).bind fun (r36:List RI)=>some r36 else none:=by kernel_rfl
def aeu (n:Nat)(x1:Ro)(r3:List Pred)(m:Nat)(p:(List (List RI))×Int):Option (List (List RI)):=
 RL n false (ahp n) RF aqI Tryz.f57.body [1,1,1,0,1,0,0] 4 ⟨[(2,.ref 2 0),(5,.tX .sh (.st 0) r3)],[(2,.ro (.cells [.int .i64 x1.X8,.int .i64 x1.aaX,.tX .sh (.st 1) x1.Defs]))]⟩ m p
theorem arL (n:Nat)(x1:Ro)(r3:List Pred)(m:Nat)(x4:List (List RI))(x5:Int):aeu n x1 r3 (m+1) (x4,x5)=bif decide (x5< (((x1.Defs.length:Nat):Int))) then (Q5 x1.Defs x5).bind fun (r6:Def)=>(ZY n ((r3,r6.Name))).bind fun (r7:Bool)=>bif r7 then (Q5 x1.Defs x5).bind fun (r8:Def)=>(QP n ((r8,r3))).bind fun (r9:List RI)=>bif SB (x4.length+([r9].length)) 24 then aeu n x1 r3 m ((x4++[r9],wrap .i64 (x5+(1:Int))))else none else aeu n x1 r3 m ((x4,wrap .i64 (x5+(1:Int))))else some x4:=by kernel_rfl
theorem azT (n:Nat)(x1:Ro)(x2:Pred):ZQ n (x1,x2)=(Zb n x2.re).bind fun (r3:List Pred)=>(aeu n x1 r3 n (([],(0:Int)))).bind fun (Sc:List (List RI))=>some Sc:=by kernel_rfl
def afX (n:Nat)(r3:List (List RI))(m:Nat)(p:Int×Int):Option (Int⊕Int):=
 RL n false (ahq n) RF aqJ Tryz.f24.body [1,1,1,0,1,0,0] 4 ⟨[(5,.tX .sh (.slice (.st 6)) r3)],[]⟩ m p
theorem arM (n:Nat)(r3:List (List RI))(m:Nat)(x4 x5:Int):afX n r3 (m+1) (x4,x5)=bif decide (x5< (r3.length:Int)) then (Q5 r3 x5).bind fun (r6:List RI)=>bif decide ((wrap .i64 (x4*(r6.length:Int)))> (4096:Int)) then some (.inr (4097:Int))else afX n r3 m ((wrap .i64 (x4*(r6.length:Int)),wrap .i64 (x5+(1:Int))))else some (.inl x4):=by kernel_rfl
theorem azU (n:Nat)(x1:Ro)(x2:Pred):ZU n (x1,x2)=(ZQ n ((x1,x2.re))).bind fun (r3:List (List RI))=>(afX n r3 n (((1:Int),(0:Int)))).bind fun (r7:Int⊕Int)=>
 Sum.elim (fun (q8:Int)=>some q8)
  (fun (q9:Int)=>some q9) r7:=by kernel_rfl
theorem azV (n:Nat)(x1:Ro)(x2 x3:Pred):XS n (x1,(x2,x3))=(XE n x1).bind fun (r4:Bool)=>(QQ n ((x2.re,(100:Int)))).bind fun (r5:Bool)=>(QQ n ((x3.re,(100:Int)))).bind fun (r6:Bool)=>bif bif bif !r4 then true else !r5 then true else !r6 then some false else (Xt n ((x2.re,x3.re))).bind fun (r7:Pred)=>(ZU n ((x1,r7.re))).bind fun (r8:Int)=>some (bif decide (r8<=(600:Int)) then true else decide (r8> (4096:Int))):=by kernel_rfl
theorem aev (n:Nat)(x1:Pred):Xi n x1=some (((),(x1.Op,(x1.Name,(x1.N,(x1.M,(x1.S,x1.Ra))))))):=by kernel_rfl
def abQ (n:Nat)(xs:List Pred)(p:PUnit×Int):Option ((PUnit×Int)⊕(PUnit×Int)):=
 aah (R:=R) (X:=FN R.T X9) 3 (wrR E (TM Tryz.f14.body [1,1,0,1,0])) (⟨[(3,TV.ref 3 0)],[]⟩:MS R.T) (Vw ahs.loops 3).sh (Vw ahs.loops 3).outs (ad8 E R n false (ahr n) RF ahs (TM Tryz.f14.body [1,1,0,1,0]) X9) xs p
theorem azW (n:Nat)(x4:Int):abQ n [] ((),x4)=some (.inl (((),x4))):=by kernel_rfl
theorem azX (n:Nat)(x5:Pred)(xs:List Pred)(x6:Int):abQ n (x5::xs) ((),x6)=bif (wrap .i64 (x6+(1:Int)))==(1000:Int) then some (.inr (((),wrap .i64 (x6+(1:Int)))))else abQ n xs (((),wrap .i64 (x6+(1:Int)))):=by kernel_rfl
theorem azY (n:Nat)(x1:Pred):ZJ n x1=(Xi n x1.re).bind fun (r2:PUnit×Int×(List UInt8)×Int×Int×(List UInt8)×List Pred)=>
 Option.bind (α:=(PUnit×Int)⊕(PUnit×Int)) (
  (Wv ((⟨r2.2.1,r2.2.2.1,r2.2.2.2.1,r2.2.2.2.2.1,r2.2.2.2.2.2.1,r2.2.2.2.2.2.2⟩:Pred))).bind fun (r3:List Pred)=>
  abQ n r3 (((),(0:Int)))) fun (r7:(PUnit×Int)⊕(PUnit×Int))=>
 Sum.elim (fun (q8:PUnit×Int)=>some q8.2)
  (fun (q9:PUnit×Int)=>some q9.2) r7:=by kernel_rfl
theorem azZ (n:Nat)(x1:Pred):XF n x1=bif bif bif bif !(decide (x1.Op>=(5:Int))) then !(x1.Name==[]) else false then true else bif x1.Op !=(6:Int) then bif x1.N !=(0:Int) then true else x1.M !=(0:Int) else false then true else bif x1.Op !=(7:Int) then !(x1.S==[]) else false then some false else bif bif bif decide (x1.N>x1.M) then true else bif bif x1.Op==(2:Int) then true else x1.Op==(3:Int) then (((x1.Ra.length:Nat):Int))==(0:Int) else false then true else bif x1.Op==(4:Int) then (((x1.Ra.length:Nat):Int)) !=(1:Int) else false then some false else some (bif bif bif x1.Op==(2:Int) then true else x1.Op==(3:Int) then true else x1.Op==(4:Int) then true else (((x1.Ra.length:Nat):Int))==(0:Int)):=by kernel_rfl
theorem az0 (n:Nat)(x1:Def)(x2:List UInt8):XY n (x1,x2)=some (x1.Name==x2):=by kernel_rfl
def afY (n:Nat)(x1:List Def)(x2:List UInt8)(m:Nat)(p:Int):Option (PUnit⊕Int):=
 RL n false (aht n) RF aqK Tryz.f75.body [1,0,1,0,0] 2 ⟨[(0,.tX .sh (.st 1) x1),(1,.fn 76 [] ([.Q9 [.str x2] 0])),(7,.int .i64 (x1.length:Int))],[]⟩ m p
theorem arN (n:Nat)(x1:List Def)(x2:List UInt8)(m:Nat)(x3:Int):afY n x1 x2 (m+1) x3=bif decide (x3< (x1.length:Int)) then (Q5 x1 x3).bind fun (r4:Def)=>(XY n ((r4,x2))).bind fun (r5:Bool)=>bif r5 then some (.inr x3)else afY n x1 x2 m (wrap .i64 (x3+(1:Int)))else some (.inl (())):=by kernel_rfl
theorem az1 (n:Nat)(x1:List Def)(x2:List UInt8):Xc n (x1,((),x2))=(afY n x1 x2 n (0:Int)).bind fun (r6:PUnit⊕Int)=>
 Sum.elim (fun (q7:PUnit)=>some (-1:Int))
  (fun (q8:Int)=>some q8) r6:=by kernel_rfl
theorem az2 (n:Nat)(x1:Ro)(x2:List UInt8):XG n (x1,x2)=(Xc n ((x1.Defs,((),x2)))).bind fun (r3:Int)=>bif decide (r3< (0:Int)) then some (((⟨[],(0:Int),(0:Int),(0:Int),[]⟩:Def),false))else (Q5 x1.Defs r3).bind fun (r4:Def)=>some ((r4,true)):=by kernel_rfl
def aaG (n:Nat)(x1:Ro)(xs:List Pred)(p:PUnit×Int):Option ((PUnit×Int)⊕(PUnit×Int)):=
 aah (R:=R) (X:=FN R.T X9) 5 (wrR E (TM Tryz.f19.body [1,1,0,1,0])) (⟨[(2,TV.ref 2 0),(4,TV.ref 4 0)],[(2,Ob.ro (Ob.cells [TV.int IntKind.i64 x1.X8,TV.int IntKind.i64 x1.aaX,TV.tX (T:=R.T) Cp.sh (Ty.st 1) x1.Defs]))]⟩:MS R.T) (Vw ahv.loops 5).sh (Vw ahv.loops 5).outs (ad8 E R n false (ahu n) RF ahv (TM Tryz.f19.body [1,1,0,1,0]) X9) xs p
theorem az3 (n:Nat)(x1:Ro)(x6:Int):aaG n x1 [] ((),x6)=some (.inl (((),x6))):=by kernel_rfl
theorem az4 (n:Nat)(x1:Ro)(x7:Pred)(xs:List Pred)(x8:Int):aaG n x1 (x7::xs) ((),x8)=bif bif decide (x7.Op< (1:Int)) then true else decide (x7.Op> (7:Int)) then some (.inr (((),(1:Int))))else (XF n x7.re).bind fun (r9:Bool)=>bif !r9 then some (.inr (((),(3:Int))))else bif decide (x7.Op< (5:Int)) then aaG n x1 xs (((),x8))else (XG n ((x1,x7.Name))).bind fun (Sc:Def×Bool)=>bif !Sc.2 then some (.inr (((),(5:Int))))else bif bif bif x7.Op==(6:Int) then Sc.1.Kind !=(1:Int) else false then true else bif x7.Op==(7:Int) then Sc.1.Kind !=(2:Int) else false then some (.inr (((),(130:Int))))else aaG n x1 xs (((),x8)):=by kernel_rfl
theorem az5 (n:Nat)(x1:Ro)(x2:Pred):Zh n (x1,x2)=(ZJ n x2.re).bind fun (r3:Int)=>bif decide (r3> (64:Int)) then some (2:Int)else (Xi n x2.re).bind fun (r4:PUnit×Int×(List UInt8)×Int×Int×(List UInt8)×List Pred)=>
  Option.bind (α:=(PUnit×Int)⊕(PUnit×Int)) (
   (Wv ((⟨r4.2.1,r4.2.2.1,r4.2.2.2.1,r4.2.2.2.2.1,r4.2.2.2.2.2.1,r4.2.2.2.2.2.2⟩:Pred))).bind fun (r5:List Pred)=>
   aaG n x1 r5 (((),(0:Int)))) fun (Ry:(PUnit×Int)⊕(PUnit×Int))=>
  Sum.elim (fun (q12:PUnit×Int)=>some (0:Int))
   (fun (q13:PUnit×Int)=>some q13.2) Ry:=by kernel_rfl
theorem anX (n:Nat)(x1:Pred):Xx n x1=some ((⟨(4:Int),[],(0:Int),(0:Int),[],[x1.re]⟩:Pred)):=by kernel_rfl
theorem ahT (n:Nat)(x1:Int):XH n x1=bif decide (x1>=(4294967296:Int)) then bif decide ((0:Int)<=(32:Int)) then bif decide ((U1 .u64 x1 (32:Int))>=(65536:Int)) then bif decide ((0:Int)<=(16:Int)) then bif decide ((U1 .u64 (U1 .u64 x1 (32:Int)) (16:Int))>=(256:Int)) then bif decide ((0:Int)<=(8:Int)) then (Q5 aa7 (wrap .u8 (U1 .u64 (U1 .u64 (U1 .u64 x1 (32:Int)) (16:Int)) (8:Int)))).bind fun (r2:UInt8)=>some (wrap .i64 ((wrap .i64 ((wrap .i64 ((32:Int)+(16:Int)))+(8:Int)))+(wrap .i64 (r2.toNat:Int))))else none else (Q5 aa7 (wrap .u8 (U1 .u64 (U1 .u64 x1 (32:Int)) (16:Int)))).bind fun (r3:UInt8)=>some (wrap .i64 ((wrap .i64 ((32:Int)+(16:Int)))+(wrap .i64 (r3.toNat:Int))))else none else bif decide ((U1 .u64 x1 (32:Int))>=(256:Int)) then bif decide ((0:Int)<=(8:Int)) then (Q5 aa7 (wrap .u8 (U1 .u64 (U1 .u64 x1 (32:Int)) (8:Int)))).bind fun (r4:UInt8)=>some (wrap .i64 ((wrap .i64 ((32:Int)+(8:Int)))+(wrap .i64 (r4.toNat:Int))))else none else (Q5 aa7 (wrap .u8 (U1 .u64 x1 (32:Int)))).bind fun (r5:UInt8)=>some (wrap .i64 ((32:Int)+(wrap .i64 (r5.toNat:Int))))else none else bif decide (x1>=(65536:Int)) then bif decide ((0:Int)<=(16:Int)) then bif decide ((U1 .u64 x1 (16:Int))>=(256:Int)) then bif decide ((0:Int)<=(8:Int)) then (Q5 aa7 (wrap .u8 (U1 .u64 (U1 .u64 x1 (16:Int)) (8:Int)))).bind fun (r6:UInt8)=>some (wrap .i64 ((wrap .i64 ((wrap .i64 ((0:Int)+(16:Int)))+(8:Int)))+(wrap .i64 (r6.toNat:Int))))else none else (Q5 aa7 (wrap .u8 (U1 .u64 x1 (16:Int)))).bind fun (r7:UInt8)=>some (wrap .i64 ((wrap .i64 ((0:Int)+(16:Int)))+(wrap .i64 (r7.toNat:Int))))else none else bif decide (x1>=(256:Int)) then bif decide ((0:Int)<=(8:Int)) then (Q5 aa7 (wrap .u8 (U1 .u64 x1 (8:Int)))).bind fun (r8:UInt8)=>some (wrap .i64 ((wrap .i64 ((0:Int)+(8:Int)))+(wrap .i64 (r8.toNat:Int))))else none else (Q5 aa7 (wrap .u8 x1)).bind fun (r9:UInt8)=>some (wrap .i64 ((0:Int)+(wrap .i64 (r9.toNat:Int)))):=by kernel_rfl
theorem ahU (n:Nat)(x1:Int):Xj n x1=(XH n x1).bind fun (r2:Int)=>some r2:=by kernel_rfl
theorem arO (n:Nat)(x1:Int):Xu n x1=some (x1 !=x1):=by kernel_rfl
theorem az6 (n:Nat)(x1 x2:Int):XT n (x1,x2)=(Xu n x1).bind fun (r3:Bool)=>(VZ r3 (Xu n x2) false).bind fun (r4:Bool)=>some (bif bif r3 then !r4 else false then true else decide (x1<x2)):=by kernel_rfl
def arP (n:Nat)(x1 x2 x4:Int)(m:Nat)(p:Int×List Int):Option (PUnit×List Int):=
 RL n false (aav n) RF alc Tryz.f127.body [1,0,0,1,0,0,1,0,0] 4 ⟨[(0,.vw 1000000 (.int .i64)),(1,.int .i64 x1),(2,.int .i64 x2),(6,.int .i64 x4)],[]⟩ m p
def anY (n:Nat)(x1 x2:Int)(m:Nat)(p:Int×List Int):Option (PUnit×List Int):=
 RL n false (aav n) RF alc Tryz.f127.body [1,0,0] 1 ⟨[(0,.vw 1000000 (.int .i64)),(1,.int .i64 x1),(2,.int .i64 x2)],[]⟩ m p
theorem az7 (n:Nat)(x1 x2:Int)(x3:List Int):ZC n (((),(x1,x2))) (x3)=(anY n x1 x2 n ((wrap .i64 (x1+(1:Int)),x3))).bind fun (r16:PUnit×List Int)=>some (((),r16.2)):=by kernel_rfl
def arQ (n:Nat)(x2 x3:Int)(m:Nat)(p:Int×List Int):Option ((PUnit×List Int)⊕(PUnit×List Int)):=
 RL n false (aav n) (ahx n) aqM Tryz.f137.body [1,0,0] 1 ⟨[(0,.vw 1000000 (.int .i64)),(2,.int .i64 x2),(3,.int .i64 x3)],[]⟩ m p
def arR (n:Nat)(x1 x2:Int)(m:Nat)(p:Int×List Int):Option (PUnit×List Int):=
 RL n false (aav n) (afx n) alg Tryz.f128.body [1,1,1,0,1,0,0] 4 ⟨[(0,.vw 1000000 (.int .i64)),(6,.int .i64 x1),(7,.int .i64 (0:Int)),(8,.int .i64 (wrap .i64 (x2-x1)))],[]⟩ m p
def arS (n:Nat)(x1:Int)(m:Nat)(p:Int×List Int):Option (PUnit×List Int):=
 RL n false (aav n) (afx n) alg Tryz.f128.body [1,1,1,1,1,0,0] 8 ⟨[(0,.vw 1000000 (.int .i64)),(6,.int .i64 x1),(7,.int .i64 (0:Int))],[]⟩ m p
theorem az8 (n:Nat)(x1:Int):XB n x1=(Xj n (wrap .u64 x1)).bind fun (r2:Int)=>bif decide ((0:Int)<=r2) then some (X6 .u64 (1:Int) r2)else none:=by kernel_rfl
theorem az9 (n:Nat)(x1:Int):Xd n (()) (x1)=bif decide ((0:Int)<=(13:Int)) then bif decide ((0:Int)<=(7:Int)) then bif decide ((0:Int)<=(17:Int)) then some ((X5 .u64 (X5 .u64 (X5 .u64 x1 (X6 .u64 x1 (13:Int))) (U1 .u64 (X5 .u64 x1 (X6 .u64 x1 (13:Int))) (7:Int))) (X6 .u64 (X5 .u64 (X5 .u64 x1 (X6 .u64 x1 (13:Int))) (U1 .u64 (X5 .u64 x1 (X6 .u64 x1 (13:Int))) (7:Int))) (17:Int)),X5 .u64 (X5 .u64 (X5 .u64 x1 (X6 .u64 x1 (13:Int))) (U1 .u64 (X5 .u64 x1 (X6 .u64 x1 (13:Int))) (7:Int))) (X6 .u64 (X5 .u64 (X5 .u64 x1 (X6 .u64 x1 (13:Int))) (U1 .u64 (X5 .u64 x1 (X6 .u64 x1 (13:Int))) (7:Int))) (17:Int))))else none else none else none:=by kernel_rfl
def arT (n:Nat)(x1 x2 r4:Int)(m:Nat)(p:Int×Int×List Int):Option (PUnit×List Int):=
 RL n false (abN n) (ahz n) aqO Tryz.f129.body [1,1,0,1,1,1,0,0] 5 ⟨[(0,.vw 1000000 (.int .i64)),(1,.int .i64 x1),(6,.int .i64 (wrap .i64 (x2-x1))),(7,.ref 7 0),(8,.int .u64 r4)],[]⟩ m p
def anZ (n m:Nat)(p:(Int×Int)×List Int):Option (PUnit×List Int):=
 RL n false (UC n) (afy n) aqQ Tryz.f131.body [1,1,0,0] 2 ⟨[(0,.vw 1000000 (.int .i64))],[]⟩ m p
theorem aAa (n:Nat)(x1 x2:Int)(x3:List Int):ZM n (((),(x1,x2))) (x3)=(anZ n n (((x1,wrap .i64 (x2-(1:Int))),x3))).bind fun (Ry:PUnit×List Int)=>some (((),Ry.2)):=by kernel_rfl
def arU (n:Nat)(x1 x2 x5:Int)(x6:List Int)(m:Nat)(p:Int):Option (Int):=
 RL n false (UC n) (adi n) afz Tryz.f132.body [1,1,0,1,0,0,1,0,0,0,0,0] 5 ⟨[(0,.vw 1000000 (.int .i64)),(1,.int .i64 x1),(2,.int .i64 x2),(8,.int .i64 x5)],[(1000000,.ro (.arr (.int .i64) x6))]⟩ m p
def arV (n:Nat)(x1 x2 x5 Ry:Int)(m:Nat)(p:Int×List Int):Option (PUnit×List Int):=
 RL n false (UC n) (adi n) afz Tryz.f132.body [1,1,0,1,0,0,1,0,0,1,1,1,1,0,1,0,1,0,0] 14 ⟨[(0,.vw 1000000 (.int .i64)),(1,.int .i64 x1),(2,.int .i64 x2),(7,.int .i64 Ry),(8,.int .i64 x5)],[]⟩ m p
def arW (n:Nat)(x1 x2 x5 Ry:Int)(m:Nat)(p:Int×List Int):Option (PUnit×List Int):=
 RL n false (UC n) (adi n) afz Tryz.f132.body [1,1,0,1,0,0,1,0,0,1,1,1,1,1,1,0,1,0,0] 20 ⟨[(0,.vw 1000000 (.int .i64)),(1,.int .i64 x1),(2,.int .i64 x2),(7,.int .i64 Ry),(8,.int .i64 x5)],[]⟩ m p
def arX (n:Nat)(x1 x2:Int)(m:Nat)(p:(Int×Int)×List Int):Option ((PUnit×List Int)⊕(Bool×List Int)):=
 RL n false (UC n) (adi n) afz Tryz.f132.body [1,1,0,1,0,0] 3 ⟨[(0,.vw 1000000 (.int .i64)),(1,.int .i64 x1),(2,.int .i64 x2)],[]⟩ m p
def arY (n:Nat)(x1 x10:Int)(RN:List Int)(m:Nat)(p:Int):Option (Int):=
 RL n false (UC n) (aej n) ahA Tryz.f134.body [1,1,1,0,0,0,0,0,0,0] 3 ⟨[(0,.vw 1000000 (.int .i64)),(1,.int .i64 x1),(10,.int .i64 x10)],[(1000000,.ro (.arr (.int .i64) RN))]⟩ m p
def arZ (n:Nat)(x1:Int)(RN:List Int)(r16:Int)(m:Nat)(p:Int):Option (Int):=
 RL n false (UC n) (aej n) ahA Tryz.f134.body [1,1,1,0,0,0,0,1,0,0,0] 5 ⟨[(0,.vw 1000000 (.int .i64)),(1,.int .i64 x1),(9,.int .i64 r16)],[(1000000,.ro (.arr (.int .i64) RN))]⟩ m p
def ar0 (n:Nat)(x1:Int)(m:Nat)(p:(Int×Int)×List Int):Option (Int×List Int):=
 RL n false (UC n) (aej n) ahA Tryz.f134.body [1,1,1,0,0,0] 503 ⟨[(0,.vw 1000000 (.int .i64)),(1,.int .i64 x1)],[]⟩ m p
def ar1 (n:Nat)(x1 x2 x3:Int)(x4:List Int)(r5 r6:Int)(m:Nat)(p:Int):Option (Int):=
 RL n false (UC n) (acv n) aek Tryz.f135.body [1,1,1,0,0,0] 3 ⟨[(0,.vw 1000000 (.int .i64)),(1,.int .i64 x1),(11,.int .i64 (wrap .i64 (x2-(1:Int))))],[(1000000,.ro (.arr (.int .i64) (Rk (Rk x4 x1 r5) x3 r6)))]⟩ m p
def ar2 (n:Nat)(x1 x3:Int)(x4:List Int)(r5 r6 RG:Int)(m:Nat)(p:Int):Option (Int):=
 RL n false (UC n) (acv n) aek Tryz.f135.body [1,1,1,1,0,0,0] 5 ⟨[(0,.vw 1000000 (.int .i64)),(1,.int .i64 x1),(10,.int .i64 RG)],[(1000000,.ro (.arr (.int .i64) (Rk (Rk x4 x1 r5) x3 r6)))]⟩ m p
def ar3 (n:Nat)(x1 x28:Int)(x29:List Int)(m:Nat)(p:Int):Option (Int):=
 RL n false (UC n) (acv n) aek Tryz.f135.body [1,1,1,1,1,1,1,1,1,0,0,0,0,0,0,0] 13 ⟨[(0,.vw 1000000 (.int .i64)),(1,.int .i64 x1),(11,.int .i64 x28)],[(1000000,.ro (.arr (.int .i64) x29))]⟩ m p
def ar4 (n:Nat)(x1:Int)(x29:List Int)(T9:Int)(m:Nat)(p:Int):Option (Int):=
 RL n false (UC n) (acv n) aek Tryz.f135.body [1,1,1,1,1,1,1,1,1,0,0,0,0,1,0,0,0] 15 ⟨[(0,.vw 1000000 (.int .i64)),(1,.int .i64 x1),(10,.int .i64 T9)],[(1000000,.ro (.arr (.int .i64) x29))]⟩ m p
def ar5 (n:Nat)(x1:Int)(m:Nat)(p:(Int×Int)×List Int):Option (Int×List Int):=
 RL n false (UC n) (acv n) aek Tryz.f135.body [1,1,1,1,1,1,1,1,1,0,0,0] 513 ⟨[(0,.vw 1000000 (.int .i64)),(1,.int .i64 x1)],[]⟩ m p
def ar6 (n g m:Nat)(p:(Int×Int×Int×Bool×Bool)×List Int):Option (PUnit×List Int):=
 acj (R:=R) 2 (Rv E ((TM Tryz.f117.body [1,1,0,0]).getD .skip)) (⟨[(0,TV.vw 1000000 (Ty.int IntKind.i64))],[]⟩:MS R.T) (Vw afB.loops 2).sh (Vw afB.loops 2).outs (fun st k=>Tt E R n false (UC n) (aai 117 ⟨Yc,Wx,Z5,aaw n g⟩ (afA n)) afB ((TM Tryz.f117.body [1,1,0,0]).getD .skip) st k) m p
theorem aAb (n:Nat)(x1:List Int):Xf n (()) (x1)=(Xj n (wrap .u64 (x1.length:Int))).bind fun (r2:Int)=>(QR n (((),((0:Int),((x1.length:Int),r2)))) x1).bind fun (r3:PUnit×List Int)=>some (((),r3.2)):=by kernel_rfl
def aew (n:Nat)(x2:Int)(x3:List Int)(m:Nat)(p:(Int×Int)×List Int):Option (Int×List Int):=
 RL n false (UC n) (afC n) alZ Tryz.f105.body [1,1,0,1,0,0,1,0,0,1,0,1,0,1,0,0] 9 ⟨[(0,.vw 1000000 (.int .i64)),(4,.sub 1000000 (.int .i64) ((0:Int)+x2) ((0:Int)+((x3.length:Int)-(0:Int))))],[]⟩ m p
def afZ (n m:Nat)(p:Int×List Int):Option ((PUnit×List Int)⊕((Int×Int)×List Int)):=
 RL n false (UC n) (afC n) alZ Tryz.f105.body [1,1,0,1,0,0] 4 ⟨[(0,.vw 1000000 (.int .i64))],[]⟩ m p
theorem aAc (n:Nat)(x2:Int)(x3:List Int)(m:Nat)(x6 x7:Int)(x8:List Int):aew n x2 x3 (m+1) ((x6,x7),x8)=bif decide (x7< (((Int.toNat (((0:Int)+((x3.length:Int)-(0:Int)))-((0:Int)+x2)):Nat):Int))) then bif Uu x7 (((0:Int)+((x3.length:Int)-(0:Int)))-((0:Int)+x2)) then (Q5 x8 (((0:Int)+x2)+x7)).bind fun (r9:Int)=>bif Uu (wrap .i64 (x7-(1:Int))) (((0:Int)+((x3.length:Int)-(0:Int)))-((0:Int)+x2)) then (Q5 x8 (((0:Int)+x2)+(wrap .i64 (x7-(1:Int))))).bind fun (Sc:Int)=>bif r9 !=Sc then bif Uu x7 (((0:Int)+((x3.length:Int)-(0:Int)))-((0:Int)+x2)) then (Q5 x8 (((0:Int)+x2)+x7)).bind fun (Ry:Int)=>bif decide (0<=x6/\x6< (x8.length:Int)) then (Q5 x8 x6).bind fun (Tw:Int)=>
       aew n x2 x3 m (((wrap .i64 (x6+(1:Int)),wrap .i64 (x7+(1:Int))),Rk x8 x6 Ry))else none else none else aew n x2 x3 m (((x6,wrap .i64 (x7+(1:Int))),x8))else none else none else some ((x6,x8)):=by kernel_rfl
theorem aAd (n m:Nat)(x2:Int)(x3:List Int):afZ n (m+1) (x2,x3)=bif decide (x2< (x3.length:Int)) then bif decide (0<=x2/\x2< (x3.length:Int)) then (Q5 x3 x2).bind fun (r4:Int)=>bif decide (0<=(wrap .i64 (x2-(1:Int)))/\(wrap .i64 (x2-(1:Int)))< (x3.length:Int)) then (Q5 x3 (wrap .i64 (x2-(1:Int)))).bind fun (r5:Int)=>bif r4==r5 then bif VG x2 ((x3.length:Int)-(0:Int)) ((x3.length:Int)-(0:Int)) then (aew n x2 x3 n (((x2,(1:Int)),x3))).bind fun (RG:Int×List Int)=>bif VG RG.1 ((RG.2.length:Int)-(0:Int)) ((RG.2.length:Int)-(0:Int)) then bif VG (0:Int) RG.1 (((((Ve RG.2 ((0:Int)+RG.1) ((0:Int)+((RG.2.length:Int)-(0:Int))) (0:Int)).length:Nat):Int))-(0:Int)) then some (.inr ((((0:Int)+(0:Int),(0:Int)+RG.1),Ve RG.2 ((0:Int)+RG.1) ((0:Int)+((RG.2.length:Int)-(0:Int))) (0:Int))))else none else none else none else afZ n m ((wrap .i64 (x2+(1:Int)),x3))else none else none else some (.inl (((),x3))):=by kernel_rfl
theorem aAe (n:Nat)(x1:List Int):Zn n (()) (x1)=bif decide ((x1.length:Int)< (2:Int)) then some ((((0:Int),(x1.length:Int)),x1))else (afZ n n (((1:Int),x1))).bind fun (Tx:(PUnit×List Int)⊕((Int×Int)×List Int))=>
  Sum.elim (fun (q15:PUnit×List Int)=>some ((((0:Int),(q15.2.length:Int)),q15.2)))
   (fun (q16:(Int×Int)×List Int)=>some (((q16.1.1,q16.1.2),q16.2))) Tx:=by kernel_rfl
def abR (n:Nat)(x1:Int)(x8:List UInt8)(x9 x10 RN:Int)(Tk:List (List UInt8))(xs:List Pred)(p:PUnit×List Bool):Option (PUnit×List Bool):=
 aah (R:=R) (X:=FN R.T X9) 4 (wrR E (TM Tryz.f118.body [1,1,0,1,0])) (⟨[(2,TV.Q9 [TV.str x8,TV.int IntKind.i64 x9,TV.int IntKind.i64 x10,TV.int IntKind.i64 RN,TV.tX (T:=R.T) Cp.sh Ty.str Tk] 0),(3,TV.ref 3 0),(5,TV.ref 5 0)],[(3,Ob.ro (Ob.cells [TV.int IntKind.i64 x1]))]⟩:MS R.T) (Vw ahC.loops 4).sh (Vw ahC.loops 4).outs (ad8 E R n false (UC n) (abe n) ahC (TM Tryz.f118.body [1,1,0,1,0]) X9) xs p
theorem aAf (n:Nat)(x1:Int)(x8:List UInt8)(x9 x10 RN:Int)(Tk:List (List UInt8))(UG:List Bool):abR n x1 x8 x9 x10 RN Tk [] ((),UG)=some (((),UG)):=by kernel_rfl
theorem aAg (n:Nat)(x1:Int)(x8:List UInt8)(x9 x10 RN:Int)(Tk:List (List UInt8))(Tj:Pred)(xs:List Pred)(SH:List Bool):abR n x1 x8 x9 x10 RN Tk (Tj::xs) ((),SH)=bif bif Tj.Op==(6:Int) then Tj.Name==x8 else false then bif SB (SH.length+([bif decide (x1>=Tj.N) then decide (x1<=Tj.M) else false].length)) 1 then abR n x1 x8 x9 x10 RN Tk xs (((),SH++[bif decide (x1>=Tj.N) then decide (x1<=Tj.M) else false]))else none else abR n x1 x8 x9 x10 RN Tk xs (((),SH)):=by kernel_rfl
theorem aAh (n:Nat)(x1 x2:Int)(x3:List UInt8)(x4 x5:Int)(x6:List UInt8)(x7:List Pred)(x8:List UInt8)(x9 x10 RN:Int)(Tk:List (List UInt8)):ZH n (x1,((x2,(x3,(x4,(x5,(x6,x7))))),(x8,(x9,(x10,(RN,Tk))))))=(Xi n ((⟨x2,x3,x4,x5,x6,x7⟩:Pred))).bind fun (RG:PUnit×Int×(List UInt8)×Int×Int×(List UInt8)×List Pred)=>
 Option.bind (α:=PUnit×List Bool) (
  (Wv ((⟨RG.2.1,RG.2.2.1,RG.2.2.2.1,RG.2.2.2.2.1,RG.2.2.2.2.2.1,RG.2.2.2.2.2.2⟩:Pred))).bind fun (Tx:List Pred)=>
  abR n x1 x8 x9 x10 RN Tk Tx (((),[]))) fun (TL:PUnit×List Bool)=>some TL.2:=by kernel_rfl
def af0 (n:Nat)(x1 x2:List Bool)(m:Nat)(p:Int):Option (PUnit⊕Bool):=
 RL n false (ahD n) (abe n) aqT Tryz.f121.body [1,1,0,1,0,0] 4 ⟨[(0,.tX .sh .bool x1),(1,.tX .sh .bool x2),(12,.int .i64 (x1.length:Int))],[]⟩ m p
theorem ar8 (n:Nat)(x1 x2:List Bool)(m:Nat)(x3:Int):af0 n x1 x2 (m+1) x3=bif decide (x3< (x1.length:Int)) then (Q5 x1 x3).bind fun (r4:Bool)=>(Q5 x2 x3).bind fun (r5:Bool)=>bif !(r4==r5) then some (.inr false)else af0 n x1 x2 m (wrap .i64 (x3+(1:Int)))else some (.inl (())):=by kernel_rfl
theorem aAi (n:Nat)(x1 x2:List Bool):ZR n (x1,x2)=bif (x1.length:Int) !=(x2.length:Int) then some false else (af0 n x1 x2 n (0:Int)).bind fun (r6:PUnit⊕Bool)=>
  Sum.elim (fun (q7:PUnit)=>some true)
   (fun (q8:Bool)=>some q8) r6:=by kernel_rfl
theorem aAj (n:Nat)(x1 x2 x3:Int)(x4:List UInt8)(x5 x6:Int)(x7:List UInt8)(x8:List Pred)(x9:List UInt8)(x10 RN Tk:Int)(U6:List (List UInt8)):Xy n (x1,(x2,((),((x3,(x4,(x5,(x6,(x7,x8))))),(x9,(x10,(RN,(Tk,U6))))))))=(ZH n ((x1,((x3,(x4,(x5,(x6,(x7,x8))))),(x9,(x10,(RN,(Tk,U6)))))))).bind fun (Tx:List Bool)=>(ZH n ((x2,((x3,(x4,(x5,(x6,(x7,x8))))),(x9,(x10,(RN,(Tk,U6)))))))).bind fun (Sr:List Bool)=>(ZR n ((Tx,Sr))).bind fun (r16:Bool)=>some r16:=by kernel_rfl
def aex (n:Nat)(x1 x2 x4:Int)(x5:List UInt8)(x6 x7:Int)(x8:List UInt8)(x9:List Pred)(x10:List UInt8)(RN Tk U6:Int)(UD:List (List UInt8))(UG:Int)(m:Nat)(p:(Int×Int)×List Int):Option (Int×List Int):=
 RL n false (acw n) (abe n) amb Tryz.f119.body [1,1,0,1,0,0,1,0,0,1,0,1,0,1,0,0] 9 ⟨[(0,.sub 1000000 (.int .i64) x1 x2),(1,.fn 120 [] [.ref 1000001 0]),(6,.sub 1000000 (.int .i64) (x1+UG) (x1+(x2-x1)))],[(1000001,.ro (.ro (.cells ([.fn 118 [] ([.Q9 [.int .i64 x4,.str x5,.int .i64 x6,.int .i64 x7,.str x8,.tX .any (.st 0) x9] 0,.Q9 [.str x10,.int .i64 RN,.int .i64 Tk,.int .i64 U6,.tX .any .str UD] 0])]))))]⟩ m p
def af2 (n:Nat)(x1 x2 x4:Int)(x5:List UInt8)(x6 x7:Int)(x8:List UInt8)(x9:List Pred)(x10:List UInt8)(RN Tk U6:Int)(UD:List (List UInt8))(m:Nat)(p:Int×List Int):Option ((PUnit×List Int)⊕((Int×Int)×List Int)):=
 RL n false (acw n) (abe n) amb Tryz.f119.body [1,1,0,1,0,0] 4 ⟨[(0,.sub 1000000 (.int .i64) x1 x2),(1,.fn 120 [] [.ref 1000001 0])],[(1000001,.ro (.cells ([.fn 118 [] ([.Q9 [.int .i64 x4,.str x5,.int .i64 x6,.int .i64 x7,.str x8,.tX .any (.st 0) x9] 0,.Q9 [.str x10,.int .i64 RN,.int .i64 Tk,.int .i64 U6,.tX .any .str UD] 0])])))]⟩ m p
theorem aAk (n:Nat)(x1 x2 x4:Int)(x5:List UInt8)(x6 x7:Int)(x8:List UInt8)(x9:List Pred)(x10:List UInt8)(RN Tk U6:Int)(UD:List (List UInt8))(UG:Int)(m:Nat)(x20 x21:Int)(x22:List Int):aex n x1 x2 x4 x5 x6 x7 x8 x9 x10 RN Tk U6 UD UG (m+1) ((x20,x21),x22)=bif decide (x21< (((Int.toNat ((x1+(x2-x1))-(x1+UG)):Nat):Int))) then bif Uu x21 ((x1+(x2-x1))-(x1+UG)) then (Q5 x22 ((x1+UG)+x21)).bind fun (WV:Int)=>bif Uu (wrap .i64 (x21-(1:Int))) ((x1+(x2-x1))-(x1+UG)) then (Q5 x22 ((x1+UG)+(wrap .i64 (x21-(1:Int))))).bind fun (r24:Int)=>(Xy n ((WV,(r24,((),((x4,(x5,(x6,(x7,(x8,x9))))),(x10,(RN,(Tk,(U6,UD)))))))))).bind fun (WW:Bool)=>bif !WW then bif Uu x21 ((x1+(x2-x1))-(x1+UG)) then (Q5 x22 ((x1+UG)+x21)).bind fun (UR:Int)=>bif Uu x20 (x2-x1) then (Q5 x22 (x1+x20)).bind fun (r27:Int)=>
       aex n x1 x2 x4 x5 x6 x7 x8 x9 x10 RN Tk U6 UD UG m (((wrap .i64 (x20+(1:Int)),wrap .i64 (x21+(1:Int))),Rk x22 (x1+x20) UR))else none else none else aex n x1 x2 x4 x5 x6 x7 x8 x9 x10 RN Tk U6 UD UG m (((x20,wrap .i64 (x21+(1:Int))),x22))else none else none else some ((x20,x22)):=by kernel_rfl
theorem aAl (n:Nat)(x1 x2 x4:Int)(x5:List UInt8)(x6 x7:Int)(x8:List UInt8)(x9:List Pred)(x10:List UInt8)(RN Tk U6:Int)(UD:List (List UInt8))(m:Nat)(UG:Int)(Tj:List Int):af2 n x1 x2 x4 x5 x6 x7 x8 x9 x10 RN Tk U6 UD (m+1) (UG,Tj)=bif decide (UG< (((Int.toNat (x2-x1):Nat):Int))) then bif Uu UG (x2-x1) then (Q5 Tj (x1+UG)).bind fun (WA:Int)=>bif Uu (wrap .i64 (UG-(1:Int))) (x2-x1) then (Q5 Tj (x1+(wrap .i64 (UG-(1:Int))))).bind fun (TL:Int)=>(Xy n ((WA,(TL,((),((x4,(x5,(x6,(x7,(x8,x9))))),(x10,(RN,(Tk,(U6,UD)))))))))).bind fun (Ye:Bool)=>bif Ye then bif VG UG (x2-x1) (x2-x1) then (aex n x1 x2 x4 x5 x6 x7 x8 x9 x10 RN Tk U6 UD UG n (((UG,(1:Int)),Tj))).bind fun (r28:Int×List Int)=>bif VG r28.1 (x2-x1) (x2-x1) then bif VG (0:Int) r28.1 (x2-x1) then some (.inr (((x1+(0:Int),x1+r28.1),Ve r28.2 (x1+r28.1) (x1+(x2-x1)) (0:Int))))else none else none else none else af2 n x1 x2 x4 x5 x6 x7 x8 x9 x10 RN Tk U6 UD m ((wrap .i64 (UG+(1:Int)),Tj))else none else none else some (.inl (((),Tj))):=by kernel_rfl
theorem aAm (n:Nat)(x1 x2:Int)(x3:List Int)(x4:Int)(x5:List UInt8)(x6 x7:Int)(x8:List UInt8)(x9:List Pred)(x10:List UInt8)(RN Tk U6:Int)(UD:List (List UInt8)):Zr n (((x1,x2),((),()))) ((x3,((),((x4,(x5,(x6,(x7,(x8,x9))))),(x10,(RN,(Tk,(U6,UD))))))))=bif decide ((((Int.toNat (x2-x1):Nat):Int))< (2:Int)) then some (((x1,x2),(x3,((),((x4,(x5,(x6,(x7,(x8,x9))))),(x10,(RN,(Tk,(U6,UD)))))))))else (af2 n x1 x2 x4 x5 x6 x7 x8 x9 x10 RN Tk U6 UD n (((1:Int),x3))).bind fun (V4:(PUnit×List Int)⊕((Int×Int)×List Int))=>
  Sum.elim (fun (q30:PUnit×List Int)=>some (((x1,x2),(q30.2,((),((x4,(x5,(x6,(x7,(x8,x9))))),(x10,(RN,(Tk,(U6,UD))))))))))
   (fun (q31:(Int×Int)×List Int)=>some (((q31.1.1,q31.1.2),(q31.2,((),((x4,(x5,(x6,(x7,(x8,x9))))),(x10,(RN,(Tk,(U6,UD)))))))))) V4:=by kernel_rfl
theorem aAo (n:Nat)(x1:Def)(x2:Pred)(x3 x4:Int)(x5:List Int):Xe n ((x1,(x2,(x3,x4)))) (x5)=(Zr n (((x3,x4),((),()))) ((x5,((),((x2.Op,(x2.Name,(x2.N,(x2.M,(x2.S,x2.Ra))))),(x1.Name,(x1.Kind,(x1.Lo,(x1.Hi,x1.Words))))))))).bind fun (r6:(Int×Int)×(List Int)×PUnit×(Int×(List UInt8)×Int×Int×(List UInt8)×List Pred)×(List UInt8)×Int×Int×Int×List (List UInt8))=>some (((r6.1.1,r6.1.2),r6.2.1)):=by kernel_rfl
def abl (n:Nat)(x1:Def)(x2:Pred)(xs:List Pred)(p:PUnit×PUnit×List Int):Option (PUnit×PUnit×List Int):=
 aah (R:=R) (X:=FN R.T X9) 4 (wrR E (TM Tryz.f94.body [1,1,0,1,0])) (⟨[(2,TV.Q9 [TV.str x1.Name,TV.int IntKind.i64 x1.Kind,TV.int IntKind.i64 x1.Lo,TV.int IntKind.i64 x1.Hi,TV.tX (T:=R.T) Cp.sh Ty.str x1.Words] 0),(3,TV.Q9 [TV.int IntKind.i64 x2.Op,TV.str x2.Name,TV.int IntKind.i64 x2.N,TV.int IntKind.i64 x2.M,TV.str x2.S,TV.tX (T:=R.T) Cp.sh (Ty.st 0) x2.Ra] 0),(5,TV.ref 5 0)],[]⟩:MS R.T) (Vw ahE.loops 4).sh (Vw ahE.loops 4).outs (ad8 E R n true (acw n) (Ur n) ahE (TM Tryz.f94.body [1,1,0,1,0]) X9) xs p
theorem aAp (n:Nat)(x1:Def)(x2:Pred)(x5:List Int):abl n x1 x2 [] ((),((),x5))=some (((),((),x5))):=by kernel_rfl
theorem aAq (n:Nat)(x1:Def)(x2 x6:Pred)(xs:List Pred)(x7:List Int):abl n x1 x2 (x6::xs) ((),((),x7))=bif bif x6.Op !=(6:Int) then true else !(x6.Name==x1.Name) then abl n x1 x2 xs (((),((),x7)))else bif bif decide (x6.N>x1.Lo) then decide (x6.N<=x1.Hi) else false then bif SB (x7.length+([x6.N].length)) 8 then bif bif decide (x6.M>=x1.Lo) then decide (x6.M<x1.Hi) else false then bif SB (((x7++[x6.N]).length)+([wrap .i64 (x6.M+(1:Int))].length)) 8 then abl n x1 x2 xs (((),((),(x7++[x6.N])++[wrap .i64 (x6.M+(1:Int))])))else none else abl n x1 x2 xs (((),((),x7++[x6.N])))else none else bif bif decide (x6.M>=x1.Lo) then decide (x6.M<x1.Hi) else false then bif SB (x7.length+([wrap .i64 (x6.M+(1:Int))].length)) 8 then abl n x1 x2 xs (((),((),x7++[wrap .i64 (x6.M+(1:Int))])))else none else abl n x1 x2 xs (((),((),x7))):=by kernel_rfl
theorem aAr (n:Nat)(x1:Def)(x2:Pred):ZD n (x1,x2)=(Xi n x2.re).bind fun (r3:PUnit×Int×(List UInt8)×Int×Int×(List UInt8)×List Pred)=>
 Option.bind (α:=PUnit×PUnit×List Int) (
  (Wv ((⟨r3.2.1,r3.2.2.1,r3.2.2.2.1,r3.2.2.2.2.1,r3.2.2.2.2.2.1,r3.2.2.2.2.2.2⟩:Pred))).bind fun (r4:List Pred)=>
  abl n x1 x2 r4 (((),((),[x1.Lo])))) fun (r8:PUnit×PUnit×List Int)=>(Xf n (()) r8.2.2).bind fun (r9:PUnit×List Int)=>(Zn n (()) r9.2).bind fun (Sc:(Int×Int)×List Int)=>(Xe n ((x1,(x2.re,(Sc.1.1,Sc.1.2)))) Sc.2).bind fun (Ry:(Int×Int)×List Int)=>some (V9 Ry.2 Ry.1.1 Ry.1.2):=by kernel_rfl
def abS (n:Nat)(x1:Def)(xs:List Pred)(p:PUnit×List ((List UInt8)×Bool)):Option (PUnit×List ((List UInt8)×Bool)):=
 aah (R:=R) (X:=FN R.T X9) 4 (wrR E (TM Tryz.f95.body [1,1,0,1,0])) (⟨[(2,TV.Q9 [TV.str x1.Name,TV.int IntKind.i64 x1.Kind,TV.int IntKind.i64 x1.Lo,TV.int IntKind.i64 x1.Hi,TV.tX (T:=R.T) Cp.sh Ty.str x1.Words] 0),(5,TV.ref 5 0)],[(5,Ob.ro (Ob.cells [TV.RP 11]))]⟩:MS R.T) (Vw afE.loops 4).sh (Vw afE.loops 4).outs (ad8 E R n false (afD n) (Ur n) afE (TM Tryz.f95.body [1,1,0,1,0]) X9) xs p
def aey (n:Nat)(x1:Def)(r8:PUnit×List ((List UInt8)×Bool))(m:Nat)(p:(List (List UInt8))×Bool×Int):Option (List (List UInt8)):=
 RL n false (afD n) (Ur n) afE Tryz.f95.body [1,1,1,1,1,0,1,0,0] 9 ⟨[(5,.ref 5 0),(29,.tX .sh .str x1.Words),(30,.int .i64 (((x1.Words.length:Nat):Int)))],[(5,.ro (.cells [.RP 11])),(11,.ro (.map .str .bool r8.2))]⟩ m p
theorem ar9 (n:Nat)(x1:Def)(r8:PUnit×List ((List UInt8)×Bool))(m:Nat)(x9:List (List UInt8))(x10:Bool)(RN:Int):aey n x1 r8 (m+1) (x9,(x10,RN))=bif decide (RN< (((x1.Words.length:Nat):Int))) then (Q5 x1.Words RN).bind fun (Tw:List UInt8)=>bif bif Yo false (Vd (SV R Ty.str) Tw r8.2) then true else !x10 then bif SB (x9.length+([Tw].length)) 16 then aey n x1 r8 m ((x9++[Tw],(bif x10 then true else !(Yo false (Vd (SV R Ty.str) Tw r8.2)),wrap .i64 (RN+(1:Int)))))else none else aey n x1 r8 m ((x9,(bif x10 then true else !(Yo false (Vd (SV R Ty.str) Tw r8.2)),wrap .i64 (RN+(1:Int)))))else some x9:=by kernel_rfl
theorem aAs (n:Nat)(x1:Def)(x5:List ((List UInt8)×Bool)):abS n x1 [] ((),x5)=some (((),x5)):=by kernel_rfl
theorem aAt (n:Nat)(x1:Def)(x6:Pred)(xs:List Pred)(x7:List ((List UInt8)×Bool)):abS n x1 (x6::xs) ((),x7)=bif bif x6.Op==(7:Int) then x6.Name==x1.Name else false then abS n x1 xs (((),WR (SV R Ty.str) x6.S true x7))else abS n x1 xs (((),x7)):=by kernel_rfl
theorem aAu (n:Nat)(x1:Def)(x2:Pred):Zp n (x1,x2)=(Xi n x2.re).bind fun (r3:PUnit×Int×(List UInt8)×Int×Int×(List UInt8)×List Pred)=>
 Option.bind (α:=PUnit×List ((List UInt8)×Bool)) (
  (Wv ((⟨r3.2.1,r3.2.2.1,r3.2.2.2.1,r3.2.2.2.2.1,r3.2.2.2.2.2.1,r3.2.2.2.2.2.2⟩:Pred))).bind fun (r4:List Pred)=>
  abS n x1 r4 (((),[]))) fun (r8:PUnit×List ((List UInt8)×Bool))=>(aey n x1 r8 n (([],(false,(0:Int))))).bind fun (RG:List (List UInt8))=>some RG:=by kernel_rfl
def af3 (n:Nat)(x1:Def)(r3:List Int)(m:Nat)(p:(List Rb)×Int):Option (List Rb):=
 RL n false (afF n) (Ur n) amn Tryz.f78.body [1,1,0,1,0,0,1,0,0] 4 ⟨[(2,.Q9 [.str x1.Name,.int .i64 x1.Kind,.int .i64 x1.Lo,.int .i64 x1.Hi,.tX .sh .str x1.Words] 0),(17,.tX .sh (.int .i64) r3),(18,.int .i64 (r3.length:Int))],[]⟩ m p
def af4 (n:Nat)(x1:Def)(r8:List (List UInt8))(m:Nat)(p:(List Rb)×Int):Option (List Rb):=
 RL n false (afF n) (Ur n) amn Tryz.f78.body [1,1,1,0,1,0,0] 10 ⟨[(2,.Q9 [.str x1.Name,.int .i64 x1.Kind,.int .i64 x1.Lo,.int .i64 x1.Hi,.tX .sh .str x1.Words] 0),(37,.tX .sh .str r8),(38,.int .i64 (r8.length:Int))],[]⟩ m p
theorem asa (n:Nat)(x1:Def)(r3:List Int)(m:Nat)(x4:List Rb)(x5:Int):af3 n x1 r3 (m+1) (x4,x5)=bif decide (x5< (r3.length:Int)) then (Q5 r3 x5).bind fun (r6:Int)=>bif SB (x4.length+(([(⟨(⟨x1.Name,x1.Kind,r6,[]⟩:Attr),true⟩:Rb)]).length)) 56 then af3 n x1 r3 m ((x4++([(⟨(⟨x1.Name,x1.Kind,r6,[]⟩:Attr),true⟩:Rb)]),wrap .i64 (x5+(1:Int))))else none else some x4:=by kernel_rfl
theorem asb (n:Nat)(x1:Def)(r8:List (List UInt8))(m:Nat)(x9:List Rb)(x10:Int):af4 n x1 r8 (m+1) (x9,x10)=bif decide (x10< (r8.length:Int)) then (Q5 r8 x10).bind fun (Ry:List UInt8)=>bif SB (x9.length+([(⟨(⟨x1.Name,x1.Kind,(0:Int),Ry⟩:Attr),true⟩:Rb)].length)) 56 then af4 n x1 r8 m ((x9++[(⟨(⟨x1.Name,x1.Kind,(0:Int),Ry⟩:Attr),true⟩:Rb)],wrap .i64 (x10+(1:Int))))else none else some x9:=by kernel_rfl
theorem aAv (n:Nat)(x1:Def)(x2:Pred):Zw n (x1,x2)=bif x1.Kind==(1:Int) then (ZD n ((x1,x2.re))).bind fun (r3:List Int)=>(af3 n x1 r3 n (([(⟨(⟨[],(0:Int),(0:Int),[]⟩:Attr),false⟩:Rb)],(0:Int)))).bind fun (r7:List Rb)=>some r7 else (Zp n ((x1,x2.re))).bind fun (r8:List (List UInt8))=>(af4 n x1 r8 n (([(⟨(⟨[],(0:Int),(0:Int),[]⟩:Attr),false⟩:Rb)],(0:Int)))).bind fun (Tw:List Rb)=>some Tw:=by kernel_rfl
def aez (n:Nat)(x1:Ro)(x2:Pred)(x3:Int)(r5:Def)(xs:List Pred)(p:PUnit×List (List Rb)):Option ((PUnit×List (List Rb))⊕(PUnit×List (List Rb))):=
 aah (R:=R) (X:=FN R.T X9) 7 (wrR E (TM Tryz.f56.body [1,1,0,1,0,0,1,1,0,0,1,1,0])) (⟨[(3,TV.Q9 [TV.int IntKind.i64 x2.Op,TV.str x2.Name,TV.int IntKind.i64 x2.N,TV.int IntKind.i64 x2.M,TV.str x2.S,TV.tX (T:=R.T) Cp.sh (Ty.st 0) x2.Ra] 0),(5,TV.ref 5 0),(7,TV.ref 7 0),(10,TV.tX (T:=R.T) Cp.sh (Ty.st 1) x1.Defs),(11,TV.int IntKind.i64 (((x1.Defs.length:Nat):Int))),(12,TV.int IntKind.i64 x3)],[(7,Ob.ro (Ob.cells [TV.str r5.Name,TV.int IntKind.i64 r5.Kind,TV.int IntKind.i64 r5.Lo,TV.int IntKind.i64 r5.Hi,TV.tX (T:=R.T) Cp.sh Ty.str r5.Words]))]⟩:MS R.T) (Vw afH.loops 7).sh (Vw afH.loops 7).outs (ad8 E R n false (afG n) (Ur n) afH (TM Tryz.f56.body [1,1,0,1,0,0,1,1,0,0,1,1,0]) X9) xs p
def acM (n:Nat)(x1:Ro)(x2:Pred)(m:Nat)(p:Int×List (List Rb)):Option (PUnit×List (List Rb)):=
 RL n false (afG n) (Ur n) afH Tryz.f56.body [1,1,0,1,0,0] 3 ⟨[(3,.Q9 [.int .i64 x2.Op,.str x2.Name,.int .i64 x2.N,.int .i64 x2.M,.str x2.S,.tX .sh (.st 0) x2.Ra] 0),(5,.ref 5 0),(10,.tX .sh (.st 1) x1.Defs),(11,.int .i64 (((x1.Defs.length:Nat):Int)))],[]⟩ m p
theorem ase (n:Nat)(x1:Ro)(x2:Pred)(m:Nat)(x3:Int)(x4:List (List Rb)):acM n x1 x2 (m+1) (x3,x4)=bif decide (x3< (((x1.Defs.length:Nat):Int))) then (Q5 x1.Defs x3).bind fun (r5:Def)=>(Xi n x2.re).bind fun (r6:PUnit×Int×(List UInt8)×Int×Int×(List UInt8)×List Pred)=>
  Option.bind (α:=(PUnit×List (List Rb))⊕(PUnit×List (List Rb))) (
   (Wv ((⟨r6.2.1,r6.2.2.1,r6.2.2.2.1,r6.2.2.2.2.1,r6.2.2.2.2.2.1,r6.2.2.2.2.2.2⟩:Pred))).bind fun (r7:List Pred)=>
   aez n x1 x2 x3 r5 r7 (((),x4))) fun (Tw:(PUnit×List (List Rb))⊕(PUnit×List (List Rb)))=>
  Sum.elim (fun (q13:PUnit×List (List Rb))=>
   acM n x1 x2 m ((wrap .i64 (x3+(1:Int)),q13.2)))
   (fun (q14:PUnit×List (List Rb))=>
    acM n x1 x2 m ((wrap .i64 (x3+(1:Int)),q14.2))) Tw else some (((),x4)):=by kernel_rfl
theorem aAw (n:Nat)(x1:Ro)(x2:Pred)(x3:Int)(r5:Def)(x8:List (List Rb)):aez n x1 x2 x3 r5 [] ((),x8)=some (.inl (((),x8))):=by kernel_rfl
theorem aAx (n:Nat)(x1:Ro)(x2:Pred)(x3:Int)(r5:Def)(x9:Pred)(xs:List Pred)(x10:List (List Rb)):aez n x1 x2 x3 r5 (x9::xs) ((),x10)=bif bif decide (x9.Op>=(5:Int)) then x9.Name==r5.Name else false then (Zw n ((r5,x2.re))).bind fun (Ry:List Rb)=>bif SB (x10.length+([Ry].length)) 24 then some (.inr (((),x10++[Ry])))else none else aez n x1 x2 x3 r5 xs (((),x10)):=by kernel_rfl
theorem aAy (n:Nat)(x1:Ro)(x2:Pred):Zt n (x1,x2)=(acM n x1 x2 n (((0:Int),[]))).bind fun (Sr:PUnit×List (List Rb))=>some Sr.2:=by kernel_rfl
theorem asf (n:Nat)(x1:Ro)(x2:Pred):Xo n (x1,x2)=(Zh n ((x1,x2.re))).bind fun (r3:Int)=>bif r3 !=(0:Int) then some (([],(false,r3)))else (Zt n ((x1,x2.re))).bind fun (r4:List (List Rb))=>(ZS n r4).bind fun (r5:Int)=>bif decide (r5> (4096:Int)) then some (([],(false,(2:Int))))else (XU n ((r4,x2.re))).bind fun (r6:(List Attr)×Bool)=>some ((r6.1,(r6.2,(0:Int)))):=by kernel_rfl
def acN (n:Nat)(x1:Ro)(x2 x3:Pred)(m:Nat)(p:Int):Option (PUnit⊕((List Attr)×Bool×Int)):=
 RL n false (ahF n) (Ur n) aqW Tryz.f27.body [1,0,1,0,0] 2 ⟨[(3,.ref 3 0),(4,.Q9 [.int .i64 x2.Op,.str x2.Name,.int .i64 x2.N,.int .i64 x2.M,.str x2.S,.tX .sh (.st 0) x2.Ra] 0),(5,.ref 5 0),(14,.tX .full (.st 0) [x2.re,x3.re]),(15,.int .i64 ((([x2.re,x3.re].length:Nat):Int)))],[(3,.ro (.cells [.int .i64 x1.X8,.int .i64 x1.aaX,.tX .sh (.st 1) x1.Defs])),(5,.ro (.cells [.int .i64 x3.Op,.str x3.Name,.int .i64 x3.N,.int .i64 x3.M,.str x3.S,.tX .sh (.st 0) x3.Ra]))]⟩ m p
theorem an1 (n:Nat)(x1:Ro)(x2 x3:Pred)(m:Nat)(x4:Int):acN n x1 x2 x3 (m+1) x4=bif decide (x4< ((([x2.re,x3.re].length:Nat):Int))) then (Q5 [x2.re,x3.re] x4).bind fun (r5:Pred)=>(Zh n ((x1,r5.re))).bind fun (r6:Int)=>bif r6 !=(0:Int) then some (.inr (([],(false,r6))))else acN n x1 x2 x3 m (wrap .i64 (x4+(1:Int)))else some (.inl (())):=by kernel_rfl
theorem aAz (n:Nat)(x1:Ro)(x2 x3:Pred):ZE n (x1,(x2,x3))=(acN n x1 x2 x3 n (0:Int)).bind fun (r7:PUnit⊕((List Attr)×Bool×Int))=>
 Sum.elim (fun (q8:PUnit)=>(Xx n x3.re).bind fun (Sc:Pred)=>(Xo n ((x1,(⟨(2:Int),[],(0:Int),(0:Int),[],[x2.re,Sc.re]⟩:Pred)))).bind fun (Ry:(List Attr)×Bool×Int)=>some ((Ry.1,(Ry.2.1,Ry.2.2))))
  (fun (q9:(List Attr)×Bool×Int)=>some ((q9.1,(q9.2.1,q9.2.2)))) r7:=by kernel_rfl
theorem aAA (n:Nat)(x1 x2:Pred):XL n (x1,x2)=some ((⟨(3:Int),[],(0:Int),(0:Int),[],[x1.re,x2.re]⟩:Pred)):=by kernel_rfl
theorem aAB (n:Nat)(x1:Pred):XM n x1=some ((⟨(4:Int),[],(0:Int),(0:Int),[],[x1.re]⟩:Pred)):=by kernel_rfl
theorem aAC (n:Nat)(x1:Bool):XC n x1=bif x1 then some ((⟨(1:Int),[],(0:Int),(0:Int),[],[]⟩:Pred))else (Xx n ((⟨(1:Int),[],(0:Int),(0:Int),[],[]⟩:Pred))).bind fun (r2:Pred)=>some r2.re:=by kernel_rfl
theorem aAD (n:Nat)(x1 x2:Int):Xz n (x1,x2)=(Xu n x1).bind fun (r3:Bool)=>(Xu n x2).bind fun (r4:Bool)=>bif r3 then bif r4 then some (0:Int)else some (-1:Int)else bif r4 then some (1:Int)else bif decide (x1<x2) then some (-1:Int)else bif decide (x1>x2) then some (1:Int)else some (0:Int):=by kernel_rfl
def aeA (n:Nat)(x1:List Int)(m:Nat)(p:Int):Option (PUnit⊕Int):=
 RL n false (ahH n) (Ur n) aqY Tryz.f40.body [1,1,0,1,0,0] 3 ⟨[(3,.int .i64 (0:Int)),(6,.tX .sh (.int .i64) x1),(7,.int .i64 (x1.length:Int))],[]⟩ m p
theorem asg (n:Nat)(x1:List Int)(m:Nat)(x2:Int):aeA n x1 (m+1) x2=bif decide (x2< (x1.length:Int)) then (Q5 x1 x2).bind fun (r3:Int)=>bif r3 !=(0:Int) then some (.inr r3)else aeA n x1 m (wrap .i64 (x2+(1:Int)))else some (.inl (())):=by kernel_rfl
theorem aAE (n:Nat)(x1:List Int):ZP n x1=(aeA n x1 n (0:Int)).bind fun (r4:PUnit⊕Int)=>
 Sum.elim (fun (q5:PUnit)=>some (0:Int))
  (fun (q6:Int)=>some q6) r4:=by kernel_rfl
theorem aAF (n g:Nat)(x1 x2:Pred):adk n (g+1) (x1,x2)=(Xz n ((x1.Op,x2.Op))).bind fun (r3:Int)=>(XV n ((x1.Name,x2.Name))).bind fun (r4:Int)=>(Xz n ((x1.N,x2.N))).bind fun (r5:Int)=>(Xz n ((x1.M,x2.M))).bind fun (r6:Int)=>(XV n ((x1.S,x2.S))).bind fun (r7:Int)=>(afL n g ((x1.Ra,(x2.Ra,((),()))))).bind fun (r8:Int)=>(ZP n [r3,r4,r5,r6,r7,r8]).bind fun (r9:Int)=>some r9:=by kernel_rfl
def aeB (n g:Nat)(x1 x2:List Pred)(m:Nat)(p:Int):Option (PUnit⊕Int):=
 RL n false (adj n (Vf n g)) (Ur n) amP Tryz.f43.body [1,0,1,0,0] 2 ⟨[(0,.tX .sh (.st 0) x1),(1,.tX .sh (.st 0) x2),(2,.fn 16 [] []),(11,.tX .sh (.st 0) x1),(12,.int .i64 (x1.length:Int))],[]⟩ m p
theorem ash (n g:Nat)(x1 x2:List Pred)(m:Nat)(x3:Int):aeB n g x1 x2 (m+1) x3=bif decide (x3< (x1.length:Int)) then (Q5 x1 x3).bind fun (r4:Pred)=>bif decide (x3>=(x2.length:Int)) then some (.inr (1:Int))else (Q5 x2 x3).bind fun (r5:Pred)=>(adk n g ((r4.re,r5.re))).bind fun (r6:Int)=>bif r6 !=(0:Int) then some (.inr r6)else aeB n g x1 x2 m (wrap .i64 (x3+(1:Int)))else some (.inl (())):=by kernel_rfl
theorem aAG (n g:Nat)(x1 x2:List Pred):afL n (g+1) (x1,(x2,((),())))=(aeB n g x1 x2 n (0:Int)).bind fun (r7:PUnit⊕Int)=>
 Sum.elim (fun (q8:PUnit)=>bif decide ((x1.length:Int)< (x2.length:Int)) then some (-1:Int)else some (0:Int))
  (fun (q9:Int)=>some q9) r7:=by kernel_rfl
theorem aAH (n:Nat)(x1 x2:Pred):Xp n (x1,x2)=(Zj n ((x1.re,x2.re))).bind fun (r3:Int)=>some (r3==(0:Int)):=by kernel_rfl
def asi (n:Nat)(x1 x2 x4:Int)(m:Nat)(p:Int×List Pred):Option (PUnit×List Pred):=
 RL n false (Wy n) (Ur n) amT Tryz.f107.body [1,0,0,1,0,0,1,0,0] 4 ⟨[(0,.vw 1000000 (.st 0)),(1,.int .i64 x1),(2,.int .i64 x2),(3,.fn 16 [] []),(8,.int .i64 x4)],[]⟩ m p
def an2 (n:Nat)(x1 x2:Int)(m:Nat)(p:Int×List Pred):Option (PUnit×List Pred):=
 RL n false (Wy n) (Ur n) amT Tryz.f107.body [1,0,0] 1 ⟨[(0,.vw 1000000 (.st 0)),(1,.int .i64 x1),(2,.int .i64 x2),(3,.fn 16 [] [])],[]⟩ m p
theorem aAI (n:Nat)(x1 x2:Int)(x3:List Pred):ZF n (((),(x1,(x2,((),()))))) (x3)=(an2 n x1 x2 n ((wrap .i64 (x1+(1:Int)),x3))).bind fun (r16:PUnit×List Pred)=>some (((),r16.2)):=by kernel_rfl
def asj (n:Nat)(x2 x3:Int)(m:Nat)(p:Int×List Pred):Option ((PUnit×List Pred)⊕(PUnit×List Pred)):=
 RL n false (Wy n) (ahJ n) aq5 Tryz.f122.body [1,0,0] 1 ⟨[(0,.vw 1000000 (.st 0)),(2,.int .i64 x2),(3,.int .i64 x3),(4,.fn 16 [] [])],[]⟩ m p
def asl (n:Nat)(x1 x2:Int)(m:Nat)(p:Int×List Pred):Option (PUnit×List Pred):=
 RL n false (Wy n) (afM n) am0 Tryz.f108.body [1,1,1,0,1,0,0] 4 ⟨[(0,.vw 1000000 (.st 0)),(3,.fn 16 [] []),(8,.int .i64 x1),(9,.int .i64 (0:Int)),(10,.int .i64 (wrap .i64 (x2-x1)))],[]⟩ m p
def asn (n:Nat)(x1:Int)(m:Nat)(p:Int×List Pred):Option (PUnit×List Pred):=
 RL n false (Wy n) (afM n) am0 Tryz.f108.body [1,1,1,1,1,0,0] 8 ⟨[(0,.vw 1000000 (.st 0)),(3,.fn 16 [] []),(8,.int .i64 x1),(9,.int .i64 (0:Int))],[]⟩ m p
def aso (n:Nat)(x1 x2 r4:Int)(m:Nat)(p:Int×Int×List Pred):Option (PUnit×List Pred):=
 RL n false (Wy n) (ahK n) aq6 Tryz.f109.body [1,1,0,1,1,1,0,0] 5 ⟨[(0,.vw 1000000 (.st 0)),(1,.int .i64 x1),(8,.int .i64 (wrap .i64 (x2-x1))),(9,.ref 9 0),(10,.int .u64 r4)],[]⟩ m p
def an3 (n m:Nat)(p:(Int×Int)×List Pred):Option (PUnit×List Pred):=
 RL n false (UE n) (afN n) aq8 Tryz.f111.body [1,1,0,0] 2 ⟨[(0,.vw 1000000 (.st 0))],[]⟩ m p
theorem aAJ (n:Nat)(x1 x2:Int)(x3:List Pred):ZN n (((),(x1,(x2,((),()))))) (x3)=(an3 n n (((x1,wrap .i64 (x2-(1:Int))),x3))).bind fun (Ry:PUnit×List Pred)=>some (((),Ry.2)):=by kernel_rfl
def asq (n:Nat)(x1 x2 x5:Int)(x6:List Pred)(m:Nat)(p:Int):Option (Int):=
 RL n false (UE n) (adl n) afO Tryz.f112.body [1,1,0,1,0,0,1,0,0,0,0,0] 5 ⟨[(0,.vw 1000000 (.st 0)),(1,.int .i64 x1),(2,.int .i64 x2),(3,.fn 16 [] []),(10,.int .i64 x5)],[(1000000,.ro (.arr (.st 0) x6))]⟩ m p
def asr (n:Nat)(x1 x2 x5 Ry:Int)(m:Nat)(p:Int×List Pred):Option (PUnit×List Pred):=
 RL n false (UE n) (adl n) afO Tryz.f112.body [1,1,0,1,0,0,1,0,0,1,1,1,1,0,1,0,1,0,0] 14 ⟨[(0,.vw 1000000 (.st 0)),(1,.int .i64 x1),(2,.int .i64 x2),(3,.fn 16 [] []),(9,.int .i64 Ry),(10,.int .i64 x5)],[]⟩ m p
def asu (n:Nat)(x1 x2 x5 Ry:Int)(m:Nat)(p:Int×List Pred):Option (PUnit×List Pred):=
 RL n false (UE n) (adl n) afO Tryz.f112.body [1,1,0,1,0,0,1,0,0,1,1,1,1,1,1,0,1,0,0] 20 ⟨[(0,.vw 1000000 (.st 0)),(1,.int .i64 x1),(2,.int .i64 x2),(3,.fn 16 [] []),(9,.int .i64 Ry),(10,.int .i64 x5)],[]⟩ m p
def asw (n:Nat)(x1 x2:Int)(m:Nat)(p:(Int×Int)×List Pred):Option ((PUnit×List Pred)⊕(Bool×List Pred)):=
 RL n false (UE n) (adl n) afO Tryz.f112.body [1,1,0,1,0,0] 3 ⟨[(0,.vw 1000000 (.st 0)),(1,.int .i64 x1),(2,.int .i64 x2),(3,.fn 16 [] [])],[]⟩ m p
def asx (n:Nat)(x1 x10:Int)(RN:List Pred)(m:Nat)(p:Int):Option (Int):=
 RL n false (UE n) (ael n) ahL Tryz.f113.body [1,1,1,0,0,0,0,0,0,0] 3 ⟨[(0,.vw 1000000 (.st 0)),(1,.int .i64 x1),(4,.fn 16 [] []),(12,.int .i64 x10)],[(1000000,.ro (.arr (.st 0) RN))]⟩ m p
def asy (n:Nat)(x1:Int)(RN:List Pred)(r16:Int)(m:Nat)(p:Int):Option (Int):=
 RL n false (UE n) (ael n) ahL Tryz.f113.body [1,1,1,0,0,0,0,1,0,0,0] 5 ⟨[(0,.vw 1000000 (.st 0)),(1,.int .i64 x1),(4,.fn 16 [] []),(11,.int .i64 r16)],[(1000000,.ro (.arr (.st 0) RN))]⟩ m p
def asz (n:Nat)(x1:Int)(m:Nat)(p:(Int×Int)×List Pred):Option (Int×List Pred):=
 RL n false (UE n) (ael n) ahL Tryz.f113.body [1,1,1,0,0,0] 503 ⟨[(0,.vw 1000000 (.st 0)),(1,.int .i64 x1),(4,.fn 16 [] [])],[]⟩ m p
def asA (n:Nat)(x1 x2 x3:Int)(x4:List Pred)(r5 r6:Pred)(m:Nat)(p:Int):Option (Int):=
 RL n false (UE n) (acA n) aem Tryz.f114.body [1,1,1,0,0,0] 3 ⟨[(0,.vw 1000000 (.st 0)),(1,.int .i64 x1),(4,.fn 16 [] []),(13,.int .i64 (wrap .i64 (x2-(1:Int))))],[(1000000,.ro (.arr (.st 0) (Rk (Rk x4 x1 r5.re) x3 r6.re)))]⟩ m p
def asB (n:Nat)(x1 x3:Int)(x4:List Pred)(r5 r6:Pred)(RG:Int)(m:Nat)(p:Int):Option (Int):=
 RL n false (UE n) (acA n) aem Tryz.f114.body [1,1,1,1,0,0,0] 5 ⟨[(0,.vw 1000000 (.st 0)),(1,.int .i64 x1),(4,.fn 16 [] []),(12,.int .i64 RG)],[(1000000,.ro (.arr (.st 0) (Rk (Rk x4 x1 r5.re) x3 r6.re)))]⟩ m p
def asC (n:Nat)(x1 x28:Int)(x29:List Pred)(m:Nat)(p:Int):Option (Int):=
 RL n false (UE n) (acA n) aem Tryz.f114.body [1,1,1,1,1,1,1,1,1,0,0,0,0,0,0,0] 13 ⟨[(0,.vw 1000000 (.st 0)),(1,.int .i64 x1),(4,.fn 16 [] []),(13,.int .i64 x28)],[(1000000,.ro (.arr (.st 0) x29))]⟩ m p
def asD (n:Nat)(x1:Int)(x29:List Pred)(T9:Int)(m:Nat)(p:Int):Option (Int):=
 RL n false (UE n) (acA n) aem Tryz.f114.body [1,1,1,1,1,1,1,1,1,0,0,0,0,1,0,0,0] 15 ⟨[(0,.vw 1000000 (.st 0)),(1,.int .i64 x1),(4,.fn 16 [] []),(12,.int .i64 T9)],[(1000000,.ro (.arr (.st 0) x29))]⟩ m p
def asE (n:Nat)(x1:Int)(m:Nat)(p:(Int×Int)×List Pred):Option (Int×List Pred):=
 RL n false (UE n) (acA n) aem Tryz.f114.body [1,1,1,1,1,1,1,1,1,0,0,0] 513 ⟨[(0,.vw 1000000 (.st 0)),(1,.int .i64 x1),(4,.fn 16 [] [])],[]⟩ m p
def asF (n g m:Nat)(p:(Int×Int×Int×Bool×Bool)×List Pred):Option (PUnit×List Pred):=
 acj (R:=R) 2 (Rv E ((TM Tryz.f101.body [1,1,0,0]).getD .skip)) (⟨[(0,TV.vw 1000000 (Ty.st 0)),(4,TV.fn 16 [] [])],[]⟩:MS R.T) (Vw afQ.loops 2).sh (Vw afQ.loops 2).outs (fun st k=>Tt E R n false (UE n) (aai 101 ⟨Yd,Wz,Z6,aaz n g⟩ (afP n)) afQ ((TM Tryz.f101.body [1,1,0,0]).getD .skip) st k) m p
theorem aAK (n:Nat)(x1:List Pred):Xg n (((),((),()))) (x1)=(Xj n (wrap .u64 (x1.length:Int))).bind fun (r2:Int)=>(Za n (((),((0:Int),((x1.length:Int),(r2,((),())))))) x1).bind fun (r3:PUnit×List Pred)=>some (((),r3.2)):=by kernel_rfl
def aeC (n:Nat)(x2:Int)(x3:List Pred)(m:Nat)(p:(Int×Int)×List Pred):Option (Int×List Pred):=
 RL n false (UE n) (afR n) anF Tryz.f92.body [1,1,0,1,0,0,1,0,0,1,0,1,0,1,0,0] 9 ⟨[(0,.vw 1000000 (.st 0)),(1,.fn 90 [] []),(6,.sub 1000000 (.st 0) ((0:Int)+x2) ((0:Int)+((x3.length:Int)-(0:Int))))],[]⟩ m p
def af5 (n m:Nat)(p:Int×List Pred):Option ((PUnit×List Pred)⊕((Int×Int)×List Pred)):=
 RL n false (UE n) (afR n) anF Tryz.f92.body [1,1,0,1,0,0] 4 ⟨[(0,.vw 1000000 (.st 0)),(1,.fn 90 [] [])],[]⟩ m p
theorem aAL (n:Nat)(x2:Int)(x3:List Pred)(m:Nat)(x7 x8:Int)(x9:List Pred):aeC n x2 x3 (m+1) ((x7,x8),x9)=bif decide (x8< (((Int.toNat (((0:Int)+((x3.length:Int)-(0:Int)))-((0:Int)+x2)):Nat):Int))) then bif Uu x8 (((0:Int)+((x3.length:Int)-(0:Int)))-((0:Int)+x2)) then (Q5 x9 (((0:Int)+x2)+x8)).bind fun (Sc:Pred)=>bif Uu (wrap .i64 (x8-(1:Int))) (((0:Int)+((x3.length:Int)-(0:Int)))-((0:Int)+x2)) then (Q5 x9 (((0:Int)+x2)+(wrap .i64 (x8-(1:Int))))).bind fun (Ry:Pred)=>(Xp n ((Sc.re,Ry.re))).bind fun (Tw:Bool)=>bif !Tw then bif Uu x8 (((0:Int)+((x3.length:Int)-(0:Int)))-((0:Int)+x2)) then (Q5 x9 (((0:Int)+x2)+x8)).bind fun (RG:Pred)=>bif decide (0<=x7/\x7< (x9.length:Int)) then (Q5 x9 x7).bind fun (Tx:Pred)=>
       aeC n x2 x3 m (((wrap .i64 (x7+(1:Int)),wrap .i64 (x8+(1:Int))),Rk x9 x7 RG.re))else none else none else aeC n x2 x3 m (((x7,wrap .i64 (x8+(1:Int))),x9))else none else none else some ((x7,x9)):=by kernel_rfl
theorem aAM (n m:Nat)(x2:Int)(x3:List Pred):af5 n (m+1) (x2,x3)=bif decide (x2< (x3.length:Int)) then bif decide (0<=x2/\x2< (x3.length:Int)) then (Q5 x3 x2).bind fun (r4:Pred)=>bif decide (0<=(wrap .i64 (x2-(1:Int)))/\(wrap .i64 (x2-(1:Int)))< (x3.length:Int)) then (Q5 x3 (wrap .i64 (x2-(1:Int)))).bind fun (r5:Pred)=>(Xp n ((r4.re,r5.re))).bind fun (r6:Bool)=>bif r6 then bif VG x2 ((x3.length:Int)-(0:Int)) ((x3.length:Int)-(0:Int)) then (aeC n x2 x3 n (((x2,(1:Int)),x3))).bind fun (Sr:Int×List Pred)=>bif VG Sr.1 ((Sr.2.length:Int)-(0:Int)) ((Sr.2.length:Int)-(0:Int)) then bif VG (0:Int) Sr.1 (((((Ve Sr.2 ((0:Int)+Sr.1) ((0:Int)+((Sr.2.length:Int)-(0:Int))) ((⟨(0:Int),[],(0:Int),(0:Int),[],[]⟩:Pred))).length:Nat):Int))-(0:Int)) then some (.inr ((((0:Int)+(0:Int),(0:Int)+Sr.1),Ve Sr.2 ((0:Int)+Sr.1) ((0:Int)+((Sr.2.length:Int)-(0:Int))) ((⟨(0:Int),[],(0:Int),(0:Int),[],[]⟩:Pred)))))else none else none else none else af5 n m ((wrap .i64 (x2+(1:Int)),x3))else none else none else some (.inl (((),x3))):=by kernel_rfl
theorem aAN (n:Nat)(x1:List Pred):Zo n (((),((),()))) (x1)=bif decide ((x1.length:Int)< (2:Int)) then some ((((0:Int),(x1.length:Int)),x1))else (af5 n n (((1:Int),x1))).bind fun (r16:(PUnit×List Pred)⊕((Int×Int)×List Pred))=>
  Sum.elim (fun (q17:PUnit×List Pred)=>some ((((0:Int),(q17.2.length:Int)),q17.2)))
   (fun (q18:(Int×Int)×List Pred)=>some (((q18.1.1,q18.1.2),q18.2))) r16:=by kernel_rfl
theorem aAO (n:Nat)(x1:Pred)(x2:Int)(x3:List UInt8)(x4 x5:Int)(x6:List UInt8)(x7:List Pred):XI n (x1,(x2,(x3,(x4,(x5,(x6,x7))))))=(Xp n ((x1.re,(⟨x2,x3,x4,x5,x6,x7⟩:Pred)))).bind fun (r8:Bool)=>some r8:=by kernel_rfl
def af7 (n:Nat)(x1:List Pred)(x2:Int)(x3:List UInt8)(x4 x5:Int)(x6:List UInt8)(x7:List Pred)(m:Nat)(p:Int):Option (PUnit⊕Int):=
 RL n false (ahM n) (aaA n) arb Tryz.f98.body [1,0,1,0,0] 2 ⟨[(0,.tX .sh (.st 0) x1),(1,.fn 93 [] ([.Q9 [.int .i64 x2,.str x3,.int .i64 x4,.int .i64 x5,.str x6,.tX .sh (.st 0) x7] 0])),(7,.int .i64 (x1.length:Int))],[]⟩ m p
theorem asG (n:Nat)(x1:List Pred)(x2:Int)(x3:List UInt8)(x4 x5:Int)(x6:List UInt8)(x7:List Pred)(m:Nat)(x8:Int):af7 n x1 x2 x3 x4 x5 x6 x7 (m+1) x8=bif decide (x8< (x1.length:Int)) then (Q5 x1 x8).bind fun (r9:Pred)=>(XI n ((r9.re,(x2,(x3,(x4,(x5,(x6,x7)))))))).bind fun (Sc:Bool)=>bif Sc then some (.inr x8)else af7 n x1 x2 x3 x4 x5 x6 x7 m (wrap .i64 (x8+(1:Int)))else some (.inl (())):=by kernel_rfl
theorem aAP (n:Nat)(x1:List Pred)(x2:Int)(x3:List UInt8)(x4 x5:Int)(x6:List UInt8)(x7:List Pred):ZX n (x1,((),(x2,(x3,(x4,(x5,(x6,x7)))))))=(af7 n x1 x2 x3 x4 x5 x6 x7 n (0:Int)).bind fun (Ry:PUnit⊕Int)=>
 Sum.elim (fun (q12:PUnit)=>some (-1:Int))
  (fun (q13:Int)=>some q13) Ry:=by kernel_rfl
theorem aAQ (n:Nat)(x1:List Pred)(x2:Int)(x3:List UInt8)(x4 x5:Int)(x6:List UInt8)(x7:List Pred):XA n (x1,((),(x2,(x3,(x4,(x5,(x6,x7)))))))=(ZX n ((x1,((),(x2,(x3,(x4,(x5,(x6,x7))))))))).bind fun (r8:Int)=>some (decide (r8>=(0:Int))):=by kernel_rfl
theorem aAR (n g:Nat)(x1:Pred)(x2:Bool):aaD n (g+1) (x1,x2)=bif x1.Op==(4:Int) then (Q5 x1.Ra (0:Int)).bind fun (r3:Pred)=>(aaD n g ((r3.re, !x2))).bind fun (r4:Pred)=>some r4.re else bif x1.Op==(2:Int) then (aen n g ((x1.re,x2))).bind fun (r5:Pred)=>some r5.re else bif x1.Op==(3:Int) then (aen n g ((x1.re,x2))).bind fun (r6:Pred)=>some r6.re else bif x2 then (Xx n x1.re).bind fun (r7:Pred)=>some r7.re else some x1.re:=by kernel_rfl
def abT (n g:Nat)(x1:Pred)(x2:Bool)(r3:Int)(r4 r5:Pred)(m:Nat)(p:(PUnit×Int)×List Pred):Option (PUnit×List Pred):=
 RL n true (adn n (Vg n g)) (aaA n) anS Tryz.f77.body [1,1,1,1,1,1,0,1,0,0] 8 ⟨[(1,.bool x2),(4,.ref 4 0),(6,.int .i64 r3),(7,.ref 7 0),(8,.ref 8 0),(25,.tX .sh (.st 0) x1.Ra),(26,.int .i64 (((x1.Ra.length:Nat):Int)))],[(4,.ro (.cells ([.int .i64 (0:Int),.str [],.int .i64 (0:Int),.int .i64 (0:Int),.str [],.Uc]))),(7,.ro (.cells [.int .i64 r4.Op,.str r4.Name,.int .i64 r4.N,.int .i64 r4.M,.str r4.S,.tX .sh (.st 0) r4.Ra])),(8,.ro (.cells [.int .i64 r5.Op,.str r5.Name,.int .i64 r5.N,.int .i64 r5.M,.str r5.S,.tX .sh (.st 0) r5.Ra]))]⟩ m p
theorem asH (n g:Nat)(x1:Pred)(x2:Bool)(r3:Int)(r4 r5:Pred)(m:Nat)(x6:Int)(x7:List Pred):abT n g x1 x2 r3 r4 r5 (m+1) (((),x6),x7)=bif decide (x6< (((x1.Ra.length:Nat):Int))) then (Q5 x1.Ra x6).bind fun (r8:Pred)=>(aaD n g ((r8.re,x2))).bind fun (r9:Pred)=>bif r9.Op==r3 then bif SB (x7.length+r9.Ra.length) 80 then abT n g x1 x2 r3 r4 r5 m ((((),wrap .i64 (x6+(1:Int))),x7++r9.Ra))else none else (Xp n ((r9.re,r4.re))).bind fun (Sc:Bool)=>bif !Sc then bif SB (x7.length+([r9.re].length)) 80 then abT n g x1 x2 r3 r4 r5 m ((((),wrap .i64 (x6+(1:Int))),x7++[r9.re]))else none else abT n g x1 x2 r3 r4 r5 m ((((),wrap .i64 (x6+(1:Int))),x7))else some (((),x7)):=by kernel_rfl
theorem aAS (n g:Nat)(x1:Pred)(x2:Bool):aen n (g+1) (x1,x2)=
 Option.bind (α:=Int) ( bif !((x1.Op==(2:Int))==x2) then some (2:Int)else some (3:Int)) fun (r3:Int)=>(XC n (!((x1.Op==(2:Int))==x2))).bind fun (r4:Pred)=>(XC n (!(!((x1.Op==(2:Int))==x2)))).bind fun (r5:Pred)=>(abT n g x1 x2 r3 r4 r5 n ((((),(0:Int)),[]))).bind fun (Ry:PUnit×List Pred)=>(Xg n (((),((),()))) Ry.2).bind fun (Tw:PUnit×List Pred)=>(Zo n (((),((),()))) Tw.2).bind fun (RG:(Int×Int)×List Pred)=>(XA n ((V9 RG.2 RG.1.1 RG.1.2,((),(r5.Op,(r5.Name,(r5.N,(r5.M,(r5.S,r5.Ra))))))))).bind fun (Tx:Bool)=>bif Tx then some r5.re else bif (((Int.toNat (RG.1.2-RG.1.1):Nat):Int))==(0:Int) then some r4.re else bif (((Int.toNat (RG.1.2-RG.1.1):Nat):Int))==(1:Int) then bif Uu (0:Int) (RG.1.2-RG.1.1) then (Q5 RG.2 (RG.1.1+(0:Int))).bind fun (Sr:Pred)=>some Sr.re else none else some ((⟨r3,[],(0:Int),(0:Int),[],V9 RG.2 RG.1.1 RG.1.2⟩:Pred)):=by kernel_rfl
theorem aAT (n:Nat)(x1:Pred):XJ n x1=(Zm n ((x1.re,false))).bind fun (r2:Pred)=>some r2.re:=by kernel_rfl
theorem aAU (n:Nat)(x1:Ro)(x2 x3:Pred):XK n (x1,(x2,x3))=(XS n ((x1,(x2.re,x3.re)))).bind fun (r4:Bool)=>bif !(!r4) then (Xh n x2.re).bind fun (r5:Int)=>bif !(decide (r5> (20:Int))) then (Xh n x3.re).bind fun (r6:Int)=>bif !(decide (r6> (20:Int))) then (Zh n ((x1,x2.re))).bind fun (r7:Int)=>bif !(r7 !=(0:Int)) then (Zh n ((x1,x3.re))).bind fun (r8:Int)=>bif !(r8 !=(0:Int)) then (Xt n ((x2.re,x3.re))).bind fun (r9:Pred)=>(ZU n ((x1,r9.re))).bind fun (Sc:Int)=>bif decide (Sc> (600:Int)) then (Xk n (())).bind fun (Ry:Bool)=>some Ry else (ZE n ((x1,(x2.re,x2.re)))).bind fun (Tw:(List Attr)×Bool×Int)=>(XL n ((x2.re,x3.re))).bind fun (RG:Pred)=>(ZE n ((x1,(x3.re,RG.re)))).bind fun (Tx:(List Attr)×Bool×Int)=>(Xt n ((x2.re,x3.re))).bind fun (Sr:Pred)=>(ZE n ((x1,(Sr.re,x3.re)))).bind fun (r16:(List Attr)×Bool×Int)=>(XM n x2.re).bind fun (WA:Pred)=>(Xt n ((x2.re,WA.re))).bind fun (TL:Pred)=>(Xo n ((x1,TL.re))).bind fun (Ye:(List Attr)×Bool×Int)=>(XJ n x2.re).bind fun (r20:Pred)=>(ZE n ((x1,(x2.re,r20.re)))).bind fun (VL:(List Attr)×Bool×Int)=>(ZE n ((x1,(r20.re,x2.re)))).bind fun (Yz:(List Attr)×Bool×Int)=>bif bif bif bif bif bif Tw.2.2 !=(0:Int) then true else Tx.2.2 !=(0:Int) then true else r16.2.2 !=(0:Int) then true else Ye.2.2 !=(0:Int) then true else VL.2.2 !=(0:Int) then true else Yz.2.2 !=(0:Int) then some false else (Xk n (())).bind fun (WV:Bool)=>some (bif bif bif bif bif bif WV then Tw.2.1 else false then Tx.2.1 else false then r16.2.1 else false then Ye.2.1 else false then VL.2.1 else false then Yz.2.1 else false)else (Xk n (())).bind fun (r24:Bool)=>some r24 else (Xk n (())).bind fun (WW:Bool)=>some WW else (Xk n (())).bind fun (UR:Bool)=>some UR else (Xk n (())).bind fun (r27:Bool)=>some r27 else (Xk n (())).bind fun (r28:Bool)=>some r28:=by kernel_rfl
attribute [irreducible] acB acC afS acD acE acF abk acI acJ afT aeo acK aep Vp aer aeu afX abQ afY aaG arP anY arQ arR arS arT anZ arU arV arW arX arY arZ ar0 ar1 ar2 ar3 ar4 ar5 ar6 aew afZ abR af0 aex af2 abl abS aey af3 af4 aez acM acN aeA aeB asi an2 asj asl asn aso an3 asq asr asu asw asx asy asz asA asB asC asD asE asF aeC af5 af7 abT
end Sh
