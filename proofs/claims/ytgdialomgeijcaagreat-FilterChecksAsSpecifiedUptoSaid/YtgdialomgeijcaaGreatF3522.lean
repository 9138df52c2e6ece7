import Derived.Test.YtgdialomgeijcaaGreatF3521
set_option linter.all false
noncomputable section
open Go.IntKind (wrap)
open Go Go.Proofs Aq
namespace Sh
set_option maxRecDepth 100000
def getN (l:List (Nat×Note)) (k:Nat):Note:=match look l k with
 |some q=>q
 |none=>⟨[],[],⟨[],[]⟩,[]⟩
abbrev LFz (n:Nat) (om:Bool) (K:Nat->List (FR R)) (I:IR R) (a:Ann) (c:Option Code) (q:List Nat) (l:Nat) (b:MS R.T) (m:Nat) (p:Pay R.T (getN a.loops l).sh):Option (Out R.T (getN a.loops l).outs):=loopF (R:=R) l (wrC E ((subO c q).getD .skip)) b (getN a.loops l).sh (getN a.loops l).outs (fun st k=>codeM E R n om K I a ((subO c q).getD .skip) st k) m p
abbrev tabS0:List UInt8:=[0,1,2,2,3,3,3,3,4,4,4,4,4,4,4,4,5,5,5,5,5,5,5,5,5,5,5,5,5,5,5,5,6,6,6,6,6,6,6,6,6,6,6,6,6,6,6,6,6,6,6,6,6,6,6,6,6,6,6,6,6,6,6,6,7,7,7,7,7,7,7,7,7,7,7,7,7,7,7,7,7,7,7,7,7,7,7,7,7,7,7,7,7,7,7,7,7,7,7,7,7,7,7,7,7,7,7,7,7,7,7,7,7,7,7,7,7,7,7,7,7,7,7,7,7,7,7,7,8,8,8,8,8,8,8,8,8,8,8,8,8,8,8,8,8,8,8,8,8,8,8,8,8,8,8,8,8,8,8,8,8,8,8,8,8,8,8,8,8,8,8,8,8,8,8,8,8,8,8,8,8,8,8,8,8,8,8,8,8,8,8,8,8,8,8,8,8,8,8,8,8,8,8,8,8,8,8,8,8,8,8,8,8,8,8,8,8,8,8,8,8,8,8,8,8,8,8,8,8,8,8,8,8,8,8,8,8,8,8,8,8,8,8,8,8,8,8,8,8,8,8,8,8,8,8,8]
def Zo_L8 (n:Nat) (x1:Schema) (x2 x3:Int) (r4:Def) (m:Nat) (p:Int):Option (PUnit⊕Bool):=
 LFz n false (g_0 n) iters Zo_a Tryz.f46.body [1,0,1,0,0,1,0,0,1,1,1,0,0] 8 ⟨[(1,.int .i64 x2),(2,.ref 2 0),(5,.int .i64 x3),(6,.ref 6 0)],[(2,.ro (.ro (.cells [.int .i64 x1.Dims,.int .i64 x1.Metric,.lst .sh (.st 1) x1.Defs]))),(6,.ro (.cells [.str r4.Name,.int .i64 r4.Kind,.int .i64 r4.Lo,.int .i64 r4.Hi,.lst .sh .str r4.Words]))]⟩ m p
def Zo_L2 (n:Nat) (x1:Schema) (x2:Int) (m:Nat) (p:Int):Option (PUnit⊕Bool):=
 LFz n false (g_0 n) iters Zo_a Tryz.f46.body [1,0,1,0,0] 2 ⟨[(1,.int .i64 x2),(2,.ref 2 0)],[(2,.ro (.cells [.int .i64 x1.Dims,.int .i64 x1.Metric,.lst .sh (.st 1) x1.Defs]))]⟩ m p
theorem Zo_L8_s (n:Nat) (x1:Schema) (x2 x3:Int) (r4:Def) (m:Nat) (x5:Int):Zo_L8 n x1 x2 x3 r4 (m+1) x5=
 bif decide (x5< (((r4.Words.length:Nat):Int))) then
  (idxL r4.Words x5).bind fun (r6:List UInt8)=>
  bif decide ((r6.length:Int)> (100:Int)) then
   some (.inr false)
  else
   Zo_L8 n x1 x2 x3 r4 m (wrap .i64 (x5+(1:Int)))
 else
  some (.inl (())):=by kernel_rfl
theorem Zo_L2_s (n:Nat) (x1:Schema) (x2:Int) (m:Nat) (x3:Int):Zo_L2 n x1 x2 (m+1) x3=
 bif bif decide (x3< (((x1.Defs.length:Nat):Int))) then decide (x3<=x2) else false then
  (idxL x1.Defs x3).bind fun (r4:Def)=>
  bif bif decide ((((r4.Words.length:Nat):Int))> (60:Int)) then true else decide ((((r4.Name.length:Nat):Int))> (100:Int)) then
   some (.inr false)
  else
   (Zo_L8 n x1 x2 x3 r4 n (0:Int)).bind fun (r7:PUnit⊕Bool)=>
   Sum.elim (fun (q8:PUnit)=>
    Zo_L2 n x1 x2 m (wrap .i64 (x3+(1:Int))))
    (fun (q9:Bool)=>
     some (.inr q9)) r7
 else
  some (.inl (())):=by kernel_rfl
theorem Zo_eq (n:Nat) (x1:Schema) (x2:Int):Zo n (x1,x2)=
 (Zo_L2 n x1 x2 n (0:Int)).bind fun (r10:PUnit⊕Bool)=>
 Sum.elim (fun (q11:PUnit)=>
  some (decide ((((x1.Defs.length:Nat):Int))<=x2)))
  (fun (q12:Bool)=>
   some q12) r10:=by kernel_rfl
theorem XJ_eq (n:Nat) (x1:Int):XJ n x1=
 some (bif decide (x1>=(1:Int)) then decide (x1<=(3:Int)) else false):=by kernel_rfl
def ZL_L2 (n:Nat) (x1:List (List UInt8)) (x2:List UInt8) (m:Nat) (p:Int):Option (PUnit⊕Bool):=
 LFz n false (g_2 n) iters ZL_a Tryz.f83.body [1,0,1,0,0] 2 ⟨[(0,.lst .sh .str x1),(1,.str x2)],[]⟩ m p
theorem ZL_L2_s (n:Nat) (x1:List (List UInt8)) (x2:List UInt8) (m:Nat) (x3:Int):ZL_L2 n x1 x2 (m+1) x3=
 bif decide (x3< (x1.length:Int)) then
  (idxL x1 x3).bind fun (r4:List UInt8)=>
  bif r4==x2 then
   some (.inr true)
  else
   ZL_L2 n x1 x2 m (wrap .i64 (x3+(1:Int)))
 else
  some (.inl (())):=by kernel_rfl
theorem ZL_eq (n:Nat) (x1:List (List UInt8)) (x2:List UInt8):ZL n (x1,x2)=
 (ZL_L2 n x1 x2 n (0:Int)).bind fun (r5:PUnit⊕Bool)=>
 Sum.elim (fun (q6:PUnit)=>
  some false)
  (fun (q7:Bool)=>
   some q7) r5:=by kernel_rfl
def ZC_L2 (n:Nat) (x1:List UInt8) (m:Nat) (p:Int):Option (PUnit⊕Bool):=
 LFz n false (g_3 n) iters ZC_a Tryz.f87.body [1,0,1,0,0] 2 ⟨[(0,.str x1)],[]⟩ m p
theorem ZC_L2_s (n:Nat) (x1:List UInt8) (m:Nat) (x2:Int):ZC_L2 n x1 (m+1) x2=
 bif decide (x2< (x1.length:Int)) then
  (idxL x1 x2).bind fun (r3:UInt8)=>
  bif bif !(bif decide ((r3.toNat:Int)>=(97:Int)) then decide ((r3.toNat:Int)<=(122:Int)) else false) then bif x2==(0:Int) then true else !(bif bif decide ((r3.toNat:Int)>=(48:Int)) then decide ((r3.toNat:Int)<=(57:Int)) else false then true else (r3.toNat:Int)==(95:Int)) else false then
   some (.inr false)
  else
   ZC_L2 n x1 m (wrap .i64 (x2+(1:Int)))
 else
  some (.inl (())):=by kernel_rfl
theorem ZC_eq (n:Nat) (x1:List UInt8):ZC n x1=
 (ZC_L2 n x1 n (0:Int)).bind fun (r4:PUnit⊕Bool)=>
 Sum.elim (fun (q5:PUnit)=>
  (whenO (bif decide ((x1.length:Int)>=(1:Int)) then decide ((x1.length:Int)<=(40:Int)) else false) (ZL n (([[(97:UInt8),(108:UInt8),(108:UInt8)],[(97:UInt8),(110:UInt8),(100:UInt8)],[(104:UInt8),(97:UInt8),(115:UInt8)],[(105:UInt8),(110:UInt8)],[(110:UInt8),(111:UInt8),(116:UInt8)],[(111:UInt8),(114:UInt8)]],x1))) false).bind fun (r7:Bool)=>
  some (bif bif decide ((x1.length:Int)>=(1:Int)) then decide ((x1.length:Int)<=(40:Int)) else false then !r7 else false))
  (fun (q6:Bool)=>
   some q6) r4:=by kernel_rfl
def Zj_L4 (n:Nat) (x1:List (List UInt8)) (m:Nat) (p:Int):Option (PUnit⊕Int):=
 LFz n false (g_4 n) iters Zj_a Tryz.f88.body [1,1,0,1,0,0] 4 ⟨[(0,.lst .sh .str x1)],[]⟩ m p
def Zj_L9 (n:Nat) (x1:List (List UInt8)) (m:Nat) (p:Int):Option (PUnit⊕Int):=
 LFz n false (g_4 n) iters Zj_a Tryz.f88.body [1,1,1,0,1,0,0] 9 ⟨[(0,.lst .sh .str x1)],[]⟩ m p
theorem Zj_L4_s (n:Nat) (x1:List (List UInt8)) (m:Nat) (x2:Int):Zj_L4 n x1 (m+1) x2=
 bif decide (x2< (x1.length:Int)) then
  (idxL x1 x2).bind fun (r3:List UInt8)=>
  (ZC n r3).bind fun (r4:Bool)=>
  bif !r4 then
   some (.inr (5:Int))
  else
   Zj_L4 n x1 m (wrap .i64 (x2+(1:Int)))
 else
  some (.inl (())):=by kernel_rfl
theorem Zj_L9_s (n:Nat) (x1:List (List UInt8)) (m:Nat) (x8:Int):Zj_L9 n x1 (m+1) x8=
 bif decide (x8< (x1.length:Int)) then
  (idxL x1 x8).bind fun (r9:List UInt8)=>
  (idxL x1 (wrap .i64 (x8-(1:Int)))).bind fun (r10:List UInt8)=>
  bif (Go.Op.bytesLess r9 r10)||(r9==r10) then
   some (.inr (6:Int))
  else
   Zj_L9 n x1 m (wrap .i64 (x8+(1:Int)))
 else
  some (.inl (())):=by kernel_rfl
theorem Zj_eq (n:Nat) (x1:List (List UInt8)):Zj n x1=
 bif bif decide ((x1.length:Int)< (1:Int)) then true else decide ((x1.length:Int)> (50:Int)) then
  some (2:Int)
 else
  (Zj_L4 n x1 n (0:Int)).bind fun (r5:PUnit⊕Int)=>
  Sum.elim (fun (q6:PUnit)=>
   (Zj_L9 n x1 n (1:Int)).bind fun (r11:PUnit⊕Int)=>
   Sum.elim (fun (q12:PUnit)=>
    some (0:Int))
    (fun (q13:Int)=>
     some q13) r11)
   (fun (q7:Int)=>
    some q7) r5:=by kernel_rfl
theorem Xo_eq (n:Nat) (x1:Def) (x2:List UInt8):Xo n (x1,x2)=
 (ZC n x1.Name).bind fun (r3:Bool)=>
 bif !r3 then
  some (5:Int)
 else
  bif (Go.Op.bytesLess x1.Name x2)||(x1.Name==x2) then
   some (6:Int)
  else
   bif x1.Kind==(1:Int) then
    bif bif bif decide (x1.Lo< (-1099511627776:Int)) then true else decide (x1.Hi> (1099511627776:Int)) then true else decide (x1.Lo>x1.Hi) then
     some (131:Int)
    else
     bif decide ((((x1.Words.length:Nat):Int))> (0:Int)) then
      some (3:Int)
     else
      some (0:Int)
   else
    bif x1.Kind==(2:Int) then
     bif bif x1.Lo !=(0:Int) then true else x1.Hi !=(0:Int) then
      some (3:Int)
     else
      (Zj n x1.Words).bind fun (r4:Int)=>
      some r4
    else
     some (130:Int):=by kernel_rfl
def Zu_L7 (n:Nat) (x1:Schema) (m:Nat) (p:(List UInt8)×Int):Option (PUnit⊕Int):=
 LFz n false (g_6 n) iters Zu_a Tryz.f47.body [1,1,1,1,0,1,0,0] 7 ⟨[(1,.ref 1 0)],[(1,.ro (.cells [.int .i64 x1.Dims,.int .i64 x1.Metric,.lst .sh (.st 1) x1.Defs]))]⟩ m p
theorem Zu_L7_0 (n:Nat) (x1:Schema) (p:(List UInt8)×Int):Zu_L7 n x1 0 p=none:=by kernel_rfl
theorem Zu_L7_s (n:Nat) (x1:Schema) (m:Nat) (x3:List UInt8) (x4:Int):Zu_L7 n x1 (m+1) (x3,x4)=
 bif decide (x4< (((x1.Defs.length:Nat):Int))) then
  (idxL x1.Defs x4).bind fun (r5:Def)=>
  (Xo n ((r5,x3))).bind fun (r6:Int)=>
  bif r6 !=(0:Int) then
   some (.inr r6)
  else
   (idxL x1.Defs x4).bind fun (r7:Def)=>
   Zu_L7 n x1 m ((r7.Name,wrap .i64 (x4+(1:Int))))
 else
  some (.inl (())):=by kernel_rfl
theorem Zu_eq (n:Nat) (x1:Schema):Zu n x1=
 (whenO (!(bif decide (x1.Dims< (1:Int)) then true else decide (x1.Dims> (32:Int)))) (XJ n x1.Metric) false).bind fun (r2:Bool)=>
 bif bif bif decide (x1.Dims< (1:Int)) then true else decide (x1.Dims> (32:Int)) then true else !r2 then
  some (1:Int)
 else
  bif decide ((((x1.Defs.length:Nat):Int))> (16:Int)) then
   some (2:Int)
  else
   (Zu_L7 n x1 n (([],(0:Int)))).bind fun (r8:PUnit⊕Int)=>
   Sum.elim (fun (q9:PUnit)=>
    some (0:Int))
    (fun (q10:Int)=>
     some q10) r8:=by kernel_rfl
theorem Xv_eq (n:Nat) (x1:Schema):Xv n x1=
 (Zo n ((x1,(16:Int)))).bind fun (r2:Bool)=>
 (whenO r2 (Zu n x1) (0:Int)).bind fun (r3:Int)=>
 some (bif r2 then r3==(0:Int) else false):=by kernel_rfl
def Zc_m_L3 (n g:Nat) (x1:Pred) (m:Nat) (p:(List Pred)×Int):Option (List Pred):=
 LFz n false (grp1_k n (grp1 n g)) iters Zc_a Tryz.f39.body [1,1,0,1,0,0] 3 ⟨[(1,.ref 1 0)],[(1,.ro (.cells [.int .i64 x1.Op,.str x1.Name,.int .i64 x1.N,.int .i64 x1.M,.str x1.S,.lst .sh (.st 0) x1.Subs]))]⟩ m p
theorem Zc_m_L3_s (n g:Nat) (x1:Pred) (m:Nat) (x2:List Pred) (x3:Int):Zc_m_L3 n g x1 (m+1) (x2,x3)=
 bif bif decide (x3< (((x1.Subs.length:Nat):Int))) then decide ((x2.length:Int)< (1000:Int)) else false then
  (idxL x1.Subs x3).bind fun (r4:Pred)=>
  (Zc_m n g r4.re).bind fun (r5:List Pred)=>
  bif roomOK (x2.length+r5.length) 80 then
   Zc_m_L3 n g x1 m ((x2++r5,wrap .i64 (x3+(1:Int))))
  else
   none
 else
  some x2:=by kernel_rfl
theorem Zc_m_eq (n g:Nat) (x1:Pred):Zc_m n (g+1) x1=
 (Zc_m_L3 n g x1 n (([x1.re],(0:Int)))).bind fun (r6:List Pred)=>
 bif decide ((r6.length:Int)> (1000:Int)) then
  bif inB (1000:Int) r6.length then
   some (List.take (Int.toNat (1000:Int)) r6)
  else
   none
 else
  some r6:=by kernel_rfl
theorem Xt_eq (n:Nat) (x1:Pred):Xt n x1=
 (Zc n x1.re).bind fun (r2:List Pred)=>
 some (r2.length:Int):=by kernel_rfl
def Zd_m_L4 (n g:Nat) (x1:Pred) (x2:Int) (m:Nat) (p:Int):Option (PUnit⊕Bool):=
 LFz n false (grp2_k n (grp2 n g)) iters Zd_a Tryz.f10.body [1,1,0,1,0,0] 4 ⟨[(1,.int .i64 x2),(2,.ref 2 0)],[(2,.ro (.cells [.int .i64 x1.Op,.str x1.Name,.int .i64 x1.N,.int .i64 x1.M,.str x1.S,.lst .sh (.st 0) x1.Subs]))]⟩ m p
theorem Zd_m_L4_s (n g:Nat) (x1:Pred) (x2:Int) (m:Nat) (x4:Int):Zd_m_L4 n g x1 x2 (m+1) x4=
 bif decide (x4< (((x1.Subs.length:Nat):Int))) then
  (idxL x1.Subs x4).bind fun (r5:Pred)=>
  (Zd_m n g ((r5.re,wrap .i64 (x2-(1:Int))))).bind fun (r6:Bool)=>
  bif !r6 then
   some (.inr false)
  else
   Zd_m_L4 n g x1 x2 m (wrap .i64 (x4+(1:Int)))
 else
  some (.inl (())):=by kernel_rfl
theorem Zd_m_eq (n g:Nat) (x1:Pred) (x2:Int):Zd_m n (g+1) (x1,x2)=
 (whenO (!(decide (x2< (1:Int)))) (Xt n x1.re) (0:Int)).bind fun (r3:Int)=>
 bif bif decide (x2< (1:Int)) then true else decide (r3> (100:Int)) then
  some false
 else
  (Zd_m_L4 n g x1 x2 n (0:Int)).bind fun (r7:PUnit⊕Bool)=>
  Sum.elim (fun (q8:PUnit)=>
   some true)
   (fun (q9:Bool)=>
    some q9) r7:=by kernel_rfl
theorem Xe_eq (n:Nat) (x1:Pred):Xe n x1=
 some (((),(x1.Op,(x1.Name,(x1.N,(x1.M,(x1.S,x1.Subs))))))):=by kernel_rfl
def ZD_R3 (n:Nat) (xs:List Pred) (p:PUnit×Int):Option ((PUnit×Int)⊕(PUnit×Int)):=
 foldF (R:=R) (X:=PayL R.T predEl) 3 (wrR E (subO Tryz.f14.body [1,1,0,1,0])) (⟨[(3,TV.ref 3 0)],[]⟩:MS R.T) (getN ZD_a.loops 3).sh (getN ZD_a.loops 3).outs (rndM E R n false (g_13 n) iters ZD_a (subO Tryz.f14.body [1,1,0,1,0]) predEl) xs p
theorem ZD_R3_0 (n:Nat) (x4:Int):ZD_R3 n [] ((),x4)=
 some (.inl (((),x4))):=by kernel_rfl
theorem ZD_R3_s (n:Nat) (x5:Pred) (xs:List Pred) (x6:Int):ZD_R3 n (x5::xs) ((),x6)=
 bif (wrap .i64 (x6+(1:Int)))==(1000:Int) then
  some (.inr (((),wrap .i64 (x6+(1:Int)))))
 else
  ZD_R3 n xs (((),wrap .i64 (x6+(1:Int)))):=by kernel_rfl
theorem ZD_eq (n:Nat) (x1:Pred):ZD n x1=
 (Xe n x1.re).bind fun (r2:PUnit×Int×(List UInt8)×Int×Int×(List UInt8)×List Pred)=>
 Option.bind (α:=(PUnit×Int)⊕(PUnit×Int)) (
  (partsO ((⟨r2.2.1,r2.2.2.1,r2.2.2.2.1,r2.2.2.2.2.1,r2.2.2.2.2.2.1,r2.2.2.2.2.2.2⟩:Pred))).bind fun (r3:List Pred)=>
  ZD_R3 n r3 (((),(0:Int)))) fun (r7:(PUnit×Int)⊕(PUnit×Int))=>
 Sum.elim (fun (q8:PUnit×Int)=>
  some q8.2)
  (fun (q9:PUnit×Int)=>
   some q9.2) r7:=by kernel_rfl
theorem Xx_eq (n:Nat) (x1:Pred):Xx n x1=
 bif bif bif bif !(decide (x1.Op>=(5:Int))) then !(x1.Name==[]) else false then true else bif x1.Op !=(6:Int) then bif x1.N !=(0:Int) then true else x1.M !=(0:Int) else false then true else bif x1.Op !=(7:Int) then !(x1.S==[]) else false then
  some false
 else
  bif bif bif decide (x1.N>x1.M) then true else bif bif x1.Op==(2:Int) then true else x1.Op==(3:Int) then (((x1.Subs.length:Nat):Int))==(0:Int) else false then true else bif x1.Op==(4:Int) then (((x1.Subs.length:Nat):Int)) !=(1:Int) else false then
   some false
  else
   some (bif bif bif x1.Op==(2:Int) then true else x1.Op==(3:Int) then true else x1.Op==(4:Int) then true else (((x1.Subs.length:Nat):Int))==(0:Int)):=by kernel_rfl
theorem XL_eq (n:Nat) (x1:Def) (x2:List UInt8):XL n (x1,x2)=
 some (x1.Name==x2):=by kernel_rfl
def ZY_L2 (n:Nat) (x1:List Def) (x2:List UInt8) (m:Nat) (p:Int):Option (PUnit⊕Int):=
 LFz n false (g_16 n) iters ZY_a Tryz.f75.body [1,0,1,0,0] 2 ⟨[(0,.lst .sh (.st 1) x1),(1,.fn 76 [] ([.cref [.str x2] 0])),(7,.int .i64 (x1.length:Int))],[]⟩ m p
theorem ZY_L2_s (n:Nat) (x1:List Def) (x2:List UInt8) (m:Nat) (x3:Int):ZY_L2 n x1 x2 (m+1) x3=
 bif decide (x3< (x1.length:Int)) then
  (idxL x1 x3).bind fun (r4:Def)=>
  (XL n ((r4,x2))).bind fun (r5:Bool)=>
  bif r5 then
   some (.inr x3)
  else
   ZY_L2 n x1 x2 m (wrap .i64 (x3+(1:Int)))
 else
  some (.inl (())):=by kernel_rfl
theorem ZY_eq (n:Nat) (x1:List Def) (x2:List UInt8):ZY n (x1,((),x2))=
 (ZY_L2 n x1 x2 n (0:Int)).bind fun (r6:PUnit⊕Int)=>
 Sum.elim (fun (q7:PUnit)=>
  some (-1:Int))
  (fun (q8:Int)=>
   some q8) r6:=by kernel_rfl
theorem Xy_eq (n:Nat) (x1:Schema) (x2:List UInt8):Xy n (x1,x2)=
 (ZY n ((x1.Defs,((),x2)))).bind fun (r3:Int)=>
 bif decide (r3< (0:Int)) then
  some (((⟨[],(0:Int),(0:Int),(0:Int),[]⟩:Def),false))
 else
  (idxL x1.Defs r3).bind fun (r4:Def)=>
  some ((r4,true)):=by kernel_rfl
def Zx_R5 (n:Nat) (x1:Schema) (xs:List Pred) (p:PUnit×Int):Option ((PUnit×Int)⊕(PUnit×Int)):=
 foldF (R:=R) (X:=PayL R.T predEl) 5 (wrR E (subO Tryz.f19.body [1,1,0,1,0])) (⟨[(2,TV.ref 2 0),(4,TV.ref 4 0)],[(2,Ob.ro (Ob.cells [TV.int IntKind.i64 x1.Dims,TV.int IntKind.i64 x1.Metric,TV.lst (T:=R.T) Cp.sh (Ty.st 1) x1.Defs]))]⟩:MS R.T) (getN Zx_a.loops 5).sh (getN Zx_a.loops 5).outs (rndM E R n false (g_18 n) iters Zx_a (subO Tryz.f19.body [1,1,0,1,0]) predEl) xs p
theorem Zx_R5_0 (n:Nat) (x1:Schema) (x6:Int):Zx_R5 n x1 [] ((),x6)=
 some (.inl (((),x6))):=by kernel_rfl
theorem Zx_R5_s (n:Nat) (x1:Schema) (x7:Pred) (xs:List Pred) (x8:Int):Zx_R5 n x1 (x7::xs) ((),x8)=
 bif bif decide (x7.Op< (1:Int)) then true else decide (x7.Op> (7:Int)) then
  some (.inr (((),(1:Int))))
 else
  (Xx n x7.re).bind fun (r9:Bool)=>
  bif !r9 then
   some (.inr (((),(3:Int))))
  else
   bif decide (x7.Op< (5:Int)) then
    Zx_R5 n x1 xs (((),x8))
   else
    (Xy n ((x1,x7.Name))).bind fun (r10:Def×Bool)=>
    bif !r10.2 then
     some (.inr (((),(5:Int))))
    else
     bif bif bif x7.Op==(6:Int) then r10.1.Kind !=(1:Int) else false then true else bif x7.Op==(7:Int) then r10.1.Kind !=(2:Int) else false then
      some (.inr (((),(130:Int))))
     else
      Zx_R5 n x1 xs (((),x8)):=by kernel_rfl
theorem Zx_eq (n:Nat) (x1:Schema) (x2:Pred):Zx n (x1,x2)=
 (ZD n x2.re).bind fun (r3:Int)=>
 bif decide (r3> (64:Int)) then
  some (2:Int)
 else
  (Xe n x2.re).bind fun (r4:PUnit×Int×(List UInt8)×Int×Int×(List UInt8)×List Pred)=>
  Option.bind (α:=(PUnit×Int)⊕(PUnit×Int)) (
   (partsO ((⟨r4.2.1,r4.2.2.1,r4.2.2.2.1,r4.2.2.2.2.1,r4.2.2.2.2.2.1,r4.2.2.2.2.2.2⟩:Pred))).bind fun (r5:List Pred)=>
   Zx_R5 n x1 r5 (((),(0:Int)))) fun (r11:(PUnit×Int)⊕(PUnit×Int))=>
  Sum.elim (fun (q12:PUnit×Int)=>
   some (0:Int))
   (fun (q13:PUnit×Int)=>
    some q13.2) r11:=by kernel_rfl
theorem Xz_eq (n:Nat) (x1:Pred):Xz n x1=
 bif bif bif bif decide (x1.Op< (5:Int)) then decide ((((x1.Name.length:Nat):Int))> (0:Int)) else false then true else bif x1.Op !=(6:Int) then bif x1.N !=(0:Int) then true else x1.M !=(0:Int) else false then true else bif x1.Op !=(7:Int) then decide ((((x1.S.length:Nat):Int))> (0:Int)) else false then
  some false
 else
  bif decide (x1.N>x1.M) then
   some false
  else
   bif bif x1.Op==(2:Int) then true else x1.Op==(3:Int) then
    some (decide ((((x1.Subs.length:Nat):Int))> (0:Int)))
   else
    bif x1.Op==(4:Int) then
     some ((((x1.Subs.length:Nat):Int))==(1:Int))
    else
     some ((((x1.Subs.length:Nat):Int))==(0:Int)):=by kernel_rfl
def ZN_L2 (n:Nat) (x1:Schema) (x2:List UInt8) (m:Nat) (p:Int):Option (PUnit⊕Int):=
 LFz n false (g_20 n) iters ZN_a Tryz.f51.body [1,0,1,0,0] 2 ⟨[(1,.str x2),(2,.ref 2 0)],[(2,.ro (.cells [.int .i64 x1.Dims,.int .i64 x1.Metric,.lst .sh (.st 1) x1.Defs]))]⟩ m p
theorem ZN_L2_s (n:Nat) (x1:Schema) (x2:List UInt8) (m:Nat) (x3:Int):ZN_L2 n x1 x2 (m+1) x3=
 bif decide (x3< (((x1.Defs.length:Nat):Int))) then
  (idxL x1.Defs x3).bind fun (r4:Def)=>
  bif r4.Name==x2 then
   some (.inr x3)
  else
   ZN_L2 n x1 x2 m (wrap .i64 (x3+(1:Int)))
 else
  some (.inl (())):=by kernel_rfl
theorem ZN_eq (n:Nat) (x1:Schema) (x2:List UInt8):ZN n (x1,x2)=
 (ZN_L2 n x1 x2 n (0:Int)).bind fun (r5:PUnit⊕Int)=>
 Sum.elim (fun (q6:PUnit)=>
  some (-1:Int))
  (fun (q7:Int)=>
   some q7) r5:=by kernel_rfl
def ZE_L5 (n:Nat) (x1:Schema) (r3:List Pred) (m:Nat) (p:Int):Option (PUnit⊕Int):=
 LFz n false (g_21 n) iters ZE_a Tryz.f20.body [1,1,1,0,1,0,0] 5 ⟨[(2,.ref 2 0),(5,.lst .sh (.st 0) r3)],[(2,.ro (.cells [.int .i64 x1.Dims,.int .i64 x1.Metric,.lst .sh (.st 1) x1.Defs]))]⟩ m p
theorem ZE_L5_s (n:Nat) (x1:Schema) (r3:List Pred) (m:Nat) (x4:Int):ZE_L5 n x1 r3 (m+1) x4=
 bif decide (x4< (r3.length:Int)) then
  (idxL r3 x4).bind fun (r5:Pred)=>
  bif bif decide (r5.Op< (1:Int)) then true else decide (r5.Op> (7:Int)) then
   some (.inr (1:Int))
  else
   (Xz n r5.re).bind fun (r6:Bool)=>
   bif !r6 then
    some (.inr (3:Int))
   else
    bif decide (r5.Op< (5:Int)) then
     ZE_L5 n x1 r3 m (wrap .i64 (x4+(1:Int)))
    else
     (ZN n ((x1,r5.Name))).bind fun (r7:Int)=>
     bif decide (r7< (0:Int)) then
      some (.inr (5:Int))
     else
      (whenO (r5.Op==(6:Int)) (idxL x1.Defs r7) ((⟨[],(0:Int),(0:Int),(0:Int),[]⟩:Def))).bind fun (r8:Def)=>
      (whenO (bif !(bif r5.Op==(6:Int) then r8.Kind !=(1:Int) else false) then r5.Op==(7:Int) else false) (idxL x1.Defs r7) ((⟨[],(0:Int),(0:Int),(0:Int),[]⟩:Def))).bind fun (r9:Def)=>
      bif bif bif r5.Op==(6:Int) then r8.Kind !=(1:Int) else false then true else bif r5.Op==(7:Int) then r9.Kind !=(2:Int) else false then
       some (.inr (130:Int))
      else
       ZE_L5 n x1 r3 m (wrap .i64 (x4+(1:Int)))
 else
  some (.inl (())):=by kernel_rfl
theorem ZE_eq (n:Nat) (x1:Schema) (x2:Pred):ZE n (x1,x2)=
 (Zc n x2.re).bind fun (r3:List Pred)=>
 bif decide ((r3.length:Int)> (64:Int)) then
  some (2:Int)
 else
  (ZE_L5 n x1 r3 n (0:Int)).bind fun (r10:PUnit⊕Int)=>
  Sum.elim (fun (q11:PUnit)=>
   some (0:Int))
   (fun (q12:Int)=>
    some q12) r10:=by kernel_rfl
theorem XG_eq (n:Nat) (x1:Pred):XG n x1=
 some ((⟨(4:Int),[],(0:Int),(0:Int),[],[x1.re]⟩:Pred)):=by kernel_rfl
theorem XH_eq (n:Nat) (x1:Bool):XH n x1=
 bif x1 then
  some ((⟨(1:Int),[],(0:Int),(0:Int),[],[]⟩:Pred))
 else
  (XG n ((⟨(1:Int),[],(0:Int),(0:Int),[],[]⟩:Pred))).bind fun (r2:Pred)=>
  some r2.re:=by kernel_rfl
theorem Xn_eq (n:Nat) (x1:Int):Xn n x1=
 some (x1 !=x1):=by kernel_rfl
theorem XA_eq (n:Nat) (x1 x2:Int):XA n (x1,x2)=
 (Xn n x1).bind fun (r3:Bool)=>
 (Xn n x2).bind fun (r4:Bool)=>
 bif r3 then
  bif r4 then
   some (0:Int)
  else
   some (-1:Int)
 else
  bif r4 then
   some (1:Int)
  else
   bif decide (x1<x2) then
    some (-1:Int)
   else
    bif decide (x1>x2) then
     some (1:Int)
    else
     some (0:Int):=by kernel_rfl
def ZS_L3 (n:Nat) (x1:List Int) (m:Nat) (p:Int):Option (PUnit⊕Int):=
 LFz n false (g_27 n) iters ZS_a Tryz.f40.body [1,1,0,1,0,0] 3 ⟨[(3,.int .i64 (0:Int)),(6,.lst .sh (.int .i64) x1),(7,.int .i64 (x1.length:Int))],[]⟩ m p
theorem ZS_L3_s (n:Nat) (x1:List Int) (m:Nat) (x2:Int):ZS_L3 n x1 (m+1) x2=
 bif decide (x2< (x1.length:Int)) then
  (idxL x1 x2).bind fun (r3:Int)=>
  bif r3 !=(0:Int) then
   some (.inr r3)
  else
   ZS_L3 n x1 m (wrap .i64 (x2+(1:Int)))
 else
  some (.inl (())):=by kernel_rfl
theorem ZS_eq (n:Nat) (x1:List Int):ZS n x1=
 (ZS_L3 n x1 n (0:Int)).bind fun (r4:PUnit⊕Int)=>
 Sum.elim (fun (q5:PUnit)=>
  some (0:Int))
  (fun (q6:Int)=>
   some q6) r4:=by kernel_rfl
theorem Zf_m_eq (n g:Nat) (x1 x2:Pred):Zf_m n (g+1) (x1,x2)=
 (XA n ((x1.Op,x2.Op))).bind fun (r3:Int)=>
 (XK n ((x1.Name,x2.Name))).bind fun (r4:Int)=>
 (XA n ((x1.N,x2.N))).bind fun (r5:Int)=>
 (XA n ((x1.M,x2.M))).bind fun (r6:Int)=>
 (XK n ((x1.S,x2.S))).bind fun (r7:Int)=>
 (Zg_m n g ((x1.Subs,(x2.Subs,((),()))))).bind fun (r8:Int)=>
 (ZS n [r3,r4,r5,r6,r7,r8]).bind fun (r9:Int)=>
 some r9:=by kernel_rfl
def Zg_m_L2 (n g:Nat) (x1 x2:List Pred) (m:Nat) (p:Int):Option (PUnit⊕Int):=
 LFz n false (grp3_k n (grp3 n g)) iters Zg_a Tryz.f43.body [1,0,1,0,0] 2 ⟨[(0,.lst .sh (.st 0) x1),(1,.lst .sh (.st 0) x2),(2,.fn 16 [] []),(11,.lst .sh (.st 0) x1),(12,.int .i64 (x1.length:Int))],[]⟩ m p
theorem Zg_m_L2_s (n g:Nat) (x1 x2:List Pred) (m:Nat) (x3:Int):Zg_m_L2 n g x1 x2 (m+1) x3=
 bif decide (x3< (x1.length:Int)) then
  (idxL x1 x3).bind fun (r4:Pred)=>
  bif decide (x3>=(x2.length:Int)) then
   some (.inr (1:Int))
  else
   (idxL x2 x3).bind fun (r5:Pred)=>
   (Zf_m n g ((r4.re,r5.re))).bind fun (r6:Int)=>
   bif r6 !=(0:Int) then
    some (.inr r6)
   else
    Zg_m_L2 n g x1 x2 m (wrap .i64 (x3+(1:Int)))
 else
  some (.inl (())):=by kernel_rfl
theorem Zg_m_eq (n g:Nat) (x1 x2:List Pred):Zg_m n (g+1) (x1,(x2,((),())))=
 (Zg_m_L2 n g x1 x2 n (0:Int)).bind fun (r7:PUnit⊕Int)=>
 Sum.elim (fun (q8:PUnit)=>
  bif decide ((x1.length:Int)< (x2.length:Int)) then
   some (-1:Int)
  else
   some (0:Int))
  (fun (q9:Int)=>
   some q9) r7:=by kernel_rfl
theorem Xp_eq (n:Nat) (x1 x2:Pred):Xp n (x1,x2)=
 (Zf n ((x1.re,x2.re))).bind fun (r3:Int)=>
 some (r3==(0:Int)):=by kernel_rfl
theorem XI_eq (n:Nat) (x1:Int):XI n x1=
 bif decide (x1>=(4294967296:Int)) then
  bif decide ((0:Int)<=(32:Int)) then
   bif decide ((bitShr .u64 x1 (32:Int))>=(65536:Int)) then
    bif decide ((0:Int)<=(16:Int)) then
     bif decide ((bitShr .u64 (bitShr .u64 x1 (32:Int)) (16:Int))>=(256:Int)) then
      bif decide ((0:Int)<=(8:Int)) then
       (idxL tabS0 (wrap .u8 (bitShr .u64 (bitShr .u64 (bitShr .u64 x1 (32:Int)) (16:Int)) (8:Int)))).bind fun (r2:UInt8)=>
       some (wrap .i64 ((wrap .i64 ((wrap .i64 ((32:Int)+(16:Int)))+(8:Int)))+(wrap .i64 (r2.toNat:Int))))
      else
       none
     else
      (idxL tabS0 (wrap .u8 (bitShr .u64 (bitShr .u64 x1 (32:Int)) (16:Int)))).bind fun (r3:UInt8)=>
      some (wrap .i64 ((wrap .i64 ((32:Int)+(16:Int)))+(wrap .i64 (r3.toNat:Int))))
    else
     none
   else
    bif decide ((bitShr .u64 x1 (32:Int))>=(256:Int)) then
     bif decide ((0:Int)<=(8:Int)) then
      (idxL tabS0 (wrap .u8 (bitShr .u64 (bitShr .u64 x1 (32:Int)) (8:Int)))).bind fun (r4:UInt8)=>
      some (wrap .i64 ((wrap .i64 ((32:Int)+(8:Int)))+(wrap .i64 (r4.toNat:Int))))
     else
      none
    else
     (idxL tabS0 (wrap .u8 (bitShr .u64 x1 (32:Int)))).bind fun (r5:UInt8)=>
     some (wrap .i64 ((32:Int)+(wrap .i64 (r5.toNat:Int))))
  else
   none
 else
  bif decide (x1>=(65536:Int)) then
   bif decide ((0:Int)<=(16:Int)) then
    bif decide ((bitShr .u64 x1 (16:Int))>=(256:Int)) then
     bif decide ((0:Int)<=(8:Int)) then
      (idxL tabS0 (wrap .u8 (bitShr .u64 (bitShr .u64 x1 (16:Int)) (8:Int)))).bind fun (r6:UInt8)=>
      some (wrap .i64 ((wrap .i64 ((wrap .i64 ((0:Int)+(16:Int)))+(8:Int)))+(wrap .i64 (r6.toNat:Int))))
     else
      none
    else
     (idxL tabS0 (wrap .u8 (bitShr .u64 x1 (16:Int)))).bind fun (r7:UInt8)=>
     some (wrap .i64 ((wrap .i64 ((0:Int)+(16:Int)))+(wrap .i64 (r7.toNat:Int))))
   else
    none
  else
   bif decide (x1>=(256:Int)) then
    bif decide ((0:Int)<=(8:Int)) then
     (idxL tabS0 (wrap .u8 (bitShr .u64 x1 (8:Int)))).bind fun (r8:UInt8)=>
     some (wrap .i64 ((wrap .i64 ((0:Int)+(8:Int)))+(wrap .i64 (r8.toNat:Int))))
    else
     none
   else
    (idxL tabS0 (wrap .u8 x1)).bind fun (r9:UInt8)=>
    some (wrap .i64 ((0:Int)+(wrap .i64 (r9.toNat:Int)))):=by kernel_rfl
theorem Xf_eq (n:Nat) (x1:Int):Xf n x1=
 (XI n x1).bind fun (r2:Int)=>
 some r2:=by kernel_rfl
def Zy_L4 (n:Nat) (x1 x2 x4:Int) (m:Nat) (p:Int×List Pred):Option (PUnit×List Pred):=
 LFz n false (g_34 n) iters Zy_a Tryz.f107.body [1,0,0,1,0,0,1,0,0] 4 ⟨[(0,.vw 1000000 (.st 0)),(1,.int .i64 x1),(2,.int .i64 x2),(3,.fn 16 [] []),(8,.int .i64 x4)],[]⟩ m p
def Zy_L1 (n:Nat) (x1 x2:Int) (m:Nat) (p:Int×List Pred):Option (PUnit×List Pred):=
 LFz n false (g_34 n) iters Zy_a Tryz.f107.body [1,0,0] 1 ⟨[(0,.vw 1000000 (.st 0)),(1,.int .i64 x1),(2,.int .i64 x2),(3,.fn 16 [] [])],[]⟩ m p
theorem Zy_eq (n:Nat) (x1 x2:Int) (x3:List Pred):Zy n (((),(x1,(x2,((),()))))) (x3)=
 (Zy_L1 n x1 x2 n ((wrap .i64 (x1+(1:Int)),x3))).bind fun (r16:PUnit×List Pred)=>
 some (((),r16.2)):=by kernel_rfl
def ZW_L1 (n:Nat) (x2 x3:Int) (m:Nat) (p:Int×List Pred):Option ((PUnit×List Pred)⊕(PUnit×List Pred)):=
 LFz n false (g_34 n) (its1 n) ZW_a Tryz.f122.body [1,0,0] 1 ⟨[(0,.vw 1000000 (.st 0)),(2,.int .i64 x2),(3,.int .i64 x3),(4,.fn 16 [] [])],[]⟩ m p
def ZF_L4 (n:Nat) (x1 x2:Int) (m:Nat) (p:Int×List Pred):Option (PUnit×List Pred):=
 LFz n false (g_34 n) (its2 n) ZF_a Tryz.f108.body [1,1,1,0,1,0,0] 4 ⟨[(0,.vw 1000000 (.st 0)),(3,.fn 16 [] []),(8,.int .i64 x1),(9,.int .i64 (0:Int)),(10,.int .i64 (wrap .i64 (x2-x1)))],[]⟩ m p
def ZF_L8 (n:Nat) (x1:Int) (m:Nat) (p:Int×List Pred):Option (PUnit×List Pred):=
 LFz n false (g_34 n) (its2 n) ZF_a Tryz.f108.body [1,1,1,1,1,0,0] 8 ⟨[(0,.vw 1000000 (.st 0)),(3,.fn 16 [] []),(8,.int .i64 x1),(9,.int .i64 (0:Int))],[]⟩ m p
theorem Xu_eq (n:Nat) (x1:Int):Xu n x1=
 (Xf n (wrap .u64 x1)).bind fun (r2:Int)=>
 bif decide ((0:Int)<=r2) then
  some (bitShl .u64 (1:Int) r2)
 else
  none:=by kernel_rfl
theorem ZZ_eq (n:Nat) (x1:Int):ZZ n (()) (x1)=
 bif decide ((0:Int)<=(13:Int)) then
  bif decide ((0:Int)<=(7:Int)) then
   bif decide ((0:Int)<=(17:Int)) then
    some ((bitXor .u64 (bitXor .u64 (bitXor .u64 x1 (bitShl .u64 x1 (13:Int))) (bitShr .u64 (bitXor .u64 x1 (bitShl .u64 x1 (13:Int))) (7:Int))) (bitShl .u64 (bitXor .u64 (bitXor .u64 x1 (bitShl .u64 x1 (13:Int))) (bitShr .u64 (bitXor .u64 x1 (bitShl .u64 x1 (13:Int))) (7:Int))) (17:Int)),bitXor .u64 (bitXor .u64 (bitXor .u64 x1 (bitShl .u64 x1 (13:Int))) (bitShr .u64 (bitXor .u64 x1 (bitShl .u64 x1 (13:Int))) (7:Int))) (bitShl .u64 (bitXor .u64 (bitXor .u64 x1 (bitShl .u64 x1 (13:Int))) (bitShr .u64 (bitXor .u64 x1 (bitShl .u64 x1 (13:Int))) (7:Int))) (17:Int))))
   else
    none
  else
   none
 else
  none:=by kernel_rfl
def ZT_L5 (n:Nat) (x1 x2 r4:Int) (m:Nat) (p:Int×Int×List Pred):Option (PUnit×List Pred):=
 LFz n false (g_35 n) (its4 n) ZT_a Tryz.f109.body [1,1,0,1,1,1,0,0] 5 ⟨[(0,.vw 1000000 (.st 0)),(1,.int .i64 x1),(8,.int .i64 (wrap .i64 (x2-x1))),(9,.ref 9 0),(10,.int .u64 r4)],[]⟩ m p
def ZI_L2 (n m:Nat) (p:(Int×Int)×List Pred):Option (PUnit×List Pred):=
 LFz n false (g_36 n) (its8 n) ZI_a Tryz.f111.body [1,1,0,0] 2 ⟨[(0,.vw 1000000 (.st 0))],[]⟩ m p
theorem ZI_eq (n:Nat) (x1 x2:Int) (x3:List Pred):ZI n (((),(x1,(x2,((),()))))) (x3)=
 (ZI_L2 n n (((x1,wrap .i64 (x2-(1:Int))),x3))).bind fun (r11:PUnit×List Pred)=>
 some (((),r11.2)):=by kernel_rfl
def Zr_L5 (n:Nat) (x1 x2 x5:Int) (x6:List Pred) (m:Nat) (p:Int):Option (Int):=
 LFz n false (g_36 n) (its9 n) Zr_a Tryz.f112.body [1,1,0,1,0,0,1,0,0,0,0,0] 5 ⟨[(0,.vw 1000000 (.st 0)),(1,.int .i64 x1),(2,.int .i64 x2),(3,.fn 16 [] []),(10,.int .i64 x5)],[(1000000,.ro (.arr (.st 0) x6))]⟩ m p
def Zr_L14 (n:Nat) (x1 x2 x5 r11:Int) (m:Nat) (p:Int×List Pred):Option (PUnit×List Pred):=
 LFz n false (g_36 n) (its9 n) Zr_a Tryz.f112.body [1,1,0,1,0,0,1,0,0,1,1,1,1,0,1,0,1,0,0] 14 ⟨[(0,.vw 1000000 (.st 0)),(1,.int .i64 x1),(2,.int .i64 x2),(3,.fn 16 [] []),(9,.int .i64 r11),(10,.int .i64 x5)],[]⟩ m p
def Zr_L20 (n:Nat) (x1 x2 x5 r11:Int) (m:Nat) (p:Int×List Pred):Option (PUnit×List Pred):=
 LFz n false (g_36 n) (its9 n) Zr_a Tryz.f112.body [1,1,0,1,0,0,1,0,0,1,1,1,1,1,1,0,1,0,0] 20 ⟨[(0,.vw 1000000 (.st 0)),(1,.int .i64 x1),(2,.int .i64 x2),(3,.fn 16 [] []),(9,.int .i64 r11),(10,.int .i64 x5)],[]⟩ m p
def Zr_L3 (n:Nat) (x1 x2:Int) (m:Nat) (p:(Int×Int)×List Pred):Option ((PUnit×List Pred)⊕(Bool×List Pred)):=
 LFz n false (g_36 n) (its9 n) Zr_a Tryz.f112.body [1,1,0,1,0,0] 3 ⟨[(0,.vw 1000000 (.st 0)),(1,.int .i64 x1),(2,.int .i64 x2),(3,.fn 16 [] [])],[]⟩ m p
def Zv_L3 (n:Nat) (x1 x10:Int) (x11:List Pred) (m:Nat) (p:Int):Option (Int):=
 LFz n false (g_36 n) (its10 n) Zv_a Tryz.f113.body [1,1,1,0,0,0,0,0,0,0] 3 ⟨[(0,.vw 1000000 (.st 0)),(1,.int .i64 x1),(4,.fn 16 [] []),(12,.int .i64 x10)],[(1000000,.ro (.arr (.st 0) x11))]⟩ m p
def Zv_L5 (n:Nat) (x1:Int) (x11:List Pred) (r16:Int) (m:Nat) (p:Int):Option (Int):=
 LFz n false (g_36 n) (its10 n) Zv_a Tryz.f113.body [1,1,1,0,0,0,0,1,0,0,0] 5 ⟨[(0,.vw 1000000 (.st 0)),(1,.int .i64 x1),(4,.fn 16 [] []),(11,.int .i64 r16)],[(1000000,.ro (.arr (.st 0) x11))]⟩ m p
def Zv_L503 (n:Nat) (x1:Int) (m:Nat) (p:(Int×Int)×List Pred):Option (Int×List Pred):=
 LFz n false (g_36 n) (its10 n) Zv_a Tryz.f113.body [1,1,1,0,0,0] 503 ⟨[(0,.vw 1000000 (.st 0)),(1,.int .i64 x1),(4,.fn 16 [] [])],[]⟩ m p
def Zh_L3 (n:Nat) (x1 x2 x3:Int) (x4:List Pred) (r5 r6:Pred) (m:Nat) (p:Int):Option (Int):=
 LFz n false (g_36 n) (its11 n) Zh_a Tryz.f114.body [1,1,1,0,0,0] 3 ⟨[(0,.vw 1000000 (.st 0)),(1,.int .i64 x1),(4,.fn 16 [] []),(13,.int .i64 (wrap .i64 (x2-(1:Int))))],[(1000000,.ro (.arr (.st 0) (setL (setL x4 x1 r5.re) x3 r6.re)))]⟩ m p
def Zh_L5 (n:Nat) (x1 x3:Int) (x4:List Pred) (r5 r6:Pred) (r13:Int) (m:Nat) (p:Int):Option (Int):=
 LFz n false (g_36 n) (its11 n) Zh_a Tryz.f114.body [1,1,1,1,0,0,0] 5 ⟨[(0,.vw 1000000 (.st 0)),(1,.int .i64 x1),(4,.fn 16 [] []),(12,.int .i64 r13)],[(1000000,.ro (.arr (.st 0) (setL (setL x4 x1 r5.re) x3 r6.re)))]⟩ m p
def Zh_L13 (n:Nat) (x1 x28:Int) (x29:List Pred) (m:Nat) (p:Int):Option (Int):=
 LFz n false (g_36 n) (its11 n) Zh_a Tryz.f114.body [1,1,1,1,1,1,1,1,1,0,0,0,0,0,0,0] 13 ⟨[(0,.vw 1000000 (.st 0)),(1,.int .i64 x1),(4,.fn 16 [] []),(13,.int .i64 x28)],[(1000000,.ro (.arr (.st 0) x29))]⟩ m p
def Zh_L15 (n:Nat) (x1:Int) (x29:List Pred) (r34:Int) (m:Nat) (p:Int):Option (Int):=
 LFz n false (g_36 n) (its11 n) Zh_a Tryz.f114.body [1,1,1,1,1,1,1,1,1,0,0,0,0,1,0,0,0] 15 ⟨[(0,.vw 1000000 (.st 0)),(1,.int .i64 x1),(4,.fn 16 [] []),(12,.int .i64 r34)],[(1000000,.ro (.arr (.st 0) x29))]⟩ m p
def Zh_L513 (n:Nat) (x1:Int) (m:Nat) (p:(Int×Int)×List Pred):Option (Int×List Pred):=
 LFz n false (g_36 n) (its11 n) Zh_a Tryz.f114.body [1,1,1,1,1,1,1,1,1,0,0,0] 513 ⟨[(0,.vw 1000000 (.st 0)),(1,.int .i64 x1),(4,.fn 16 [] [])],[]⟩ m p
def Za_m_L2 (n g m:Nat) (p:(Int×Int×Int×Bool×Bool)×List Pred):Option (PUnit×List Pred):=
 loopF (R:=R) 2 (wrC E ((subO Tryz.f101.body [1,1,0,0]).getD .skip)) (⟨[(0,TV.vw 1000000 (Ty.st 0)),(4,TV.fn 16 [] [])],[]⟩:MS R.T) (getN Za_a.loops 2).sh (getN Za_a.loops 2).outs (fun st k=>codeM E R n false (g_36 n) (addM 101 ⟨Za_p,Za_o,Za_r,Za_m n g⟩ (its12 n)) Za_a ((subO Tryz.f101.body [1,1,0,0]).getD .skip) st k) m p
theorem Xb_eq (n:Nat) (x1:List Pred):Xb n (((),((),()))) (x1)=
 (Xf n (wrap .u64 (x1.length:Int))).bind fun (r2:Int)=>
 (Za n (((),((0:Int),((x1.length:Int),(r2,((),())))))) x1).bind fun (r3:PUnit×List Pred)=>
 some (((),r3.2)):=by kernel_rfl
def Zl_L9 (n:Nat) (x2:Int) (x3:List Pred) (m:Nat) (p:(Int×Int)×List Pred):Option (Int×List Pred):=
 LFz n false (g_36 n) (its14 n) Zl_a Tryz.f92.body [1,1,0,1,0,0,1,0,0,1,0,1,0,1,0,0] 9 ⟨[(0,.vw 1000000 (.st 0)),(1,.fn 90 [] []),(6,.sub 1000000 (.st 0) ((0:Int)+x2) ((0:Int)+((x3.length:Int)-(0:Int))))],[]⟩ m p
def Zl_L4 (n m:Nat) (p:Int×List Pred):Option ((PUnit×List Pred)⊕((Int×Int)×List Pred)):=
 LFz n false (g_36 n) (its14 n) Zl_a Tryz.f92.body [1,1,0,1,0,0] 4 ⟨[(0,.vw 1000000 (.st 0)),(1,.fn 90 [] [])],[]⟩ m p
theorem Zl_L9_s (n:Nat) (x2:Int) (x3:List Pred) (m:Nat) (x7 x8:Int) (x9:List Pred):Zl_L9 n x2 x3 (m+1) ((x7,x8),x9)=
 bif decide (x8< (((Int.toNat (((0:Int)+((x3.length:Int)-(0:Int)))-((0:Int)+x2)):Nat):Int))) then
  bif inJ x8 (((0:Int)+((x3.length:Int)-(0:Int)))-((0:Int)+x2)) then
   (idxL x9 (((0:Int)+x2)+x8)).bind fun (r10:Pred)=>
   bif inJ (wrap .i64 (x8-(1:Int))) (((0:Int)+((x3.length:Int)-(0:Int)))-((0:Int)+x2)) then
    (idxL x9 (((0:Int)+x2)+(wrap .i64 (x8-(1:Int))))).bind fun (r11:Pred)=>
    (Xp n ((r10.re,r11.re))).bind fun (r12:Bool)=>
    bif !r12 then
     bif inJ x8 (((0:Int)+((x3.length:Int)-(0:Int)))-((0:Int)+x2)) then
      (idxL x9 (((0:Int)+x2)+x8)).bind fun (r13:Pred)=>
      bif decide (0<=x7/\x7< (x9.length:Int)) then
       (idxL x9 x7).bind fun (r14:Pred)=>
       Zl_L9 n x2 x3 m (((wrap .i64 (x7+(1:Int)),wrap .i64 (x8+(1:Int))),setL x9 x7 r13.re))
      else
       none
     else
      none
    else
     Zl_L9 n x2 x3 m (((x7,wrap .i64 (x8+(1:Int))),x9))
   else
    none
  else
   none
 else
  some ((x7,x9)):=by kernel_rfl
theorem Zl_L4_s (n m:Nat) (x2:Int) (x3:List Pred):Zl_L4 n (m+1) (x2,x3)=
 bif decide (x2< (x3.length:Int)) then
  bif decide (0<=x2/\x2< (x3.length:Int)) then
   (idxL x3 x2).bind fun (r4:Pred)=>
   bif decide (0<=(wrap .i64 (x2-(1:Int)))/\(wrap .i64 (x2-(1:Int)))< (x3.length:Int)) then
    (idxL x3 (wrap .i64 (x2-(1:Int)))).bind fun (r5:Pred)=>
    (Xp n ((r4.re,r5.re))).bind fun (r6:Bool)=>
    bif r6 then
     bif inV x2 ((x3.length:Int)-(0:Int)) ((x3.length:Int)-(0:Int)) then
      (Zl_L9 n x2 x3 n (((x2,(1:Int)),x3))).bind fun (r15:Int×List Pred)=>
      bif inV r15.1 ((r15.2.length:Int)-(0:Int)) ((r15.2.length:Int)-(0:Int)) then
       bif inV (0:Int) r15.1 (((((clrL r15.2 ((0:Int)+r15.1) ((0:Int)+((r15.2.length:Int)-(0:Int))) ((⟨(0:Int),[],(0:Int),(0:Int),[],[]⟩:Pred))).length:Nat):Int))-(0:Int)) then
        some (.inr ((((0:Int)+(0:Int),(0:Int)+r15.1),clrL r15.2 ((0:Int)+r15.1) ((0:Int)+((r15.2.length:Int)-(0:Int))) ((⟨(0:Int),[],(0:Int),(0:Int),[],[]⟩:Pred)))))
       else
        none
      else
       none
     else
      none
    else
     Zl_L4 n m ((wrap .i64 (x2+(1:Int)),x3))
   else
    none
  else
   none
 else
  some (.inl (((),x3))):=by kernel_rfl
theorem Zl_eq (n:Nat) (x1:List Pred):Zl n (((),((),()))) (x1)=
 bif decide ((x1.length:Int)< (2:Int)) then
  some ((((0:Int),(x1.length:Int)),x1))
 else
  (Zl_L4 n n (((1:Int),x1))).bind fun (r16:(PUnit×List Pred)⊕((Int×Int)×List Pred))=>
  Sum.elim (fun (q17:PUnit×List Pred)=>
   some ((((0:Int),(q17.2.length:Int)),q17.2)))
   (fun (q18:(Int×Int)×List Pred)=>
    some (((q18.1.1,q18.1.2),q18.2))) r16:=by kernel_rfl
theorem XB_eq (n:Nat) (x1:Pred) (x2:Int) (x3:List UInt8) (x4 x5:Int) (x6:List UInt8) (x7:List Pred):XB n (x1,(x2,(x3,(x4,(x5,(x6,x7))))))=
 (Xp n ((x1.re,(⟨x2,x3,x4,x5,x6,x7⟩:Pred)))).bind fun (r8:Bool)=>
 some r8:=by kernel_rfl
def ZU_L2 (n:Nat) (x1:List Pred) (x2:Int) (x3:List UInt8) (x4 x5:Int) (x6:List UInt8) (x7:List Pred) (m:Nat) (p:Int):Option (PUnit⊕Int):=
 LFz n false (g_37 n) (its15 n) ZU_a Tryz.f98.body [1,0,1,0,0] 2 ⟨[(0,.lst .sh (.st 0) x1),(1,.fn 93 [] ([.cref [.int .i64 x2,.str x3,.int .i64 x4,.int .i64 x5,.str x6,.lst .sh (.st 0) x7] 0])),(7,.int .i64 (x1.length:Int))],[]⟩ m p
theorem ZU_L2_s (n:Nat) (x1:List Pred) (x2:Int) (x3:List UInt8) (x4 x5:Int) (x6:List UInt8) (x7:List Pred) (m:Nat) (x8:Int):ZU_L2 n x1 x2 x3 x4 x5 x6 x7 (m+1) x8=
 bif decide (x8< (x1.length:Int)) then
  (idxL x1 x8).bind fun (r9:Pred)=>
  (XB n ((r9.re,(x2,(x3,(x4,(x5,(x6,x7)))))))).bind fun (r10:Bool)=>
  bif r10 then
   some (.inr x8)
  else
   ZU_L2 n x1 x2 x3 x4 x5 x6 x7 m (wrap .i64 (x8+(1:Int)))
 else
  some (.inl (())):=by kernel_rfl
theorem ZU_eq (n:Nat) (x1:List Pred) (x2:Int) (x3:List UInt8) (x4 x5:Int) (x6:List UInt8) (x7:List Pred):ZU n (x1,((),(x2,(x3,(x4,(x5,(x6,x7)))))))=
 (ZU_L2 n x1 x2 x3 x4 x5 x6 x7 n (0:Int)).bind fun (r11:PUnit⊕Int)=>
 Sum.elim (fun (q12:PUnit)=>
  some (-1:Int))
  (fun (q13:Int)=>
   some q13) r11:=by kernel_rfl
theorem Xq_eq (n:Nat) (x1:List Pred) (x2:Int) (x3:List UInt8) (x4 x5:Int) (x6:List UInt8) (x7:List Pred):Xq n (x1,((),(x2,(x3,(x4,(x5,(x6,x7)))))))=
 (ZU n ((x1,((),(x2,(x3,(x4,(x5,(x6,x7))))))))).bind fun (r8:Int)=>
 some (decide (r8>=(0:Int))):=by kernel_rfl
theorem Zk_m_eq (n g:Nat) (x1:Pred) (x2:Bool):Zk_m n (g+1) (x1,x2)=
 bif x1.Op==(4:Int) then
  (idxL x1.Subs (0:Int)).bind fun (r3:Pred)=>
  (Zk_m n g ((r3.re, !x2))).bind fun (r4:Pred)=>
  some r4.re
 else
  bif x1.Op==(2:Int) then
   (Ze_m n g ((x1.re,x2))).bind fun (r5:Pred)=>
   some r5.re
  else
   bif x1.Op==(3:Int) then
    (Ze_m n g ((x1.re,x2))).bind fun (r6:Pred)=>
    some r6.re
   else
    bif x2 then
     (XG n x1.re).bind fun (r7:Pred)=>
     some r7.re
    else
     some x1.re:=by kernel_rfl
def Ze_m_L8 (n g:Nat) (x1:Pred) (x2:Bool) (r3:Int) (r4 r5:Pred) (m:Nat) (p:(PUnit×Int)×List Pred):Option (PUnit×List Pred):=
 LFz n true (grp4_k n (grp4 n g)) (its15 n) Ze_a Tryz.f77.body [1,1,1,1,1,1,0,1,0,0] 8 ⟨[(1,.bool x2),(4,.ref 4 0),(6,.int .i64 r3),(7,.ref 7 0),(8,.ref 8 0),(25,.lst .sh (.st 0) x1.Subs),(26,.int .i64 (((x1.Subs.length:Nat):Int)))],[(4,.ro (.cells ([.int .i64 (0:Int),.str [],.int .i64 (0:Int),.int .i64 (0:Int),.str [],.nils]))),(7,.ro (.cells [.int .i64 r4.Op,.str r4.Name,.int .i64 r4.N,.int .i64 r4.M,.str r4.S,.lst .sh (.st 0) r4.Subs])),(8,.ro (.cells [.int .i64 r5.Op,.str r5.Name,.int .i64 r5.N,.int .i64 r5.M,.str r5.S,.lst .sh (.st 0) r5.Subs]))]⟩ m p
theorem Ze_m_L8_s (n g:Nat) (x1:Pred) (x2:Bool) (r3:Int) (r4 r5:Pred) (m:Nat) (x6:Int) (x7:List Pred):Ze_m_L8 n g x1 x2 r3 r4 r5 (m+1) (((),x6),x7)=
 bif decide (x6< (((x1.Subs.length:Nat):Int))) then
  (idxL x1.Subs x6).bind fun (r8:Pred)=>
  (Zk_m n g ((r8.re,x2))).bind fun (r9:Pred)=>
  bif r9.Op==r3 then
   bif roomOK (x7.length+r9.Subs.length) 80 then
    Ze_m_L8 n g x1 x2 r3 r4 r5 m ((((),wrap .i64 (x6+(1:Int))),x7++r9.Subs))
   else
    none
  else
   (Xp n ((r9.re,r4.re))).bind fun (r10:Bool)=>
   bif !r10 then
    bif roomOK (x7.length+([r9.re].length)) 80 then
     Ze_m_L8 n g x1 x2 r3 r4 r5 m ((((),wrap .i64 (x6+(1:Int))),x7++[r9.re]))
    else
     none
   else
    Ze_m_L8 n g x1 x2 r3 r4 r5 m ((((),wrap .i64 (x6+(1:Int))),x7))
 else
  some (((),x7)):=by kernel_rfl
theorem Ze_m_eq (n g:Nat) (x1:Pred) (x2:Bool):Ze_m n (g+1) (x1,x2)=
 Option.bind (α:=Int) (
  bif !((x1.Op==(2:Int))==x2) then
   some (2:Int)
  else
   some (3:Int)) fun (r3:Int)=>
 (XH n (!((x1.Op==(2:Int))==x2))).bind fun (r4:Pred)=>
 (XH n (!(!((x1.Op==(2:Int))==x2)))).bind fun (r5:Pred)=>
 (Ze_m_L8 n g x1 x2 r3 r4 r5 n ((((),(0:Int)),[]))).bind fun (r11:PUnit×List Pred)=>
 (Xb n (((),((),()))) r11.2).bind fun (r12:PUnit×List Pred)=>
 (Zl n (((),((),()))) r12.2).bind fun (r13:(Int×Int)×List Pred)=>
 (Xq n ((subI r13.2 r13.1.1 r13.1.2,((),(r5.Op,(r5.Name,(r5.N,(r5.M,(r5.S,r5.Subs))))))))).bind fun (r14:Bool)=>
 bif r14 then
  some r5.re
 else
  bif (((Int.toNat (r13.1.2-r13.1.1):Nat):Int))==(0:Int) then
   some r4.re
  else
   bif (((Int.toNat (r13.1.2-r13.1.1):Nat):Int))==(1:Int) then
    bif inJ (0:Int) (r13.1.2-r13.1.1) then
     (idxL r13.2 (r13.1.1+(0:Int))).bind fun (r15:Pred)=>
     some r15.re
    else
     none
   else
    some ((⟨r3,[],(0:Int),(0:Int),[],subI r13.2 r13.1.1 r13.1.2⟩:Pred)):=by kernel_rfl
theorem XC_eq (n:Nat) (x1:Pred):XC n x1=
 (Zk n ((x1.re,false))).bind fun (r2:Pred)=>
 some r2.re:=by kernel_rfl
theorem Xr_eq (n:Nat) (x1:Pred):Xr n x1=
 some ((⟨(4:Int),[],(0:Int),(0:Int),[],[x1.re]⟩:Pred)):=by kernel_rfl
theorem Xc_eq (n:Nat) (x1 x2:Int):Xc n (x1,x2)=
 bif decide (x1<x2) then
  some (-1:Int)
 else
  bif decide (x1>x2) then
   some (1:Int)
  else
   some (0:Int):=by kernel_rfl
theorem Xj_eq (n:Nat) (x1 x2:List UInt8):Xj n (x1,x2)=
 bif Go.Op.bytesLess x1 x2 then
  some (-1:Int)
 else
  bif !((Go.Op.bytesLess x1 x2)||(x1==x2)) then
   some (1:Int)
  else
   some (0:Int):=by kernel_rfl
def QR_m_L3 (n g:Nat) (x1 x2:Pred) (r3 r4 r5 r6 r7:Int) (m:Nat) (p:Int):Option (PUnit⊕Int):=
 LFz n false (grp5_k n (grp5 n g)) (its15 n) QR_a Tryz.f17.body [1,1,0,1,0,0] 3 ⟨[(2,.ref 2 0),(3,.cref [.int .i64 x2.Op,.str x2.Name,.int .i64 x2.N,.int .i64 x2.M,.str x2.S,.lst .sh (.st 0) x2.Subs] 0),(5,.lst .full (.int .i64) [r3,r4,r5,r6,r7])],[(2,.ro (.cells [.int .i64 x1.Op,.str x1.Name,.int .i64 x1.N,.int .i64 x1.M,.str x1.S,.lst .sh (.st 0) x1.Subs]))]⟩ m p
def QR_m_L8 (n g:Nat) (x1 x2:Pred) (m:Nat) (p:Int):Option (PUnit⊕Int):=
 LFz n false (grp5_k n (grp5 n g)) (its15 n) QR_a Tryz.f17.body [1,1,1,0,1,0,0] 8 ⟨[(2,.ref 2 0),(3,.cref [.int .i64 x2.Op,.str x2.Name,.int .i64 x2.N,.int .i64 x2.M,.str x2.S,.lst .sh (.st 0) x2.Subs] 0)],[(2,.ro (.cells [.int .i64 x1.Op,.str x1.Name,.int .i64 x1.N,.int .i64 x1.M,.str x1.S,.lst .sh (.st 0) x1.Subs]))]⟩ m p
theorem QR_m_L3_s (n g:Nat) (x1 x2:Pred) (r3 r4 r5 r6 r7:Int) (m:Nat) (x8:Int):QR_m_L3 n g x1 x2 r3 r4 r5 r6 r7 (m+1) x8=
 bif decide (x8< ((([r3,r4,r5,r6,r7].length:Nat):Int))) then
  (idxL [r3,r4,r5,r6,r7] x8).bind fun (r9:Int)=>
  bif r9 !=(0:Int) then
   (idxL [r3,r4,r5,r6,r7] x8).bind fun (r10:Int)=>
   some (.inr r10)
  else
   QR_m_L3 n g x1 x2 r3 r4 r5 r6 r7 m (wrap .i64 (x8+(1:Int)))
 else
  some (.inl (())):=by kernel_rfl
theorem QR_m_L8_s (n g:Nat) (x1 x2:Pred) (m:Nat) (x14:Int):QR_m_L8 n g x1 x2 (m+1) x14=
 bif bif decide (x14< (((x1.Subs.length:Nat):Int))) then decide (x14< (((x2.Subs.length:Nat):Int))) else false then
  (idxL x1.Subs x14).bind fun (r15:Pred)=>
  (idxL x2.Subs x14).bind fun (r16:Pred)=>
  (QR_m n g ((r15.re,r16.re))).bind fun (r17:Int)=>
  bif r17 !=(0:Int) then
   some (.inr r17)
  else
   QR_m_L8 n g x1 x2 m (wrap .i64 (x14+(1:Int)))
 else
  some (.inl (())):=by kernel_rfl
theorem QR_m_eq (n g:Nat) (x1 x2:Pred):QR_m n (g+1) (x1,x2)=
 (Xc n ((x1.Op,x2.Op))).bind fun (r3:Int)=>
 (Xj n ((x1.Name,x2.Name))).bind fun (r4:Int)=>
 (Xc n ((x1.N,x2.N))).bind fun (r5:Int)=>
 (Xc n ((x1.M,x2.M))).bind fun (r6:Int)=>
 (Xj n ((x1.S,x2.S))).bind fun (r7:Int)=>
 (QR_m_L3 n g x1 x2 r3 r4 r5 r6 r7 n (0:Int)).bind fun (r11:PUnit⊕Int)=>
 Sum.elim (fun (q12:PUnit)=>
  (QR_m_L8 n g x1 x2 n (0:Int)).bind fun (r18:PUnit⊕Int)=>
  Sum.elim (fun (q19:PUnit)=>
   (Xc n ((((x1.Subs.length:Nat):Int),((x2.Subs.length:Nat):Int)))).bind fun (r21:Int)=>
   some r21)
   (fun (q20:Int)=>
    some q20) r18)
  (fun (q13:Int)=>
   some q13) r11:=by kernel_rfl
def ZH_L4 (n:Nat) (x1:List Pred) (x2:Pred) (m:Nat) (p:(List Pred)×Bool×Int):Option ((List Pred)×Bool):=
 LFz n false (g_46 n) (its15 n) ZH_a Tryz.f54.body [1,1,1,0,1,0,0] 4 ⟨[(0,.lst .sh (.st 0) x1),(3,.cref [.int .i64 x2.Op,.str x2.Name,.int .i64 x2.N,.int .i64 x2.M,.str x2.S,.lst .sh (.st 0) x2.Subs] 0)],[]⟩ m p
theorem ZH_L4_s (n:Nat) (x1:List Pred) (x2:Pred) (m:Nat) (x3:List Pred) (x4:Bool) (x5:Int):ZH_L4 n x1 x2 (m+1) (x3,(x4,x5))=
 bif decide (x5< (x1.length:Int)) then
  (idxL x1 x5).bind fun (r6:Pred)=>
  (QR n ((x2.re,r6.re))).bind fun (r7:Int)=>
  bif bif decide (r7<=(0:Int)) then !x4 else false then
   bif roomOK (x3.length+([x2.re].length)) 80 then
    bif r7 !=(0:Int) then
     (idxL x1 x5).bind fun (r8:Pred)=>
     bif roomOK (((x3++[x2.re]).length)+([r8.re].length)) 80 then
      ZH_L4 n x1 x2 m (((x3++[x2.re])++[r8.re],(true,wrap .i64 (x5+(1:Int)))))
     else
      none
    else
     ZH_L4 n x1 x2 m ((x3++[x2.re],(true,wrap .i64 (x5+(1:Int)))))
   else
    none
  else
   bif r7 !=(0:Int) then
    (idxL x1 x5).bind fun (r9:Pred)=>
    bif roomOK (x3.length+([r9.re].length)) 80 then
     ZH_L4 n x1 x2 m ((x3++[r9.re],(x4,wrap .i64 (x5+(1:Int)))))
    else
     none
   else
    ZH_L4 n x1 x2 m ((x3,(x4,wrap .i64 (x5+(1:Int)))))
 else
  some ((x3,x4)):=by kernel_rfl
theorem ZH_eq (n:Nat) (x1:List Pred) (x2:Pred):ZH n (x1,x2)=
 (ZH_L4 n x1 x2 n (([],(false,(0:Int))))).bind fun (r10:(List Pred)×Bool)=>
 bif !r10.2 then
  bif roomOK (r10.1.length+([x2.re].length)) 80 then
   some (r10.1++[x2.re])
  else
   none
 else
  some r10.1:=by kernel_rfl
def QP_m_L9 (n g:Nat) (r2:Pred) (m:Nat) (p:Int×Int×(List UInt8)×Int×Int×(List UInt8)×List Pred):Option (PUnit×Int×(List UInt8)×Int×Int×(List UInt8)×List Pred):=
 LFz n false (grp6_k n (grp6 n g)) (its15 n) QP_a Tryz.f22.body [1,0,1,0,1,1,1,1,0,1,0,0] 9 ⟨[(2,.ref 2 0),(3,.ref 3 0),(4,.ref 4 0)],[(2,.ro (.cells ([.int .i64 (0:Int),.str [],.int .i64 (0:Int),.int .i64 (0:Int),.str [],.nils]))),(3,.ro (.cells [.int .i64 r2.Op,.str r2.Name,.int .i64 r2.N,.int .i64 r2.M,.str r2.S,.lst .sh (.st 0) r2.Subs]))]⟩ m p
def QP_m_L30 (n g:Nat) (x1:Pred) (r18:PUnit×Pred×Pred) (x20:Int) (x21 r23:Pred) (m:Nat) (p:(List Pred)×Int):Option (List Pred):=
 LFz n false (grp6_k n (grp6 n g)) (its15 n) QP_a Tryz.f22.body [1,1,1,1,1,1,1,1,0,1,0,0,1,0,0,1,1,1,0,1,0,0] 30 ⟨[(1,.ref 1 0),(2,.ref 2 0),(7,.ref 7 0),(8,.ref 8 0),(10,.int .i64 x20),(11,.ref 11 0)],[(1,.ro (.ro (.cells [.int .i64 x1.Op,.str x1.Name,.int .i64 x1.N,.int .i64 x1.M,.str x1.S,.lst .sh (.st 0) x1.Subs]))),(2,.ro (.cells [.int .i64 x21.Op,.str x21.Name,.int .i64 x21.N,.int .i64 x21.M,.str x21.S,.lst .any (.st 0) x21.Subs])),(7,.ro (.ro (.cells [.int .i64 r18.2.1.Op,.str r18.2.1.Name,.int .i64 r18.2.1.N,.int .i64 r18.2.1.M,.str r18.2.1.S,.lst .any (.st 0) r18.2.1.Subs]))),(8,.ro (.ro (.cells [.int .i64 r18.2.2.Op,.str r18.2.2.Name,.int .i64 r18.2.2.N,.int .i64 r18.2.2.M,.str r18.2.2.S,.lst .any (.st 0) r18.2.2.Subs]))),(11,.ro (.cells [.int .i64 r23.Op,.str r23.Name,.int .i64 r23.N,.int .i64 r23.M,.str r23.S,.lst .sh (.st 0) r23.Subs]))]⟩ m p
def QP_m_L23 (n g:Nat) (x1:Pred) (r18:PUnit×Pred×Pred) (m:Nat) (p:((List Pred)×Int)×Pred):Option (((List Pred)×Pred)⊕(PUnit×Pred)):=
 LFz n false (grp6_k n (grp6 n g)) (its15 n) QP_a Tryz.f22.body [1,1,1,1,1,1,1,1,0,1,0,0] 23 ⟨[(1,.ref 1 0),(2,.ref 2 0),(7,.ref 7 0),(8,.ref 8 0)],[(1,.ro (.cells [.int .i64 x1.Op,.str x1.Name,.int .i64 x1.N,.int .i64 x1.M,.str x1.S,.lst .sh (.st 0) x1.Subs])),(7,.ro (.cells [.int .i64 r18.2.1.Op,.str r18.2.1.Name,.int .i64 r18.2.1.N,.int .i64 r18.2.1.M,.str r18.2.1.S,.lst .any (.st 0) r18.2.1.Subs])),(8,.ro (.cells [.int .i64 r18.2.2.Op,.str r18.2.2.Name,.int .i64 r18.2.2.N,.int .i64 r18.2.2.M,.str r18.2.2.S,.lst .any (.st 0) r18.2.2.Subs]))]⟩ m p
theorem QP_m_L9_s (n g:Nat) (r2:Pred) (m:Nat) (x6 x7:Int) (x8:List UInt8) (x9 x10:Int) (x11:List UInt8) (x12:List Pred):QP_m_L9 n g r2 (m+1) (x6,(x7,(x8,(x9,(x10,(x11,x12))))))=
 bif decide (x6< (((r2.Subs.length:Nat):Int))) then
  (idxL r2.Subs x6).bind fun (r13:Pred)=>
  (Xr n r13.re).bind fun (r14:Pred)=>
  bif roomOK (x12.length+([r14.re].length)) 80 then
   QP_m_L9 n g r2 m ((wrap .i64 (x6+(1:Int)),(x7,(x8,(x9,(x10,(x11,x12++[r14.re])))))))
  else
   none
 else
  some (((),(x7,(x8,(x9,(x10,(x11,x12))))))):=by kernel_rfl
theorem QP_m_L30_s (n g:Nat) (x1:Pred) (r18:PUnit×Pred×Pred) (x20:Int) (x21 r23:Pred) (m:Nat) (x25:List Pred) (x26:Int):QP_m_L30 n g x1 r18 x20 x21 r23 (m+1) (x25,x26)=
 bif decide (x26< (((r23.Subs.length:Nat):Int))) then
  (idxL r23.Subs x26).bind fun (r27:Pred)=>
  (ZH n ((x25,r27.re))).bind fun (r28:List Pred)=>
  QP_m_L30 n g x1 r18 x20 x21 r23 m ((r28,wrap .i64 (x26+(1:Int))))
 else
  some x25:=by kernel_rfl
theorem QP_m_L23_s (n g:Nat) (x1:Pred) (r18:PUnit×Pred×Pred) (m:Nat) (x19:List Pred) (x20:Int) (x21:Pred):QP_m_L23 n g x1 r18 (m+1) ((x19,x20),x21)=
 bif decide (x20< (((x1.Subs.length:Nat):Int))) then
  (idxL x1.Subs x20).bind fun (r22:Pred)=>
  (QP_m n g r22.re).bind fun (r23:Pred)=>
  (QR n ((r23.re,r18.2.2.re))).bind fun (r24:Int)=>
  bif r24==(0:Int) then
   some (.inr (((),r18.2.2.re)))
  else
   bif r23.Op==x1.Op then
    (QP_m_L30 n g x1 r18 x20 x21 r23 n ((x19,(0:Int)))).bind fun (r29:List Pred)=>
    QP_m_L23 n g x1 r18 m (((r29,wrap .i64 (x20+(1:Int))),x21.re))
   else
    (QR n ((r23.re,r18.2.1.re))).bind fun (r30:Int)=>
    bif r30 !=(0:Int) then
     (ZH n ((x19,r23.re))).bind fun (r31:List Pred)=>
     QP_m_L23 n g x1 r18 m (((r31,wrap .i64 (x20+(1:Int))),x21.re))
    else
     QP_m_L23 n g x1 r18 m (((x19,wrap .i64 (x20+(1:Int))),x21.re))
 else
  some (.inl ((x19,x21.re))):=by kernel_rfl
theorem QP_m_eq (n g:Nat) (x1:Pred):QP_m n (g+1) x1=
 bif x1.Op==(4:Int) then
  (idxL x1.Subs (0:Int)).bind fun (r2:Pred)=>
  bif r2.Op==(4:Int) then
   (idxL r2.Subs (0:Int)).bind fun (r3:Pred)=>
   (QP_m n g r3.re).bind fun (r4:Pred)=>
   some r4.re
  else
   bif bif r2.Op !=(2:Int) then r2.Op !=(3:Int) else false then
    (Xr n r2.re).bind fun (r5:Pred)=>
    some r5.re
   else
    (QP_m_L9 n g r2 n (((0:Int),(wrap .i64 ((5:Int)-r2.Op),([],((0:Int),((0:Int),([],[])))))))).bind fun (r15:PUnit×Int×(List UInt8)×Int×Int×(List UInt8)×List Pred)=>
    (QP_m n g ((⟨r15.2.1,r15.2.2.1,r15.2.2.2.1,r15.2.2.2.2.1,r15.2.2.2.2.2.1,r15.2.2.2.2.2.2⟩:Pred))).bind fun (r16:Pred)=>
    some r16.re
 else
  bif bif x1.Op !=(2:Int) then x1.Op !=(3:Int) else false then
   some x1.re
  else
   (Xr n ((⟨(1:Int),[],(0:Int),(0:Int),[],[]⟩:Pred))).bind fun (r17:Pred)=>
   Option.bind (α:=PUnit×Pred×Pred) (
    bif x1.Op==(3:Int) then
     some (((),(r17.re,(⟨(1:Int),[],(0:Int),(0:Int),[],[]⟩:Pred))))
    else
     some (((),((⟨(1:Int),[],(0:Int),(0:Int),[],[]⟩:Pred),r17.re)))) fun (r18:PUnit×Pred×Pred)=>
   (QP_m_L23 n g x1 r18 n ((([],(0:Int)),(⟨(0:Int),[],(0:Int),(0:Int),[],[]⟩:Pred)))).bind fun (r32:((List Pred)×Pred)⊕(PUnit×Pred))=>
   Sum.elim (fun (q33:(List Pred)×Pred)=>
    bif (q33.1.length:Int)==(0:Int) then
     some r18.2.1.re
    else
     bif (q33.1.length:Int)==(1:Int) then
      (idxL q33.1 (0:Int)).bind fun (r35:Pred)=>
      some r35.re
     else
      some ((⟨x1.Op,[],(0:Int),(0:Int),[],q33.1⟩:Pred)))
    (fun (q34:PUnit×Pred)=>
     some q34.2.re) r32:=by kernel_rfl
theorem XD_eq (n:Nat) (x1 x2:Int):XD n (x1,x2)=
 (Xn n x1).bind fun (r3:Bool)=>
 (whenO r3 (Xn n x2) false).bind fun (r4:Bool)=>
 some (bif bif r3 then !r4 else false then true else decide (x1<x2)):=by kernel_rfl
def Zz_L4 (n:Nat) (x1 x2 x4:Int) (m:Nat) (p:Int×List Int):Option (PUnit×List Int):=
 LFz n false (g_49 n) (its15 n) Zz_a Tryz.f127.body [1,0,0,1,0,0,1,0,0] 4 ⟨[(0,.vw 1000000 (.int .i64)),(1,.int .i64 x1),(2,.int .i64 x2),(6,.int .i64 x4)],[]⟩ m p
def Zz_L1 (n:Nat) (x1 x2:Int) (m:Nat) (p:Int×List Int):Option (PUnit×List Int):=
 LFz n false (g_49 n) (its15 n) Zz_a Tryz.f127.body [1,0,0] 1 ⟨[(0,.vw 1000000 (.int .i64)),(1,.int .i64 x1),(2,.int .i64 x2)],[]⟩ m p
theorem Zz_eq (n:Nat) (x1 x2:Int) (x3:List Int):Zz n (((),(x1,x2))) (x3)=
 (Zz_L1 n x1 x2 n ((wrap .i64 (x1+(1:Int)),x3))).bind fun (r16:PUnit×List Int)=>
 some (((),r16.2)):=by kernel_rfl
def ZX_L1 (n:Nat) (x2 x3:Int) (m:Nat) (p:Int×List Int):Option ((PUnit×List Int)⊕(PUnit×List Int)):=
 LFz n false (g_49 n) (its16 n) ZX_a Tryz.f137.body [1,0,0] 1 ⟨[(0,.vw 1000000 (.int .i64)),(2,.int .i64 x2),(3,.int .i64 x3)],[]⟩ m p
def ZG_L4 (n:Nat) (x1 x2:Int) (m:Nat) (p:Int×List Int):Option (PUnit×List Int):=
 LFz n false (g_49 n) (its17 n) ZG_a Tryz.f128.body [1,1,1,0,1,0,0] 4 ⟨[(0,.vw 1000000 (.int .i64)),(6,.int .i64 x1),(7,.int .i64 (0:Int)),(8,.int .i64 (wrap .i64 (x2-x1)))],[]⟩ m p
def ZG_L8 (n:Nat) (x1:Int) (m:Nat) (p:Int×List Int):Option (PUnit×List Int):=
 LFz n false (g_49 n) (its17 n) ZG_a Tryz.f128.body [1,1,1,1,1,0,0] 8 ⟨[(0,.vw 1000000 (.int .i64)),(6,.int .i64 x1),(7,.int .i64 (0:Int))],[]⟩ m p
def ZV_L5 (n:Nat) (x1 x2 r4:Int) (m:Nat) (p:Int×Int×List Int):Option (PUnit×List Int):=
 LFz n false (g_49 n) (its18 n) ZV_a Tryz.f129.body [1,1,0,1,1,1,0,0] 5 ⟨[(0,.vw 1000000 (.int .i64)),(1,.int .i64 x1),(6,.int .i64 (wrap .i64 (x2-x1))),(7,.ref 7 0),(8,.int .u64 r4)],[]⟩ m p
def ZJ_L2 (n m:Nat) (p:(Int×Int)×List Int):Option (PUnit×List Int):=
 LFz n false (g_50 n) (its22 n) ZJ_a Tryz.f131.body [1,1,0,0] 2 ⟨[(0,.vw 1000000 (.int .i64))],[]⟩ m p
theorem ZJ_eq (n:Nat) (x1 x2:Int) (x3:List Int):ZJ n (((),(x1,x2))) (x3)=
 (ZJ_L2 n n (((x1,wrap .i64 (x2-(1:Int))),x3))).bind fun (r11:PUnit×List Int)=>
 some (((),r11.2)):=by kernel_rfl
def Zs_L5 (n:Nat) (x1 x2 x5:Int) (x6:List Int) (m:Nat) (p:Int):Option (Int):=
 LFz n false (g_50 n) (its23 n) Zs_a Tryz.f132.body [1,1,0,1,0,0,1,0,0,0,0,0] 5 ⟨[(0,.vw 1000000 (.int .i64)),(1,.int .i64 x1),(2,.int .i64 x2),(8,.int .i64 x5)],[(1000000,.ro (.arr (.int .i64) x6))]⟩ m p
def Zs_L14 (n:Nat) (x1 x2 x5 r11:Int) (m:Nat) (p:Int×List Int):Option (PUnit×List Int):=
 LFz n false (g_50 n) (its23 n) Zs_a Tryz.f132.body [1,1,0,1,0,0,1,0,0,1,1,1,1,0,1,0,1,0,0] 14 ⟨[(0,.vw 1000000 (.int .i64)),(1,.int .i64 x1),(2,.int .i64 x2),(7,.int .i64 r11),(8,.int .i64 x5)],[]⟩ m p
def Zs_L20 (n:Nat) (x1 x2 x5 r11:Int) (m:Nat) (p:Int×List Int):Option (PUnit×List Int):=
 LFz n false (g_50 n) (its23 n) Zs_a Tryz.f132.body [1,1,0,1,0,0,1,0,0,1,1,1,1,1,1,0,1,0,0] 20 ⟨[(0,.vw 1000000 (.int .i64)),(1,.int .i64 x1),(2,.int .i64 x2),(7,.int .i64 r11),(8,.int .i64 x5)],[]⟩ m p
def Zs_L3 (n:Nat) (x1 x2:Int) (m:Nat) (p:(Int×Int)×List Int):Option ((PUnit×List Int)⊕(Bool×List Int)):=
 LFz n false (g_50 n) (its23 n) Zs_a Tryz.f132.body [1,1,0,1,0,0] 3 ⟨[(0,.vw 1000000 (.int .i64)),(1,.int .i64 x1),(2,.int .i64 x2)],[]⟩ m p
def Zw_L3 (n:Nat) (x1 x10:Int) (x11:List Int) (m:Nat) (p:Int):Option (Int):=
 LFz n false (g_50 n) (its24 n) Zw_a Tryz.f134.body [1,1,1,0,0,0,0,0,0,0] 3 ⟨[(0,.vw 1000000 (.int .i64)),(1,.int .i64 x1),(10,.int .i64 x10)],[(1000000,.ro (.arr (.int .i64) x11))]⟩ m p
def Zw_L5 (n:Nat) (x1:Int) (x11:List Int) (r16:Int) (m:Nat) (p:Int):Option (Int):=
 LFz n false (g_50 n) (its24 n) Zw_a Tryz.f134.body [1,1,1,0,0,0,0,1,0,0,0] 5 ⟨[(0,.vw 1000000 (.int .i64)),(1,.int .i64 x1),(9,.int .i64 r16)],[(1000000,.ro (.arr (.int .i64) x11))]⟩ m p
def Zw_L503 (n:Nat) (x1:Int) (m:Nat) (p:(Int×Int)×List Int):Option (Int×List Int):=
 LFz n false (g_50 n) (its24 n) Zw_a Tryz.f134.body [1,1,1,0,0,0] 503 ⟨[(0,.vw 1000000 (.int .i64)),(1,.int .i64 x1)],[]⟩ m p
def Zi_L3 (n:Nat) (x1 x2 x3:Int) (x4:List Int) (r5 r6:Int) (m:Nat) (p:Int):Option (Int):=
 LFz n false (g_50 n) (its25 n) Zi_a Tryz.f135.body [1,1,1,0,0,0] 3 ⟨[(0,.vw 1000000 (.int .i64)),(1,.int .i64 x1),(11,.int .i64 (wrap .i64 (x2-(1:Int))))],[(1000000,.ro (.arr (.int .i64) (setL (setL x4 x1 r5) x3 r6)))]⟩ m p
def Zi_L5 (n:Nat) (x1 x3:Int) (x4:List Int) (r5 r6 r13:Int) (m:Nat) (p:Int):Option (Int):=
 LFz n false (g_50 n) (its25 n) Zi_a Tryz.f135.body [1,1,1,1,0,0,0] 5 ⟨[(0,.vw 1000000 (.int .i64)),(1,.int .i64 x1),(10,.int .i64 r13)],[(1000000,.ro (.arr (.int .i64) (setL (setL x4 x1 r5) x3 r6)))]⟩ m p
def Zi_L13 (n:Nat) (x1 x28:Int) (x29:List Int) (m:Nat) (p:Int):Option (Int):=
 LFz n false (g_50 n) (its25 n) Zi_a Tryz.f135.body [1,1,1,1,1,1,1,1,1,0,0,0,0,0,0,0] 13 ⟨[(0,.vw 1000000 (.int .i64)),(1,.int .i64 x1),(11,.int .i64 x28)],[(1000000,.ro (.arr (.int .i64) x29))]⟩ m p
def Zi_L15 (n:Nat) (x1:Int) (x29:List Int) (r34:Int) (m:Nat) (p:Int):Option (Int):=
 LFz n false (g_50 n) (its25 n) Zi_a Tryz.f135.body [1,1,1,1,1,1,1,1,1,0,0,0,0,1,0,0,0] 15 ⟨[(0,.vw 1000000 (.int .i64)),(1,.int .i64 x1),(10,.int .i64 r34)],[(1000000,.ro (.arr (.int .i64) x29))]⟩ m p
def Zi_L513 (n:Nat) (x1:Int) (m:Nat) (p:(Int×Int)×List Int):Option (Int×List Int):=
 LFz n false (g_50 n) (its25 n) Zi_a Tryz.f135.body [1,1,1,1,1,1,1,1,1,0,0,0] 513 ⟨[(0,.vw 1000000 (.int .i64)),(1,.int .i64 x1)],[]⟩ m p
def Zb_m_L2 (n g m:Nat) (p:(Int×Int×Int×Bool×Bool)×List Int):Option (PUnit×List Int):=
 loopF (R:=R) 2 (wrC E ((subO Tryz.f117.body [1,1,0,0]).getD .skip)) (⟨[(0,TV.vw 1000000 (Ty.int IntKind.i64))],[]⟩:MS R.T) (getN Zb_a.loops 2).sh (getN Zb_a.loops 2).outs (fun st k=>codeM E R n false (g_50 n) (addM 117 ⟨Zb_p,Zb_o,Zb_r,Zb_m n g⟩ (its26 n)) Zb_a ((subO Tryz.f117.body [1,1,0,0]).getD .skip) st k) m p
theorem Xd_eq (n:Nat) (x1:List Int):Xd n (()) (x1)=
 (Xf n (wrap .u64 (x1.length:Int))).bind fun (r2:Int)=>
 (Zb n (((),((0:Int),((x1.length:Int),r2)))) x1).bind fun (r3:PUnit×List Int)=>
 some (((),r3.2)):=by kernel_rfl
def Zm_L9 (n:Nat) (x2:Int) (x3:List Int) (m:Nat) (p:(Int×Int)×List Int):Option (Int×List Int):=
 LFz n false (g_50 n) (its28 n) Zm_a Tryz.f105.body [1,1,0,1,0,0,1,0,0,1,0,1,0,1,0,0] 9 ⟨[(0,.vw 1000000 (.int .i64)),(4,.sub 1000000 (.int .i64) ((0:Int)+x2) ((0:Int)+((x3.length:Int)-(0:Int))))],[]⟩ m p
def Zm_L4 (n m:Nat) (p:Int×List Int):Option ((PUnit×List Int)⊕((Int×Int)×List Int)):=
 LFz n false (g_50 n) (its28 n) Zm_a Tryz.f105.body [1,1,0,1,0,0] 4 ⟨[(0,.vw 1000000 (.int .i64))],[]⟩ m p
theorem Zm_L9_s (n:Nat) (x2:Int) (x3:List Int) (m:Nat) (x6 x7:Int) (x8:List Int):Zm_L9 n x2 x3 (m+1) ((x6,x7),x8)=
 bif decide (x7< (((Int.toNat (((0:Int)+((x3.length:Int)-(0:Int)))-((0:Int)+x2)):Nat):Int))) then
  bif inJ x7 (((0:Int)+((x3.length:Int)-(0:Int)))-((0:Int)+x2)) then
   (idxL x8 (((0:Int)+x2)+x7)).bind fun (r9:Int)=>
   bif inJ (wrap .i64 (x7-(1:Int))) (((0:Int)+((x3.length:Int)-(0:Int)))-((0:Int)+x2)) then
    (idxL x8 (((0:Int)+x2)+(wrap .i64 (x7-(1:Int))))).bind fun (r10:Int)=>
    bif r9 !=r10 then
     bif inJ x7 (((0:Int)+((x3.length:Int)-(0:Int)))-((0:Int)+x2)) then
      (idxL x8 (((0:Int)+x2)+x7)).bind fun (r11:Int)=>
      bif decide (0<=x6/\x6< (x8.length:Int)) then
       (idxL x8 x6).bind fun (r12:Int)=>
       Zm_L9 n x2 x3 m (((wrap .i64 (x6+(1:Int)),wrap .i64 (x7+(1:Int))),setL x8 x6 r11))
      else
       none
     else
      none
    else
     Zm_L9 n x2 x3 m (((x6,wrap .i64 (x7+(1:Int))),x8))
   else
    none
  else
   none
 else
  some ((x6,x8)):=by kernel_rfl
theorem Zm_L4_s (n m:Nat) (x2:Int) (x3:List Int):Zm_L4 n (m+1) (x2,x3)=
 bif decide (x2< (x3.length:Int)) then
  bif decide (0<=x2/\x2< (x3.length:Int)) then
   (idxL x3 x2).bind fun (r4:Int)=>
   bif decide (0<=(wrap .i64 (x2-(1:Int)))/\(wrap .i64 (x2-(1:Int)))< (x3.length:Int)) then
    (idxL x3 (wrap .i64 (x2-(1:Int)))).bind fun (r5:Int)=>
    bif r4==r5 then
     bif inV x2 ((x3.length:Int)-(0:Int)) ((x3.length:Int)-(0:Int)) then
      (Zm_L9 n x2 x3 n (((x2,(1:Int)),x3))).bind fun (r13:Int×List Int)=>
      bif inV r13.1 ((r13.2.length:Int)-(0:Int)) ((r13.2.length:Int)-(0:Int)) then
       bif inV (0:Int) r13.1 (((((clrL r13.2 ((0:Int)+r13.1) ((0:Int)+((r13.2.length:Int)-(0:Int))) (0:Int)).length:Nat):Int))-(0:Int)) then
        some (.inr ((((0:Int)+(0:Int),(0:Int)+r13.1),clrL r13.2 ((0:Int)+r13.1) ((0:Int)+((r13.2.length:Int)-(0:Int))) (0:Int))))
       else
        none
      else
       none
     else
      none
    else
     Zm_L4 n m ((wrap .i64 (x2+(1:Int)),x3))
   else
    none
  else
   none
 else
  some (.inl (((),x3))):=by kernel_rfl
theorem Zm_eq (n:Nat) (x1:List Int):Zm n (()) (x1)=
 bif decide ((x1.length:Int)< (2:Int)) then
  some ((((0:Int),(x1.length:Int)),x1))
 else
  (Zm_L4 n n (((1:Int),x1))).bind fun (r14:(PUnit×List Int)⊕((Int×Int)×List Int))=>
  Sum.elim (fun (q15:PUnit×List Int)=>
   some ((((0:Int),(q15.2.length:Int)),q15.2)))
   (fun (q16:(Int×Int)×List Int)=>
    some (((q16.1.1,q16.1.2),q16.2))) r14:=by kernel_rfl
def ZB_R4 (n:Nat) (x1:Int) (x8:List UInt8) (x9 x10 x11:Int) (x12:List (List UInt8)) (xs:List Pred) (p:PUnit×List Bool):Option (PUnit×List Bool):=
 foldF (R:=R) (X:=PayL R.T predEl) 4 (wrR E (subO Tryz.f118.body [1,1,0,1,0])) (⟨[(2,TV.cref [TV.str x8,TV.int IntKind.i64 x9,TV.int IntKind.i64 x10,TV.int IntKind.i64 x11,TV.lst (T:=R.T) Cp.sh Ty.str x12] 0),(3,TV.ref 3 0),(5,TV.ref 5 0)],[(3,Ob.ro (Ob.cells [TV.int IntKind.i64 x1]))]⟩:MS R.T) (getN ZB_a.loops 4).sh (getN ZB_a.loops 4).outs (rndM E R n false (g_50 n) (its29 n) ZB_a (subO Tryz.f118.body [1,1,0,1,0]) predEl) xs p
theorem ZB_R4_0 (n:Nat) (x1:Int) (x8:List UInt8) (x9 x10 x11:Int) (x12:List (List UInt8)) (x15:List Bool):ZB_R4 n x1 x8 x9 x10 x11 x12 [] ((),x15)=
 some (((),x15)):=by kernel_rfl
theorem ZB_R4_s (n:Nat) (x1:Int) (x8:List UInt8) (x9 x10 x11:Int) (x12:List (List UInt8)) (x16:Pred) (xs:List Pred) (x17:List Bool):ZB_R4 n x1 x8 x9 x10 x11 x12 (x16::xs) ((),x17)=
 bif bif x16.Op==(6:Int) then x16.Name==x8 else false then
  bif roomOK (x17.length+([bif decide (x1>=x16.N) then decide (x1<=x16.M) else false].length)) 1 then
   ZB_R4 n x1 x8 x9 x10 x11 x12 xs (((),x17++[bif decide (x1>=x16.N) then decide (x1<=x16.M) else false]))
  else
   none
 else
  ZB_R4 n x1 x8 x9 x10 x11 x12 xs (((),x17)):=by kernel_rfl
theorem ZB_eq (n:Nat) (x1 x2:Int) (x3:List UInt8) (x4 x5:Int) (x6:List UInt8) (x7:List Pred) (x8:List UInt8) (x9 x10 x11:Int) (x12:List (List UInt8)):ZB n (x1,((x2,(x3,(x4,(x5,(x6,x7))))),(x8,(x9,(x10,(x11,x12))))))=
 (Xe n ((⟨x2,x3,x4,x5,x6,x7⟩:Pred))).bind fun (r13:PUnit×Int×(List UInt8)×Int×Int×(List UInt8)×List Pred)=>
 Option.bind (α:=PUnit×List Bool) (
  (partsO ((⟨r13.2.1,r13.2.2.1,r13.2.2.2.1,r13.2.2.2.2.1,r13.2.2.2.2.2.1,r13.2.2.2.2.2.2⟩:Pred))).bind fun (r14:List Pred)=>
  ZB_R4 n x1 x8 x9 x10 x11 x12 r14 (((),[]))) fun (r18:PUnit×List Bool)=>
 some r18.2:=by kernel_rfl
def ZO_L4 (n:Nat) (x1 x2:List Bool) (m:Nat) (p:Int):Option (PUnit⊕Bool):=
 LFz n false (g_51 n) (its29 n) ZO_a Tryz.f121.body [1,1,0,1,0,0] 4 ⟨[(0,.lst .sh .bool x1),(1,.lst .sh .bool x2),(12,.int .i64 (x1.length:Int))],[]⟩ m p
theorem ZO_L4_s (n:Nat) (x1 x2:List Bool) (m:Nat) (x3:Int):ZO_L4 n x1 x2 (m+1) x3=
 bif decide (x3< (x1.length:Int)) then
  (idxL x1 x3).bind fun (r4:Bool)=>
  (idxL x2 x3).bind fun (r5:Bool)=>
  bif !(r4==r5) then
   some (.inr false)
  else
   ZO_L4 n x1 x2 m (wrap .i64 (x3+(1:Int)))
 else
  some (.inl (())):=by kernel_rfl
theorem ZO_eq (n:Nat) (x1 x2:List Bool):ZO n (x1,x2)=
 bif (x1.length:Int) !=(x2.length:Int) then
  some false
 else
  (ZO_L4 n x1 x2 n (0:Int)).bind fun (r6:PUnit⊕Bool)=>
  Sum.elim (fun (q7:PUnit)=>
   some true)
   (fun (q8:Bool)=>
    some q8) r6:=by kernel_rfl
theorem Xs_eq (n:Nat) (x1 x2 x3:Int) (x4:List UInt8) (x5 x6:Int) (x7:List UInt8) (x8:List Pred) (x9:List UInt8) (x10 x11 x12:Int) (x13:List (List UInt8)):Xs n (x1,(x2,((),((x3,(x4,(x5,(x6,(x7,x8))))),(x9,(x10,(x11,(x12,x13))))))))=
 (ZB n ((x1,((x3,(x4,(x5,(x6,(x7,x8))))),(x9,(x10,(x11,(x12,x13)))))))).bind fun (r14:List Bool)=>
 (ZB n ((x2,((x3,(x4,(x5,(x6,(x7,x8))))),(x9,(x10,(x11,(x12,x13)))))))).bind fun (r15:List Bool)=>
 (ZO n ((r14,r15))).bind fun (r16:Bool)=>
 some r16:=by kernel_rfl
def Zp_L9 (n:Nat) (x1 x2 x4:Int) (x5:List UInt8) (x6 x7:Int) (x8:List UInt8) (x9:List Pred) (x10:List UInt8) (x11 x12 x13:Int) (x14:List (List UInt8)) (x15:Int) (m:Nat) (p:(Int×Int)×List Int):Option (Int×List Int):=
 LFz n false (g_53 n) (its29 n) Zp_a Tryz.f119.body [1,1,0,1,0,0,1,0,0,1,0,1,0,1,0,0] 9 ⟨[(0,.sub 1000000 (.int .i64) x1 x2),(1,.fn 120 [] [.ref 1000001 0]),(6,.sub 1000000 (.int .i64) (x1+x15) (x1+(x2-x1)))],[(1000001,.ro (.ro (.cells ([.fn 118 [] ([.cref [.int .i64 x4,.str x5,.int .i64 x6,.int .i64 x7,.str x8,.lst .any (.st 0) x9] 0,.cref [.str x10,.int .i64 x11,.int .i64 x12,.int .i64 x13,.lst .any .str x14] 0])]))))]⟩ m p
def Zp_L4 (n:Nat) (x1 x2 x4:Int) (x5:List UInt8) (x6 x7:Int) (x8:List UInt8) (x9:List Pred) (x10:List UInt8) (x11 x12 x13:Int) (x14:List (List UInt8)) (m:Nat) (p:Int×List Int):Option ((PUnit×List Int)⊕((Int×Int)×List Int)):=
 LFz n false (g_53 n) (its29 n) Zp_a Tryz.f119.body [1,1,0,1,0,0] 4 ⟨[(0,.sub 1000000 (.int .i64) x1 x2),(1,.fn 120 [] [.ref 1000001 0])],[(1000001,.ro (.cells ([.fn 118 [] ([.cref [.int .i64 x4,.str x5,.int .i64 x6,.int .i64 x7,.str x8,.lst .any (.st 0) x9] 0,.cref [.str x10,.int .i64 x11,.int .i64 x12,.int .i64 x13,.lst .any .str x14] 0])])))]⟩ m p
theorem Zp_L9_s (n:Nat) (x1 x2 x4:Int) (x5:List UInt8) (x6 x7:Int) (x8:List UInt8) (x9:List Pred) (x10:List UInt8) (x11 x12 x13:Int) (x14:List (List UInt8)) (x15:Int) (m:Nat) (x20 x21:Int) (x22:List Int):Zp_L9 n x1 x2 x4 x5 x6 x7 x8 x9 x10 x11 x12 x13 x14 x15 (m+1) ((x20,x21),x22)=
 bif decide (x21< (((Int.toNat ((x1+(x2-x1))-(x1+x15)):Nat):Int))) then
  bif inJ x21 ((x1+(x2-x1))-(x1+x15)) then
   (idxL x22 ((x1+x15)+x21)).bind fun (r23:Int)=>
   bif inJ (wrap .i64 (x21-(1:Int))) ((x1+(x2-x1))-(x1+x15)) then
    (idxL x22 ((x1+x15)+(wrap .i64 (x21-(1:Int))))).bind fun (r24:Int)=>
    (Xs n ((r23,(r24,((),((x4,(x5,(x6,(x7,(x8,x9))))),(x10,(x11,(x12,(x13,x14)))))))))).bind fun (r25:Bool)=>
    bif !r25 then
     bif inJ x21 ((x1+(x2-x1))-(x1+x15)) then
      (idxL x22 ((x1+x15)+x21)).bind fun (r26:Int)=>
      bif inJ x20 (x2-x1) then
       (idxL x22 (x1+x20)).bind fun (r27:Int)=>
       Zp_L9 n x1 x2 x4 x5 x6 x7 x8 x9 x10 x11 x12 x13 x14 x15 m (((wrap .i64 (x20+(1:Int)),wrap .i64 (x21+(1:Int))),setL x22 (x1+x20) r26))
      else
       none
     else
      none
    else
     Zp_L9 n x1 x2 x4 x5 x6 x7 x8 x9 x10 x11 x12 x13 x14 x15 m (((x20,wrap .i64 (x21+(1:Int))),x22))
   else
    none
  else
   none
 else
  some ((x20,x22)):=by kernel_rfl
theorem Zp_L4_s (n:Nat) (x1 x2 x4:Int) (x5:List UInt8) (x6 x7:Int) (x8:List UInt8) (x9:List Pred) (x10:List UInt8) (x11 x12 x13:Int) (x14:List (List UInt8)) (m:Nat) (x15:Int) (x16:List Int):Zp_L4 n x1 x2 x4 x5 x6 x7 x8 x9 x10 x11 x12 x13 x14 (m+1) (x15,x16)=
 bif decide (x15< (((Int.toNat (x2-x1):Nat):Int))) then
  bif inJ x15 (x2-x1) then
   (idxL x16 (x1+x15)).bind fun (r17:Int)=>
   bif inJ (wrap .i64 (x15-(1:Int))) (x2-x1) then
    (idxL x16 (x1+(wrap .i64 (x15-(1:Int))))).bind fun (r18:Int)=>
    (Xs n ((r17,(r18,((),((x4,(x5,(x6,(x7,(x8,x9))))),(x10,(x11,(x12,(x13,x14)))))))))).bind fun (r19:Bool)=>
    bif r19 then
     bif inV x15 (x2-x1) (x2-x1) then
      (Zp_L9 n x1 x2 x4 x5 x6 x7 x8 x9 x10 x11 x12 x13 x14 x15 n (((x15,(1:Int)),x16))).bind fun (r28:Int×List Int)=>
      bif inV r28.1 (x2-x1) (x2-x1) then
       bif inV (0:Int) r28.1 (x2-x1) then
        some (.inr (((x1+(0:Int),x1+r28.1),clrL r28.2 (x1+r28.1) (x1+(x2-x1)) (0:Int))))
       else
        none
      else
       none
     else
      none
    else
     Zp_L4 n x1 x2 x4 x5 x6 x7 x8 x9 x10 x11 x12 x13 x14 m ((wrap .i64 (x15+(1:Int)),x16))
   else
    none
  else
   none
 else
  some (.inl (((),x16))):=by kernel_rfl
theorem Zp_eq (n:Nat) (x1 x2:Int) (x3:List Int) (x4:Int) (x5:List UInt8) (x6 x7:Int) (x8:List UInt8) (x9:List Pred) (x10:List UInt8) (x11 x12 x13:Int) (x14:List (List UInt8)):Zp n (((x1,x2),((),()))) ((x3,((),((x4,(x5,(x6,(x7,(x8,x9))))),(x10,(x11,(x12,(x13,x14))))))))=
 bif decide ((((Int.toNat (x2-x1):Nat):Int))< (2:Int)) then
  some (((x1,x2),(x3,((),((x4,(x5,(x6,(x7,(x8,x9))))),(x10,(x11,(x12,(x13,x14)))))))))
 else
  (Zp_L4 n x1 x2 x4 x5 x6 x7 x8 x9 x10 x11 x12 x13 x14 n (((1:Int),x3))).bind fun (r29:(PUnit×List Int)⊕((Int×Int)×List Int))=>
  Sum.elim (fun (q30:PUnit×List Int)=>
   some (((x1,x2),(q30.2,((),((x4,(x5,(x6,(x7,(x8,x9))))),(x10,(x11,(x12,(x13,x14))))))))))
   (fun (q31:(Int×Int)×List Int)=>
    some (((q31.1.1,q31.1.2),(q31.2,((),((x4,(x5,(x6,(x7,(x8,x9))))),(x10,(x11,(x12,(x13,x14)))))))))) r29:=by kernel_rfl
theorem Xa_eq (n:Nat) (x1:Def) (x2:Pred) (x3 x4:Int) (x5:List Int):Xa n ((x1,(x2,(x3,x4)))) (x5)=
 (Zp n (((x3,x4),((),()))) ((x5,((),((x2.Op,(x2.Name,(x2.N,(x2.M,(x2.S,x2.Subs))))),(x1.Name,(x1.Kind,(x1.Lo,(x1.Hi,x1.Words))))))))).bind fun (r6:(Int×Int)×(List Int)×PUnit×(Int×(List UInt8)×Int×Int×(List UInt8)×List Pred)×(List UInt8)×Int×Int×Int×List (List UInt8))=>
 some (((r6.1.1,r6.1.2),r6.2.1)):=by kernel_rfl
def ZA_R4 (n:Nat) (x1:Def) (x2:Pred) (xs:List Pred) (p:PUnit×PUnit×List Int):Option (PUnit×PUnit×List Int):=
 foldF (R:=R) (X:=PayL R.T predEl) 4 (wrR E (subO Tryz.f94.body [1,1,0,1,0])) (⟨[(2,TV.cref [TV.str x1.Name,TV.int IntKind.i64 x1.Kind,TV.int IntKind.i64 x1.Lo,TV.int IntKind.i64 x1.Hi,TV.lst (T:=R.T) Cp.sh Ty.str x1.Words] 0),(3,TV.cref [TV.int IntKind.i64 x2.Op,TV.str x2.Name,TV.int IntKind.i64 x2.N,TV.int IntKind.i64 x2.M,TV.str x2.S,TV.lst (T:=R.T) Cp.sh (Ty.st 0) x2.Subs] 0),(5,TV.ref 5 0)],[]⟩:MS R.T) (getN ZA_a.loops 4).sh (getN ZA_a.loops 4).outs (rndM E R n true (g_53 n) (its31 n) ZA_a (subO Tryz.f94.body [1,1,0,1,0]) predEl) xs p
theorem ZA_R4_0 (n:Nat) (x1:Def) (x2:Pred) (x5:List Int):ZA_R4 n x1 x2 [] ((),((),x5))=
 some (((),((),x5))):=by kernel_rfl
theorem ZA_R4_s (n:Nat) (x1:Def) (x2 x6:Pred) (xs:List Pred) (x7:List Int):ZA_R4 n x1 x2 (x6::xs) ((),((),x7))=
 bif bif x6.Op !=(6:Int) then true else !(x6.Name==x1.Name) then
  ZA_R4 n x1 x2 xs (((),((),x7)))
 else
  bif bif decide (x6.N>x1.Lo) then decide (x6.N<=x1.Hi) else false then
   bif roomOK (x7.length+([x6.N].length)) 8 then
    bif bif decide (x6.M>=x1.Lo) then decide (x6.M<x1.Hi) else false then
     bif roomOK (((x7++[x6.N]).length)+([wrap .i64 (x6.M+(1:Int))].length)) 8 then
      ZA_R4 n x1 x2 xs (((),((),(x7++[x6.N])++[wrap .i64 (x6.M+(1:Int))])))
     else
      none
    else
     ZA_R4 n x1 x2 xs (((),((),x7++[x6.N])))
   else
    none
  else
   bif bif decide (x6.M>=x1.Lo) then decide (x6.M<x1.Hi) else false then
    bif roomOK (x7.length+([wrap .i64 (x6.M+(1:Int))].length)) 8 then
     ZA_R4 n x1 x2 xs (((),((),x7++[wrap .i64 (x6.M+(1:Int))])))
    else
     none
   else
    ZA_R4 n x1 x2 xs (((),((),x7))):=by kernel_rfl
theorem ZA_eq (n:Nat) (x1:Def) (x2:Pred):ZA n (x1,x2)=
 (Xe n x2.re).bind fun (r3:PUnit×Int×(List UInt8)×Int×Int×(List UInt8)×List Pred)=>
 Option.bind (α:=PUnit×PUnit×List Int) (
  (partsO ((⟨r3.2.1,r3.2.2.1,r3.2.2.2.1,r3.2.2.2.2.1,r3.2.2.2.2.2.1,r3.2.2.2.2.2.2⟩:Pred))).bind fun (r4:List Pred)=>
  ZA_R4 n x1 x2 r4 (((),((),[x1.Lo])))) fun (r8:PUnit×PUnit×List Int)=>
 (Xd n (()) r8.2.2).bind fun (r9:PUnit×List Int)=>
 (Zm n (()) r9.2).bind fun (r10:(Int×Int)×List Int)=>
 (Xa n ((x1,(x2.re,(r10.1.1,r10.1.2)))) r10.2).bind fun (r11:(Int×Int)×List Int)=>
 some (subI r11.2 r11.1.1 r11.1.2):=by kernel_rfl
def Zn_R4 (n:Nat) (x1:Def) (xs:List Pred) (p:PUnit×List ((List UInt8)×Bool)):Option (PUnit×List ((List UInt8)×Bool)):=
 foldF (R:=R) (X:=PayL R.T predEl) 4 (wrR E (subO Tryz.f95.body [1,1,0,1,0])) (⟨[(2,TV.cref [TV.str x1.Name,TV.int IntKind.i64 x1.Kind,TV.int IntKind.i64 x1.Lo,TV.int IntKind.i64 x1.Hi,TV.lst (T:=R.T) Cp.sh Ty.str x1.Words] 0),(5,TV.ref 5 0)],[(5,Ob.ro (Ob.cells [TV.mapr 11]))]⟩:MS R.T) (getN Zn_a.loops 4).sh (getN Zn_a.loops 4).outs (rndM E R n false (g_54 n) (its31 n) Zn_a (subO Tryz.f95.body [1,1,0,1,0]) predEl) xs p
def Zn_L9 (n:Nat) (x1:Def) (r8:PUnit×List ((List UInt8)×Bool)) (m:Nat) (p:(List (List UInt8))×Bool×Int):Option (List (List UInt8)):=
 LFz n false (g_54 n) (its31 n) Zn_a Tryz.f95.body [1,1,1,1,1,0,1,0,0] 9 ⟨[(5,.ref 5 0),(29,.lst .sh .str x1.Words),(30,.int .i64 (((x1.Words.length:Nat):Int)))],[(5,.ro (.cells [.mapr 11])),(11,.ro (.map .str .bool r8.2))]⟩ m p
theorem Zn_L9_s (n:Nat) (x1:Def) (r8:PUnit×List ((List UInt8)×Bool)) (m:Nat) (x9:List (List UInt8)) (x10:Bool) (x11:Int):Zn_L9 n x1 r8 (m+1) (x9,(x10,x11))=
 bif decide (x11< (((x1.Words.length:Nat):Int))) then
  (idxL x1.Words x11).bind fun (r12:List UInt8)=>
  bif bif optGet false (mget (beqD R Ty.str) r12 r8.2) then true else !x10 then
   bif roomOK (x9.length+([r12].length)) 16 then
    Zn_L9 n x1 r8 m ((x9++[r12],(bif x10 then true else !(optGet false (mget (beqD R Ty.str) r12 r8.2)),wrap .i64 (x11+(1:Int)))))
   else
    none
  else
   Zn_L9 n x1 r8 m ((x9,(bif x10 then true else !(optGet false (mget (beqD R Ty.str) r12 r8.2)),wrap .i64 (x11+(1:Int)))))
 else
  some x9:=by kernel_rfl
theorem Zn_R4_0 (n:Nat) (x1:Def) (x5:List ((List UInt8)×Bool)):Zn_R4 n x1 [] ((),x5)=
 some (((),x5)):=by kernel_rfl
theorem Zn_R4_s (n:Nat) (x1:Def) (x6:Pred) (xs:List Pred) (x7:List ((List UInt8)×Bool)):Zn_R4 n x1 (x6::xs) ((),x7)=
 bif bif x6.Op==(7:Int) then x6.Name==x1.Name else false then
  Zn_R4 n x1 xs (((),mset (beqD R Ty.str) x6.S true x7))
 else
  Zn_R4 n x1 xs (((),x7)):=by kernel_rfl
theorem Zn_eq (n:Nat) (x1:Def) (x2:Pred):Zn n (x1,x2)=
 (Xe n x2.re).bind fun (r3:PUnit×Int×(List UInt8)×Int×Int×(List UInt8)×List Pred)=>
 Option.bind (α:=PUnit×List ((List UInt8)×Bool)) (
  (partsO ((⟨r3.2.1,r3.2.2.1,r3.2.2.2.1,r3.2.2.2.2.1,r3.2.2.2.2.2.1,r3.2.2.2.2.2.2⟩:Pred))).bind fun (r4:List Pred)=>
  Zn_R4 n x1 r4 (((),[]))) fun (r8:PUnit×List ((List UInt8)×Bool))=>
 (Zn_L9 n x1 r8 n (([],(false,(0:Int))))).bind fun (r13:List (List UInt8))=>
 some r13:=by kernel_rfl
def Zt_L4 (n:Nat) (x1:Def) (r3:List Int) (m:Nat) (p:(List filter_cell)×Int):Option (List filter_cell):=
 LFz n false (g_55 n) (its31 n) Zt_a Tryz.f78.body [1,1,0,1,0,0,1,0,0] 4 ⟨[(2,.cref [.str x1.Name,.int .i64 x1.Kind,.int .i64 x1.Lo,.int .i64 x1.Hi,.lst .sh .str x1.Words] 0),(17,.lst .sh (.int .i64) r3),(18,.int .i64 (r3.length:Int))],[]⟩ m p
def Zt_L10 (n:Nat) (x1:Def) (r8:List (List UInt8)) (m:Nat) (p:(List filter_cell)×Int):Option (List filter_cell):=
 LFz n false (g_55 n) (its31 n) Zt_a Tryz.f78.body [1,1,1,0,1,0,0] 10 ⟨[(2,.cref [.str x1.Name,.int .i64 x1.Kind,.int .i64 x1.Lo,.int .i64 x1.Hi,.lst .sh .str x1.Words] 0),(37,.lst .sh .str r8),(38,.int .i64 (r8.length:Int))],[]⟩ m p
theorem Zt_L4_s (n:Nat) (x1:Def) (r3:List Int) (m:Nat) (x4:List filter_cell) (x5:Int):Zt_L4 n x1 r3 (m+1) (x4,x5)=
 bif decide (x5< (r3.length:Int)) then
  (idxL r3 x5).bind fun (r6:Int)=>
  bif roomOK (x4.length+(([(⟨(⟨x1.Name,x1.Kind,r6,[]⟩:Attr),true⟩:filter_cell)]).length)) 56 then
   Zt_L4 n x1 r3 m ((x4++([(⟨(⟨x1.Name,x1.Kind,r6,[]⟩:Attr),true⟩:filter_cell)]),wrap .i64 (x5+(1:Int))))
  else
   none
 else
  some x4:=by kernel_rfl
theorem Zt_L10_s (n:Nat) (x1:Def) (r8:List (List UInt8)) (m:Nat) (x9:List filter_cell) (x10:Int):Zt_L10 n x1 r8 (m+1) (x9,x10)=
 bif decide (x10< (r8.length:Int)) then
  (idxL r8 x10).bind fun (r11:List UInt8)=>
  bif roomOK (x9.length+([(⟨(⟨x1.Name,x1.Kind,(0:Int),r11⟩:Attr),true⟩:filter_cell)].length)) 56 then
   Zt_L10 n x1 r8 m ((x9++[(⟨(⟨x1.Name,x1.Kind,(0:Int),r11⟩:Attr),true⟩:filter_cell)],wrap .i64 (x10+(1:Int))))
  else
   none
 else
  some x9:=by kernel_rfl
theorem Zt_eq (n:Nat) (x1:Def) (x2:Pred):Zt n (x1,x2)=
 bif x1.Kind==(1:Int) then
  (ZA n ((x1,x2.re))).bind fun (r3:List Int)=>
  (Zt_L4 n x1 r3 n (([(⟨(⟨[],(0:Int),(0:Int),[]⟩:Attr),false⟩:filter_cell)],(0:Int)))).bind fun (r7:List filter_cell)=>
  some r7
 else
  (Zn n ((x1,x2.re))).bind fun (r8:List (List UInt8))=>
  (Zt_L10 n x1 r8 n (([(⟨(⟨[],(0:Int),(0:Int),[]⟩:Attr),false⟩:filter_cell)],(0:Int)))).bind fun (r12:List filter_cell)=>
  some r12:=by kernel_rfl
def Zq_R7 (n:Nat) (x1:Schema) (x2:Pred) (x3:Int) (r5:Def) (xs:List Pred) (p:PUnit×List (List filter_cell)):Option ((PUnit×List (List filter_cell))⊕(PUnit×List (List filter_cell))):=
 foldF (R:=R) (X:=PayL R.T predEl) 7 (wrR E (subO Tryz.f56.body [1,1,0,1,0,0,1,1,0,0,1,1,0])) (⟨[(3,TV.cref [TV.int IntKind.i64 x2.Op,TV.str x2.Name,TV.int IntKind.i64 x2.N,TV.int IntKind.i64 x2.M,TV.str x2.S,TV.lst (T:=R.T) Cp.sh (Ty.st 0) x2.Subs] 0),(5,TV.ref 5 0),(7,TV.ref 7 0),(10,TV.lst (T:=R.T) Cp.sh (Ty.st 1) x1.Defs),(11,TV.int IntKind.i64 (((x1.Defs.length:Nat):Int))),(12,TV.int IntKind.i64 x3)],[(7,Ob.ro (Ob.cells [TV.str r5.Name,TV.int IntKind.i64 r5.Kind,TV.int IntKind.i64 r5.Lo,TV.int IntKind.i64 r5.Hi,TV.lst (T:=R.T) Cp.sh Ty.str r5.Words]))]⟩:MS R.T) (getN Zq_a.loops 7).sh (getN Zq_a.loops 7).outs (rndM E R n false (g_56 n) (its31 n) Zq_a (subO Tryz.f56.body [1,1,0,1,0,0,1,1,0,0,1,1,0]) predEl) xs p
def Zq_L3 (n:Nat) (x1:Schema) (x2:Pred) (m:Nat) (p:Int×List (List filter_cell)):Option (PUnit×List (List filter_cell)):=
 LFz n false (g_56 n) (its31 n) Zq_a Tryz.f56.body [1,1,0,1,0,0] 3 ⟨[(3,.cref [.int .i64 x2.Op,.str x2.Name,.int .i64 x2.N,.int .i64 x2.M,.str x2.S,.lst .sh (.st 0) x2.Subs] 0),(5,.ref 5 0),(10,.lst .sh (.st 1) x1.Defs),(11,.int .i64 (((x1.Defs.length:Nat):Int)))],[]⟩ m p
theorem Zq_L3_s (n:Nat) (x1:Schema) (x2:Pred) (m:Nat) (x3:Int) (x4:List (List filter_cell)):Zq_L3 n x1 x2 (m+1) (x3,x4)=
 bif decide (x3< (((x1.Defs.length:Nat):Int))) then
  (idxL x1.Defs x3).bind fun (r5:Def)=>
  (Xe n x2.re).bind fun (r6:PUnit×Int×(List UInt8)×Int×Int×(List UInt8)×List Pred)=>
  Option.bind (α:=(PUnit×List (List filter_cell))⊕(PUnit×List (List filter_cell))) (
   (partsO ((⟨r6.2.1,r6.2.2.1,r6.2.2.2.1,r6.2.2.2.2.1,r6.2.2.2.2.2.1,r6.2.2.2.2.2.2⟩:Pred))).bind fun (r7:List Pred)=>
   Zq_R7 n x1 x2 x3 r5 r7 (((),x4))) fun (r12:(PUnit×List (List filter_cell))⊕(PUnit×List (List filter_cell)))=>
  Sum.elim (fun (q13:PUnit×List (List filter_cell))=>
   Zq_L3 n x1 x2 m ((wrap .i64 (x3+(1:Int)),q13.2)))
   (fun (q14:PUnit×List (List filter_cell))=>
    Zq_L3 n x1 x2 m ((wrap .i64 (x3+(1:Int)),q14.2))) r12
 else
  some (((),x4)):=by kernel_rfl
theorem Zq_R7_0 (n:Nat) (x1:Schema) (x2:Pred) (x3:Int) (r5:Def) (x8:List (List filter_cell)):Zq_R7 n x1 x2 x3 r5 [] ((),x8)=
 some (.inl (((),x8))):=by kernel_rfl
theorem Zq_R7_s (n:Nat) (x1:Schema) (x2:Pred) (x3:Int) (r5:Def) (x9:Pred) (xs:List Pred) (x10:List (List filter_cell)):Zq_R7 n x1 x2 x3 r5 (x9::xs) ((),x10)=
 bif bif decide (x9.Op>=(5:Int)) then x9.Name==r5.Name else false then
  (Zt n ((r5,x2.re))).bind fun (r11:List filter_cell)=>
  bif roomOK (x10.length+([r11].length)) 24 then
   some (.inr (((),x10++[r11])))
  else
   none
 else
  Zq_R7 n x1 x2 x3 r5 xs (((),x10)):=by kernel_rfl
theorem Zq_eq (n:Nat) (x1:Schema) (x2:Pred):Zq n (x1,x2)=
 (Zq_L3 n x1 x2 n (((0:Int),[]))).bind fun (r15:PUnit×List (List filter_cell))=>
 some r15.2:=by kernel_rfl
def ZP_L3 (n:Nat) (x1:List (List filter_cell)) (m:Nat) (p:Int×Int):Option (Int⊕Int):=
 LFz n false (g_57 n) (its31 n) ZP_a Tryz.f55.body [1,1,0,1,0,0] 3 ⟨[(6,.lst .sh (.slice (.st 7)) x1),(7,.int .i64 (x1.length:Int))],[]⟩ m p
theorem ZP_L3_s (n:Nat) (x1:List (List filter_cell)) (m:Nat) (x2 x3:Int):ZP_L3 n x1 (m+1) (x2,x3)=
 bif decide (x3< (x1.length:Int)) then
  (idxL x1 x3).bind fun (r4:List filter_cell)=>
  bif decide ((wrap .i64 (x2*(r4.length:Int)))> (4096:Int)) then
   some (.inr (4097:Int))
  else
   ZP_L3 n x1 m ((wrap .i64 (x2*(r4.length:Int)),wrap .i64 (x3+(1:Int))))
 else
  some (.inl x2):=by kernel_rfl
theorem ZP_eq (n:Nat) (x1:List (List filter_cell)):ZP n x1=
 (ZP_L3 n x1 n (((1:Int),(0:Int)))).bind fun (r5:Int⊕Int)=>
 Sum.elim (fun (q6:Int)=>
  some q6)
  (fun (q7:Int)=>
   some q7) r5:=by kernel_rfl
theorem XE_eq (n:Nat) (x1:Schema) (x2:Pred):XE n (x1,x2)=
 (Zq n ((x1,x2.re))).bind fun (r3:List (List filter_cell))=>
 (ZP n r3).bind fun (r4:Int)=>
 some r4:=by kernel_rfl
def ZQ_L2 (n:Nat) (x1:List Pred) (x2:List UInt8) (m:Nat) (p:Int):Option (PUnit⊕Bool):=
 LFz n false (g_59 n) (its31 n) ZQ_a Tryz.f79.body [1,0,1,0,0] 2 ⟨[(0,.lst .sh (.st 0) x1),(1,.str x2)],[]⟩ m p
theorem ZQ_L2_s (n:Nat) (x1:List Pred) (x2:List UInt8) (m:Nat) (x3:Int):ZQ_L2 n x1 x2 (m+1) x3=
 bif decide (x3< (x1.length:Int)) then
  (idxL x1 x3).bind fun (r4:Pred)=>
  (whenO (decide (r4.Op>=(5:Int))) (idxL x1 x3) ((⟨(0:Int),[],(0:Int),(0:Int),[],[]⟩:Pred))).bind fun (r5:Pred)=>
  bif bif decide (r4.Op>=(5:Int)) then r5.Name==x2 else false then
   some (.inr true)
  else
   ZQ_L2 n x1 x2 m (wrap .i64 (x3+(1:Int)))
 else
  some (.inl (())):=by kernel_rfl
theorem ZQ_eq (n:Nat) (x1:List Pred) (x2:List UInt8):ZQ n (x1,x2)=
 (ZQ_L2 n x1 x2 n (0:Int)).bind fun (r6:PUnit⊕Bool)=>
 Sum.elim (fun (q7:PUnit)=>
  some false)
  (fun (q8:Bool)=>
   some q8) r6:=by kernel_rfl
def ZM_L2 (n:Nat) (x1:List Pred) (x2:List UInt8) (x3 x4:Int) (m:Nat) (p:Int):Option (PUnit⊕Bool):=
 LFz n false (g_60 n) (its31 n) ZM_a Tryz.f96.body [1,0,1,0,0] 2 ⟨[(0,.lst .sh (.st 0) x1),(1,.str x2),(2,.int .i64 x3),(3,.int .i64 x4)],[]⟩ m p
theorem ZM_L2_s (n:Nat) (x1:List Pred) (x2:List UInt8) (x3 x4:Int) (m:Nat) (x5:Int):ZM_L2 n x1 x2 x3 x4 (m+1) x5=
 bif decide (x5< (x1.length:Int)) then
  (idxL x1 x5).bind fun (r6:Pred)=>
  (whenO (r6.Op==(6:Int)) (idxL x1 x5) ((⟨(0:Int),[],(0:Int),(0:Int),[],[]⟩:Pred))).bind fun (r7:Pred)=>
  bif bif r6.Op==(6:Int) then r7.Name==x2 else false then
   (idxL x1 x5).bind fun (r8:Pred)=>
   (whenO (decide (x3>=r8.N)) (idxL x1 x5) ((⟨(0:Int),[],(0:Int),(0:Int),[],[]⟩:Pred))).bind fun (r9:Pred)=>
   (idxL x1 x5).bind fun (r10:Pred)=>
   (whenO (decide (x4>=r10.N)) (idxL x1 x5) ((⟨(0:Int),[],(0:Int),(0:Int),[],[]⟩:Pred))).bind fun (r11:Pred)=>
   bif !((bif decide (x3>=r8.N) then decide (x3<=r9.M) else false)==(bif decide (x4>=r10.N) then decide (x4<=r11.M) else false)) then
    some (.inr false)
   else
    ZM_L2 n x1 x2 x3 x4 m (wrap .i64 (x5+(1:Int)))
  else
   ZM_L2 n x1 x2 x3 x4 m (wrap .i64 (x5+(1:Int)))
 else
  some (.inl (())):=by kernel_rfl
theorem ZM_eq (n:Nat) (x1:List Pred) (x2:List UInt8) (x3 x4:Int):ZM n (x1,(x2,(x3,x4)))=
 (ZM_L2 n x1 x2 x3 x4 n (0:Int)).bind fun (r12:PUnit⊕Bool)=>
 Sum.elim (fun (q13:PUnit)=>
  some true)
  (fun (q14:Bool)=>
   some q14) r12:=by kernel_rfl
def QQ_L9 (n:Nat) (x1:Def) (x2:List Pred) (x4:Bool) (x5:Int) (m:Nat) (p:(List ref17_Cell)×Bool×Int):Option ((List ref17_Cell)×Bool):=
 LFz n false (g_61 n) (its31 n) QQ_a Tryz.f80.body [1,1,0,1,0,1,0,1,0,0,1,0,0,1,0,1,0,0] 9 ⟨[(1,.lst .sh (.st 0) x2),(2,.cref [.str x1.Name,.int .i64 x1.Kind,.int .i64 x1.Lo,.int .i64 x1.Hi,.lst .sh .str x1.Words] 0),(6,.bool x4),(7,.int .i64 x5)],[]⟩ m p
def QQ_L5 (n:Nat) (x1:Def) (x2:List Pred) (m:Nat) (p:(List ref17_Cell)×Bool×Int):Option (List ref17_Cell):=
 LFz n false (g_61 n) (its31 n) QQ_a Tryz.f80.body [1,1,0,1,0,1,0,1,0,0] 5 ⟨[(1,.lst .sh (.st 0) x2),(2,.cref [.str x1.Name,.int .i64 x1.Kind,.int .i64 x1.Lo,.int .i64 x1.Hi,.lst .sh .str x1.Words] 0)],[]⟩ m p
def QQ_L20 (n:Nat) (x1:Def) (x2:List Pred) (x17:Int) (m:Nat) (p:(List ref17_Cell)×Int×Int):Option ((List ref17_Cell)×Int):=
 LFz n false (g_61 n) (its31 n) QQ_a Tryz.f80.body [1,1,1,1,1,0,0,0,1,0,1,0,0] 20 ⟨[(1,.lst .sh (.st 0) x2),(2,.cref [.str x1.Name,.int .i64 x1.Kind,.int .i64 x1.Lo,.int .i64 x1.Hi,.lst .sh .str x1.Words] 0),(10,.int .i64 x17)],[]⟩ m p
def QQ_L18 (n:Nat) (x1:Def) (x2:List Pred) (m:Nat) (p:(List ref17_Cell)×Int):Option (List ref17_Cell):=
 LFz n false (g_61 n) (its31 n) QQ_a Tryz.f80.body [1,1,1,1,1,0,0] 18 ⟨[(1,.lst .sh (.st 0) x2),(2,.cref [.str x1.Name,.int .i64 x1.Kind,.int .i64 x1.Lo,.int .i64 x1.Hi,.lst .sh .str x1.Words] 0)],[]⟩ m p
theorem QQ_L9_s (n:Nat) (x1:Def) (x2:List Pred) (x4:Bool) (x5:Int) (m:Nat) (x6:List ref17_Cell) (x7:Bool) (x8:Int):QQ_L9 n x1 x2 x4 x5 (m+1) (x6,(x7,x8))=
 bif decide (x8< (x2.length:Int)) then
  bif !x7 then
   (idxL x2 x8).bind fun (r9:Pred)=>
   bif r9.Op==(7:Int) then
    (idxL x2 x8).bind fun (r10:Pred)=>
    bif r10.Name==x1.Name then
     (idxL x2 x8).bind fun (r11:Pred)=>
     (idxL x1.Words x5).bind fun (r12:List UInt8)=>
     QQ_L9 n x1 x2 x4 x5 m ((x6,(r11.S==r12,wrap .i64 (x8+(1:Int)))))
    else
     QQ_L9 n x1 x2 x4 x5 m ((x6,(false,wrap .i64 (x8+(1:Int)))))
   else
    QQ_L9 n x1 x2 x4 x5 m ((x6,(false,wrap .i64 (x8+(1:Int)))))
  else
   QQ_L9 n x1 x2 x4 x5 m ((x6,(true,wrap .i64 (x8+(1:Int)))))
 else
  some ((x6,x7)):=by kernel_rfl
theorem QQ_L5_s (n:Nat) (x1:Def) (x2:List Pred) (m:Nat) (x3:List ref17_Cell) (x4:Bool) (x5:Int):QQ_L5 n x1 x2 (m+1) (x3,(x4,x5))=
 bif decide (x5< (((x1.Words.length:Nat):Int))) then
  (QQ_L9 n x1 x2 x4 x5 n ((x3,(false,(0:Int))))).bind fun (r13:(List ref17_Cell)×Bool)=>
  bif bif r13.2 then true else !x4 then
   (idxL x1.Words x5).bind fun (r14:List UInt8)=>
   bif roomOK (r13.1.length+([(⟨(⟨x1.Name,x1.Kind,(0:Int),r14⟩:Attr),true⟩:ref17_Cell)].length)) 56 then
    QQ_L5 n x1 x2 m ((r13.1++[(⟨(⟨x1.Name,x1.Kind,(0:Int),r14⟩:Attr),true⟩:ref17_Cell)],(bif x4 then true else !r13.2,wrap .i64 (x5+(1:Int)))))
   else
    none
  else
   QQ_L5 n x1 x2 m ((r13.1,(bif x4 then true else !r13.2,wrap .i64 (x5+(1:Int)))))
 else
  some x3:=by kernel_rfl
theorem QQ_L20_s (n:Nat) (x1:Def) (x2:List Pred) (x17:Int) (m:Nat) (x18:List ref17_Cell) (x19 x20:Int):QQ_L20 n x1 x2 x17 (m+1) (x18,(x19,x20))=
 bif decide (x20< (x2.length:Int)) then
  (idxL x2 x20).bind fun (r21:Pred)=>
  bif r21.Op==(6:Int) then
   (idxL x2 x20).bind fun (r22:Pred)=>
   bif r22.Name==x1.Name then
    (idxL x2 x20).bind fun (r23:Pred)=>
    (whenO (decide (r23.N>x17)) (idxL x2 x20) ((⟨(0:Int),[],(0:Int),(0:Int),[],[]⟩:Pred))).bind fun (r24:Pred)=>
    bif bif decide (r23.N>x17) then decide (r24.N<x19) else false then
     (idxL x2 x20).bind fun (r25:Pred)=>
     (idxL x2 x20).bind fun (r26:Pred)=>
     bif decide (r26.M>=x17) then
      (idxL x2 x20).bind fun (r27:Pred)=>
      bif decide (r27.M<x1.Hi) then
       (idxL x2 x20).bind fun (r28:Pred)=>
       bif decide ((wrap .i64 (r28.M+(1:Int)))<r25.N) then
        (idxL x2 x20).bind fun (r29:Pred)=>
        QQ_L20 n x1 x2 x17 m ((x18,(wrap .i64 (r29.M+(1:Int)),wrap .i64 (x20+(1:Int)))))
       else
        QQ_L20 n x1 x2 x17 m ((x18,(r25.N,wrap .i64 (x20+(1:Int)))))
      else
       QQ_L20 n x1 x2 x17 m ((x18,(r25.N,wrap .i64 (x20+(1:Int)))))
     else
      QQ_L20 n x1 x2 x17 m ((x18,(r25.N,wrap .i64 (x20+(1:Int)))))
    else
     (idxL x2 x20).bind fun (r30:Pred)=>
     bif decide (r30.M>=x17) then
      (idxL x2 x20).bind fun (r31:Pred)=>
      bif decide (r31.M<x1.Hi) then
       (idxL x2 x20).bind fun (r32:Pred)=>
       bif decide ((wrap .i64 (r32.M+(1:Int)))<x19) then
        (idxL x2 x20).bind fun (r33:Pred)=>
        QQ_L20 n x1 x2 x17 m ((x18,(wrap .i64 (r33.M+(1:Int)),wrap .i64 (x20+(1:Int)))))
       else
        QQ_L20 n x1 x2 x17 m ((x18,(x19,wrap .i64 (x20+(1:Int)))))
      else
       QQ_L20 n x1 x2 x17 m ((x18,(x19,wrap .i64 (x20+(1:Int)))))
     else
      QQ_L20 n x1 x2 x17 m ((x18,(x19,wrap .i64 (x20+(1:Int)))))
   else
    QQ_L20 n x1 x2 x17 m ((x18,(x19,wrap .i64 (x20+(1:Int)))))
  else
   QQ_L20 n x1 x2 x17 m ((x18,(x19,wrap .i64 (x20+(1:Int)))))
 else
  some ((x18,x19)):=by kernel_rfl
theorem QQ_L18_s (n:Nat) (x1:Def) (x2:List Pred) (m:Nat) (x16:List ref17_Cell) (x17:Int):QQ_L18 n x1 x2 (m+1) (x16,x17)=
 (QQ_L20 n x1 x2 x17 n ((x16,(wrap .i64 (x1.Hi+(1:Int)),(0:Int))))).bind fun (r34:(List ref17_Cell)×Int)=>
 bif decide (r34.2>x1.Hi) then
  some r34.1
 else
  (ZM n ((x2,(x1.Name,(wrap .i64 (r34.2-(1:Int)),r34.2))))).bind fun (r35:Bool)=>
  bif !r35 then
   bif roomOK (r34.1.length+(([(⟨(⟨x1.Name,x1.Kind,r34.2,[]⟩:Attr),true⟩:ref17_Cell)]).length)) 56 then
    QQ_L18 n x1 x2 m ((r34.1++([(⟨(⟨x1.Name,x1.Kind,r34.2,[]⟩:Attr),true⟩:ref17_Cell)]),r34.2))
   else
    none
  else
   QQ_L18 n x1 x2 m ((r34.1,r34.2)):=by kernel_rfl
theorem QQ_eq (n:Nat) (x1:Def) (x2:List Pred):QQ n (x1,x2)=
 bif x1.Kind==(2:Int) then
  (QQ_L5 n x1 x2 n (([(⟨(⟨[],(0:Int),(0:Int),[]⟩:Attr),false⟩:ref17_Cell)],(false,(0:Int))))).bind fun (r15:List ref17_Cell)=>
  some r15
 else
  bif roomOK ((([(⟨(⟨[],(0:Int),(0:Int),[]⟩:Attr),false⟩:ref17_Cell)]).length)+(([(⟨(⟨x1.Name,x1.Kind,x1.Lo,[]⟩:Attr),true⟩:ref17_Cell)]).length)) 56 then
   (QQ_L18 n x1 x2 n ((([(⟨(⟨[],(0:Int),(0:Int),[]⟩:Attr),false⟩:ref17_Cell)])++([(⟨(⟨x1.Name,x1.Kind,x1.Lo,[]⟩:Attr),true⟩:ref17_Cell)]),x1.Lo))).bind fun (r36:List ref17_Cell)=>
   some r36
  else
   none:=by kernel_rfl
def ZK_L4 (n:Nat) (x1:Schema) (r3:List Pred) (m:Nat) (p:(List (List ref17_Cell))×Int):Option (List (List ref17_Cell)):=
 LFz n false (g_62 n) (its31 n) ZK_a Tryz.f57.body [1,1,1,0,1,0,0] 4 ⟨[(2,.ref 2 0),(5,.lst .sh (.st 0) r3)],[(2,.ro (.cells [.int .i64 x1.Dims,.int .i64 x1.Metric,.lst .sh (.st 1) x1.Defs]))]⟩ m p
theorem ZK_L4_s (n:Nat) (x1:Schema) (r3:List Pred) (m:Nat) (x4:List (List ref17_Cell)) (x5:Int):ZK_L4 n x1 r3 (m+1) (x4,x5)=
 bif decide (x5< (((x1.Defs.length:Nat):Int))) then
  (idxL x1.Defs x5).bind fun (r6:Def)=>
  (ZQ n ((r3,r6.Name))).bind fun (r7:Bool)=>
  bif r7 then
   (idxL x1.Defs x5).bind fun (r8:Def)=>
   (QQ n ((r8,r3))).bind fun (r9:List ref17_Cell)=>
   bif roomOK (x4.length+([r9].length)) 24 then
    ZK_L4 n x1 r3 m ((x4++[r9],wrap .i64 (x5+(1:Int))))
   else
    none
  else
   ZK_L4 n x1 r3 m ((x4,wrap .i64 (x5+(1:Int))))
 else
  some x4:=by kernel_rfl
theorem ZK_eq (n:Nat) (x1:Schema) (x2:Pred):ZK n (x1,x2)=
 (Zc n x2.re).bind fun (r3:List Pred)=>
 (ZK_L4 n x1 r3 n (([],(0:Int)))).bind fun (r10:List (List ref17_Cell))=>
 some r10:=by kernel_rfl
def ZR_L4 (n:Nat) (r3:List (List ref17_Cell)) (m:Nat) (p:Int×Int):Option (Int⊕Int):=
 LFz n false (g_63 n) (its31 n) ZR_a Tryz.f24.body [1,1,1,0,1,0,0] 4 ⟨[(5,.lst .sh (.slice (.st 6)) r3)],[]⟩ m p
theorem ZR_L4_s (n:Nat) (r3:List (List ref17_Cell)) (m:Nat) (x4 x5:Int):ZR_L4 n r3 (m+1) (x4,x5)=
 bif decide (x5< (r3.length:Int)) then
  (idxL r3 x5).bind fun (r6:List ref17_Cell)=>
  bif decide ((wrap .i64 (x4*(r6.length:Int)))> (4096:Int)) then
   some (.inr (4097:Int))
  else
   ZR_L4 n r3 m ((wrap .i64 (x4*(r6.length:Int)),wrap .i64 (x5+(1:Int))))
 else
  some (.inl x4):=by kernel_rfl
theorem ZR_eq (n:Nat) (x1:Schema) (x2:Pred):ZR n (x1,x2)=
 (ZK n ((x1,x2.re))).bind fun (r3:List (List ref17_Cell))=>
 (ZR_L4 n r3 n (((1:Int),(0:Int)))).bind fun (r7:Int⊕Int)=>
 Sum.elim (fun (q8:Int)=>
  some q8)
  (fun (q9:Int)=>
   some q9) r7:=by kernel_rfl
theorem XF_eq (n:Nat) (x1:Schema) (x2:Pred):XF n (x1,x2)=
 (Xv n x1).bind fun (r3:Bool)=>
 (Zd n ((x2.re,(100:Int)))).bind fun (r4:Bool)=>
 bif bif !r3 then true else !r4 then
  (Xw n (())).bind fun (r5:Bool)=>
  some r5
 else
  (Zx n ((x1,x2.re))).bind fun (r6:Int)=>
  (ZE n ((x1,x2.re))).bind fun (r7:Int)=>
  bif r6 !=r7 then
   some false
  else
   bif r6 !=(0:Int) then
    (Xw n (())).bind fun (r8:Bool)=>
    some r8
   else
    (Xw n (())).bind fun (r9:Bool)=>
    bif r9 then
     (XC n x2.re).bind fun (r10:Pred)=>
     (QP n x2.re).bind fun (r11:Pred)=>
     (QR n ((r10.re,r11.re))).bind fun (r12:Int)=>
     bif r12==(0:Int) then
      (XE n ((x1,x2.re))).bind fun (r13:Int)=>
      (ZR n ((x1,x2.re))).bind fun (r14:Int)=>
      some (r13==r14)
     else
      some false
    else
     some false:=by kernel_rfl
attribute [irreducible] Zo_L8 Zo_L2 ZL_L2 ZC_L2 Zj_L4 Zj_L9 Zu_L7 Zc_m_L3 Zd_m_L4 ZD_R3 ZY_L2 Zx_R5 ZN_L2 ZE_L5 ZS_L3 Zg_m_L2 Zy_L4 Zy_L1 ZW_L1 ZF_L4 ZF_L8 ZT_L5 ZI_L2 Zr_L5 Zr_L14 Zr_L20 Zr_L3 Zv_L3 Zv_L5 Zv_L503 Zh_L3 Zh_L5 Zh_L13 Zh_L15 Zh_L513 Za_m_L2 Zl_L9 Zl_L4 ZU_L2 Ze_m_L8 QR_m_L3 QR_m_L8 ZH_L4 QP_m_L9 QP_m_L30 QP_m_L23 Zz_L4 Zz_L1 ZX_L1 ZG_L4 ZG_L8 ZV_L5 ZJ_L2 Zs_L5 Zs_L14 Zs_L20 Zs_L3 Zw_L3 Zw_L5 Zw_L503 Zi_L3 Zi_L5 Zi_L13 Zi_L15 Zi_L513 Zb_m_L2 Zm_L9 Zm_L4 ZB_R4 ZO_L4 Zp_L9 Zp_L4 ZA_R4 Zn_R4 Zn_L9 Zt_L4 Zt_L10 Zq_R7 Zq_L3 ZP_L3 ZQ_L2 ZM_L2 QQ_L9 QQ_L5 QQ_L20 QQ_L18 ZK_L4 ZR_L4
end Sh
