import Derived.Test.YtgdialomgeijcaaGreatF3723
set_option linter.all false
noncomputable section
open Go.IntKind (wrap)
open Go Go.Proofs Aq
namespace Sh
set_option maxRecDepth 100000
def getN (l:List (Nat×Note)) (k:Nat):Note:=match look l k with
 |some q=>q
 |none=>⟨[],[],⟨[],[]⟩,[]⟩
abbrev LFz (n:Nat) (om:Bool) (K:Nat->List (FR R)) (I:IR R) (a:Ann) (c:Option Code) (q:List Nat) (l:Nat) (b:MS R.T) (m:Nat) (p:Pay R.T (getN a.loops l).sh):Option (Out R.T (getN a.loops l).outs):=loopF (R:=R) l (wrC E ((subO c q).getD .skip)) b (getN a.loops l).sh (getN a.loops l).outs (fun st k=>codeM E R n om K I a ((subO c q).getD .skip) st k) m p
abbrev tabS0:List UInt8:=[0,1,2,2,3,3,3,3,4,4,4,4,4,4,4,4,5,5,5,5,5,5,5,5,5,5,5,5,5,5,5,5,6,6,6,6,6,6,6,6,6,6,6,6,6,6,6,6,6,6,6,6,6,6,6,6,6,6,6,6,6,6,6,6,7,7,7,7,7,7,7,7,7,7,7,7,7,7,7,7,7,7,7,7,7,7,7,7,7,7,7,7,7,7,7,7,7,7,7,7,7,7,7,7,7,7,7,7,7,7,7,7,7,7,7,7,7,7,7,7,7,7,7,7,7,7,7,7,8,8,8,8,8,8,8,8,8,8,8,8,8,8,8,8,8,8,8,8,8,8,8,8,8,8,8,8,8,8,8,8,8,8,8,8,8,8,8,8,8,8,8,8,8,8,8,8,8,8,8,8,8,8,8,8,8,8,8,8,8,8,8,8,8,8,8,8,8,8,8,8,8,8,8,8,8,8,8,8,8,8,8,8,8,8,8,8,8,8,8,8,8,8,8,8,8,8,8,8,8,8,8,8,8,8,8,8,8,8,8,8,8,8,8,8,8,8,8,8,8,8,8,8,8,8,8,8]
def Zm_L8 (n:Nat) (x1:Schema) (x2 x3:Int) (r4:Def) (m:Nat) (p:Int):Option (PUnit⊕Bool):=
 LFz n false (g_0 n) iters Zm_a Tryz.f46.body [1,0,1,0,0,1,0,0,1,1,1,0,0] 8 ⟨[(1,.int .i64 x2),(2,.ref 2 0),(5,.int .i64 x3),(6,.ref 6 0)],[(2,.ro (.ro (.cells [.int .i64 x1.Dims,.int .i64 x1.Metric,.lst .sh (.st 1) x1.Defs]))),(6,.ro (.cells [.str r4.Name,.int .i64 r4.Kind,.int .i64 r4.Lo,.int .i64 r4.Hi,.lst .sh .str r4.Words]))]⟩ m p
def Zm_L2 (n:Nat) (x1:Schema) (x2:Int) (m:Nat) (p:Int):Option (PUnit⊕Bool):=
 LFz n false (g_0 n) iters Zm_a Tryz.f46.body [1,0,1,0,0] 2 ⟨[(1,.int .i64 x2),(2,.ref 2 0)],[(2,.ro (.cells [.int .i64 x1.Dims,.int .i64 x1.Metric,.lst .sh (.st 1) x1.Defs]))]⟩ m p
theorem Zm_L8_s (n:Nat) (x1:Schema) (x2 x3:Int) (r4:Def) (m:Nat) (x5:Int):Zm_L8 n x1 x2 x3 r4 (m+1) x5=
 bif decide (x5< (((r4.Words.length:Nat):Int))) then
  (idxL r4.Words x5).bind fun (r6:List UInt8)=>
  bif decide ((r6.length:Int)> (100:Int)) then
   some (.inr false)
  else
   Zm_L8 n x1 x2 x3 r4 m (wrap .i64 (x5+(1:Int)))
 else
  some (.inl (())):=by kernel_rfl
theorem Zm_L2_s (n:Nat) (x1:Schema) (x2:Int) (m:Nat) (x3:Int):Zm_L2 n x1 x2 (m+1) x3=
 bif bif decide (x3< (((x1.Defs.length:Nat):Int))) then decide (x3<=x2) else false then
  (idxL x1.Defs x3).bind fun (r4:Def)=>
  bif bif decide ((((r4.Words.length:Nat):Int))> (60:Int)) then true else decide ((((r4.Name.length:Nat):Int))> (100:Int)) then
   some (.inr false)
  else
   (Zm_L8 n x1 x2 x3 r4 n (0:Int)).bind fun (r7:PUnit⊕Bool)=>
   Sum.elim (fun (q8:PUnit)=>
    Zm_L2 n x1 x2 m (wrap .i64 (x3+(1:Int))))
    (fun (q9:Bool)=>
     some (.inr q9)) r7
 else
  some (.inl (())):=by kernel_rfl
theorem Zm_eq (n:Nat) (x1:Schema) (x2:Int):Zm n (x1,x2)=
 (Zm_L2 n x1 x2 n (0:Int)).bind fun (r10:PUnit⊕Bool)=>
 Sum.elim (fun (q11:PUnit)=>
  some (decide ((((x1.Defs.length:Nat):Int))<=x2)))
  (fun (q12:Bool)=>
   some q12) r10:=by kernel_rfl
theorem Xi_eq (n:Nat) (x1:Int):Xi n x1=
 some (bif decide (x1>=(1:Int)) then decide (x1<=(3:Int)) else false):=by kernel_rfl
def Zz_L2 (n:Nat) (x1:List (List UInt8)) (x2:List UInt8) (m:Nat) (p:Int):Option (PUnit⊕Bool):=
 LFz n false (g_2 n) iters Zz_a Tryz.f83.body [1,0,1,0,0] 2 ⟨[(0,.lst .sh .str x1),(1,.str x2)],[]⟩ m p
theorem Zz_L2_s (n:Nat) (x1:List (List UInt8)) (x2:List UInt8) (m:Nat) (x3:Int):Zz_L2 n x1 x2 (m+1) x3=
 bif decide (x3< (x1.length:Int)) then
  (idxL x1 x3).bind fun (r4:List UInt8)=>
  bif r4==x2 then
   some (.inr true)
  else
   Zz_L2 n x1 x2 m (wrap .i64 (x3+(1:Int)))
 else
  some (.inl (())):=by kernel_rfl
theorem Zz_eq (n:Nat) (x1:List (List UInt8)) (x2:List UInt8):Zz n (x1,x2)=
 (Zz_L2 n x1 x2 n (0:Int)).bind fun (r5:PUnit⊕Bool)=>
 Sum.elim (fun (q6:PUnit)=>
  some false)
  (fun (q7:Bool)=>
   some q7) r5:=by kernel_rfl
def Zx_L2 (n:Nat) (x1:List UInt8) (m:Nat) (p:Int):Option (PUnit⊕Bool):=
 LFz n false (g_3 n) iters Zx_a Tryz.f87.body [1,0,1,0,0] 2 ⟨[(0,.str x1)],[]⟩ m p
theorem Zx_L2_s (n:Nat) (x1:List UInt8) (m:Nat) (x2:Int):Zx_L2 n x1 (m+1) x2=
 bif decide (x2< (x1.length:Int)) then
  (idxL x1 x2).bind fun (r3:UInt8)=>
  bif bif !(bif decide ((r3.toNat:Int)>=(97:Int)) then decide ((r3.toNat:Int)<=(122:Int)) else false) then bif x2==(0:Int) then true else !(bif bif decide ((r3.toNat:Int)>=(48:Int)) then decide ((r3.toNat:Int)<=(57:Int)) else false then true else (r3.toNat:Int)==(95:Int)) else false then
   some (.inr false)
  else
   Zx_L2 n x1 m (wrap .i64 (x2+(1:Int)))
 else
  some (.inl (())):=by kernel_rfl
theorem Zx_eq (n:Nat) (x1:List UInt8):Zx n x1=
 (Zx_L2 n x1 n (0:Int)).bind fun (r4:PUnit⊕Bool)=>
 Sum.elim (fun (q5:PUnit)=>
  (whenO (bif decide ((x1.length:Int)>=(1:Int)) then decide ((x1.length:Int)<=(40:Int)) else false) (Zz n (([[(97:UInt8),(108:UInt8),(108:UInt8)],[(97:UInt8),(110:UInt8),(100:UInt8)],[(104:UInt8),(97:UInt8),(115:UInt8)],[(105:UInt8),(110:UInt8)],[(110:UInt8),(111:UInt8),(116:UInt8)],[(111:UInt8),(114:UInt8)]],x1))) false).bind fun (r7:Bool)=>
  some (bif bif decide ((x1.length:Int)>=(1:Int)) then decide ((x1.length:Int)<=(40:Int)) else false then !r7 else false))
  (fun (q6:Bool)=>
   some q6) r4:=by kernel_rfl
def Zn_L4 (n:Nat) (x1:List (List UInt8)) (m:Nat) (p:Int):Option (PUnit⊕Int):=
 LFz n false (g_4 n) iters Zn_a Tryz.f88.body [1,1,0,1,0,0] 4 ⟨[(0,.lst .sh .str x1)],[]⟩ m p
def Zn_L9 (n:Nat) (x1:List (List UInt8)) (m:Nat) (p:Int):Option (PUnit⊕Int):=
 LFz n false (g_4 n) iters Zn_a Tryz.f88.body [1,1,1,0,1,0,0] 9 ⟨[(0,.lst .sh .str x1)],[]⟩ m p
theorem Zn_L4_s (n:Nat) (x1:List (List UInt8)) (m:Nat) (x2:Int):Zn_L4 n x1 (m+1) x2=
 bif decide (x2< (x1.length:Int)) then
  (idxL x1 x2).bind fun (r3:List UInt8)=>
  (Zx n r3).bind fun (r4:Bool)=>
  bif !r4 then
   some (.inr (5:Int))
  else
   Zn_L4 n x1 m (wrap .i64 (x2+(1:Int)))
 else
  some (.inl (())):=by kernel_rfl
theorem Zn_L9_s (n:Nat) (x1:List (List UInt8)) (m:Nat) (x8:Int):Zn_L9 n x1 (m+1) x8=
 bif decide (x8< (x1.length:Int)) then
  (idxL x1 x8).bind fun (r9:List UInt8)=>
  (idxL x1 (wrap .i64 (x8-(1:Int)))).bind fun (r10:List UInt8)=>
  bif (Go.Op.bytesLess r9 r10)||(r9==r10) then
   some (.inr (6:Int))
  else
   Zn_L9 n x1 m (wrap .i64 (x8+(1:Int)))
 else
  some (.inl (())):=by kernel_rfl
theorem Zn_eq (n:Nat) (x1:List (List UInt8)):Zn n x1=
 bif bif decide ((x1.length:Int)< (1:Int)) then true else decide ((x1.length:Int)> (50:Int)) then
  some (2:Int)
 else
  (Zn_L4 n x1 n (0:Int)).bind fun (r5:PUnit⊕Int)=>
  Sum.elim (fun (q6:PUnit)=>
   (Zn_L9 n x1 n (1:Int)).bind fun (r11:PUnit⊕Int)=>
   Sum.elim (fun (q12:PUnit)=>
    some (0:Int))
    (fun (q13:Int)=>
     some q13) r11)
   (fun (q7:Int)=>
    some q7) r5:=by kernel_rfl
theorem ZT_eq (n:Nat) (x1:Def) (x2:List UInt8):ZT n (x1,x2)=
 (Zx n x1.Name).bind fun (r3:Bool)=>
 bif !r3 then
  some (5:Int)
 else
  bif (Go.Op.bytesLess x1.Name x2)||(x1.Name==x2) then
   some (6:Int)
  else
   bif x1.Kind==(1:Int) then
    bif bif bif decide (x1.Lo< (-1099511627776:Int)) then true else decide (x1.Hi> (1099511627776:Int)) then true else decide (x1.Lo>x1.Hi) then
     some (131:Int)
    else
     bif decide ((((x1.Words.length:Nat):Int))> (0:Int)) then
      some (3:Int)
     else
      some (0:Int)
   else
    bif x1.Kind==(2:Int) then
     bif bif x1.Lo !=(0:Int) then true else x1.Hi !=(0:Int) then
      some (3:Int)
     else
      (Zn n x1.Words).bind fun (r4:Int)=>
      some r4
    else
     some (130:Int):=by kernel_rfl
def Zy_L7 (n:Nat) (x1:Schema) (m:Nat) (p:(List UInt8)×Int):Option (PUnit⊕Int):=
 LFz n false (g_6 n) iters Zy_a Tryz.f47.body [1,1,1,1,0,1,0,0] 7 ⟨[(1,.ref 1 0)],[(1,.ro (.cells [.int .i64 x1.Dims,.int .i64 x1.Metric,.lst .sh (.st 1) x1.Defs]))]⟩ m p
theorem Zy_L7_s (n:Nat) (x1:Schema) (m:Nat) (x3:List UInt8) (x4:Int):Zy_L7 n x1 (m+1) (x3,x4)=
 bif decide (x4< (((x1.Defs.length:Nat):Int))) then
  (idxL x1.Defs x4).bind fun (r5:Def)=>
  (ZT n ((r5,x3))).bind fun (r6:Int)=>
  bif r6 !=(0:Int) then
   some (.inr r6)
  else
   (idxL x1.Defs x4).bind fun (r7:Def)=>
   Zy_L7 n x1 m ((r7.Name,wrap .i64 (x4+(1:Int))))
 else
  some (.inl (())):=by kernel_rfl
theorem Zy_eq (n:Nat) (x1:Schema):Zy n x1=
 (whenO (!(bif decide (x1.Dims< (1:Int)) then true else decide (x1.Dims> (32:Int)))) (Xi n x1.Metric) false).bind fun (r2:Bool)=>
 bif bif bif decide (x1.Dims< (1:Int)) then true else decide (x1.Dims> (32:Int)) then true else !r2 then
  some (1:Int)
 else
  bif decide ((((x1.Defs.length:Nat):Int))> (16:Int)) then
   some (2:Int)
  else
   (Zy_L7 n x1 n (([],(0:Int)))).bind fun (r8:PUnit⊕Int)=>
   Sum.elim (fun (q9:PUnit)=>
    some (0:Int))
    (fun (q10:Int)=>
     some q10) r8:=by kernel_rfl
theorem Xj_eq (n:Nat) (x1:Schema):Xj n x1=
 (Zm n ((x1,(16:Int)))).bind fun (r2:Bool)=>
 (whenO r2 (Zy n x1) (0:Int)).bind fun (r3:Int)=>
 some (bif r2 then r3==(0:Int) else false):=by kernel_rfl
def Zb_m_L3 (n g:Nat) (x1:Pred) (m:Nat) (p:(List Pred)×Int):Option (List Pred):=
 LFz n false (grp1_k n (grp1 n g)) iters Zb_a Tryz.f39.body [1,1,0,1,0,0] 3 ⟨[(1,.ref 1 0)],[(1,.ro (.cells [.int .i64 x1.Op,.str x1.Name,.int .i64 x1.N,.int .i64 x1.M,.str x1.S,.lst .sh (.st 0) x1.Subs]))]⟩ m p
theorem Zb_m_L3_s (n g:Nat) (x1:Pred) (m:Nat) (x2:List Pred) (x3:Int):Zb_m_L3 n g x1 (m+1) (x2,x3)=
 bif bif decide (x3< (((x1.Subs.length:Nat):Int))) then decide ((x2.length:Int)< (1000:Int)) else false then
  (idxL x1.Subs x3).bind fun (r4:Pred)=>
  (Zb_m n g r4.re).bind fun (r5:List Pred)=>
  bif roomOK (x2.length+r5.length) 80 then
   Zb_m_L3 n g x1 m ((x2++r5,wrap .i64 (x3+(1:Int))))
  else
   none
 else
  some x2:=by kernel_rfl
theorem Zb_m_eq (n g:Nat) (x1:Pred):Zb_m n (g+1) x1=
 (Zb_m_L3 n g x1 n (([x1.re],(0:Int)))).bind fun (r6:List Pred)=>
 bif decide ((r6.length:Int)> (1000:Int)) then
  bif inB (1000:Int) r6.length then
   some (List.take (Int.toNat (1000:Int)) r6)
  else
   none
 else
  some r6:=by kernel_rfl
theorem ZO_eq (n:Nat) (x1:Pred):ZO n x1=
 (Zb n x1.re).bind fun (r2:List Pred)=>
 some (r2.length:Int):=by kernel_rfl
def Zc_m_L4 (n g:Nat) (x1:Pred) (x2:Int) (m:Nat) (p:Int):Option (PUnit⊕Bool):=
 LFz n false (grp2_k n (grp2 n g)) iters Zc_a Tryz.f10.body [1,1,0,1,0,0] 4 ⟨[(1,.int .i64 x2),(2,.ref 2 0)],[(2,.ro (.cells [.int .i64 x1.Op,.str x1.Name,.int .i64 x1.N,.int .i64 x1.M,.str x1.S,.lst .sh (.st 0) x1.Subs]))]⟩ m p
theorem Zc_m_L4_s (n g:Nat) (x1:Pred) (x2:Int) (m:Nat) (x4:Int):Zc_m_L4 n g x1 x2 (m+1) x4=
 bif decide (x4< (((x1.Subs.length:Nat):Int))) then
  (idxL x1.Subs x4).bind fun (r5:Pred)=>
  (Zc_m n g ((r5.re,wrap .i64 (x2-(1:Int))))).bind fun (r6:Bool)=>
  bif !r6 then
   some (.inr false)
  else
   Zc_m_L4 n g x1 x2 m (wrap .i64 (x4+(1:Int)))
 else
  some (.inl (())):=by kernel_rfl
theorem Zc_m_eq (n g:Nat) (x1:Pred) (x2:Int):Zc_m n (g+1) (x1,x2)=
 (whenO (!(decide (x2< (1:Int)))) (ZO n x1.re) (0:Int)).bind fun (r3:Int)=>
 bif bif decide (x2< (1:Int)) then true else decide (r3> (100:Int)) then
  some false
 else
  (Zc_m_L4 n g x1 x2 n (0:Int)).bind fun (r7:PUnit⊕Bool)=>
  Sum.elim (fun (q8:PUnit)=>
   some true)
   (fun (q9:Bool)=>
    some q9) r7:=by kernel_rfl
theorem Xc_eq (n:Nat) (x1:Pred):Xc n x1=
 some (((),(x1.Op,(x1.Name,(x1.N,(x1.M,(x1.S,x1.Subs))))))):=by kernel_rfl
def Zs_R3 (n:Nat) (xs:List Pred) (p:PUnit×Int):Option ((PUnit×Int)⊕(PUnit×Int)):=
 foldF (R:=R) (X:=PayL R.T predEl) 3 (wrR E (subO Tryz.f14.body [1,1,0,1,0])) (⟨[(3,TV.ref 3 0)],[]⟩:MS R.T) (getN Zs_a.loops 3).sh (getN Zs_a.loops 3).outs (rndM E R n false (g_12 n) iters Zs_a (subO Tryz.f14.body [1,1,0,1,0]) predEl) xs p
theorem Zs_R3_0 (n:Nat) (x4:Int):Zs_R3 n [] ((),x4)=
 some (.inl (((),x4))):=by kernel_rfl
theorem Zs_R3_s (n:Nat) (x5:Pred) (xs:List Pred) (x6:Int):Zs_R3 n (x5::xs) ((),x6)=
 bif (wrap .i64 (x6+(1:Int)))==(1000:Int) then
  some (.inr (((),wrap .i64 (x6+(1:Int)))))
 else
  Zs_R3 n xs (((),wrap .i64 (x6+(1:Int)))):=by kernel_rfl
theorem Zs_eq (n:Nat) (x1:Pred):Zs n x1=
 (Xc n x1.re).bind fun (r2:PUnit×Int×(List UInt8)×Int×Int×(List UInt8)×List Pred)=>
 Option.bind (α:=(PUnit×Int)⊕(PUnit×Int)) (
  (partsO ((⟨r2.2.1,r2.2.2.1,r2.2.2.2.1,r2.2.2.2.2.1,r2.2.2.2.2.2.1,r2.2.2.2.2.2.2⟩:Pred))).bind fun (r3:List Pred)=>
  Zs_R3 n r3 (((),(0:Int)))) fun (r7:(PUnit×Int)⊕(PUnit×Int))=>
 Sum.elim (fun (q8:PUnit×Int)=>
  some q8.2)
  (fun (q9:PUnit×Int)=>
   some q9.2) r7:=by kernel_rfl
theorem ZU_eq (n:Nat) (x1:Pred):ZU n x1=
 bif bif bif bif !(decide (x1.Op>=(5:Int))) then !(x1.Name==[]) else false then true else bif x1.Op !=(6:Int) then bif x1.N !=(0:Int) then true else x1.M !=(0:Int) else false then true else bif x1.Op !=(7:Int) then !(x1.S==[]) else false then
  some false
 else
  bif bif bif decide (x1.N>x1.M) then true else bif bif x1.Op==(2:Int) then true else x1.Op==(3:Int) then (((x1.Subs.length:Nat):Int))==(0:Int) else false then true else bif x1.Op==(4:Int) then (((x1.Subs.length:Nat):Int)) !=(1:Int) else false then
   some false
  else
   some (bif bif bif x1.Op==(2:Int) then true else x1.Op==(3:Int) then true else x1.Op==(4:Int) then true else (((x1.Subs.length:Nat):Int))==(0:Int)):=by kernel_rfl
theorem Xm_eq (n:Nat) (x1:Def) (x2:List UInt8):Xm n (x1,x2)=
 some (x1.Name==x2):=by kernel_rfl
def ZG_L2 (n:Nat) (x1:List Def) (x2:List UInt8) (m:Nat) (p:Int):Option (PUnit⊕Int):=
 LFz n false (g_15 n) iters ZG_a Tryz.f75.body [1,0,1,0,0] 2 ⟨[(0,.lst .sh (.st 1) x1),(1,.fn 76 [] ([.cref [.str x2] 0])),(7,.int .i64 (x1.length:Int))],[]⟩ m p
theorem ZG_L2_s (n:Nat) (x1:List Def) (x2:List UInt8) (m:Nat) (x3:Int):ZG_L2 n x1 x2 (m+1) x3=
 bif decide (x3< (x1.length:Int)) then
  (idxL x1 x3).bind fun (r4:Def)=>
  (Xm n ((r4,x2))).bind fun (r5:Bool)=>
  bif r5 then
   some (.inr x3)
  else
   ZG_L2 n x1 x2 m (wrap .i64 (x3+(1:Int)))
 else
  some (.inl (())):=by kernel_rfl
theorem ZG_eq (n:Nat) (x1:List Def) (x2:List UInt8):ZG n (x1,((),x2))=
 (ZG_L2 n x1 x2 n (0:Int)).bind fun (r6:PUnit⊕Int)=>
 Sum.elim (fun (q7:PUnit)=>
  some (-1:Int))
  (fun (q8:Int)=>
   some q8) r6:=by kernel_rfl
theorem ZV_eq (n:Nat) (x1:Schema) (x2:List UInt8):ZV n (x1,x2)=
 (ZG n ((x1.Defs,((),x2)))).bind fun (r3:Int)=>
 bif decide (r3< (0:Int)) then
  some (((⟨[],(0:Int),(0:Int),(0:Int),[]⟩:Def),false))
 else
  (idxL x1.Defs r3).bind fun (r4:Def)=>
  some ((r4,true)):=by kernel_rfl
def Zt_R5 (n:Nat) (x1:Schema) (xs:List Pred) (p:PUnit×Int):Option ((PUnit×Int)⊕(PUnit×Int)):=
 foldF (R:=R) (X:=PayL R.T predEl) 5 (wrR E (subO Tryz.f19.body [1,1,0,1,0])) (⟨[(2,TV.ref 2 0),(4,TV.ref 4 0)],[(2,Ob.ro (Ob.cells [TV.int IntKind.i64 x1.Dims,TV.int IntKind.i64 x1.Metric,TV.lst (T:=R.T) Cp.sh (Ty.st 1) x1.Defs]))]⟩:MS R.T) (getN Zt_a.loops 5).sh (getN Zt_a.loops 5).outs (rndM E R n false (g_17 n) iters Zt_a (subO Tryz.f19.body [1,1,0,1,0]) predEl) xs p
theorem Zt_R5_0 (n:Nat) (x1:Schema) (x6:Int):Zt_R5 n x1 [] ((),x6)=
 some (.inl (((),x6))):=by kernel_rfl
theorem Zt_R5_s (n:Nat) (x1:Schema) (x7:Pred) (xs:List Pred) (x8:Int):Zt_R5 n x1 (x7::xs) ((),x8)=
 bif bif decide (x7.Op< (1:Int)) then true else decide (x7.Op> (7:Int)) then
  some (.inr (((),(1:Int))))
 else
  (ZU n x7.re).bind fun (r9:Bool)=>
  bif !r9 then
   some (.inr (((),(3:Int))))
  else
   bif decide (x7.Op< (5:Int)) then
    Zt_R5 n x1 xs (((),x8))
   else
    (ZV n ((x1,x7.Name))).bind fun (r10:Def×Bool)=>
    bif !r10.2 then
     some (.inr (((),(5:Int))))
    else
     bif bif bif x7.Op==(6:Int) then r10.1.Kind !=(1:Int) else false then true else bif x7.Op==(7:Int) then r10.1.Kind !=(2:Int) else false then
      some (.inr (((),(130:Int))))
     else
      Zt_R5 n x1 xs (((),x8)):=by kernel_rfl
theorem Zt_eq (n:Nat) (x1:Schema) (x2:Pred):Zt n (x1,x2)=
 (Zs n x2.re).bind fun (r3:Int)=>
 bif decide (r3> (64:Int)) then
  some (2:Int)
 else
  (Xc n x2.re).bind fun (r4:PUnit×Int×(List UInt8)×Int×Int×(List UInt8)×List Pred)=>
  Option.bind (α:=(PUnit×Int)⊕(PUnit×Int)) (
   (partsO ((⟨r4.2.1,r4.2.2.1,r4.2.2.2.1,r4.2.2.2.2.1,r4.2.2.2.2.2.1,r4.2.2.2.2.2.2⟩:Pred))).bind fun (r5:List Pred)=>
   Zt_R5 n x1 r5 (((),(0:Int)))) fun (r11:(PUnit×Int)⊕(PUnit×Int))=>
  Sum.elim (fun (q12:PUnit×Int)=>
   some (0:Int))
   (fun (q13:PUnit×Int)=>
    some q13.2) r11:=by kernel_rfl
theorem Xe_eq (n:Nat) (x1:Pred):Xe n x1=
 some ((⟨(4:Int),[],(0:Int),(0:Int),[],[x1.re]⟩:Pred)):=by kernel_rfl
theorem Xf_eq (n:Nat) (x1:Bool):Xf n x1=
 bif x1 then
  some ((⟨(1:Int),[],(0:Int),(0:Int),[],[]⟩:Pred))
 else
  (Xe n ((⟨(1:Int),[],(0:Int),(0:Int),[],[]⟩:Pred))).bind fun (r2:Pred)=>
  some r2.re:=by kernel_rfl
theorem Xg_eq (n:Nat) (x1:Int):Xg n x1=
 some (x1 !=x1):=by kernel_rfl
theorem ZW_eq (n:Nat) (x1 x2:Int):ZW n (x1,x2)=
 (Xg n x1).bind fun (r3:Bool)=>
 (Xg n x2).bind fun (r4:Bool)=>
 bif r3 then
  bif r4 then
   some (0:Int)
  else
   some (-1:Int)
 else
  bif r4 then
   some (1:Int)
  else
   bif decide (x1<x2) then
    some (-1:Int)
   else
    bif decide (x1>x2) then
     some (1:Int)
    else
     some (0:Int):=by kernel_rfl
def ZA_L3 (n:Nat) (x1:List Int) (m:Nat) (p:Int):Option (PUnit⊕Int):=
 LFz n false (g_24 n) iters ZA_a Tryz.f40.body [1,1,0,1,0,0] 3 ⟨[(3,.int .i64 (0:Int)),(6,.lst .sh (.int .i64) x1),(7,.int .i64 (x1.length:Int))],[]⟩ m p
theorem ZA_L3_s (n:Nat) (x1:List Int) (m:Nat) (x2:Int):ZA_L3 n x1 (m+1) x2=
 bif decide (x2< (x1.length:Int)) then
  (idxL x1 x2).bind fun (r3:Int)=>
  bif r3 !=(0:Int) then
   some (.inr r3)
  else
   ZA_L3 n x1 m (wrap .i64 (x2+(1:Int)))
 else
  some (.inl (())):=by kernel_rfl
theorem ZA_eq (n:Nat) (x1:List Int):ZA n x1=
 (ZA_L3 n x1 n (0:Int)).bind fun (r4:PUnit⊕Int)=>
 Sum.elim (fun (q5:PUnit)=>
  some (0:Int))
  (fun (q6:Int)=>
   some q6) r4:=by kernel_rfl
theorem QR_m_eq (n g:Nat) (x1 x2:Pred):QR_m n (g+1) (x1,x2)=
 (ZW n ((x1.Op,x2.Op))).bind fun (r3:Int)=>
 (Xk n ((x1.Name,x2.Name))).bind fun (r4:Int)=>
 (ZW n ((x1.N,x2.N))).bind fun (r5:Int)=>
 (ZW n ((x1.M,x2.M))).bind fun (r6:Int)=>
 (Xk n ((x1.S,x2.S))).bind fun (r7:Int)=>
 (Zf_m n g ((x1.Subs,(x2.Subs,((),()))))).bind fun (r8:Int)=>
 (ZA n [r3,r4,r5,r6,r7,r8]).bind fun (r9:Int)=>
 some r9:=by kernel_rfl
def Zf_m_L2 (n g:Nat) (x1 x2:List Pred) (m:Nat) (p:Int):Option (PUnit⊕Int):=
 LFz n false (grp3_k n (grp3 n g)) iters Zf_a Tryz.f43.body [1,0,1,0,0] 2 ⟨[(0,.lst .sh (.st 0) x1),(1,.lst .sh (.st 0) x2),(2,.fn 16 [] []),(11,.lst .sh (.st 0) x1),(12,.int .i64 (x1.length:Int))],[]⟩ m p
theorem Zf_m_L2_s (n g:Nat) (x1 x2:List Pred) (m:Nat) (x3:Int):Zf_m_L2 n g x1 x2 (m+1) x3=
 bif decide (x3< (x1.length:Int)) then
  (idxL x1 x3).bind fun (r4:Pred)=>
  bif decide (x3>=(x2.length:Int)) then
   some (.inr (1:Int))
  else
   (idxL x2 x3).bind fun (r5:Pred)=>
   (QR_m n g ((r4.re,r5.re))).bind fun (r6:Int)=>
   bif r6 !=(0:Int) then
    some (.inr r6)
   else
    Zf_m_L2 n g x1 x2 m (wrap .i64 (x3+(1:Int)))
 else
  some (.inl (())):=by kernel_rfl
theorem Zf_m_eq (n g:Nat) (x1 x2:List Pred):Zf_m n (g+1) (x1,(x2,((),())))=
 (Zf_m_L2 n g x1 x2 n (0:Int)).bind fun (r7:PUnit⊕Int)=>
 Sum.elim (fun (q8:PUnit)=>
  bif decide ((x1.length:Int)< (x2.length:Int)) then
   some (-1:Int)
  else
   some (0:Int))
  (fun (q9:Int)=>
   some q9) r7:=by kernel_rfl
theorem ZM_eq (n:Nat) (x1 x2:Pred):ZM n (x1,x2)=
 (QR n ((x1.re,x2.re))).bind fun (r3:Int)=>
 some (r3==(0:Int)):=by kernel_rfl
theorem Xl_eq (n:Nat) (x1:Int):Xl n x1=
 bif decide (x1>=(4294967296:Int)) then
  bif decide ((0:Int)<=(32:Int)) then
   bif decide ((bitShr .u64 x1 (32:Int))>=(65536:Int)) then
    bif decide ((0:Int)<=(16:Int)) then
     bif decide ((bitShr .u64 (bitShr .u64 x1 (32:Int)) (16:Int))>=(256:Int)) then
      bif decide ((0:Int)<=(8:Int)) then
       (idxL tabS0 (wrap .u8 (bitShr .u64 (bitShr .u64 (bitShr .u64 x1 (32:Int)) (16:Int)) (8:Int)))).bind fun (r2:UInt8)=>
       some (wrap .i64 ((wrap .i64 ((wrap .i64 ((32:Int)+(16:Int)))+(8:Int)))+(wrap .i64 (r2.toNat:Int))))
      else
       none
     else
      (idxL tabS0 (wrap .u8 (bitShr .u64 (bitShr .u64 x1 (32:Int)) (16:Int)))).bind fun (r3:UInt8)=>
      some (wrap .i64 ((wrap .i64 ((32:Int)+(16:Int)))+(wrap .i64 (r3.toNat:Int))))
    else
     none
   else
    bif decide ((bitShr .u64 x1 (32:Int))>=(256:Int)) then
     bif decide ((0:Int)<=(8:Int)) then
      (idxL tabS0 (wrap .u8 (bitShr .u64 (bitShr .u64 x1 (32:Int)) (8:Int)))).bind fun (r4:UInt8)=>
      some (wrap .i64 ((wrap .i64 ((32:Int)+(8:Int)))+(wrap .i64 (r4.toNat:Int))))
     else
      none
    else
     (idxL tabS0 (wrap .u8 (bitShr .u64 x1 (32:Int)))).bind fun (r5:UInt8)=>
     some (wrap .i64 ((32:Int)+(wrap .i64 (r5.toNat:Int))))
  else
   none
 else
  bif decide (x1>=(65536:Int)) then
   bif decide ((0:Int)<=(16:Int)) then
    bif decide ((bitShr .u64 x1 (16:Int))>=(256:Int)) then
     bif decide ((0:Int)<=(8:Int)) then
      (idxL tabS0 (wrap .u8 (bitShr .u64 (bitShr .u64 x1 (16:Int)) (8:Int)))).bind fun (r6:UInt8)=>
      some (wrap .i64 ((wrap .i64 ((wrap .i64 ((0:Int)+(16:Int)))+(8:Int)))+(wrap .i64 (r6.toNat:Int))))
     else
      none
    else
     (idxL tabS0 (wrap .u8 (bitShr .u64 x1 (16:Int)))).bind fun (r7:UInt8)=>
     some (wrap .i64 ((wrap .i64 ((0:Int)+(16:Int)))+(wrap .i64 (r7.toNat:Int))))
   else
    none
  else
   bif decide (x1>=(256:Int)) then
    bif decide ((0:Int)<=(8:Int)) then
     (idxL tabS0 (wrap .u8 (bitShr .u64 x1 (8:Int)))).bind fun (r8:UInt8)=>
     some (wrap .i64 ((wrap .i64 ((0:Int)+(8:Int)))+(wrap .i64 (r8.toNat:Int))))
    else
     none
   else
    (idxL tabS0 (wrap .u8 x1)).bind fun (r9:UInt8)=>
    some (wrap .i64 ((0:Int)+(wrap .i64 (r9.toNat:Int)))):=by kernel_rfl
theorem ZP_eq (n:Nat) (x1:Int):ZP n x1=
 (Xl n x1).bind fun (r2:Int)=>
 some r2:=by kernel_rfl
def Zo_L4 (n:Nat) (x1 x2 x4:Int) (m:Nat) (p:Int×List Pred):Option (PUnit×List Pred):=
 LFz n false (g_31 n) iters Zo_a Tryz.f107.body [1,0,0,1,0,0,1,0,0] 4 ⟨[(0,.vw 1000000 (.st 0)),(1,.int .i64 x1),(2,.int .i64 x2),(3,.fn 16 [] []),(8,.int .i64 x4)],[]⟩ m p
def Zo_L1 (n:Nat) (x1 x2:Int) (m:Nat) (p:Int×List Pred):Option (PUnit×List Pred):=
 LFz n false (g_31 n) iters Zo_a Tryz.f107.body [1,0,0] 1 ⟨[(0,.vw 1000000 (.st 0)),(1,.int .i64 x1),(2,.int .i64 x2),(3,.fn 16 [] [])],[]⟩ m p
theorem Zo_L4_s (n:Nat) (x1 x2 x4:Int) (m:Nat) (x6:Int) (x7:List Pred):Zo_L4 n x1 x2 x4 (m+1) (x6,x7)=
 bif decide (x6>x1) then
  bif decide (0<=x6/\x6< (x7.length:Int)) then
   (idxL x7 x6).bind fun (r8:Pred)=>
   bif decide (0<=(wrap .i64 (x6-(1:Int)))/\(wrap .i64 (x6-(1:Int)))< (x7.length:Int)) then
    (idxL x7 (wrap .i64 (x6-(1:Int)))).bind fun (r9:Pred)=>
    (QR n ((r8.re,r9.re))).bind fun (r10:Int)=>
    bif decide (r10< (0:Int)) then
     bif decide (0<=(wrap .i64 (x6-(1:Int)))/\(wrap .i64 (x6-(1:Int)))< (x7.length:Int)) then
      (idxL x7 (wrap .i64 (x6-(1:Int)))).bind fun (r11:Pred)=>
      bif decide (0<=x6/\x6< (x7.length:Int)) then
       (idxL x7 x6).bind fun (r12:Pred)=>
       bif decide (0<=x6/\x6< (x7.length:Int)) then
        (idxL x7 x6).bind fun (r13:Pred)=>
        bif decide (0<=(wrap .i64 (x6-(1:Int)))/\(wrap .i64 (x6-(1:Int)))< (((setL x7 x6 r11.re).length:Nat):Int)) then
         (idxL (setL x7 x6 r11.re) (wrap .i64 (x6-(1:Int)))).bind fun (r14:Pred)=>
         Zo_L4 n x1 x2 x4 m ((wrap .i64 (x6-(1:Int)),setL (setL x7 x6 r11.re) (wrap .i64 (x6-(1:Int))) r12.re))
        else
         none
       else
        none
      else
       none
     else
      none
    else
     some (((),x7))
   else
    none
  else
   none
 else
  some (((),x7)):=by kernel_rfl
theorem Zo_L1_s (n:Nat) (x1 x2:Int) (m:Nat) (x4:Int) (x5:List Pred):Zo_L1 n x1 x2 (m+1) (x4,x5)=
 bif decide (x4<x2) then
  (Zo_L4 n x1 x2 x4 n ((x4,x5))).bind fun (r15:PUnit×List Pred)=>
  Zo_L1 n x1 x2 m ((wrap .i64 (x4+(1:Int)),r15.2))
 else
  some (((),x5)):=by kernel_rfl
theorem Zo_eq (n:Nat) (x1 x2:Int) (x3:List Pred):Zo n (((),(x1,(x2,((),()))))) (x3)=
 (Zo_L1 n x1 x2 n ((wrap .i64 (x1+(1:Int)),x3))).bind fun (r16:PUnit×List Pred)=>
 some (((),r16.2)):=by kernel_rfl
def Zu_L1 (n:Nat) (x2 x3:Int) (m:Nat) (p:Int×List Pred):Option ((PUnit×List Pred)⊕(PUnit×List Pred)):=
 LFz n false (g_31 n) (its1 n) Zu_a Tryz.f122.body [1,0,0] 1 ⟨[(0,.vw 1000000 (.st 0)),(2,.int .i64 x2),(3,.int .i64 x3),(4,.fn 16 [] [])],[]⟩ m p
theorem Zu_L1_s (n:Nat) (x2 x3:Int) (m:Nat) (x5:Int) (x6:List Pred):Zu_L1 n x2 x3 (m+1) (x5,x6)=
 bif decide ((wrap .i64 ((wrap .i64 ((2:Int)*x5))+(1:Int)))>=x2) then
  some (.inl (((),x6)))
 else
  Option.bind (α:=Int) (
   bif decide ((wrap .i64 ((wrap .i64 ((wrap .i64 ((2:Int)*x5))+(1:Int)))+(1:Int)))<x2) then
    bif decide (0<=(wrap .i64 (x3+(wrap .i64 ((wrap .i64 ((2:Int)*x5))+(1:Int)))))/\(wrap .i64 (x3+(wrap .i64 ((wrap .i64 ((2:Int)*x5))+(1:Int)))))< (x6.length:Int)) then
     (idxL x6 (wrap .i64 (x3+(wrap .i64 ((wrap .i64 ((2:Int)*x5))+(1:Int)))))).bind fun (r7:Pred)=>
     bif decide (0<=(wrap .i64 ((wrap .i64 (x3+(wrap .i64 ((wrap .i64 ((2:Int)*x5))+(1:Int)))))+(1:Int)))/\(wrap .i64 ((wrap .i64 (x3+(wrap .i64 ((wrap .i64 ((2:Int)*x5))+(1:Int)))))+(1:Int)))< (x6.length:Int)) then
      (idxL x6 (wrap .i64 ((wrap .i64 (x3+(wrap .i64 ((wrap .i64 ((2:Int)*x5))+(1:Int)))))+(1:Int)))).bind fun (r8:Pred)=>
      (QR n ((r7.re,r8.re))).bind fun (r9:Int)=>
      bif decide (r9< (0:Int)) then
       some (wrap .i64 ((wrap .i64 ((wrap .i64 ((2:Int)*x5))+(1:Int)))+(1:Int)))
      else
       some (wrap .i64 ((wrap .i64 ((2:Int)*x5))+(1:Int)))
     else
      none
    else
     none
   else
    some (wrap .i64 ((wrap .i64 ((2:Int)*x5))+(1:Int)))) fun (r10:Int)=>
  bif decide (0<=(wrap .i64 (x3+x5))/\(wrap .i64 (x3+x5))< (x6.length:Int)) then
   (idxL x6 (wrap .i64 (x3+x5))).bind fun (r11:Pred)=>
   bif decide (0<=(wrap .i64 (x3+r10))/\(wrap .i64 (x3+r10))< (x6.length:Int)) then
    (idxL x6 (wrap .i64 (x3+r10))).bind fun (r12:Pred)=>
    (QR n ((r11.re,r12.re))).bind fun (r13:Int)=>
    bif !(decide (r13< (0:Int))) then
     some (.inr (((),x6)))
    else
     bif decide (0<=(wrap .i64 (x3+r10))/\(wrap .i64 (x3+r10))< (x6.length:Int)) then
      (idxL x6 (wrap .i64 (x3+r10))).bind fun (r14:Pred)=>
      bif decide (0<=(wrap .i64 (x3+x5))/\(wrap .i64 (x3+x5))< (x6.length:Int)) then
       (idxL x6 (wrap .i64 (x3+x5))).bind fun (r15:Pred)=>
       bif decide (0<=(wrap .i64 (x3+x5))/\(wrap .i64 (x3+x5))< (x6.length:Int)) then
        (idxL x6 (wrap .i64 (x3+x5))).bind fun (r16:Pred)=>
        bif decide (0<=(wrap .i64 (x3+r10))/\(wrap .i64 (x3+r10))< (((setL x6 (wrap .i64 (x3+x5)) r14.re).length:Nat):Int)) then
         (idxL (setL x6 (wrap .i64 (x3+x5)) r14.re) (wrap .i64 (x3+r10))).bind fun (r17:Pred)=>
         Zu_L1 n x2 x3 m ((r10,setL (setL x6 (wrap .i64 (x3+x5)) r14.re) (wrap .i64 (x3+r10)) r15.re))
        else
         none
       else
        none
      else
       none
     else
      none
   else
    none
  else
   none:=by kernel_rfl
theorem Zu_eq (n:Nat) (x1 x2 x3:Int) (x4:List Pred):Zu n (((),(x1,(x2,(x3,((),())))))) (x4)=
 (Zu_L1 n x2 x3 n ((x1,x4))).bind fun (r18:(PUnit×List Pred)⊕(PUnit×List Pred))=>
 Sum.elim (fun (q19:PUnit×List Pred)=>
  some (((),q19.2)))
  (fun (q20:PUnit×List Pred)=>
   some (((),q20.2))) r18:=by kernel_rfl
def Zl_L4 (n:Nat) (x1 x2:Int) (m:Nat) (p:Int×List Pred):Option (PUnit×List Pred):=
 LFz n false (g_31 n) (its2 n) Zl_a Tryz.f108.body [1,1,1,0,1,0,0] 4 ⟨[(0,.vw 1000000 (.st 0)),(3,.fn 16 [] []),(8,.int .i64 x1),(9,.int .i64 (0:Int)),(10,.int .i64 (wrap .i64 (x2-x1)))],[]⟩ m p
def Zl_L8 (n:Nat) (x1:Int) (m:Nat) (p:Int×List Pred):Option (PUnit×List Pred):=
 LFz n false (g_31 n) (its2 n) Zl_a Tryz.f108.body [1,1,1,1,1,0,0] 8 ⟨[(0,.vw 1000000 (.st 0)),(3,.fn 16 [] []),(8,.int .i64 x1),(9,.int .i64 (0:Int))],[]⟩ m p
theorem Zl_L4_s (n:Nat) (x1 x2:Int) (m:Nat) (x4:Int) (x5:List Pred):Zl_L4 n x1 x2 (m+1) (x4,x5)=
 bif decide (x4>=(0:Int)) then
  (Zu n (((),(x4,(wrap .i64 (x2-x1),(x1,((),())))))) x5).bind fun (r6:PUnit×List Pred)=>
  Zl_L4 n x1 x2 m ((wrap .i64 (x4-(1:Int)),r6.2))
 else
  some (((),x5)):=by kernel_rfl
theorem Zl_L8_s (n:Nat) (x1:Int) (m:Nat) (x8:Int) (x9:List Pred):Zl_L8 n x1 (m+1) (x8,x9)=
 bif decide (x8>=(0:Int)) then
  bif decide (0<=(wrap .i64 (x1+x8))/\(wrap .i64 (x1+x8))< (x9.length:Int)) then
   (idxL x9 (wrap .i64 (x1+x8))).bind fun (r10:Pred)=>
   bif decide (0<=x1/\x1< (x9.length:Int)) then
    (idxL x9 x1).bind fun (r11:Pred)=>
    bif decide (0<=x1/\x1< (x9.length:Int)) then
     (idxL x9 x1).bind fun (r12:Pred)=>
     bif decide (0<=(wrap .i64 (x1+x8))/\(wrap .i64 (x1+x8))< (((setL x9 x1 r10.re).length:Nat):Int)) then
      (idxL (setL x9 x1 r10.re) (wrap .i64 (x1+x8))).bind fun (r13:Pred)=>
      (Zu n (((),((0:Int),(x8,(x1,((),())))))) (setL (setL x9 x1 r10.re) (wrap .i64 (x1+x8)) r11.re)).bind fun (r14:PUnit×List Pred)=>
      Zl_L8 n x1 m ((wrap .i64 (x8-(1:Int)),r14.2))
     else
      none
    else
     none
   else
    none
  else
   none
 else
  some (((),x9)):=by kernel_rfl
theorem Zl_eq (n:Nat) (x1 x2:Int) (x3:List Pred):Zl n (((),(x1,(x2,((),()))))) (x3)=
 bif !((2:Int)==(0:Int)) then
  (Zl_L4 n x1 x2 n ((wrap .i64 (Int.tdiv (wrap .i64 ((wrap .i64 (x2-x1))-(1:Int))) (2:Int)),x3))).bind fun (r7:PUnit×List Pred)=>
  (Zl_L8 n x1 n ((wrap .i64 ((wrap .i64 (x2-x1))-(1:Int)),r7.2))).bind fun (r15:PUnit×List Pred)=>
  some (((),r15.2))
 else
  none:=by kernel_rfl
theorem ZQ_eq (n:Nat) (x1:Int):ZQ n x1=
 (ZP n (wrap .u64 x1)).bind fun (r2:Int)=>
 bif decide ((0:Int)<=r2) then
  some (bitShl .u64 (1:Int) r2)
 else
  none:=by kernel_rfl
theorem ZH_eq (n:Nat) (x1:Int):ZH n (()) (x1)=
 bif decide ((0:Int)<=(13:Int)) then
  bif decide ((0:Int)<=(7:Int)) then
   bif decide ((0:Int)<=(17:Int)) then
    some ((bitXor .u64 (bitXor .u64 (bitXor .u64 x1 (bitShl .u64 x1 (13:Int))) (bitShr .u64 (bitXor .u64 x1 (bitShl .u64 x1 (13:Int))) (7:Int))) (bitShl .u64 (bitXor .u64 (bitXor .u64 x1 (bitShl .u64 x1 (13:Int))) (bitShr .u64 (bitXor .u64 x1 (bitShl .u64 x1 (13:Int))) (7:Int))) (17:Int)),bitXor .u64 (bitXor .u64 (bitXor .u64 x1 (bitShl .u64 x1 (13:Int))) (bitShr .u64 (bitXor .u64 x1 (bitShl .u64 x1 (13:Int))) (7:Int))) (bitShl .u64 (bitXor .u64 (bitXor .u64 x1 (bitShl .u64 x1 (13:Int))) (bitShr .u64 (bitXor .u64 x1 (bitShl .u64 x1 (13:Int))) (7:Int))) (17:Int))))
   else
    none
  else
   none
 else
  none:=by kernel_rfl
def Zv_L5 (n:Nat) (x1 x2 r4:Int) (m:Nat) (p:Int×Int×List Pred):Option (PUnit×List Pred):=
 LFz n false (g_32 n) (its4 n) Zv_a Tryz.f109.body [1,1,0,1,1,1,0,0] 5 ⟨[(0,.vw 1000000 (.st 0)),(1,.int .i64 x1),(8,.int .i64 (wrap .i64 (x2-x1))),(9,.ref 9 0),(10,.int .u64 r4)],[]⟩ m p
theorem Zv_L5_s (n:Nat) (x1 x2 r4:Int) (m:Nat) (x5 x6:Int) (x7:List Pred):Zv_L5 n x1 x2 r4 (m+1) (x5,(x6,x7))=
 bif !((4:Int)==(0:Int)) then
  bif decide (x5<=(wrap .i64 ((wrap .i64 (x1+(wrap .i64 ((wrap .i64 (Int.tdiv (wrap .i64 (x2-x1)) (4:Int)))*(2:Int)))))+(1:Int)))) then
   (ZH n (()) x6).bind fun (r8:Int×Int)=>
   Option.bind (α:=Int) (
    bif decide ((wrap .i64 (bitAnd .u64 r8.1 (wrap .u64 (r4-(1:Int)))))>=(wrap .i64 (x2-x1))) then
     some (wrap .i64 ((wrap .i64 (bitAnd .u64 r8.1 (wrap .u64 (r4-(1:Int)))))-(wrap .i64 (x2-x1))))
    else
     some (wrap .i64 (bitAnd .u64 r8.1 (wrap .u64 (r4-(1:Int)))))) fun (r9:Int)=>
   bif decide (0<=(wrap .i64 (x1+r9))/\(wrap .i64 (x1+r9))< (x7.length:Int)) then
    (idxL x7 (wrap .i64 (x1+r9))).bind fun (r10:Pred)=>
    bif decide (0<=x5/\x5< (x7.length:Int)) then
     (idxL x7 x5).bind fun (r11:Pred)=>
     bif decide (0<=x5/\x5< (x7.length:Int)) then
      (idxL x7 x5).bind fun (r12:Pred)=>
      bif decide (0<=(wrap .i64 (x1+r9))/\(wrap .i64 (x1+r9))< (((setL x7 x5 r10.re).length:Nat):Int)) then
       (idxL (setL x7 x5 r10.re) (wrap .i64 (x1+r9))).bind fun (r13:Pred)=>
       Zv_L5 n x1 x2 r4 m ((wrap .i64 (x5+(1:Int)),(r8.2,setL (setL x7 x5 r10.re) (wrap .i64 (x1+r9)) r11.re)))
      else
       none
     else
      none
    else
     none
   else
    none
  else
   some (((),x7))
 else
  none:=by kernel_rfl
theorem Zv_eq (n:Nat) (x1 x2:Int) (x3:List Pred):Zv n (((),(x1,(x2,((),()))))) (x3)=
 bif decide ((wrap .i64 (x2-x1))>=(8:Int)) then
  (ZQ n (wrap .i64 (x2-x1))).bind fun (r4:Int)=>
  bif !((4:Int)==(0:Int)) then
   (Zv_L5 n x1 x2 r4 n ((wrap .i64 ((wrap .i64 (x1+(wrap .i64 ((wrap .i64 (Int.tdiv (wrap .i64 (x2-x1)) (4:Int)))*(2:Int)))))-(1:Int)),(wrap .u64 (wrap .i64 (x2-x1)),x3)))).bind fun (r14:PUnit×List Pred)=>
   some (((),r14.2))
  else
   none
 else
  some (((),x3)):=by kernel_rfl
theorem ZD_eq (n:Nat) (x1:List Pred) (x2 x3 x4:Int):ZD n ((x1,(x2,(x3,((),((),())))))) (x4)=
 (idxL x1 x3).bind fun (r5:Pred)=>
 (idxL x1 x2).bind fun (r6:Pred)=>
 (QR n ((r5.re,r6.re))).bind fun (r7:Int)=>
 bif decide (r7< (0:Int)) then
  some (((x3,x2),wrap .i64 (x4+(1:Int))))
 else
  some (((x2,x3),x4)):=by kernel_rfl
theorem ZE_eq (n:Nat) (x1:List Pred) (x2 x3 x4 x5:Int):ZE n ((x1,(x2,(x3,(x4,((),((),()))))))) (x5)=
 (ZD n ((x1,(x2,(x3,((),((),())))))) x5).bind fun (r6:(Int×Int)×Int)=>
 (ZD n ((x1,(r6.1.2,(x4,((),((),())))))) r6.2).bind fun (r7:(Int×Int)×Int)=>
 (ZD n ((x1,(r6.1.1,(r7.1.1,((),((),())))))) r7.2).bind fun (r8:(Int×Int)×Int)=>
 some ((r8.1.2,r8.2)):=by kernel_rfl
theorem ZF_eq (n:Nat) (x1:List Pred) (x2 x3:Int):ZF n ((x1,(x2,((),((),()))))) (x3)=
 (ZE n ((x1,(wrap .i64 (x2-(1:Int)),(x2,(wrap .i64 (x2+(1:Int)),((),((),()))))))) x3).bind fun (r4:Int×Int)=>
 some ((r4.1,r4.2)):=by kernel_rfl
theorem ZR_eq (n:Nat) (x1:List Pred) (x2 x3:Int):ZR n (x1,(x2,(x3,((),()))))=
 bif !((4:Int)==(0:Int)) then
  bif !((4:Int)==(0:Int)) then
   bif !((4:Int)==(0:Int)) then
    bif decide ((wrap .i64 (x3-x2))>=(8:Int)) then
     bif decide ((wrap .i64 (x3-x2))>=(50:Int)) then
      (ZF n ((x1,(wrap .i64 (x2+(wrap .i64 ((wrap .i64 (Int.tdiv (wrap .i64 (x3-x2)) (4:Int)))*(1:Int)))),((),((),()))))) (0:Int)).bind fun (r4:Int×Int)=>
      (ZF n ((x1,(wrap .i64 (x2+(wrap .i64 ((wrap .i64 (Int.tdiv (wrap .i64 (x3-x2)) (4:Int)))*(2:Int)))),((),((),()))))) r4.2).bind fun (r5:Int×Int)=>
      (ZF n ((x1,(wrap .i64 (x2+(wrap .i64 ((wrap .i64 (Int.tdiv (wrap .i64 (x3-x2)) (4:Int)))*(3:Int)))),((),((),()))))) r5.2).bind fun (r6:Int×Int)=>
      (ZE n ((x1,(r4.1,(r5.1,(r6.1,((),((),()))))))) r6.2).bind fun (r7:Int×Int)=>
      bif r7.2==(0:Int) then
       some ((r7.1,(1:Int)))
      else
       bif r7.2==(12:Int) then
        some ((r7.1,(2:Int)))
       else
        some ((r7.1,(0:Int)))
     else
      (ZE n ((x1,(wrap .i64 (x2+(wrap .i64 ((wrap .i64 (Int.tdiv (wrap .i64 (x3-x2)) (4:Int)))*(1:Int)))),(wrap .i64 (x2+(wrap .i64 ((wrap .i64 (Int.tdiv (wrap .i64 (x3-x2)) (4:Int)))*(2:Int)))),(wrap .i64 (x2+(wrap .i64 ((wrap .i64 (Int.tdiv (wrap .i64 (x3-x2)) (4:Int)))*(3:Int)))),((),((),()))))))) (0:Int)).bind fun (r8:Int×Int)=>
      bif r8.2==(0:Int) then
       some ((r8.1,(1:Int)))
      else
       bif r8.2==(12:Int) then
        some ((r8.1,(2:Int)))
       else
        some ((r8.1,(0:Int)))
    else
     bif (0:Int)==(0:Int) then
      some ((wrap .i64 (x2+(wrap .i64 ((wrap .i64 (Int.tdiv (wrap .i64 (x3-x2)) (4:Int)))*(2:Int)))),(1:Int)))
     else
      bif (0:Int)==(12:Int) then
       some ((wrap .i64 (x2+(wrap .i64 ((wrap .i64 (Int.tdiv (wrap .i64 (x3-x2)) (4:Int)))*(2:Int)))),(2:Int)))
      else
       some ((wrap .i64 (x2+(wrap .i64 ((wrap .i64 (Int.tdiv (wrap .i64 (x3-x2)) (4:Int)))*(2:Int)))),(0:Int)))
   else
    none
  else
   none
 else
  none:=by kernel_rfl
def Zw_L2 (n m:Nat) (p:(Int×Int)×List Pred):Option (PUnit×List Pred):=
 LFz n false (g_33 n) (its8 n) Zw_a Tryz.f111.body [1,1,0,0] 2 ⟨[(0,.vw 1000000 (.st 0))],[]⟩ m p
theorem Zw_L2_s (n m:Nat) (x4 x5:Int) (x6:List Pred):Zw_L2 n (m+1) ((x4,x5),x6)=
 bif decide (x4<x5) then
  bif decide (0<=x5/\x5< (x6.length:Int)) then
   (idxL x6 x5).bind fun (r7:Pred)=>
   bif decide (0<=x4/\x4< (x6.length:Int)) then
    (idxL x6 x4).bind fun (r8:Pred)=>
    bif decide (0<=x4/\x4< (x6.length:Int)) then
     (idxL x6 x4).bind fun (r9:Pred)=>
     bif decide (0<=x5/\x5< (((setL x6 x4 r7.re).length:Nat):Int)) then
      (idxL (setL x6 x4 r7.re) x5).bind fun (r10:Pred)=>
      Zw_L2 n m (((wrap .i64 (x4+(1:Int)),wrap .i64 (x5-(1:Int))),setL (setL x6 x4 r7.re) x5 r8.re))
     else
      none
    else
     none
   else
    none
  else
   none
 else
  some (((),x6)):=by kernel_rfl
theorem Zw_eq (n:Nat) (x1 x2:Int) (x3:List Pred):Zw n (((),(x1,(x2,((),()))))) (x3)=
 (Zw_L2 n n (((x1,wrap .i64 (x2-(1:Int))),x3))).bind fun (r11:PUnit×List Pred)=>
 some (((),r11.2)):=by kernel_rfl
def Za_L5 (n:Nat) (x1 x2 x5:Int) (x6:List Pred) (m:Nat) (p:Int):Option (Int):=
 LFz n false (g_33 n) (its9 n) Za_a Tryz.f112.body [1,1,0,1,0,0,1,0,0,0,0,0] 5 ⟨[(0,.vw 1000000 (.st 0)),(1,.int .i64 x1),(2,.int .i64 x2),(3,.fn 16 [] []),(10,.int .i64 x5)],[(1000000,.ro (.arr (.st 0) x6))]⟩ m p
def Za_L14 (n:Nat) (x1 x2 x5 r11:Int) (m:Nat) (p:Int×List Pred):Option (PUnit×List Pred):=
 LFz n false (g_33 n) (its9 n) Za_a Tryz.f112.body [1,1,0,1,0,0,1,0,0,1,1,1,1,0,1,0,1,0,0] 14 ⟨[(0,.vw 1000000 (.st 0)),(1,.int .i64 x1),(2,.int .i64 x2),(3,.fn 16 [] []),(9,.int .i64 r11),(10,.int .i64 x5)],[]⟩ m p
def Za_L20 (n:Nat) (x1 x2 x5 r11:Int) (m:Nat) (p:Int×List Pred):Option (PUnit×List Pred):=
 LFz n false (g_33 n) (its9 n) Za_a Tryz.f112.body [1,1,0,1,0,0,1,0,0,1,1,1,1,1,1,0,1,0,0] 20 ⟨[(0,.vw 1000000 (.st 0)),(1,.int .i64 x1),(2,.int .i64 x2),(3,.fn 16 [] []),(9,.int .i64 r11),(10,.int .i64 x5)],[]⟩ m p
def Za_L3 (n:Nat) (x1 x2:Int) (m:Nat) (p:(Int×Int)×List Pred):Option ((PUnit×List Pred)⊕(Bool×List Pred)):=
 LFz n false (g_33 n) (its9 n) Za_a Tryz.f112.body [1,1,0,1,0,0] 3 ⟨[(0,.vw 1000000 (.st 0)),(1,.int .i64 x1),(2,.int .i64 x2),(3,.fn 16 [] [])],[]⟩ m p
theorem Za_L5_s (n:Nat) (x1 x2 x5:Int) (x6:List Pred) (m:Nat) (x7:Int):Za_L5 n x1 x2 x5 x6 (m+1) x7=
 bif decide (x7<x2) then
  bif decide (0<=x7/\x7< (x6.length:Int)) then
   (idxL x6 x7).bind fun (r8:Pred)=>
   bif decide (0<=(wrap .i64 (x7-(1:Int)))/\(wrap .i64 (x7-(1:Int)))< (x6.length:Int)) then
    (idxL x6 (wrap .i64 (x7-(1:Int)))).bind fun (r9:Pred)=>
    (QR n ((r8.re,r9.re))).bind fun (r10:Int)=>
    bif !(decide (r10< (0:Int))) then
     Za_L5 n x1 x2 x5 x6 m (wrap .i64 (x7+(1:Int)))
    else
     some x7
   else
    none
  else
   none
 else
  some x7:=by kernel_rfl
theorem Za_L14_s (n:Nat) (x1 x2 x5 r11:Int) (m:Nat) (x16:Int) (x17:List Pred):Za_L14 n x1 x2 x5 r11 (m+1) (x16,x17)=
 bif decide (x16>=(1:Int)) then
  bif decide (0<=x16/\x16< (x17.length:Int)) then
   (idxL x17 x16).bind fun (r18:Pred)=>
   bif decide (0<=(wrap .i64 (x16-(1:Int)))/\(wrap .i64 (x16-(1:Int)))< (x17.length:Int)) then
    (idxL x17 (wrap .i64 (x16-(1:Int)))).bind fun (r19:Pred)=>
    (QR n ((r18.re,r19.re))).bind fun (r20:Int)=>
    bif !(decide (r20< (0:Int))) then
     some (((),x17))
    else
     bif decide (0<=(wrap .i64 (x16-(1:Int)))/\(wrap .i64 (x16-(1:Int)))< (x17.length:Int)) then
      (idxL x17 (wrap .i64 (x16-(1:Int)))).bind fun (r21:Pred)=>
      bif decide (0<=x16/\x16< (x17.length:Int)) then
       (idxL x17 x16).bind fun (r22:Pred)=>
       bif decide (0<=x16/\x16< (x17.length:Int)) then
        (idxL x17 x16).bind fun (r23:Pred)=>
        bif decide (0<=(wrap .i64 (x16-(1:Int)))/\(wrap .i64 (x16-(1:Int)))< (((setL x17 x16 r21.re).length:Nat):Int)) then
         (idxL (setL x17 x16 r21.re) (wrap .i64 (x16-(1:Int)))).bind fun (r24:Pred)=>
         Za_L14 n x1 x2 x5 r11 m ((wrap .i64 (x16-(1:Int)),setL (setL x17 x16 r21.re) (wrap .i64 (x16-(1:Int))) r22.re))
        else
         none
       else
        none
      else
       none
     else
      none
   else
    none
  else
   none
 else
  some (((),x17)):=by kernel_rfl
theorem Za_L20_s (n:Nat) (x1 x2 x5 r11:Int) (m:Nat) (x27:Int) (x28:List Pred):Za_L20 n x1 x2 x5 r11 (m+1) (x27,x28)=
 bif decide (x27<x2) then
  bif decide (0<=x27/\x27< (x28.length:Int)) then
   (idxL x28 x27).bind fun (r29:Pred)=>
   bif decide (0<=(wrap .i64 (x27-(1:Int)))/\(wrap .i64 (x27-(1:Int)))< (x28.length:Int)) then
    (idxL x28 (wrap .i64 (x27-(1:Int)))).bind fun (r30:Pred)=>
    (QR n ((r29.re,r30.re))).bind fun (r31:Int)=>
    bif !(decide (r31< (0:Int))) then
     some (((),x28))
    else
     bif decide (0<=(wrap .i64 (x27-(1:Int)))/\(wrap .i64 (x27-(1:Int)))< (x28.length:Int)) then
      (idxL x28 (wrap .i64 (x27-(1:Int)))).bind fun (r32:Pred)=>
      bif decide (0<=x27/\x27< (x28.length:Int)) then
       (idxL x28 x27).bind fun (r33:Pred)=>
       bif decide (0<=x27/\x27< (x28.length:Int)) then
        (idxL x28 x27).bind fun (r34:Pred)=>
        bif decide (0<=(wrap .i64 (x27-(1:Int)))/\(wrap .i64 (x27-(1:Int)))< (((setL x28 x27 r32.re).length:Nat):Int)) then
         (idxL (setL x28 x27 r32.re) (wrap .i64 (x27-(1:Int)))).bind fun (r35:Pred)=>
         Za_L20 n x1 x2 x5 r11 m ((wrap .i64 (x27+(1:Int)),setL (setL x28 x27 r32.re) (wrap .i64 (x27-(1:Int))) r33.re))
        else
         none
       else
        none
      else
       none
     else
      none
   else
    none
  else
   none
 else
  some (((),x28)):=by kernel_rfl
theorem Za_L3_s (n:Nat) (x1 x2:Int) (m:Nat) (x4 x5:Int) (x6:List Pred):Za_L3 n x1 x2 (m+1) ((x4,x5),x6)=
 bif decide (x5< (5:Int)) then
  (Za_L5 n x1 x2 x5 x6 n x4).bind fun (r11:Int)=>
  bif r11==x2 then
   some (.inr ((true,x6)))
  else
   bif decide ((wrap .i64 (x2-x1))< (50:Int)) then
    some (.inr ((false,x6)))
   else
    bif decide (0<=(wrap .i64 (r11-(1:Int)))/\(wrap .i64 (r11-(1:Int)))< (x6.length:Int)) then
     (idxL x6 (wrap .i64 (r11-(1:Int)))).bind fun (r12:Pred)=>
     bif decide (0<=r11/\r11< (x6.length:Int)) then
      (idxL x6 r11).bind fun (r13:Pred)=>
      bif decide (0<=r11/\r11< (x6.length:Int)) then
       (idxL x6 r11).bind fun (r14:Pred)=>
       bif decide (0<=(wrap .i64 (r11-(1:Int)))/\(wrap .i64 (r11-(1:Int)))< (((setL x6 r11 r12.re).length:Nat):Int)) then
        (idxL (setL x6 r11 r12.re) (wrap .i64 (r11-(1:Int)))).bind fun (r15:Pred)=>
        Option.bind (α:=PUnit×List Pred) (
         bif decide ((wrap .i64 (r11-x1))>=(2:Int)) then
          (Za_L14 n x1 x2 x5 r11 n ((wrap .i64 (r11-(1:Int)),setL (setL x6 r11 r12.re) (wrap .i64 (r11-(1:Int))) r13.re))).bind fun (r25:PUnit×List Pred)=>
          some (((),r25.2))
         else
          some (((),setL (setL x6 r11 r12.re) (wrap .i64 (r11-(1:Int))) r13.re))) fun (r26:PUnit×List Pred)=>
        bif decide ((wrap .i64 (x2-r11))>=(2:Int)) then
         (Za_L20 n x1 x2 x5 r11 n ((wrap .i64 (r11+(1:Int)),r26.2))).bind fun (r36:PUnit×List Pred)=>
         Za_L3 n x1 x2 m (((r11,wrap .i64 (x5+(1:Int))),r36.2))
        else
         Za_L3 n x1 x2 m (((r11,wrap .i64 (x5+(1:Int))),r26.2))
       else
        none
      else
       none
     else
      none
    else
     none
 else
  some (.inl (((),x6))):=by kernel_rfl
theorem Za_eq (n:Nat) (x1 x2:Int) (x3:List Pred):Za n (((),(x1,(x2,((),()))))) (x3)=
 (Za_L3 n x1 x2 n (((wrap .i64 (x1+(1:Int)),(0:Int)),x3))).bind fun (r37:(PUnit×List Pred)⊕(Bool×List Pred))=>
 Sum.elim (fun (q38:PUnit×List Pred)=>
  some ((false,q38.2)))
  (fun (q39:Bool×List Pred)=>
   some ((q39.1,q39.2))) r37:=by kernel_rfl
def Zd_L3 (n:Nat) (x1 x10:Int) (x11:List Pred) (m:Nat) (p:Int):Option (Int):=
 LFz n false (g_33 n) (its10 n) Zd_a Tryz.f113.body [1,1,1,0,0,0,0,0,0,0] 3 ⟨[(0,.vw 1000000 (.st 0)),(1,.int .i64 x1),(4,.fn 16 [] []),(12,.int .i64 x10)],[(1000000,.ro (.arr (.st 0) x11))]⟩ m p
def Zd_L5 (n:Nat) (x1:Int) (x11:List Pred) (r16:Int) (m:Nat) (p:Int):Option (Int):=
 LFz n false (g_33 n) (its10 n) Zd_a Tryz.f113.body [1,1,1,0,0,0,0,1,0,0,0] 5 ⟨[(0,.vw 1000000 (.st 0)),(1,.int .i64 x1),(4,.fn 16 [] []),(11,.int .i64 r16)],[(1000000,.ro (.arr (.st 0) x11))]⟩ m p
def Zd_L503 (n:Nat) (x1:Int) (m:Nat) (p:(Int×Int)×List Pred):Option (Int×List Pred):=
 LFz n false (g_33 n) (its10 n) Zd_a Tryz.f113.body [1,1,1,0,0,0] 503 ⟨[(0,.vw 1000000 (.st 0)),(1,.int .i64 x1),(4,.fn 16 [] [])],[]⟩ m p
theorem Zd_L3_s (n:Nat) (x1 x10:Int) (x11:List Pred) (m:Nat) (x12:Int):Zd_L3 n x1 x10 x11 (m+1) x12=
 bif decide (x12<=x10) then
  bif decide (0<=x1/\x1< (x11.length:Int)) then
   (idxL x11 x1).bind fun (r13:Pred)=>
   bif decide (0<=x12/\x12< (x11.length:Int)) then
    (idxL x11 x12).bind fun (r14:Pred)=>
    (QR n ((r13.re,r14.re))).bind fun (r15:Int)=>
    bif !(decide (r15< (0:Int))) then
     Zd_L3 n x1 x10 x11 m (wrap .i64 (x12+(1:Int)))
    else
     some x12
   else
    none
  else
   none
 else
  some x12:=by kernel_rfl
theorem Zd_L5_s (n:Nat) (x1:Int) (x11:List Pred) (r16:Int) (m:Nat) (x17:Int):Zd_L5 n x1 x11 r16 (m+1) x17=
 bif decide (r16<=x17) then
  bif decide (0<=x1/\x1< (x11.length:Int)) then
   (idxL x11 x1).bind fun (r18:Pred)=>
   bif decide (0<=x17/\x17< (x11.length:Int)) then
    (idxL x11 x17).bind fun (r19:Pred)=>
    (QR n ((r18.re,r19.re))).bind fun (r20:Int)=>
    bif decide (r20< (0:Int)) then
     Zd_L5 n x1 x11 r16 m (wrap .i64 (x17-(1:Int)))
    else
     some x17
   else
    none
  else
   none
 else
  some x17:=by kernel_rfl
theorem Zd_L503_s (n:Nat) (x1:Int) (m:Nat) (x9 x10:Int) (x11:List Pred):Zd_L503 n x1 (m+1) ((x9,x10),x11)=
 (Zd_L3 n x1 x10 x11 n x9).bind fun (r16:Int)=>
 (Zd_L5 n x1 x11 r16 n x10).bind fun (r21:Int)=>
 bif decide (r16>r21) then
  some ((r16,x11))
 else
  bif decide (0<=r21/\r21< (x11.length:Int)) then
   (idxL x11 r21).bind fun (r22:Pred)=>
   bif decide (0<=r16/\r16< (x11.length:Int)) then
    (idxL x11 r16).bind fun (r23:Pred)=>
    bif decide (0<=r16/\r16< (x11.length:Int)) then
     (idxL x11 r16).bind fun (r24:Pred)=>
     bif decide (0<=r21/\r21< (((setL x11 r16 r22.re).length:Nat):Int)) then
      (idxL (setL x11 r16 r22.re) r21).bind fun (r25:Pred)=>
      Zd_L503 n x1 m (((wrap .i64 (r16+(1:Int)),wrap .i64 (r21-(1:Int))),setL (setL x11 r16 r22.re) r21 r23.re))
     else
      none
    else
     none
   else
    none
  else
   none:=by kernel_rfl
theorem Zd_eq (n:Nat) (x1 x2 x3:Int) (x4:List Pred):Zd n (((),(x1,(x2,(x3,((),())))))) (x4)=
 bif decide (0<=x3/\x3< (x4.length:Int)) then
  (idxL x4 x3).bind fun (r5:Pred)=>
  bif decide (0<=x1/\x1< (x4.length:Int)) then
   (idxL x4 x1).bind fun (r6:Pred)=>
   bif decide (0<=x1/\x1< (x4.length:Int)) then
    (idxL x4 x1).bind fun (r7:Pred)=>
    bif decide (0<=x3/\x3< (((setL x4 x1 r5.re).length:Nat):Int)) then
     (idxL (setL x4 x1 r5.re) x3).bind fun (r8:Pred)=>
     (Zd_L503 n x1 n (((wrap .i64 (x1+(1:Int)),wrap .i64 (x2-(1:Int))),setL (setL x4 x1 r5.re) x3 r6.re))).bind fun (r26:Int×List Pred)=>
     some ((r26.1,r26.2))
    else
     none
   else
    none
  else
   none
 else
  none:=by kernel_rfl
def QQ_L3 (n:Nat) (x1 x2 x3:Int) (x4:List Pred) (r5 r6:Pred) (m:Nat) (p:Int):Option (Int):=
 LFz n false (g_33 n) (its11 n) QQ_a Tryz.f114.body [1,1,1,0,0,0] 3 ⟨[(0,.vw 1000000 (.st 0)),(1,.int .i64 x1),(4,.fn 16 [] []),(13,.int .i64 (wrap .i64 (x2-(1:Int))))],[(1000000,.ro (.arr (.st 0) (setL (setL x4 x1 r5.re) x3 r6.re)))]⟩ m p
def QQ_L5 (n:Nat) (x1 x3:Int) (x4:List Pred) (r5 r6:Pred) (r13:Int) (m:Nat) (p:Int):Option (Int):=
 LFz n false (g_33 n) (its11 n) QQ_a Tryz.f114.body [1,1,1,1,0,0,0] 5 ⟨[(0,.vw 1000000 (.st 0)),(1,.int .i64 x1),(4,.fn 16 [] []),(12,.int .i64 r13)],[(1000000,.ro (.arr (.st 0) (setL (setL x4 x1 r5.re) x3 r6.re)))]⟩ m p
def QQ_L13 (n:Nat) (x1 x28:Int) (x29:List Pred) (m:Nat) (p:Int):Option (Int):=
 LFz n false (g_33 n) (its11 n) QQ_a Tryz.f114.body [1,1,1,1,1,1,1,1,1,0,0,0,0,0,0,0] 13 ⟨[(0,.vw 1000000 (.st 0)),(1,.int .i64 x1),(4,.fn 16 [] []),(13,.int .i64 x28)],[(1000000,.ro (.arr (.st 0) x29))]⟩ m p
def QQ_L15 (n:Nat) (x1:Int) (x29:List Pred) (r34:Int) (m:Nat) (p:Int):Option (Int):=
 LFz n false (g_33 n) (its11 n) QQ_a Tryz.f114.body [1,1,1,1,1,1,1,1,1,0,0,0,0,1,0,0,0] 15 ⟨[(0,.vw 1000000 (.st 0)),(1,.int .i64 x1),(4,.fn 16 [] []),(12,.int .i64 r34)],[(1000000,.ro (.arr (.st 0) x29))]⟩ m p
def QQ_L513 (n:Nat) (x1:Int) (m:Nat) (p:(Int×Int)×List Pred):Option (Int×List Pred):=
 LFz n false (g_33 n) (its11 n) QQ_a Tryz.f114.body [1,1,1,1,1,1,1,1,1,0,0,0] 513 ⟨[(0,.vw 1000000 (.st 0)),(1,.int .i64 x1),(4,.fn 16 [] [])],[]⟩ m p
theorem QQ_L3_s (n:Nat) (x1 x2 x3:Int) (x4:List Pred) (r5 r6:Pred) (m:Nat) (x9:Int):QQ_L3 n x1 x2 x3 x4 r5 r6 (m+1) x9=
 bif decide (x9<=(wrap .i64 (x2-(1:Int)))) then
  bif decide (0<=x9/\x9< (((setL (setL x4 x1 r5.re) x3 r6.re).length:Nat):Int)) then
   (idxL (setL (setL x4 x1 r5.re) x3 r6.re) x9).bind fun (r10:Pred)=>
   bif decide (0<=x1/\x1< (((setL (setL x4 x1 r5.re) x3 r6.re).length:Nat):Int)) then
    (idxL (setL (setL x4 x1 r5.re) x3 r6.re) x1).bind fun (r11:Pred)=>
    (QR n ((r10.re,r11.re))).bind fun (r12:Int)=>
    bif decide (r12< (0:Int)) then
     QQ_L3 n x1 x2 x3 x4 r5 r6 m (wrap .i64 (x9+(1:Int)))
    else
     some x9
   else
    none
  else
   none
 else
  some x9:=by kernel_rfl
theorem QQ_L5_s (n:Nat) (x1 x3:Int) (x4:List Pred) (r5 r6:Pred) (r13:Int) (m:Nat) (x14:Int):QQ_L5 n x1 x3 x4 r5 r6 r13 (m+1) x14=
 bif decide (r13<=x14) then
  bif decide (0<=x14/\x14< (((setL (setL x4 x1 r5.re) x3 r6.re).length:Nat):Int)) then
   (idxL (setL (setL x4 x1 r5.re) x3 r6.re) x14).bind fun (r15:Pred)=>
   bif decide (0<=x1/\x1< (((setL (setL x4 x1 r5.re) x3 r6.re).length:Nat):Int)) then
    (idxL (setL (setL x4 x1 r5.re) x3 r6.re) x1).bind fun (r16:Pred)=>
    (QR n ((r15.re,r16.re))).bind fun (r17:Int)=>
    bif !(decide (r17< (0:Int))) then
     QQ_L5 n x1 x3 x4 r5 r6 r13 m (wrap .i64 (x14-(1:Int)))
    else
     some x14
   else
    none
  else
   none
 else
  some x14:=by kernel_rfl
theorem QQ_L13_s (n:Nat) (x1 x28:Int) (x29:List Pred) (m:Nat) (x30:Int):QQ_L13 n x1 x28 x29 (m+1) x30=
 bif decide (x30<=x28) then
  bif decide (0<=x30/\x30< (x29.length:Int)) then
   (idxL x29 x30).bind fun (r31:Pred)=>
   bif decide (0<=x1/\x1< (x29.length:Int)) then
    (idxL x29 x1).bind fun (r32:Pred)=>
    (QR n ((r31.re,r32.re))).bind fun (r33:Int)=>
    bif decide (r33< (0:Int)) then
     QQ_L13 n x1 x28 x29 m (wrap .i64 (x30+(1:Int)))
    else
     some x30
   else
    none
  else
   none
 else
  some x30:=by kernel_rfl
theorem QQ_L15_s (n:Nat) (x1:Int) (x29:List Pred) (r34:Int) (m:Nat) (x35:Int):QQ_L15 n x1 x29 r34 (m+1) x35=
 bif decide (r34<=x35) then
  bif decide (0<=x35/\x35< (x29.length:Int)) then
   (idxL x29 x35).bind fun (r36:Pred)=>
   bif decide (0<=x1/\x1< (x29.length:Int)) then
    (idxL x29 x1).bind fun (r37:Pred)=>
    (QR n ((r36.re,r37.re))).bind fun (r38:Int)=>
    bif !(decide (r38< (0:Int))) then
     QQ_L15 n x1 x29 r34 m (wrap .i64 (x35-(1:Int)))
    else
     some x35
   else
    none
  else
   none
 else
  some x35:=by kernel_rfl
theorem QQ_L513_s (n:Nat) (x1:Int) (m:Nat) (x27 x28:Int) (x29:List Pred):QQ_L513 n x1 (m+1) ((x27,x28),x29)=
 (QQ_L13 n x1 x28 x29 n x27).bind fun (r34:Int)=>
 (QQ_L15 n x1 x29 r34 n x28).bind fun (r39:Int)=>
 bif decide (r34>r39) then
  some ((r39,x29))
 else
  bif decide (0<=r39/\r39< (x29.length:Int)) then
   (idxL x29 r39).bind fun (r40:Pred)=>
   bif decide (0<=r34/\r34< (x29.length:Int)) then
    (idxL x29 r34).bind fun (r41:Pred)=>
    bif decide (0<=r34/\r34< (x29.length:Int)) then
     (idxL x29 r34).bind fun (r42:Pred)=>
     bif decide (0<=r39/\r39< (((setL x29 r34 r40.re).length:Nat):Int)) then
      (idxL (setL x29 r34 r40.re) r39).bind fun (r43:Pred)=>
      QQ_L513 n x1 m (((wrap .i64 (r34+(1:Int)),wrap .i64 (r39-(1:Int))),setL (setL x29 r34 r40.re) r39 r41.re))
     else
      none
    else
     none
   else
    none
  else
   none:=by kernel_rfl
theorem QQ_eq (n:Nat) (x1 x2 x3:Int) (x4:List Pred):QQ n (((),(x1,(x2,(x3,((),())))))) (x4)=
 bif decide (0<=x3/\x3< (x4.length:Int)) then
  (idxL x4 x3).bind fun (r5:Pred)=>
  bif decide (0<=x1/\x1< (x4.length:Int)) then
   (idxL x4 x1).bind fun (r6:Pred)=>
   bif decide (0<=x1/\x1< (x4.length:Int)) then
    (idxL x4 x1).bind fun (r7:Pred)=>
    bif decide (0<=x3/\x3< (((setL x4 x1 r5.re).length:Nat):Int)) then
     (idxL (setL x4 x1 r5.re) x3).bind fun (r8:Pred)=>
     (QQ_L3 n x1 x2 x3 x4 r5 r6 n (wrap .i64 (x1+(1:Int)))).bind fun (r13:Int)=>
     (QQ_L5 n x1 x3 x4 r5 r6 r13 n (wrap .i64 (x2-(1:Int)))).bind fun (r18:Int)=>
     bif decide (r13>r18) then
      bif decide (0<=x1/\x1< (((setL (setL x4 x1 r5.re) x3 r6.re).length:Nat):Int)) then
       (idxL (setL (setL x4 x1 r5.re) x3 r6.re) x1).bind fun (r19:Pred)=>
       bif decide (0<=r18/\r18< (((setL (setL x4 x1 r5.re) x3 r6.re).length:Nat):Int)) then
        (idxL (setL (setL x4 x1 r5.re) x3 r6.re) r18).bind fun (r20:Pred)=>
        bif decide (0<=r18/\r18< (((setL (setL x4 x1 r5.re) x3 r6.re).length:Nat):Int)) then
         (idxL (setL (setL x4 x1 r5.re) x3 r6.re) r18).bind fun (r21:Pred)=>
         bif decide (0<=x1/\x1< (((setL (setL (setL x4 x1 r5.re) x3 r6.re) r18 r19.re).length:Nat):Int)) then
          (idxL (setL (setL (setL x4 x1 r5.re) x3 r6.re) r18 r19.re) x1).bind fun (r22:Pred)=>
          some (((r18,true),setL (setL (setL (setL x4 x1 r5.re) x3 r6.re) r18 r19.re) x1 r20.re))
         else
          none
        else
         none
       else
        none
      else
       none
     else
      bif decide (0<=r18/\r18< (((setL (setL x4 x1 r5.re) x3 r6.re).length:Nat):Int)) then
       (idxL (setL (setL x4 x1 r5.re) x3 r6.re) r18).bind fun (r23:Pred)=>
       bif decide (0<=r13/\r13< (((setL (setL x4 x1 r5.re) x3 r6.re).length:Nat):Int)) then
        (idxL (setL (setL x4 x1 r5.re) x3 r6.re) r13).bind fun (r24:Pred)=>
        bif decide (0<=r13/\r13< (((setL (setL x4 x1 r5.re) x3 r6.re).length:Nat):Int)) then
         (idxL (setL (setL x4 x1 r5.re) x3 r6.re) r13).bind fun (r25:Pred)=>
         bif decide (0<=r18/\r18< (((setL (setL (setL x4 x1 r5.re) x3 r6.re) r13 r23.re).length:Nat):Int)) then
          (idxL (setL (setL (setL x4 x1 r5.re) x3 r6.re) r13 r23.re) r18).bind fun (r26:Pred)=>
          (QQ_L513 n x1 n (((wrap .i64 (r13+(1:Int)),wrap .i64 (r18-(1:Int))),setL (setL (setL (setL x4 x1 r5.re) x3 r6.re) r13 r23.re) r18 r24.re))).bind fun (r44:Int×List Pred)=>
          bif decide (0<=x1/\x1< (r44.2.length:Int)) then
           (idxL r44.2 x1).bind fun (r45:Pred)=>
           bif decide (0<=r44.1/\r44.1< (r44.2.length:Int)) then
            (idxL r44.2 r44.1).bind fun (r46:Pred)=>
            bif decide (0<=r44.1/\r44.1< (r44.2.length:Int)) then
             (idxL r44.2 r44.1).bind fun (r47:Pred)=>
             bif decide (0<=x1/\x1< (((setL r44.2 r44.1 r45.re).length:Nat):Int)) then
              (idxL (setL r44.2 r44.1 r45.re) x1).bind fun (r48:Pred)=>
              some (((r44.1,false),setL (setL r44.2 r44.1 r45.re) x1 r46.re))
             else
              none
            else
             none
           else
            none
          else
           none
         else
          none
        else
         none
       else
        none
      else
       none
    else
     none
   else
    none
  else
   none
 else
  none:=by kernel_rfl
def QP_m_L2 (n g m:Nat) (p:(Int×Int×Int×Bool×Bool)×List Pred):Option (PUnit×List Pred):=
 loopF (R:=R) 2 (wrC E ((subO Tryz.f101.body [1,1,0,0]).getD .skip)) (⟨[(0,TV.vw 1000000 (Ty.st 0)),(4,TV.fn 16 [] [])],[]⟩:MS R.T) (getN QP_a.loops 2).sh (getN QP_a.loops 2).outs (fun st k=>codeM E R n false (g_33 n) (addM 101 ⟨QP_p,QP_o,QP_r,QP_m n g⟩ (its12 n)) QP_a ((subO Tryz.f101.body [1,1,0,0]).getD .skip) st k) m p
theorem QP_m_L2_s (n g m:Nat) (x5 x6 x7:Int) (x8 x9:Bool) (x10:List Pred):QP_m_L2 n g (m+1) ((x5,(x6,(x7,(x8,x9)))),x10)=
 bif decide ((wrap .i64 (x6-x5))<=(12:Int)) then
  (Zo n (((),(x5,(x6,((),()))))) x10).bind fun (r11:PUnit×List Pred)=>
  some (((),r11.2))
 else
  bif x7==(0:Int) then
   (Zl n (((),(x5,(x6,((),()))))) x10).bind fun (r12:PUnit×List Pred)=>
   some (((),r12.2))
  else
   Option.bind (α:=Int×List Pred) (
    bif !x8 then
     (Zv n (((),(x5,(x6,((),()))))) x10).bind fun (r13:PUnit×List Pred)=>
     some ((wrap .i64 (x7-(1:Int)),r13.2))
    else
     some ((x7,x10))) fun (r14:Int×List Pred)=>
   (ZR n ((r14.2,(x5,(x6,((),())))))).bind fun (r15:Int×Int)=>
   Option.bind (α:=(Int×Int)×List Pred) (
    bif r15.2==(2:Int) then
     (Zw n (((),(x5,(x6,((),()))))) r14.2).bind fun (r16:PUnit×List Pred)=>
     some (((wrap .i64 ((wrap .i64 (x6-(1:Int)))-(wrap .i64 (r15.1-x5))),(1:Int)),r16.2))
    else
     some (((r15.1,r15.2),r14.2))) fun (r17:(Int×Int)×List Pred)=>
   Option.bind (α:=(PUnit×List Pred)⊕(PUnit×List Pred)) (
    bif bif bif x8 then x9 else false then r17.1.2==(1:Int) else false then
     (Za n (((),(x5,(x6,((),()))))) r17.2).bind fun (r18:Bool×List Pred)=>
     bif r18.1 then
      some (.inr (((),r18.2)))
     else
      some (.inl (((),r18.2)))
    else
     some (.inl (((),r17.2)))) fun (r19:(PUnit×List Pred)⊕(PUnit×List Pred))=>
   Sum.elim (fun (q20:PUnit×List Pred)=>
    bif decide (x5> (0:Int)) then
     bif decide (0<=(wrap .i64 (x5-(1:Int)))/\(wrap .i64 (x5-(1:Int)))< (q20.2.length:Int)) then
      (idxL q20.2 (wrap .i64 (x5-(1:Int)))).bind fun (r22:Pred)=>
      bif decide (0<=r17.1.1/\r17.1.1< (q20.2.length:Int)) then
       (idxL q20.2 r17.1.1).bind fun (r23:Pred)=>
       (QR n ((r22.re,r23.re))).bind fun (r24:Int)=>
       bif !(decide (r24< (0:Int))) then
        (Zd n (((),(x5,(x6,(r17.1.1,((),())))))) q20.2).bind fun (r25:Int×List Pred)=>
        QP_m_L2 n g m (((r25.1,(x6,(r14.1,(x8,x9)))),r25.2))
       else
        (QQ n (((),(x5,(x6,(r17.1.1,((),())))))) q20.2).bind fun (r26:(Int×Bool)×List Pred)=>
        bif !((8:Int)==(0:Int)) then
         bif decide ((wrap .i64 (r26.1.1-x5))< (wrap .i64 (x6-r26.1.1))) then
          (QP_m n g (((),(x5,(r26.1.1,(r14.1,((),())))))) r26.2).bind fun (r27:PUnit×List Pred)=>
          QP_m_L2 n g m (((wrap .i64 (r26.1.1+(1:Int)),(x6,(r14.1,(decide ((wrap .i64 (r26.1.1-x5))>=(wrap .i64 (Int.tdiv (wrap .i64 (x6-x5)) (8:Int)))),r26.1.2)))),r27.2))
         else
          (QP_m n g (((),(wrap .i64 (r26.1.1+(1:Int)),(x6,(r14.1,((),())))))) r26.2).bind fun (r28:PUnit×List Pred)=>
          QP_m_L2 n g m (((x5,(r26.1.1,(r14.1,(decide ((wrap .i64 (x6-r26.1.1))>=(wrap .i64 (Int.tdiv (wrap .i64 (x6-x5)) (8:Int)))),r26.1.2)))),r28.2))
        else
         none
      else
       none
     else
      none
    else
     (QQ n (((),(x5,(x6,(r17.1.1,((),())))))) q20.2).bind fun (r29:(Int×Bool)×List Pred)=>
     bif !((8:Int)==(0:Int)) then
      bif decide ((wrap .i64 (r29.1.1-x5))< (wrap .i64 (x6-r29.1.1))) then
       (QP_m n g (((),(x5,(r29.1.1,(r14.1,((),())))))) r29.2).bind fun (r30:PUnit×List Pred)=>
       QP_m_L2 n g m (((wrap .i64 (r29.1.1+(1:Int)),(x6,(r14.1,(decide ((wrap .i64 (r29.1.1-x5))>=(wrap .i64 (Int.tdiv (wrap .i64 (x6-x5)) (8:Int)))),r29.1.2)))),r30.2))
      else
       (QP_m n g (((),(wrap .i64 (r29.1.1+(1:Int)),(x6,(r14.1,((),())))))) r29.2).bind fun (r31:PUnit×List Pred)=>
       QP_m_L2 n g m (((x5,(r29.1.1,(r14.1,(decide ((wrap .i64 (x6-r29.1.1))>=(wrap .i64 (Int.tdiv (wrap .i64 (x6-x5)) (8:Int)))),r29.1.2)))),r31.2))
     else
      none)
    (fun (q21:PUnit×List Pred)=>
     some (((),q21.2))) r19:=by kernel_rfl
theorem QP_m_eq (n g:Nat) (x1 x2 x3:Int) (x4:List Pred):QP_m n (g+1) (((),(x1,(x2,(x3,((),())))))) (x4)=
 (QP_m_L2 n g n (((x1,(x2,(x3,(true,true)))),x4))).bind fun (r32:PUnit×List Pred)=>
 some (((),r32.2)):=by kernel_rfl
theorem ZI_eq (n:Nat) (x1:List Pred):ZI n (((),((),()))) (x1)=
 (ZP n (wrap .u64 (x1.length:Int))).bind fun (r2:Int)=>
 (QP n (((),((0:Int),((x1.length:Int),(r2,((),())))))) x1).bind fun (r3:PUnit×List Pred)=>
 some (((),r3.2)):=by kernel_rfl
def Zk_L9 (n:Nat) (x2:Int) (x3:List Pred) (m:Nat) (p:(Int×Int)×List Pred):Option (Int×List Pred):=
 LFz n false (g_33 n) (its14 n) Zk_a Tryz.f92.body [1,1,0,1,0,0,1,0,0,1,0,1,0,1,0,0] 9 ⟨[(0,.vw 1000000 (.st 0)),(1,.fn 90 [] []),(6,.sub 1000000 (.st 0) ((0:Int)+x2) ((0:Int)+((x3.length:Int)-(0:Int))))],[]⟩ m p
def Zk_L4 (n m:Nat) (p:Int×List Pred):Option ((PUnit×List Pred)⊕((Int×Int)×List Pred)):=
 LFz n false (g_33 n) (its14 n) Zk_a Tryz.f92.body [1,1,0,1,0,0] 4 ⟨[(0,.vw 1000000 (.st 0)),(1,.fn 90 [] [])],[]⟩ m p
theorem Zk_L9_s (n:Nat) (x2:Int) (x3:List Pred) (m:Nat) (x7 x8:Int) (x9:List Pred):Zk_L9 n x2 x3 (m+1) ((x7,x8),x9)=
 bif decide (x8< (((Int.toNat (((0:Int)+((x3.length:Int)-(0:Int)))-((0:Int)+x2)):Nat):Int))) then
  bif inJ x8 (((0:Int)+((x3.length:Int)-(0:Int)))-((0:Int)+x2)) then
   (idxL x9 (((0:Int)+x2)+x8)).bind fun (r10:Pred)=>
   bif inJ (wrap .i64 (x8-(1:Int))) (((0:Int)+((x3.length:Int)-(0:Int)))-((0:Int)+x2)) then
    (idxL x9 (((0:Int)+x2)+(wrap .i64 (x8-(1:Int))))).bind fun (r11:Pred)=>
    (ZM n ((r10.re,r11.re))).bind fun (r12:Bool)=>
    bif !r12 then
     bif inJ x8 (((0:Int)+((x3.length:Int)-(0:Int)))-((0:Int)+x2)) then
      (idxL x9 (((0:Int)+x2)+x8)).bind fun (r13:Pred)=>
      bif decide (0<=x7/\x7< (x9.length:Int)) then
       (idxL x9 x7).bind fun (r14:Pred)=>
       Zk_L9 n x2 x3 m (((wrap .i64 (x7+(1:Int)),wrap .i64 (x8+(1:Int))),setL x9 x7 r13.re))
      else
       none
     else
      none
    else
     Zk_L9 n x2 x3 m (((x7,wrap .i64 (x8+(1:Int))),x9))
   else
    none
  else
   none
 else
  some ((x7,x9)):=by kernel_rfl
theorem Zk_L4_s (n m:Nat) (x2:Int) (x3:List Pred):Zk_L4 n (m+1) (x2,x3)=
 bif decide (x2< (x3.length:Int)) then
  bif decide (0<=x2/\x2< (x3.length:Int)) then
   (idxL x3 x2).bind fun (r4:Pred)=>
   bif decide (0<=(wrap .i64 (x2-(1:Int)))/\(wrap .i64 (x2-(1:Int)))< (x3.length:Int)) then
    (idxL x3 (wrap .i64 (x2-(1:Int)))).bind fun (r5:Pred)=>
    (ZM n ((r4.re,r5.re))).bind fun (r6:Bool)=>
    bif r6 then
     bif inV x2 ((x3.length:Int)-(0:Int)) ((x3.length:Int)-(0:Int)) then
      (Zk_L9 n x2 x3 n (((x2,(1:Int)),x3))).bind fun (r15:Int×List Pred)=>
      bif inV r15.1 ((r15.2.length:Int)-(0:Int)) ((r15.2.length:Int)-(0:Int)) then
       bif inV (0:Int) r15.1 (((((clrL r15.2 ((0:Int)+r15.1) ((0:Int)+((r15.2.length:Int)-(0:Int))) ((⟨(0:Int),[],(0:Int),(0:Int),[],[]⟩:Pred))).length:Nat):Int))-(0:Int)) then
        some (.inr ((((0:Int)+(0:Int),(0:Int)+r15.1),clrL r15.2 ((0:Int)+r15.1) ((0:Int)+((r15.2.length:Int)-(0:Int))) ((⟨(0:Int),[],(0:Int),(0:Int),[],[]⟩:Pred)))))
       else
        none
      else
       none
     else
      none
    else
     Zk_L4 n m ((wrap .i64 (x2+(1:Int)),x3))
   else
    none
  else
   none
 else
  some (.inl (((),x3))):=by kernel_rfl
theorem Zk_eq (n:Nat) (x1:List Pred):Zk n (((),((),()))) (x1)=
 bif decide ((x1.length:Int)< (2:Int)) then
  some ((((0:Int),(x1.length:Int)),x1))
 else
  (Zk_L4 n n (((1:Int),x1))).bind fun (r16:(PUnit×List Pred)⊕((Int×Int)×List Pred))=>
  Sum.elim (fun (q17:PUnit×List Pred)=>
   some ((((0:Int),(q17.2.length:Int)),q17.2)))
   (fun (q18:(Int×Int)×List Pred)=>
    some (((q18.1.1,q18.1.2),q18.2))) r16:=by kernel_rfl
theorem ZX_eq (n:Nat) (x1:Pred) (x2:Int) (x3:List UInt8) (x4 x5:Int) (x6:List UInt8) (x7:List Pred):ZX n (x1,(x2,(x3,(x4,(x5,(x6,x7))))))=
 (ZM n ((x1.re,(⟨x2,x3,x4,x5,x6,x7⟩:Pred)))).bind fun (r8:Bool)=>
 some r8:=by kernel_rfl
def ZB_L2 (n:Nat) (x1:List Pred) (x2:Int) (x3:List UInt8) (x4 x5:Int) (x6:List UInt8) (x7:List Pred) (m:Nat) (p:Int):Option (PUnit⊕Int):=
 LFz n false (g_34 n) (its15 n) ZB_a Tryz.f98.body [1,0,1,0,0] 2 ⟨[(0,.lst .sh (.st 0) x1),(1,.fn 93 [] ([.cref [.int .i64 x2,.str x3,.int .i64 x4,.int .i64 x5,.str x6,.lst .sh (.st 0) x7] 0])),(7,.int .i64 (x1.length:Int))],[]⟩ m p
theorem ZB_L2_s (n:Nat) (x1:List Pred) (x2:Int) (x3:List UInt8) (x4 x5:Int) (x6:List UInt8) (x7:List Pred) (m:Nat) (x8:Int):ZB_L2 n x1 x2 x3 x4 x5 x6 x7 (m+1) x8=
 bif decide (x8< (x1.length:Int)) then
  (idxL x1 x8).bind fun (r9:Pred)=>
  (ZX n ((r9.re,(x2,(x3,(x4,(x5,(x6,x7)))))))).bind fun (r10:Bool)=>
  bif r10 then
   some (.inr x8)
  else
   ZB_L2 n x1 x2 x3 x4 x5 x6 x7 m (wrap .i64 (x8+(1:Int)))
 else
  some (.inl (())):=by kernel_rfl
theorem ZB_eq (n:Nat) (x1:List Pred) (x2:Int) (x3:List UInt8) (x4 x5:Int) (x6:List UInt8) (x7:List Pred):ZB n (x1,((),(x2,(x3,(x4,(x5,(x6,x7)))))))=
 (ZB_L2 n x1 x2 x3 x4 x5 x6 x7 n (0:Int)).bind fun (r11:PUnit⊕Int)=>
 Sum.elim (fun (q12:PUnit)=>
  some (-1:Int))
  (fun (q13:Int)=>
   some q13) r11:=by kernel_rfl
theorem ZN_eq (n:Nat) (x1:List Pred) (x2:Int) (x3:List UInt8) (x4 x5:Int) (x6:List UInt8) (x7:List Pred):ZN n (x1,((),(x2,(x3,(x4,(x5,(x6,x7)))))))=
 (ZB n ((x1,((),(x2,(x3,(x4,(x5,(x6,x7))))))))).bind fun (r8:Int)=>
 some (decide (r8>=(0:Int))):=by kernel_rfl
theorem Zg_m_eq (n g:Nat) (x1:Pred) (x2:Bool):Zg_m n (g+1) (x1,x2)=
 bif x1.Op==(4:Int) then
  (idxL x1.Subs (0:Int)).bind fun (r3:Pred)=>
  (Zg_m n g ((r3.re, !x2))).bind fun (r4:Pred)=>
  some r4.re
 else
  bif x1.Op==(2:Int) then
   (Ze_m n g ((x1.re,x2))).bind fun (r5:Pred)=>
   some r5.re
  else
   bif x1.Op==(3:Int) then
    (Ze_m n g ((x1.re,x2))).bind fun (r6:Pred)=>
    some r6.re
   else
    bif x2 then
     (Xe n x1.re).bind fun (r7:Pred)=>
     some r7.re
    else
     some x1.re:=by kernel_rfl
def Ze_m_L8 (n g:Nat) (x1:Pred) (x2:Bool) (r3:Int) (r4 r5:Pred) (m:Nat) (p:(PUnit×Int)×List Pred):Option (PUnit×List Pred):=
 LFz n true (grp4_k n (grp4 n g)) (its15 n) Ze_a Tryz.f77.body [1,1,1,1,1,1,0,1,0,0] 8 ⟨[(1,.bool x2),(4,.ref 4 0),(6,.int .i64 r3),(7,.ref 7 0),(8,.ref 8 0),(25,.lst .sh (.st 0) x1.Subs),(26,.int .i64 (((x1.Subs.length:Nat):Int)))],[(4,.ro (.cells ([.int .i64 (0:Int),.str [],.int .i64 (0:Int),.int .i64 (0:Int),.str [],.nils]))),(7,.ro (.cells [.int .i64 r4.Op,.str r4.Name,.int .i64 r4.N,.int .i64 r4.M,.str r4.S,.lst .sh (.st 0) r4.Subs])),(8,.ro (.cells [.int .i64 r5.Op,.str r5.Name,.int .i64 r5.N,.int .i64 r5.M,.str r5.S,.lst .sh (.st 0) r5.Subs]))]⟩ m p
theorem Ze_m_L8_s (n g:Nat) (x1:Pred) (x2:Bool) (r3:Int) (r4 r5:Pred) (m:Nat) (x6:Int) (x7:List Pred):Ze_m_L8 n g x1 x2 r3 r4 r5 (m+1) (((),x6),x7)=
 bif decide (x6< (((x1.Subs.length:Nat):Int))) then
  (idxL x1.Subs x6).bind fun (r8:Pred)=>
  (Zg_m n g ((r8.re,x2))).bind fun (r9:Pred)=>
  bif r9.Op==r3 then
   bif roomOK (x7.length+r9.Subs.length) 80 then
    Ze_m_L8 n g x1 x2 r3 r4 r5 m ((((),wrap .i64 (x6+(1:Int))),x7++r9.Subs))
   else
    none
  else
   (ZM n ((r9.re,r4.re))).bind fun (r10:Bool)=>
   bif !r10 then
    bif roomOK (x7.length+([r9.re].length)) 80 then
     Ze_m_L8 n g x1 x2 r3 r4 r5 m ((((),wrap .i64 (x6+(1:Int))),x7++[r9.re]))
    else
     none
   else
    Ze_m_L8 n g x1 x2 r3 r4 r5 m ((((),wrap .i64 (x6+(1:Int))),x7))
 else
  some (((),x7)):=by kernel_rfl
theorem Ze_m_eq (n g:Nat) (x1:Pred) (x2:Bool):Ze_m n (g+1) (x1,x2)=
 Option.bind (α:=Int) (
  bif !((x1.Op==(2:Int))==x2) then
   some (2:Int)
  else
   some (3:Int)) fun (r3:Int)=>
 (Xf n (!((x1.Op==(2:Int))==x2))).bind fun (r4:Pred)=>
 (Xf n (!(!((x1.Op==(2:Int))==x2)))).bind fun (r5:Pred)=>
 (Ze_m_L8 n g x1 x2 r3 r4 r5 n ((((),(0:Int)),[]))).bind fun (r11:PUnit×List Pred)=>
 (ZI n (((),((),()))) r11.2).bind fun (r12:PUnit×List Pred)=>
 (Zk n (((),((),()))) r12.2).bind fun (r13:(Int×Int)×List Pred)=>
 (ZN n ((subI r13.2 r13.1.1 r13.1.2,((),(r5.Op,(r5.Name,(r5.N,(r5.M,(r5.S,r5.Subs))))))))).bind fun (r14:Bool)=>
 bif r14 then
  some r5.re
 else
  bif (((Int.toNat (r13.1.2-r13.1.1):Nat):Int))==(0:Int) then
   some r4.re
  else
   bif (((Int.toNat (r13.1.2-r13.1.1):Nat):Int))==(1:Int) then
    bif inJ (0:Int) (r13.1.2-r13.1.1) then
     (idxL r13.2 (r13.1.1+(0:Int))).bind fun (r15:Pred)=>
     some r15.re
    else
     none
   else
    some ((⟨r3,[],(0:Int),(0:Int),[],subI r13.2 r13.1.1 r13.1.2⟩:Pred)):=by kernel_rfl
theorem ZK_eq (n:Nat) (x1:Pred):ZK n x1=
 (Zg n ((x1.re,false))).bind fun (r2:Pred)=>
 some r2.re:=by kernel_rfl
theorem ZS_eq (n:Nat) (x1:Pred):ZS n x1=
 some ((⟨(4:Int),[],(0:Int),(0:Int),[],[x1.re]⟩:Pred)):=by kernel_rfl
theorem ZY_eq (n:Nat) (x1:List Attr) (x2:Pred):ZY n (x1,x2)=
 some true:=by kernel_rfl
theorem Xh_eq (n:Nat) (x1:Attr) (x2:List UInt8):Xh n (x1,x2)=
 some (x1.Name==x2):=by kernel_rfl
def ZC_L2 (n:Nat) (x1:List Attr) (x2:List UInt8) (m:Nat) (p:Int):Option (PUnit⊕Int):=
 LFz n false (g_42 n) (its15 n) ZC_a Tryz.f99.body [1,0,1,0,0] 2 ⟨[(0,.lst .sh (.st 3) x1),(1,.fn 100 [] ([.cref [.str x2] 0])),(7,.int .i64 (x1.length:Int))],[]⟩ m p
theorem ZC_L2_s (n:Nat) (x1:List Attr) (x2:List UInt8) (m:Nat) (x3:Int):ZC_L2 n x1 x2 (m+1) x3=
 bif decide (x3< (x1.length:Int)) then
  (idxL x1 x3).bind fun (r4:Attr)=>
  (Xh n ((r4,x2))).bind fun (r5:Bool)=>
  bif r5 then
   some (.inr x3)
  else
   ZC_L2 n x1 x2 m (wrap .i64 (x3+(1:Int)))
 else
  some (.inl (())):=by kernel_rfl
theorem ZC_eq (n:Nat) (x1:List Attr) (x2:List UInt8):ZC n (x1,((),x2))=
 (ZC_L2 n x1 x2 n (0:Int)).bind fun (r6:PUnit⊕Int)=>
 Sum.elim (fun (q7:PUnit)=>
  some (-1:Int))
  (fun (q8:Int)=>
   some q8) r6:=by kernel_rfl
theorem ZL_eq (n:Nat) (x1:List Attr) (x2:List UInt8):ZL n (x1,x2)=
 (ZC n ((x1,((),x2)))).bind fun (r3:Int)=>
 bif decide (r3< (0:Int)) then
  some (((⟨[],(0:Int),(0:Int),[]⟩:Attr),false))
 else
  (idxL x1 r3).bind fun (r4:Attr)=>
  some ((r4,true)):=by kernel_rfl
theorem ZZ_eq (n:Nat) (x1:List Attr) (x2:Pred):ZZ n (x1,x2)=
 (ZL n ((x1,x2.Name))).bind fun (r3:Attr×Bool)=>
 some r3.2:=by kernel_rfl
theorem Xa_eq (n:Nat) (x1:List Attr) (x2:Pred):Xa n (x1,x2)=
 (ZL n ((x1,x2.Name))).bind fun (r3:Attr×Bool)=>
 some (bif bif bif r3.2 then r3.1.Kind==(1:Int) else false then decide (r3.1.N>=x2.N) else false then decide (r3.1.N<=x2.M) else false):=by kernel_rfl
theorem Xb_eq (n:Nat) (x1:List Attr) (x2:Pred):Xb n (x1,x2)=
 (ZL n ((x1,x2.Name))).bind fun (r3:Attr×Bool)=>
 some (bif bif r3.2 then r3.1.Kind==(2:Int) else false then r3.1.S==x2.S else false):=by kernel_rfl
theorem Zi_m_eq (n g:Nat) (x1:List Attr) (x2:Pred):Zi_m n (g+1) (x1,x2)=
 bif x2.Op==(1:Int) then
  (ZY n ((x1,x2.re))).bind fun (r3:Bool)=>
  some r3
 else
  bif x2.Op==(2:Int) then
   (Zh_m n g ((x1,x2.re))).bind fun (r4:Bool)=>
   some r4
  else
   bif x2.Op==(3:Int) then
    (Zp_m n g ((x1,x2.re))).bind fun (r5:Bool)=>
    some r5
   else
    bif x2.Op==(4:Int) then
     (Zr_m n g ((x1,x2.re))).bind fun (r6:Bool)=>
     some r6
    else
     bif x2.Op==(5:Int) then
      (ZZ n ((x1,x2.re))).bind fun (r7:Bool)=>
      some r7
     else
      bif x2.Op==(6:Int) then
       (Xa n ((x1,x2.re))).bind fun (r8:Bool)=>
       some r8
      else
       bif x2.Op==(7:Int) then
        (Xb n ((x1,x2.re))).bind fun (r9:Bool)=>
        some r9
       else
        some false:=by kernel_rfl
def Zh_m_L2 (n g:Nat) (x1:List Attr) (x2:Pred) (m:Nat) (p:Int):Option (PUnit⊕Bool):=
 LFz n false (grp5_k n (grp5 n g)) (its15 n) Zh_a Tryz.f63.body [1,0,1,0,0] 2 ⟨[(0,.lst .sh (.st 3) x1),(8,.lst .sh (.st 0) x2.Subs),(9,.int .i64 (((x2.Subs.length:Nat):Int)))],[]⟩ m p
theorem Zh_m_L2_s (n g:Nat) (x1:List Attr) (x2:Pred) (m:Nat) (x3:Int):Zh_m_L2 n g x1 x2 (m+1) x3=
 bif decide (x3< (((x2.Subs.length:Nat):Int))) then
  (idxL x2.Subs x3).bind fun (r4:Pred)=>
  (Zi_m n g ((x1,r4.re))).bind fun (r5:Bool)=>
  bif !r5 then
   some (.inr false)
  else
   Zh_m_L2 n g x1 x2 m (wrap .i64 (x3+(1:Int)))
 else
  some (.inl (())):=by kernel_rfl
theorem Zh_m_eq (n g:Nat) (x1:List Attr) (x2:Pred):Zh_m n (g+1) (x1,x2)=
 (Zh_m_L2 n g x1 x2 n (0:Int)).bind fun (r6:PUnit⊕Bool)=>
 Sum.elim (fun (q7:PUnit)=>
  some true)
  (fun (q8:Bool)=>
   some q8) r6:=by kernel_rfl
theorem Zp_m_eq (n g:Nat) (x1:List Attr) (x2:Pred):Zp_m n (g+1) (x1,x2)=
 (Zq_m n g ((x2.Subs,(x1,())))).bind fun (r3:Bool)=>
 some r3:=by kernel_rfl
theorem Zq_m_eq (n g:Nat) (x1:List Pred) (x2:List Attr):Zq_m n (g+1) (x1,(x2,()))=
 (Zj_m n g ((x1,(x2,())))).bind fun (r3:Int)=>
 some (decide (r3>=(0:Int))):=by kernel_rfl
def Zj_m_L2 (n g:Nat) (x1:List Pred) (x2:List Attr) (m:Nat) (p:Int):Option (PUnit⊕Int):=
 LFz n false (grp5_k n (grp5 n g)) (its15 n) Zj_a Tryz.f98.body [1,0,1,0,0] 2 ⟨[(0,.lst .sh (.st 0) x1),(1,.fn 36 [.lst .sh (.st 3) x2] []),(7,.int .i64 (x1.length:Int))],[]⟩ m p
theorem Zj_m_L2_s (n g:Nat) (x1:List Pred) (x2:List Attr) (m:Nat) (x3:Int):Zj_m_L2 n g x1 x2 (m+1) x3=
 bif decide (x3< (x1.length:Int)) then
  (idxL x1 x3).bind fun (r4:Pred)=>
  (Zi_m n g ((x2,r4.re))).bind fun (r5:Bool)=>
  bif r5 then
   some (.inr x3)
  else
   Zj_m_L2 n g x1 x2 m (wrap .i64 (x3+(1:Int)))
 else
  some (.inl (())):=by kernel_rfl
theorem Zj_m_eq (n g:Nat) (x1:List Pred) (x2:List Attr):Zj_m n (g+1) (x1,(x2,()))=
 (Zj_m_L2 n g x1 x2 n (0:Int)).bind fun (r6:PUnit⊕Int)=>
 Sum.elim (fun (q7:PUnit)=>
  some (-1:Int))
  (fun (q8:Int)=>
   some q8) r6:=by kernel_rfl
theorem Zr_m_eq (n g:Nat) (x1:List Attr) (x2:Pred):Zr_m n (g+1) (x1,x2)=
 (Zp_m n g ((x1,x2.re))).bind fun (r3:Bool)=>
 some (!r3):=by kernel_rfl
theorem ZJ_eq (n:Nat) (x1:Pred) (x2:List Attr):ZJ n (x1,x2)=
 (Zi n ((x2,x1.re))).bind fun (r3:Bool)=>
 some r3:=by kernel_rfl
theorem Xn_eq (n:Nat) (x1:Schema) (x2:Pred) (x3:List Attr):Xn n (x1,(x2,x3))=
 (Xj n x1).bind fun (r4:Bool)=>
 (Zc n ((x2.re,(100:Int)))).bind fun (r5:Bool)=>
 (whenO (!(bif bif !r4 then true else !r5 then true else decide ((x3.length:Int)> (20:Int)))) (Zt n ((x1,x2.re))) (0:Int)).bind fun (r6:Int)=>
 bif bif bif bif !r4 then true else !r5 then true else decide ((x3.length:Int)> (20:Int)) then true else r6 !=(0:Int) then
  (Xd n (())).bind fun (r7:Bool)=>
  some r7
 else
  (ZK n x2.re).bind fun (r8:Pred)=>
  (ZS n x2.re).bind fun (r9:Pred)=>
  (ZK n r9.re).bind fun (r10:Pred)=>
  (ZJ n ((r8.re,x3))).bind fun (r11:Bool)=>
  (ZJ n ((x2.re,x3))).bind fun (r12:Bool)=>
  bif !(!(r11==r12)) then
   (ZJ n ((r10.re,x3))).bind fun (r13:Bool)=>
   (ZJ n ((x2.re,x3))).bind fun (r14:Bool)=>
   bif !(r13==r14) then
    (Zs n r8.re).bind fun (r15:Int)=>
    (Zs n x2.re).bind fun (r16:Int)=>
    bif decide (r15> (wrap .i64 ((2:Int)*r16))) then
     some false
    else
     (Xd n (())).bind fun (r17:Bool)=>
     bif r17 then
      (ZK n r8.re).bind fun (r18:Pred)=>
      (QR n ((r18.re,r8.re))).bind fun (r19:Int)=>
      bif r19==(0:Int) then
       (ZS n r10.re).bind fun (r20:Pred)=>
       (ZK n r20.re).bind fun (r21:Pred)=>
       (QR n ((r21.re,r8.re))).bind fun (r22:Int)=>
       some (r22==(0:Int))
      else
       some false
     else
      some false
   else
    some false
  else
   some false:=by kernel_rfl
attribute [irreducible] Zm_L8 Zm_L2 Zz_L2 Zx_L2 Zn_L4 Zn_L9 Zy_L7 Zb_m_L3 Zc_m_L4 Zs_R3 ZG_L2 Zt_R5 ZA_L3 Zf_m_L2 Zo_L4 Zo_L1 Zu_L1 Zl_L4 Zl_L8 Zv_L5 Zw_L2 Za_L5 Za_L14 Za_L20 Za_L3 Zd_L3 Zd_L5 Zd_L503 QQ_L3 QQ_L5 QQ_L13 QQ_L15 QQ_L513 QP_m_L2 Zk_L9 Zk_L4 ZB_L2 Ze_m_L8 ZC_L2 Zh_m_L2 Zj_m_L2
end Sh
