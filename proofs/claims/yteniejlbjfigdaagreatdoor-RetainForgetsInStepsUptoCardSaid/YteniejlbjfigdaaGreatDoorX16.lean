/- Part of the proof of a law. -/
import Derived.Test.YteniejlbjfigdaaGreatDoorX15
set_option linter.all false
set_option linter.unusedSimpArgs false
set_option linter.unusedSectionVars false
open Go Go.Proofs Aq
namespace Sh
set_option maxRecDepth 100000
set_option linter.unusedVariables false
def aR (l:List (Nat×Note)) (k:Nat):Note:=match look l k with
 |some q=>q
 |none=>⟨[],[],⟨[],[]⟩,[]⟩
noncomputable def wh (n:Nat) (x1:Entry) (m:Nat) (p:Int):Option (PUnit⊕Bool):=
 dw (R:=R) 2 (aI ((aQ Tryz.f75.body [1,0,1,0,0]).getD .skip)) (⟨[(1,Aq.TV.ref 1 0)],[(1,Aq.Ob.ro (Aq.Ob.cells [Aq.TV.int Go.IntKind.i64 x1.ID,Aq.TV.int Go.IntKind.i64 x1.eG,Aq.TV.int Go.IntKind.i64 x1.eU,Aq.TV.int Go.IntKind.i64 x1.gQ,Aq.TV.int Go.IntKind.i64 x1.From,Aq.TV.int Go.IntKind.i64 x1.To,Aq.TV.int Go.IntKind.i64 x1.fM,Aq.TV.ak Aq.Cp.sh (Aq.Ty.int Go.IntKind.i64) x1.Vec,Aq.TV.ak Aq.Cp.sh (Aq.Ty.st 2) x1.aM]))]⟩:Aq.MS R.T) (aR Mj.loops 2).sh (aR Mj.loops 2).outs (fun st k=>bD E R n false (Mi n) aJ Mj ((aQ Tryz.f75.body [1,0,1,0,0]).getD .skip) st k) m p
attribute [irreducible] wh
theorem aaS (n:Nat) (x1:Entry) (p:Int):wh n x1 0 p=none:=by kernel_rfl
theorem Tj (n:Nat) (x1:Entry) (m:Nat) (x2:Int):wh n x1 (m+1) x2=
 bif bif decide (x2< (((x1.aM.length:Nat):Int))) then decide (x2≤((20:Int))) else false then
  (aL x1.aM x2).bind fun (r3:Attr)=>
  (iG (!(decide ((((r3.Name.length:Nat):Int))> ((300:Int))))) (aL x1.aM x2) ((⟨[],(0:Int),(0:Int),[]⟩:Attr))).bind fun (r4:Attr)=>
  bif bif decide ((((r3.Name.length:Nat):Int))> ((300:Int))) then true else decide ((((r4.S.length:Nat):Int))> ((300:Int))) then
   some (.inr false)
  else
   wh n x1 m (Go.IntKind.wrap Go.IntKind.i64 (x2+((1:Int))))
 else
  some (.inl (())):=by kernel_rfl
theorem aaT (n:Nat) (x1:Entry):xU n x1=
 (wh n x1 n ((0:Int))).bind fun (r5:PUnit⊕Bool)=>
 Sum.elim (fun (q6:PUnit)=>
  some (bif decide ((((x1.Vec.length:Nat):Int))≤((40:Int))) then decide ((((x1.aM.length:Nat):Int))≤((20:Int))) else false))
  (fun (q7:Bool)=>
   some q7) r5:=by kernel_rfl
noncomputable def qY (n:Nat) (x1:List Event) (x2:Int) (m:Nat) (p:Int):Option (PUnit⊕Bool):=
 dw (R:=R) 2 (aI ((aQ Tryz.f38.body [1,0,1,0,0]).getD .skip)) (⟨[(0,Aq.TV.ak Aq.Cp.sh (Aq.Ty.st 13) x1),(1,Aq.TV.int Go.IntKind.i64 x2)],[]⟩:Aq.MS R.T) (aR Ml.loops 2).sh (aR Ml.loops 2).outs (fun st k=>bD E R n false (Mk n) aJ Ml ((aQ Tryz.f38.body [1,0,1,0,0]).getD .skip) st k) m p
attribute [irreducible] qY
theorem aaU (n:Nat) (x1:List Event) (x2:Int) (p:Int):qY n x1 x2 0 p=none:=by kernel_rfl
theorem NU (n:Nat) (x1:List Event) (x2:Int) (m:Nat) (x3:Int):qY n x1 x2 (m+1) x3=
 bif bif decide (x3< (((x1.length:Nat):Int))) then decide (x3≤x2) else false then
  (aL x1 x3).bind fun (r4:Event)=>
  (aL x1 x3).bind fun (r5:Event)=>
  (xU n ((⟨(0:Int),(0:Int),(0:Int),(0:Int),(0:Int),(0:Int),(0:Int),r4.Vec,r5.aM⟩:Entry))).bind fun (r6:Bool)=>
  bif !r6 then
   some (.inr false)
  else
   qY n x1 x2 m (Go.IntKind.wrap Go.IntKind.i64 (x3+((1:Int))))
 else
  some (.inl (())):=by kernel_rfl
theorem aaV (n:Nat) (x1:List Event) (x2:Int):vR n (x1,x2)=
 (qY n x1 x2 n ((0:Int))).bind fun (r7:PUnit⊕Bool)=>
 Sum.elim (fun (q8:PUnit)=>
  some (decide ((((x1.length:Nat):Int))≤x2)))
  (fun (q9:Bool)=>
   some q9) r7:=by kernel_rfl
noncomputable def wm (n:Nat) (x1:aD) (x2:Int) (x3:Int) (r4:Def) (m:Nat) (p:Int):Option (PUnit⊕Bool):=
 dw (R:=R) 8 (aI ((aQ Tryz.f43.body [1,0,1,0,0,1,0,0,1,1,1,0,0]).getD .skip)) (⟨[(1,Aq.TV.int Go.IntKind.i64 x2),(2,Aq.TV.ref 2 0),(5,Aq.TV.int Go.IntKind.i64 x3),(6,Aq.TV.ref 6 0)],[(2,Aq.Ob.ro (Aq.Ob.ro (Aq.Ob.cells [Aq.TV.int Go.IntKind.i64 x1.fF,Aq.TV.int Go.IntKind.i64 x1.gB,Aq.TV.ak Aq.Cp.sh (Aq.Ty.st 0) x1.Defs]))),(6,Aq.Ob.ro (Aq.Ob.cells [Aq.TV.str r4.Name,Aq.TV.int Go.IntKind.i64 r4.Kind,Aq.TV.int Go.IntKind.i64 r4.Lo,Aq.TV.int Go.IntKind.i64 r4.Hi,Aq.TV.ak Aq.Cp.sh Aq.Ty.str r4.Words]))]⟩:Aq.MS R.T) (aR xV.loops 8).sh (aR xV.loops 8).outs (fun st k=>bD E R n false (Gp n) aJ xV ((aQ Tryz.f43.body [1,0,1,0,0,1,0,0,1,1,1,0,0]).getD .skip) st k) m p
attribute [irreducible] wm
noncomputable def wo (n:Nat) (x1:aD) (x2:Int) (m:Nat) (p:Int):Option (PUnit⊕Bool):=
 dw (R:=R) 2 (aI ((aQ Tryz.f43.body [1,0,1,0,0]).getD .skip)) (⟨[(1,Aq.TV.int Go.IntKind.i64 x2),(2,Aq.TV.ref 2 0)],[(2,Aq.Ob.ro (Aq.Ob.cells [Aq.TV.int Go.IntKind.i64 x1.fF,Aq.TV.int Go.IntKind.i64 x1.gB,Aq.TV.ak Aq.Cp.sh (Aq.Ty.st 0) x1.Defs]))]⟩:Aq.MS R.T) (aR xV.loops 2).sh (aR xV.loops 2).outs (fun st k=>bD E R n false (Gp n) aJ xV ((aQ Tryz.f43.body [1,0,1,0,0]).getD .skip) st k) m p
attribute [irreducible] wo
theorem aaW (n:Nat) (x1:aD) (x2:Int) (x3:Int) (r4:Def) (m:Nat) (x5:Int):wm n x1 x2 x3 r4 (m+1) x5=
 bif decide (x5< (((r4.Words.length:Nat):Int))) then
  (aL r4.Words x5).bind fun (r6:List UInt8)=>
  bif decide ((((r6.length:Nat):Int))> ((100:Int))) then
   some (.inr false)
  else
   wm n x1 x2 x3 r4 m (Go.IntKind.wrap Go.IntKind.i64 (x5+((1:Int))))
 else
  some (.inl (())):=by kernel_rfl
theorem aaX (n:Nat) (x1:aD) (x2:Int) (m:Nat) (x3:Int):wo n x1 x2 (m+1) x3=
 bif bif decide (x3< (((x1.Defs.length:Nat):Int))) then decide (x3≤x2) else false then
  (aL x1.Defs x3).bind fun (r4:Def)=>
  bif bif decide ((((r4.Words.length:Nat):Int))> ((60:Int))) then true else decide ((((r4.Name.length:Nat):Int))> ((100:Int))) then
   some (.inr false)
  else
   (wm n x1 x2 x3 r4 n ((0:Int))).bind fun (r7:PUnit⊕Bool)=>
   Sum.elim (fun (q8:PUnit)=>
    wo n x1 x2 m (Go.IntKind.wrap Go.IntKind.i64 (x3+((1:Int)))))
    (fun (q9:Bool)=>
     some (.inr q9)) r7
 else
  some (.inl (())):=by kernel_rfl
theorem alb (n:Nat) (x1:aD) (x2:Int):Bh n (x1,x2)=
 (wo n x1 x2 n ((0:Int))).bind fun (dR:PUnit⊕Bool)=>
 Sum.elim (fun (I9:PUnit)=>
  some (decide ((((x1.Defs.length:Nat):Int))≤x2)))
  (fun (NV:Bool)=>
   some NV) dR:=by kernel_rfl
theorem alc (n:Nat) (x1:Int):Bl n x1=
 some (bif decide (x1≥((1:Int))) then decide (x1≤((3:Int))) else false):=by kernel_rfl
noncomputable def Ja (n:Nat) (x1:List (List UInt8)) (x2:List UInt8) (m:Nat) (p:Int):Option (PUnit⊕Bool):=
 dw (R:=R) 2 (aI ((aQ Tryz.f197.body [1,0,1,0,0]).getD .skip)) (⟨[(0,Aq.TV.ak Aq.Cp.sh Aq.Ty.str x1),(1,Aq.TV.str x2)],[]⟩:Aq.MS R.T) (aR Mr.loops 2).sh (aR Mr.loops 2).outs (fun st k=>bD E R n false (Mq n) aJ Mr ((aQ Tryz.f197.body [1,0,1,0,0]).getD .skip) st k) m p
attribute [irreducible] Ja
theorem aaY (n:Nat) (x1:List (List UInt8)) (x2:List UInt8) (m:Nat) (x3:Int):Ja n x1 x2 (m+1) x3=
 bif decide (x3< (((x1.length:Nat):Int))) then
  (aL x1 x3).bind fun (r4:List UInt8)=>
  bif r4==x2 then
   some (.inr true)
  else
   Ja n x1 x2 m (Go.IntKind.wrap Go.IntKind.i64 (x3+((1:Int))))
 else
  some (.inl (())):=by kernel_rfl
theorem ald (n:Nat) (x1:List (List UInt8)) (x2:List UInt8):vS n (x1,x2)=
 (Ja n x1 x2 n ((0:Int))).bind fun (r5:PUnit⊕Bool)=>
 Sum.elim (fun (q6:PUnit)=>
  some false)
  (fun (q7:Bool)=>
   some q7) r5:=by kernel_rfl
noncomputable def wu (n:Nat) (x1:List UInt8) (m:Nat) (p:Int):Option (PUnit⊕Bool):=
 dw (R:=R) 2 (aI ((aQ Tryz.f150.body [1,0,1,0,0]).getD .skip)) (⟨[(0,Aq.TV.str x1)],[]⟩:Aq.MS R.T) (aR Mt.loops 2).sh (aR Mt.loops 2).outs (fun st k=>bD E R n false (Ms n) aJ Mt ((aQ Tryz.f150.body [1,0,1,0,0]).getD .skip) st k) m p
attribute [irreducible] wu
theorem aaZ (n:Nat) (x1:List UInt8) (m:Nat) (x2:Int):wu n x1 (m+1) x2=
 bif decide (x2< (((x1.length:Nat):Int))) then
  (aL x1 x2).bind fun (r3:UInt8)=>
  bif bif !(bif decide ((((r3.toNat:Nat):Int))≥((97:Int))) then decide ((((r3.toNat:Nat):Int))≤((122:Int))) else false) then bif x2==((0:Int)) then true else !(bif bif decide ((((r3.toNat:Nat):Int))≥((48:Int))) then decide ((((r3.toNat:Nat):Int))≤((57:Int))) else false then true else (((r3.toNat:Nat):Int))==((95:Int))) else false then
   some (.inr false)
  else
   wu n x1 m (Go.IntKind.wrap Go.IntKind.i64 (x2+((1:Int))))
 else
  some (.inl (())):=by kernel_rfl
theorem ale (n:Nat) (x1:List UInt8):xW n x1=
 (wu n x1 n ((0:Int))).bind fun (r4:PUnit⊕Bool)=>
 Sum.elim (fun (q5:PUnit)=>
  (iG (bif decide ((((x1.length:Nat):Int))≥((1:Int))) then decide ((((x1.length:Nat):Int))≤((40:Int))) else false) (vS n (([[(97:UInt8),(108:UInt8),(108:UInt8)],[(97:UInt8),(110:UInt8),(100:UInt8)],[(104:UInt8),(97:UInt8),(115:UInt8)],[(105:UInt8),(110:UInt8)],[(110:UInt8),(111:UInt8),(116:UInt8)],[(111:UInt8),(114:UInt8)]],x1))) false).bind fun (r7:Bool)=>
  some (bif bif decide ((((x1.length:Nat):Int))≥((1:Int))) then decide ((((x1.length:Nat):Int))≤((40:Int))) else false then !r7 else false))
  (fun (q6:Bool)=>
   some q6) r4:=by kernel_rfl
noncomputable def wz (n:Nat) (x1:List (List UInt8)) (m:Nat) (p:Int):Option (PUnit⊕Int):=
 dw (R:=R) 4 (aI ((aQ Tryz.f151.body [1,1,0,1,0,0]).getD .skip)) (⟨[(0,Aq.TV.ak Aq.Cp.sh Aq.Ty.str x1)],[]⟩:Aq.MS R.T) (aR xX.loops 4).sh (aR xX.loops 4).outs (fun st k=>bD E R n false (Gu n) aJ xX ((aQ Tryz.f151.body [1,1,0,1,0,0]).getD .skip) st k) m p
attribute [irreducible] wz
noncomputable def wB (n:Nat) (x1:List (List UInt8)) (m:Nat) (p:Int):Option (PUnit⊕Int):=
 dw (R:=R) 9 (aI ((aQ Tryz.f151.body [1,1,1,0,1,0,0]).getD .skip)) (⟨[(0,Aq.TV.ak Aq.Cp.sh Aq.Ty.str x1)],[]⟩:Aq.MS R.T) (aR xX.loops 9).sh (aR xX.loops 9).outs (fun st k=>bD E R n false (Gu n) aJ xX ((aQ Tryz.f151.body [1,1,1,0,1,0,0]).getD .skip) st k) m p
attribute [irreducible] wB
theorem aa0 (n:Nat) (x1:List (List UInt8)) (m:Nat) (x2:Int):wz n x1 (m+1) x2=
 bif decide (x2< (((x1.length:Nat):Int))) then
  (aL x1 x2).bind fun (r3:List UInt8)=>
  (xW n r3).bind fun (r4:Bool)=>
  bif !r4 then
   some (.inr ((5:Int)))
  else
   wz n x1 m (Go.IntKind.wrap Go.IntKind.i64 (x2+((1:Int))))
 else
  some (.inl (())):=by kernel_rfl
theorem aa1 (n:Nat) (x1:List (List UInt8)) (m:Nat) (x8:Int):wB n x1 (m+1) x8=
 bif decide (x8< (((x1.length:Nat):Int))) then
  (aL x1 x8).bind fun (r9:List UInt8)=>
  (aL x1 (Go.IntKind.wrap Go.IntKind.i64 (x8-((1:Int))))).bind fun (dR:List UInt8)=>
  bif (Go.Op.bytesLess r9 dR)||(r9==dR) then
   some (.inr ((6:Int)))
  else
   wB n x1 m (Go.IntKind.wrap Go.IntKind.i64 (x8+((1:Int))))
 else
  some (.inl (())):=by kernel_rfl
theorem alf (n:Nat) (x1:List (List UInt8)):Bq n x1=
 bif bif decide ((((x1.length:Nat):Int))< ((1:Int))) then true else decide ((((x1.length:Nat):Int))> ((50:Int))) then
  some ((2:Int))
 else
  (wz n x1 n ((0:Int))).bind fun (r5:PUnit⊕Int)=>
  Sum.elim (fun (q6:PUnit)=>
   (wB n x1 n ((1:Int))).bind fun (dV:PUnit⊕Int)=>
   Sum.elim (fun (NV:PUnit)=>
    some ((0:Int)))
    (fun (q13:Int)=>
     some q13) dV)
   (fun (q7:Int)=>
    some q7) r5:=by kernel_rfl
theorem alh (n:Nat) (x1:Def) (x2:List UInt8):Bt n (x1,x2)=
 (xW n x1.Name).bind fun (r3:Bool)=>
 bif !r3 then
  some ((5:Int))
 else
  bif (Go.Op.bytesLess x1.Name x2)||(x1.Name==x2) then
   some ((6:Int))
  else
   bif x1.Kind==((1:Int)) then
    bif bif bif decide (x1.Lo< ((-1099511627776:Int))) then true else decide (x1.Hi> ((1099511627776:Int))) then true else decide (x1.Lo>x1.Hi) then
     some ((131:Int))
    else
     bif decide ((((x1.Words.length:Nat):Int))> ((0:Int))) then
      some ((3:Int))
     else
      some ((0:Int))
   else
    bif x1.Kind==((2:Int)) then
     bif bif x1.Lo !=((0:Int)) then true else x1.Hi !=((0:Int)) then
      some ((3:Int))
     else
      (Bq n x1.Words).bind fun (r4:Int)=>
      some r4
    else
     some ((130:Int)):=by kernel_rfl
noncomputable def wC (n:Nat) (x1:aD) (m:Nat) (p:(List UInt8)×Int):Option (PUnit⊕Int):=
 dw (R:=R) 7 (aI ((aQ Tryz.f45.body [1,1,1,1,0,1,0,0]).getD .skip)) (⟨[(1,Aq.TV.ref 1 0)],[(1,Aq.Ob.ro (Aq.Ob.cells [Aq.TV.int Go.IntKind.i64 x1.fF,Aq.TV.int Go.IntKind.i64 x1.gB,Aq.TV.ak Aq.Cp.sh (Aq.Ty.st 0) x1.Defs]))]⟩:Aq.MS R.T) (aR Mw.loops 7).sh (aR Mw.loops 7).outs (fun st k=>bD E R n false (Mv n) aJ Mw ((aQ Tryz.f45.body [1,1,1,1,0,1,0,0]).getD .skip) st k) m p
attribute [irreducible] wC
theorem aa2 (n:Nat) (x1:aD) (m:Nat) (x3:List UInt8) (x4:Int):wC n x1 (m+1) (x3,x4)=
 bif decide (x4< (((x1.Defs.length:Nat):Int))) then
  (aL x1.Defs x4).bind fun (r5:Def)=>
  (Bt n ((r5,x3))).bind fun (r6:Int)=>
  bif r6 !=((0:Int)) then
   some (.inr r6)
  else
   (aL x1.Defs x4).bind fun (r7:Def)=>
   wC n x1 m ((r7.Name,Go.IntKind.wrap Go.IntKind.i64 (x4+((1:Int)))))
 else
  some (.inl (())):=by kernel_rfl
theorem ali (n:Nat) (x1:aD):xY n x1=
 (iG (!(bif decide (x1.fF< ((1:Int))) then true else decide (x1.fF> ((32:Int))))) (Bl n x1.gB) false).bind fun (r2:Bool)=>
 bif bif bif decide (x1.fF< ((1:Int))) then true else decide (x1.fF> ((32:Int))) then true else !r2 then
  some ((1:Int))
 else
  bif decide ((((x1.Defs.length:Nat):Int))> ((16:Int))) then
   some ((2:Int))
  else
   (wC n x1 n (([],(0:Int)))).bind fun (r8:PUnit⊕Int)=>
   Sum.elim (fun (q9:PUnit)=>
    some ((0:Int)))
    (fun (wD:Int)=>
     some wD) r8:=by kernel_rfl
theorem aa3 (n:Nat) (x1:aD):xZ n x1=
 (xY n x1).bind fun (r2:Int)=>
 bif r2 !=((0:Int)) then
  some ((⟨(⟨(⟨(0:Int),(0:Int),[]⟩:aD),(0:Int),(0:Int),[],[]⟩:Book),r2⟩:aY))
 else
  some ((⟨(⟨x1,(0:Int),(0:Int),[],[]⟩:Book),(0:Int)⟩:aY)):=by kernel_rfl
noncomputable def Jb (n:Nat) (x1:Book) (x2:Int) (m:Nat) (p:Int):Option (PUnit⊕Bool):=
 dw (R:=R) 2 (aI ((aQ Tryz.f192.body [1,0,1,0,0]).getD .skip)) (⟨[(1,Aq.TV.int Go.IntKind.i64 x2),(2,Aq.TV.ref 2 0)],[(2,Aq.Ob.ro (Aq.Ob.cells [Aq.TV.int Go.IntKind.i64 x1.aD.fF,Aq.TV.int Go.IntKind.i64 x1.aD.gB,Aq.TV.ak Aq.Cp.sh (Aq.Ty.st 0) x1.aD.Defs,Aq.TV.int Go.IntKind.i64 x1.aH,Aq.TV.int Go.IntKind.i64 x1.Day,Aq.TV.ak Aq.Cp.sh (Aq.Ty.int Go.IntKind.i64) x1.bV,Aq.TV.ak Aq.Cp.sh (Aq.Ty.st 4) x1.Rows]))]⟩:Aq.MS R.T) (aR MB.loops 2).sh (aR MB.loops 2).outs (fun st k=>bD E R n false (Mx n) aJ MB ((aQ Tryz.f192.body [1,0,1,0,0]).getD .skip) st k) m p
attribute [irreducible] Jb
theorem aa4 (n:Nat) (x1:Book) (x2:Int) (m:Nat) (x3:Int):Jb n x1 x2 (m+1) x3=
 bif decide (x3< (((x1.Rows.length:Nat):Int))) then
  (aL x1.Rows x3).bind fun (r4:Row)=>
  bif r4.Entry.ID==x2 then
   some (.inr true)
  else
   Jb n x1 x2 m (Go.IntKind.wrap Go.IntKind.i64 (x3+((1:Int))))
 else
  some (.inl (())):=by kernel_rfl
theorem alj (n:Nat) (x1:Book) (x2:Int):Bz n (x1,x2)=
 (Jb n x1 x2 n ((0:Int))).bind fun (r5:PUnit⊕Bool)=>
 Sum.elim (fun (q6:PUnit)=>
  some false)
  (fun (q7:Bool)=>
   some q7) r5:=by kernel_rfl
noncomputable def wE (n:Nat) (x1:List Int) (m:Nat) (p:Int):Option (PUnit⊕Bool):=
 dw (R:=R) 2 (aI ((aQ Tryz.f221.body [1,0,1,0,0]).getD .skip)) (⟨[(0,Aq.TV.ak Aq.Cp.sh (Aq.Ty.int Go.IntKind.i64) x1)],[]⟩:Aq.MS R.T) (aR ME.loops 2).sh (aR ME.loops 2).outs (fun st k=>bD E R n false (MC n) aJ ME ((aQ Tryz.f221.body [1,0,1,0,0]).getD .skip) st k) m p
attribute [irreducible] wE
theorem aa5 (n:Nat) (x1:List Int) (m:Nat) (x2:Int):wE n x1 (m+1) x2=
 bif decide (x2< (((x1.length:Nat):Int))) then
  (aL x1 x2).bind fun (r3:Int)=>
  (iG (!(decide (r3< ((-1000:Int))))) (aL x1 x2) ((0:Int))).bind fun (r4:Int)=>
  bif bif decide (r3< ((-1000:Int))) then true else decide (r4> ((1000:Int))) then
   some (.inr false)
  else
   wE n x1 m (Go.IntKind.wrap Go.IntKind.i64 (x2+((1:Int))))
 else
  some (.inl (())):=by kernel_rfl
theorem alk (n:Nat) (x1:List Int):BD n x1=
 (wE n x1 n ((0:Int))).bind fun (r5:PUnit⊕Bool)=>
 Sum.elim (fun (q6:PUnit)=>
  some (bif decide ((((x1.length:Nat):Int))≥((1:Int))) then decide ((((x1.length:Nat):Int))≤((32:Int))) else false))
  (fun (q7:Bool)=>
   some q7) r5:=by kernel_rfl
noncomputable def Jc (n:Nat) (x1:aD) (x2:List UInt8) (m:Nat) (p:Int):Option (PUnit⊕Int):=
 dw (R:=R) 2 (aI ((aQ Tryz.f56.body [1,0,1,0,0]).getD .skip)) (⟨[(1,Aq.TV.str x2),(2,Aq.TV.ref 2 0)],[(2,Aq.Ob.ro (Aq.Ob.cells [Aq.TV.int Go.IntKind.i64 x1.fF,Aq.TV.int Go.IntKind.i64 x1.gB,Aq.TV.ak Aq.Cp.sh (Aq.Ty.st 0) x1.Defs]))]⟩:Aq.MS R.T) (aR MG.loops 2).sh (aR MG.loops 2).outs (fun st k=>bD E R n false (MF n) aJ MG ((aQ Tryz.f56.body [1,0,1,0,0]).getD .skip) st k) m p
attribute [irreducible] Jc
theorem aa6 (n:Nat) (x1:aD) (x2:List UInt8) (m:Nat) (x3:Int):Jc n x1 x2 (m+1) x3=
 bif decide (x3< (((x1.Defs.length:Nat):Int))) then
  (aL x1.Defs x3).bind fun (r4:Def)=>
  bif r4.Name==x2 then
   some (.inr x3)
  else
   Jc n x1 x2 m (Go.IntKind.wrap Go.IntKind.i64 (x3+((1:Int))))
 else
  some (.inl (())):=by kernel_rfl
theorem alm (n:Nat) (x1:aD) (x2:List UInt8):yg n (x1,x2)=
 (Jc n x1 x2 n ((0:Int))).bind fun (r5:PUnit⊕Int)=>
 Sum.elim (fun (q6:PUnit)=>
  some ((-1:Int)))
  (fun (q7:Int)=>
   some q7) r5:=by kernel_rfl
theorem aln (n:Nat) (x1:Def) (x2:Attr):uH n (x1,x2)=
 bif x2.Kind !=x1.Kind then
  some ((130:Int))
 else
  bif x2.Kind==((1:Int)) then
   bif !(x2.S==[]) then
    some ((3:Int))
   else
    bif bif decide (x2.N<x1.Lo) then true else decide (x2.N>x1.Hi) then
     some ((131:Int))
    else
     some ((0:Int))
  else
   bif x2.N !=((0:Int)) then
    some ((3:Int))
   else
    (vS n ((x1.Words,x2.S))).bind fun (r3:Bool)=>
    bif !r3 then
     some ((131:Int))
    else
     some ((0:Int)):=by kernel_rfl
noncomputable def qZ (n:Nat) (x1:aD) (x2:List Attr) (m:Nat) (p:Int):Option (PUnit⊕Int):=
 dw (R:=R) 2 (aI ((aQ Tryz.f222.body [1,0,1,0,0]).getD .skip)) (⟨[(1,Aq.TV.ak Aq.Cp.sh (Aq.Ty.st 2) x2),(2,Aq.TV.ref 2 0)],[(2,Aq.Ob.ro (Aq.Ob.cells [Aq.TV.int Go.IntKind.i64 x1.fF,Aq.TV.int Go.IntKind.i64 x1.gB,Aq.TV.ak Aq.Cp.sh (Aq.Ty.st 0) x1.Defs]))]⟩:Aq.MS R.T) (aR MI.loops 2).sh (aR MI.loops 2).outs (fun st k=>bD E R n false (MH n) aJ MI ((aQ Tryz.f222.body [1,0,1,0,0]).getD .skip) st k) m p
attribute [irreducible] qZ
theorem aa7 (n:Nat) (x1:aD) (x2:List Attr) (m:Nat) (x3:Int):qZ n x1 x2 (m+1) x3=
 bif decide (x3< (((x2.length:Nat):Int))) then
  (aL x2 x3).bind fun (r4:Attr)=>
  (yg n ((x1,r4.Name))).bind fun (r5:Int)=>
  bif decide (r5< ((0:Int))) then
   some (.inr ((5:Int)))
  else
   bif decide (x3> ((0:Int))) then
    (aL x2 x3).bind fun (r6:Attr)=>
    (aL x2 (Go.IntKind.wrap Go.IntKind.i64 (x3-((1:Int))))).bind fun (r7:Attr)=>
    bif (Go.Op.bytesLess r6.Name r7.Name)||(r6.Name==r7.Name) then
     some (.inr ((6:Int)))
    else
     (aL x1.Defs r5).bind fun (r8:Def)=>
     (aL x2 x3).bind fun (r9:Attr)=>
     (uH n ((r8,r9))).bind fun (dR:Int)=>
     bif dR !=((0:Int)) then
      some (.inr dR)
     else
      qZ n x1 x2 m (Go.IntKind.wrap Go.IntKind.i64 (x3+((1:Int))))
   else
    (aL x1.Defs r5).bind fun (dV:Def)=>
    (aL x2 x3).bind fun (iQ:Attr)=>
    (uH n ((dV,iQ))).bind fun (iH:Int)=>
    bif iH !=((0:Int)) then
     some (.inr iH)
    else
     qZ n x1 x2 m (Go.IntKind.wrap Go.IntKind.i64 (x3+((1:Int))))
 else
  some (.inl (())):=by kernel_rfl
theorem alo (n:Nat) (x1:aD) (x2:List Attr):BK n (x1,x2)=
 (qZ n x1 x2 n ((0:Int))).bind fun (dB:PUnit⊕Int)=>
 Sum.elim (fun (q15:PUnit)=>
  some ((0:Int)))
  (fun (q16:Int)=>
   some q16) dB:=by kernel_rfl
theorem alp (n:Nat) (x1:aD) (x2:Entry):yh n (x1,x2)=
 bif bif bif bif bif bif decide (x2.ID< ((1:Int))) then true else decide (x2.ID> ((1073741824:Int))) then true else decide (x2.eU< ((1:Int))) then true else decide (x2.eU> ((1073741824:Int))) then true else decide (x2.eG< ((1:Int))) then true else decide (x2.eG> ((1073741824:Int))) then
  some ((1:Int))
 else
  bif bif bif bif bif bif bif decide (x2.gQ< ((0:Int))) then true else decide (x2.From<x2.gQ) then true else decide (x2.To≤x2.From) then true else decide (x2.To> ((1048577:Int))) then true else decide (x2.From> ((1048576:Int))) then true else decide (x2.fM< ((1:Int))) then true else decide (x2.fM> ((1073741824:Int))) then
   some ((9:Int))
  else
   (BD n x2.Vec).bind fun (r3:Bool)=>
   bif bif !r3 then true else (((x2.Vec.length:Nat):Int)) !=x1.fF then
    some ((40:Int))
   else
    (BK n ((x1,x2.aM))).bind fun (r4:Int)=>
    some r4:=by kernel_rfl
noncomputable def uI (n:Nat) (x1:Book) (x2:Int) (m:Nat) (p:Int×Int):Option (Int):=
 dw (R:=R) 3 (aI ((aQ Tryz.f194.body [1,1,0,1,0,0]).getD .skip)) (⟨[(1,Aq.TV.int Go.IntKind.i64 x2),(2,Aq.TV.ref 2 0)],[(2,Aq.Ob.ro (Aq.Ob.cells [Aq.TV.int Go.IntKind.i64 x1.aD.fF,Aq.TV.int Go.IntKind.i64 x1.aD.gB,Aq.TV.ak Aq.Cp.sh (Aq.Ty.st 0) x1.aD.Defs,Aq.TV.int Go.IntKind.i64 x1.aH,Aq.TV.int Go.IntKind.i64 x1.Day,Aq.TV.ak Aq.Cp.sh (Aq.Ty.int Go.IntKind.i64) x1.bV,Aq.TV.ak Aq.Cp.sh (Aq.Ty.st 4) x1.Rows]))]⟩:Aq.MS R.T) (aR MK.loops 3).sh (aR MK.loops 3).outs (fun st k=>bD E R n false (MJ n) aJ MK ((aQ Tryz.f194.body [1,1,0,1,0,0]).getD .skip) st k) m p
attribute [irreducible] uI
theorem aa8 (n:Nat) (x1:Book) (x2:Int) (m:Nat) (x3:Int) (x4:Int):uI n x1 x2 (m+1) (x3,x4)=
 bif decide (x4< (((x1.Rows.length:Nat):Int))) then
  (aL x1.Rows x4).bind fun (r5:Row)=>
  bif r5.Entry.ID==x2 then
   (aL x1.Rows x4).bind fun (r6:Row)=>
   uI n x1 x2 m ((imax x3 r6.Entry.eG,Go.IntKind.wrap Go.IntKind.i64 (x4+((1:Int)))))
  else
   uI n x1 x2 m ((x3,Go.IntKind.wrap Go.IntKind.i64 (x4+((1:Int)))))
 else
  some x3:=by kernel_rfl
theorem alq (n:Nat) (x1:Book) (x2:Int):BN n (x1,x2)=
 (uI n x1 x2 n (((0:Int),(0:Int)))).bind fun (r7:Int)=>
 some r7:=by kernel_rfl
noncomputable def Ea (n:Nat) (x2:Int) (x3:Int) (x4:Int) (m:Nat) (p:Int×List Row):Option (PUnit×List Row):=
 dw (R:=R) 3 (aI ((aQ Tryz.f195.body [1,1,0,1,0,0]).getD .skip)) (⟨[(1,Aq.TV.int Go.IntKind.i64 x2),(2,Aq.TV.int Go.IntKind.i64 x3),(3,Aq.TV.int Go.IntKind.i64 x4),(9,Aq.TV.vw 13 (Aq.Ty.st 4))],[]⟩:Aq.MS R.T) (aR MN.loops 3).sh (aR MN.loops 3).outs (fun st k=>bD E R n true (ML n) aJ MN ((aQ Tryz.f195.body [1,1,0,1,0,0]).getD .skip) st k) m p
attribute [irreducible] Ea
theorem aa9 (n:Nat) (x2:Int) (x3:Int) (x4:Int) (m:Nat) (x5:Int) (x6:List Row):Ea n x2 x3 x4 (m+1) (x5,x6)=
 bif decide (x5< (((x6.length:Nat):Int))) then
  bif decide (0≤x5∧x5< ((x6.length:Nat):Int)) then
   (aL x6 x5).bind fun (r7:Row)=>
   bif FP (r7.Entry.ID==x2) (decide (0≤x5∧x5< ((x6.length:Nat):Int))) then
    (iG (r7.Entry.ID==x2) (aL x6 x5) ((⟨(⟨(0:Int),(0:Int),(0:Int),(0:Int),(0:Int),(0:Int),(0:Int),[],[]⟩:Entry),(0:Int)⟩:Row))).bind fun (r8:Row)=>
    bif FP (bif r7.Entry.ID==x2 then r8.Entry.From==x3 else false) (decide (0≤x5∧x5< ((x6.length:Nat):Int))) then
     (iG (bif r7.Entry.ID==x2 then r8.Entry.From==x3 else false) (aL x6 x5) ((⟨(⟨(0:Int),(0:Int),(0:Int),(0:Int),(0:Int),(0:Int),(0:Int),[],[]⟩:Entry),(0:Int)⟩:Row))).bind fun (r9:Row)=>
     bif FP (bif bif r7.Entry.ID==x2 then r8.Entry.From==x3 else false then r9.cO==((0:Int)) else false) (decide (0≤x5∧x5< ((x6.length:Nat):Int))) then
      (iG (bif bif r7.Entry.ID==x2 then r8.Entry.From==x3 else false then r9.cO==((0:Int)) else false) (aL x6 x5) ((⟨(⟨(0:Int),(0:Int),(0:Int),(0:Int),(0:Int),(0:Int),(0:Int),[],[]⟩:Entry),(0:Int)⟩:Row))).bind fun (dR:Row)=>
      bif bif bif bif r7.Entry.ID==x2 then r8.Entry.From==x3 else false then r9.cO==((0:Int)) else false then decide (dR.Entry.fM<x4) else false then
       bif decide (0≤x5∧x5< ((x6.length:Nat):Int)) then
        (aL x6 x5).bind fun (dV:Row)=>
        Ea n x2 x3 x4 m ((Go.IntKind.wrap Go.IntKind.i64 (x5+((1:Int))),kZ x6 x5 ((⟨dV.Entry,x4⟩:Row))))
       else
        none
      else
       Ea n x2 x3 x4 m ((Go.IntKind.wrap Go.IntKind.i64 (x5+((1:Int))),x6))
     else
      none
    else
     none
   else
    none
  else
   none
 else
  some (((),x6)):=by kernel_rfl
theorem alr (n:Nat) (x1:List Row) (x2:Int) (x3:Int) (x4:Int):yj n (x1,(x2,(x3,x4)))=
 bif bN x1.length 112 then
  (Ea n x2 x3 x4 n (((0:Int),x1))).bind fun (iQ:PUnit×List Row)=>
  some iQ.2
 else
  none:=by kernel_rfl
noncomputable def qc (n:Nat) (x1:Book) (x2:Event) (x3:List Row) (x4:List bT) (x5:Entry) (m:Nat) (p:Int×(List Row)×(List Row)×Int):Option (Int×(List Row)×List Row):=
 dw (R:=R) 5 (aI ((aQ Tryz.f145.body [1,1,1,1,0,1,0,0]).getD .skip)) (⟨[(2,Aq.TV.ak Aq.Cp.sh (Aq.Ty.st 4) x3),(3,Aq.TV.ak Aq.Cp.sh (Aq.Ty.st 21) x4),(5,Aq.TV.ref 5 0),(6,Aq.TV.ref 6 0),(9,Aq.TV.ref 9 0),(10,Aq.TV.ref 10 0)],[(5,Aq.Ob.ro (Aq.Ob.cells [Aq.TV.int Go.IntKind.i64 x1.aD.fF,Aq.TV.int Go.IntKind.i64 x1.aD.gB,Aq.TV.ak Aq.Cp.sh (Aq.Ty.st 0) x1.aD.Defs,Aq.TV.int Go.IntKind.i64 x1.aH,Aq.TV.int Go.IntKind.i64 x1.Day,Aq.TV.ak Aq.Cp.sh (Aq.Ty.int Go.IntKind.i64) x1.bV,Aq.TV.ak Aq.Cp.sh (Aq.Ty.st 4) x1.Rows])),(6,Aq.Ob.ro (Aq.Ob.cells [Aq.TV.int Go.IntKind.i64 x2.Kind,Aq.TV.int Go.IntKind.i64 x2.aH,Aq.TV.int Go.IntKind.i64 x2.Day,Aq.TV.int Go.IntKind.i64 x2.ID,Aq.TV.int Go.IntKind.i64 x2.eU,Aq.TV.int Go.IntKind.i64 x2.Until,Aq.TV.int Go.IntKind.i64 x2.From,Aq.TV.ak Aq.Cp.sh (Aq.Ty.int Go.IntKind.i64) x2.Vec,Aq.TV.ak Aq.Cp.sh (Aq.Ty.st 2) x2.aM,Aq.TV.int Go.IntKind.u8 x2.bg.b0,Aq.TV.int Go.IntKind.u8 x2.bg.b1,Aq.TV.int Go.IntKind.u8 x2.bg.b2,Aq.TV.int Go.IntKind.u8 x2.bg.b3,Aq.TV.int Go.IntKind.u8 x2.bg.b4,Aq.TV.int Go.IntKind.u8 x2.bg.b5,Aq.TV.int Go.IntKind.u8 x2.bg.b6,Aq.TV.int Go.IntKind.u8 x2.bg.b7,Aq.TV.int Go.IntKind.u8 x2.bg.b8,Aq.TV.int Go.IntKind.u8 x2.bg.b9,Aq.TV.int Go.IntKind.u8 x2.bg.b10,Aq.TV.int Go.IntKind.u8 x2.bg.b11,Aq.TV.int Go.IntKind.u8 x2.bg.b12,Aq.TV.int Go.IntKind.u8 x2.bg.b13,Aq.TV.int Go.IntKind.u8 x2.bg.b14,Aq.TV.int Go.IntKind.u8 x2.bg.b15])),(9,Aq.Ob.ro (Aq.Ob.cells [Aq.TV.int Go.IntKind.i64 x5.ID,Aq.TV.int Go.IntKind.i64 x5.eG,Aq.TV.int Go.IntKind.i64 x5.eU,Aq.TV.int Go.IntKind.i64 x5.gQ,Aq.TV.int Go.IntKind.i64 x5.From,Aq.TV.int Go.IntKind.i64 x5.To,Aq.TV.int Go.IntKind.i64 x5.fM,Aq.TV.ak Aq.Cp.sh (Aq.Ty.int Go.IntKind.i64) x5.Vec,Aq.TV.ak Aq.Cp.sh (Aq.Ty.st 2) x5.aM])),(10,Aq.Ob.ro (Aq.Ob.cells [Aq.TV.int Go.IntKind.i64 ((0:Int)),Aq.TV.int Go.IntKind.i64 ((0:Int)),Aq.TV.dG,Aq.TV.int Go.IntKind.i64 ((0:Int)),Aq.TV.int Go.IntKind.i64 ((0:Int)),Aq.TV.dG,Aq.TV.dG,Aq.TV.int Go.IntKind.i64 ((0:Int))]))]⟩:Aq.MS R.T) (aR MP.loops 5).sh (aR MP.loops 5).outs (fun st k=>bD E R n false (MO n) aJ MP ((aQ Tryz.f145.body [1,1,1,1,0,1,0,0]).getD .skip) st k) m p
attribute [irreducible] qc
theorem abb (n:Nat) (x1:Book) (x2:Event) (x3:List Row) (x4:List bT) (x5:Entry) (m:Nat) (x7:Int) (x8:List Row) (x9:List Row) (x10:Int):qc n x1 x2 x3 x4 x5 (m+1) (x7,(x8,(x9,x10)))=
 bif decide (x10< (((x3.length:Nat):Int))) then
  (aL x3 x10).bind fun (dV:Row)=>
  (aL x4 x10).bind fun (iQ:bT)=>
  bif iQ.from_==dV.Entry.From then
   (aL x4 x10).bind fun (iH:bT)=>
   bif iH.to==dV.Entry.To then
    qc n x1 x2 x3 x4 x5 m ((x7,(x8,(x9,Go.IntKind.wrap Go.IntKind.i64 (x10+((1:Int)))))))
   else
    (yj n ((x8,(x2.ID,(dV.Entry.From,x2.aH))))).bind fun (dB:List Row)=>
    (aL x4 x10).bind fun (dW:bT)=>
    (aL x4 x10).bind fun (r16:bT)=>
    bif decide (dW.from_<r16.to) then
     (aL x4 x10).bind fun (ru:bT)=>
     (aL x4 x10).bind fun (Jd:bT)=>
     bif bN (x9.length+([(⟨(⟨dV.Entry.ID,Go.IntKind.wrap Go.IntKind.i64 (x7+((1:Int))),dV.Entry.eU,dV.Entry.gQ,ru.from_,Jd.to,x2.aH,dV.Entry.Vec,dV.Entry.aM⟩:Entry),(0:Int)⟩:Row)].length)) 112 then
      qc n x1 x2 x3 x4 x5 m ((Go.IntKind.wrap Go.IntKind.i64 (x7+((1:Int))),(dB,(x9++[(⟨(⟨dV.Entry.ID,Go.IntKind.wrap Go.IntKind.i64 (x7+((1:Int))),dV.Entry.eU,dV.Entry.gQ,ru.from_,Jd.to,x2.aH,dV.Entry.Vec,dV.Entry.aM⟩:Entry),(0:Int)⟩:Row)],Go.IntKind.wrap Go.IntKind.i64 (x10+((1:Int)))))))
     else
      none
    else
     qc n x1 x2 x3 x4 x5 m ((x7,(dB,(x9,Go.IntKind.wrap Go.IntKind.i64 (x10+((1:Int)))))))
  else
   (yj n ((x8,(x2.ID,(dV.Entry.From,x2.aH))))).bind fun (r19:List Row)=>
   (aL x4 x10).bind fun (Je:bT)=>
   (aL x4 x10).bind fun (Jf:bT)=>
   bif decide (Je.from_<Jf.to) then
    (aL x4 x10).bind fun (Eb:bT)=>
    (aL x4 x10).bind fun (Ec:bT)=>
    bif bN (x9.length+([(⟨(⟨dV.Entry.ID,Go.IntKind.wrap Go.IntKind.i64 (x7+((1:Int))),dV.Entry.eU,dV.Entry.gQ,Eb.from_,Ec.to,x2.aH,dV.Entry.Vec,dV.Entry.aM⟩:Entry),(0:Int)⟩:Row)].length)) 112 then
     qc n x1 x2 x3 x4 x5 m ((Go.IntKind.wrap Go.IntKind.i64 (x7+((1:Int))),(r19,(x9++[(⟨(⟨dV.Entry.ID,Go.IntKind.wrap Go.IntKind.i64 (x7+((1:Int))),dV.Entry.eU,dV.Entry.gQ,Eb.from_,Ec.to,x2.aH,dV.Entry.Vec,dV.Entry.aM⟩:Entry),(0:Int)⟩:Row)],Go.IntKind.wrap Go.IntKind.i64 (x10+((1:Int)))))))
    else
     none
   else
    qc n x1 x2 x3 x4 x5 m ((x7,(r19,(x9,Go.IntKind.wrap Go.IntKind.i64 (x10+((1:Int)))))))
 else
  some ((x7,(x8,x9))):=by kernel_rfl
theorem abe (n:Nat) (x1:Book) (x2:Event) (x3:List Row) (x4:List bT) (x5:Entry):qJ n (x1,(x2,(x3,(x4,x5))))=
 (BN n ((x1,x2.ID))).bind fun (r6:Int)=>
 (qc n x1 x2 x3 x4 x5 n ((r6,(x1.Rows,([],(0:Int)))))).bind fun (kG:Int×(List Row)×List Row)=>
 bif x5.ID !=((0:Int)) then
  (yh n ((x1.aD,(⟨x5.ID,Go.IntKind.wrap Go.IntKind.i64 (kG.1+((1:Int))),x5.eU,x5.gQ,x5.From,x5.To,x5.fM,x5.Vec,x5.aM⟩:Entry)))).bind fun (r25:Int)=>
  bif r25 !=((0:Int)) then
   some ((⟨x1,r25⟩:aY))
  else
   bif bN (kG.2.2.length+([(⟨(⟨x5.ID,Go.IntKind.wrap Go.IntKind.i64 (kG.1+((1:Int))),x5.eU,x5.gQ,x5.From,x5.To,x5.fM,x5.Vec,x5.aM⟩:Entry),(0:Int)⟩:Row)].length)) 112 then
    bif decide ((Go.IntKind.wrap Go.IntKind.i64 ((((kG.2.1.length:Nat):Int))+((((kG.2.2++[(⟨(⟨x5.ID,Go.IntKind.wrap Go.IntKind.i64 (kG.1+((1:Int))),x5.eU,x5.gQ,x5.From,x5.To,x5.fM,x5.Vec,x5.aM⟩:Entry),(0:Int)⟩:Row)]).length:Nat):Int))))> ((65536:Int))) then
     some ((⟨x1,(2:Int)⟩:aY))
    else
     bif bN (((0:Nat))+x1.bV.length) 8 then
      bif bN ((([]++x1.bV).length)+([x2.Day].length)) 8 then
       bif bN (((0:Nat))+kG.2.1.length) 112 then
        bif bN ((([]++kG.2.1).length)+((kG.2.2++[(⟨(⟨x5.ID,Go.IntKind.wrap Go.IntKind.i64 (kG.1+((1:Int))),x5.eU,x5.gQ,x5.From,x5.To,x5.fM,x5.Vec,x5.aM⟩:Entry),(0:Int)⟩:Row)]).length)) 112 then
         some ((⟨(⟨x1.aD,x2.aH,x2.Day,([]++x1.bV)++[x2.Day],([]++kG.2.1)++(kG.2.2++[(⟨(⟨x5.ID,Go.IntKind.wrap Go.IntKind.i64 (kG.1+((1:Int))),x5.eU,x5.gQ,x5.From,x5.To,x5.fM,x5.Vec,x5.aM⟩:Entry),(0:Int)⟩:Row)])⟩:Book),(0:Int)⟩:aY))
        else
         none
       else
        none
      else
       none
     else
      none
   else
    none
 else
  bif decide ((Go.IntKind.wrap Go.IntKind.i64 ((((kG.2.1.length:Nat):Int))+(((kG.2.2.length:Nat):Int))))> ((65536:Int))) then
   some ((⟨x1,(2:Int)⟩:aY))
  else
   bif bN (((0:Nat))+x1.bV.length) 8 then
    bif bN ((([]++x1.bV).length)+([x2.Day].length)) 8 then
     bif bN (((0:Nat))+kG.2.1.length) 112 then
      bif bN ((([]++kG.2.1).length)+kG.2.2.length) 112 then
       some ((⟨(⟨x1.aD,x2.aH,x2.Day,([]++x1.bV)++[x2.Day],([]++kG.2.1)++kG.2.2⟩:Book),(0:Int)⟩:aY))
      else
       none
     else
      none
    else
     none
   else
    none:=by kernel_rfl
theorem abg (n:Nat) (x1:Book) (x2:Event):yt n (x1,x2)=
 (Bz n ((x1,x2.ID))).bind fun (r3:Bool)=>
 bif r3 then
  some ((⟨x1,(6:Int)⟩:aY))
 else
  (yh n ((x1.aD,(⟨x2.ID,(1:Int),x2.eU,x2.Day,x2.Until,(1048577:Int),x2.aH,x2.Vec,x2.aM⟩:Entry)))).bind fun (r4:Int)=>
  bif r4 !=((0:Int)) then
   some ((⟨x1,r4⟩:aY))
  else
   (qJ n ((x1,(x2,([],([],(⟨x2.ID,(1:Int),x2.eU,x2.Day,x2.Until,(1048577:Int),x2.aH,x2.Vec,x2.aM⟩:Entry))))))).bind fun (r5:aY)=>
   some r5:=by kernel_rfl
noncomputable def Jg (n:Nat) (x1:Book) (x2:Int) (x3:Int) (m:Nat) (p:Int×List Row):Option (Int×List Row):=
 dw (R:=R) 8 (aI ((aQ Tryz.f146.body [1,1,0,1,0,0,1,0,0,1,0,1,1,0,0,0]).getD .skip)) (⟨[(1,Aq.TV.int Go.IntKind.i64 x2),(2,Aq.TV.ref 2 0),(5,Aq.TV.vw 42 (Aq.Ty.st 4)),(6,Aq.TV.int Go.IntKind.i64 x3)],[(2,Aq.Ob.ro (Aq.Ob.ro (Aq.Ob.cells [Aq.TV.int Go.IntKind.i64 x1.aD.fF,Aq.TV.int Go.IntKind.i64 x1.aD.gB,Aq.TV.ak Aq.Cp.sh (Aq.Ty.st 0) x1.aD.Defs,Aq.TV.int Go.IntKind.i64 x1.aH,Aq.TV.int Go.IntKind.i64 x1.Day,Aq.TV.ak Aq.Cp.sh (Aq.Ty.int Go.IntKind.i64) x1.bV,Aq.TV.ak Aq.Cp.sh (Aq.Ty.st 4) x1.Rows])))]⟩:Aq.MS R.T) (aR yu.loops 8).sh (aR yu.loops 8).outs (fun st k=>bD E R n true (GR n) aJ yu ((aQ Tryz.f146.body [1,1,0,1,0,0,1,0,0,1,0,1,1,0,0,0]).getD .skip) st k) m p
attribute [irreducible] Jg
noncomputable def yN (n:Nat) (x1:Book) (x2:Int) (m:Nat) (p:(PUnit×Int)×List Row):Option (PUnit×List Row):=
 dw (R:=R) 3 (aI ((aQ Tryz.f146.body [1,1,0,1,0,0]).getD .skip)) (⟨[(1,Aq.TV.int Go.IntKind.i64 x2),(2,Aq.TV.ref 2 0)],[(2,Aq.Ob.ro (Aq.Ob.cells [Aq.TV.int Go.IntKind.i64 x1.aD.fF,Aq.TV.int Go.IntKind.i64 x1.aD.gB,Aq.TV.ak Aq.Cp.sh (Aq.Ty.st 0) x1.aD.Defs,Aq.TV.int Go.IntKind.i64 x1.aH,Aq.TV.int Go.IntKind.i64 x1.Day,Aq.TV.ak Aq.Cp.sh (Aq.Ty.int Go.IntKind.i64) x1.bV,Aq.TV.ak Aq.Cp.sh (Aq.Ty.st 4) x1.Rows]))]⟩:Aq.MS R.T) (aR yu.loops 3).sh (aR yu.loops 3).outs (fun st k=>bD E R n true (GR n) aJ yu ((aQ Tryz.f146.body [1,1,0,1,0,0]).getD .skip) st k) m p
attribute [irreducible] yN
theorem abh (n:Nat) (x1:Book) (x2:Int) (x3:Int) (m:Nat) (x8:Int) (x9:List Row):Jg n x1 x2 x3 (m+1) (x8,x9)=
 bif decide (x8> ((0:Int))) then
  bif decide (0≤(Go.IntKind.wrap Go.IntKind.i64 (x8-((1:Int))))∧(Go.IntKind.wrap Go.IntKind.i64 (x8-((1:Int))))< ((x9.length:Nat):Int)) then
   (aL x9 (Go.IntKind.wrap Go.IntKind.i64 (x8-((1:Int))))).bind fun (dR:Row)=>
   (aL x1.Rows x3).bind fun (dV:Row)=>
   bif decide (dR.Entry.From>dV.Entry.From) then
    bif decide (0≤(Go.IntKind.wrap Go.IntKind.i64 (x8-((1:Int))))∧(Go.IntKind.wrap Go.IntKind.i64 (x8-((1:Int))))< ((x9.length:Nat):Int)) then
     (aL x9 (Go.IntKind.wrap Go.IntKind.i64 (x8-((1:Int))))).bind fun (iQ:Row)=>
     bif decide (0≤x8∧x8< ((x9.length:Nat):Int)) then
      (aL x9 x8).bind fun (iH:Row)=>
      Jg n x1 x2 x3 m ((Go.IntKind.wrap Go.IntKind.i64 (x8-((1:Int))),kZ x9 x8 iQ))
     else
      none
    else
     none
   else
    some ((x8,x9))
  else
   none
 else
  some ((x8,x9)):=by kernel_rfl
theorem abj (n:Nat) (x1:Book) (x2:Int) (m:Nat) (x3:Int) (x4:List Row):yN n x1 x2 (m+1) (((),x3),x4)=
 bif decide (x3< (((x1.Rows.length:Nat):Int))) then
  (aL x1.Rows x3).bind fun (r5:Row)=>
  (iG (r5.Entry.ID==x2) (aL x1.Rows x3) ((⟨(⟨(0:Int),(0:Int),(0:Int),(0:Int),(0:Int),(0:Int),(0:Int),[],[]⟩:Entry),(0:Int)⟩:Row))).bind fun (r6:Row)=>
  bif bif r5.Entry.ID==x2 then r6.cO==((0:Int)) else false then
   (aL x1.Rows x3).bind fun (r7:Row)=>
   bif bN (x4.length+([r7].length)) 112 then
    (Jg n x1 x2 x3 n ((((x4.length:Nat):Int),x4++[r7]))).bind fun (dB:Int×List Row)=>
    (aL x1.Rows x3).bind fun (dW:Row)=>
    bif decide (0≤dB.1∧dB.1< ((dB.2.length:Nat):Int)) then
     (aL dB.2 dB.1).bind fun (r16:Row)=>
     yN n x1 x2 m ((((),Go.IntKind.wrap Go.IntKind.i64 (x3+((1:Int)))),kZ dB.2 dB.1 dW))
    else
     none
   else
    none
  else
   yN n x1 x2 m ((((),Go.IntKind.wrap Go.IntKind.i64 (x3+((1:Int)))),x4))
 else
  some (((),x4)):=by kernel_rfl
theorem als (n:Nat) (x1:Book) (x2:Int):sD n (x1,x2)=
 (yN n x1 x2 n ((((),(0:Int)),[]))).bind fun (ru:PUnit×List Row)=>
 some ru.2:=by kernel_rfl
theorem alu (n:Nat) (x1:List Row):sF n x1=
 (aL x1 (Go.IntKind.wrap Go.IntKind.i64 ((((x1.length:Nat):Int))-((1:Int))))).bind fun (r2:Row)=>
 some r2.Entry.To:=by kernel_rfl
noncomputable def yO (n:Nat) (x1:Book) (x2:Event) (x3:List Row) (r4:Row) (m:Nat) (p:(List bT)×Int):Option (List bT):=
 dw (R:=R) 6 (aI ((aQ Tryz.f147.body [1,1,1,1,0,1,0,0]).getD .skip)) (⟨[(2,Aq.TV.ak Aq.Cp.sh (Aq.Ty.st 4) x3),(3,Aq.TV.ref 3 0),(4,Aq.TV.ref 4 0),(6,Aq.TV.ref 6 0),(7,Aq.TV.int Go.IntKind.i64 (imax x2.From r4.Entry.From))],[(3,Aq.Ob.ro (Aq.Ob.cells [Aq.TV.int Go.IntKind.i64 x1.aD.fF,Aq.TV.int Go.IntKind.i64 x1.aD.gB,Aq.TV.ak Aq.Cp.sh (Aq.Ty.st 0) x1.aD.Defs,Aq.TV.int Go.IntKind.i64 x1.aH,Aq.TV.int Go.IntKind.i64 x1.Day,Aq.TV.ak Aq.Cp.sh (Aq.Ty.int Go.IntKind.i64) x1.bV,Aq.TV.ak Aq.Cp.sh (Aq.Ty.st 4) x1.Rows])),(4,Aq.Ob.ro (Aq.Ob.cells [Aq.TV.int Go.IntKind.i64 x2.Kind,Aq.TV.int Go.IntKind.i64 x2.aH,Aq.TV.int Go.IntKind.i64 x2.Day,Aq.TV.int Go.IntKind.i64 x2.ID,Aq.TV.int Go.IntKind.i64 x2.eU,Aq.TV.int Go.IntKind.i64 x2.Until,Aq.TV.int Go.IntKind.i64 x2.From,Aq.TV.ak Aq.Cp.sh (Aq.Ty.int Go.IntKind.i64) x2.Vec,Aq.TV.ak Aq.Cp.sh (Aq.Ty.st 2) x2.aM,Aq.TV.int Go.IntKind.u8 x2.bg.b0,Aq.TV.int Go.IntKind.u8 x2.bg.b1,Aq.TV.int Go.IntKind.u8 x2.bg.b2,Aq.TV.int Go.IntKind.u8 x2.bg.b3,Aq.TV.int Go.IntKind.u8 x2.bg.b4,Aq.TV.int Go.IntKind.u8 x2.bg.b5,Aq.TV.int Go.IntKind.u8 x2.bg.b6,Aq.TV.int Go.IntKind.u8 x2.bg.b7,Aq.TV.int Go.IntKind.u8 x2.bg.b8,Aq.TV.int Go.IntKind.u8 x2.bg.b9,Aq.TV.int Go.IntKind.u8 x2.bg.b10,Aq.TV.int Go.IntKind.u8 x2.bg.b11,Aq.TV.int Go.IntKind.u8 x2.bg.b12,Aq.TV.int Go.IntKind.u8 x2.bg.b13,Aq.TV.int Go.IntKind.u8 x2.bg.b14,Aq.TV.int Go.IntKind.u8 x2.bg.b15])),(6,Aq.Ob.ro (Aq.Ob.cells [Aq.TV.int Go.IntKind.i64 ((0:Int)),Aq.TV.int Go.IntKind.i64 ((0:Int)),Aq.TV.dG,Aq.TV.int Go.IntKind.i64 ((0:Int)),Aq.TV.int Go.IntKind.i64 ((0:Int)),Aq.TV.dG,Aq.TV.dG,Aq.TV.int Go.IntKind.i64 ((0:Int))]))]⟩:Aq.MS R.T) (aR MR.loops 6).sh (aR MR.loops 6).outs (fun st k=>bD E R n false (MQ n) aJ MR ((aQ Tryz.f147.body [1,1,1,1,0,1,0,0]).getD .skip) st k) m p
attribute [irreducible] yO
theorem abk (n:Nat) (x1:Book) (x2:Event) (x3:List Row) (r4:Row) (m:Nat) (x6:List bT) (x7:Int):yO n x1 x2 x3 r4 (m+1) (x6,x7)=
 bif decide (x7< (((x3.length:Nat):Int))) then
  (aL x3 x7).bind fun (r8:Row)=>
  bif bN (x6.length+([(⟨r8.Entry.From,jF r8.Entry.To (imax (imax x2.From r4.Entry.From) r8.Entry.From)⟩:bT)].length)) 16 then
   yO n x1 x2 x3 r4 m ((x6++[(⟨r8.Entry.From,jF r8.Entry.To (imax (imax x2.From r4.Entry.From) r8.Entry.From)⟩:bT)],Go.IntKind.wrap Go.IntKind.i64 (x7+((1:Int)))))
  else
   none
 else
  some x6:=by kernel_rfl
theorem abl (n:Nat) (x1:Book) (x2:Event) (x3:List Row):qK n (x1,(x2,x3))=
 (aL x3 ((0:Int))).bind fun (r4:Row)=>
 (iG (!(decide (x2.From< ((0:Int))))) (sF n x3) ((0:Int))).bind fun (r5:Int)=>
 bif bif decide (x2.From< ((0:Int))) then true else decide ((imax x2.From r4.Entry.From)≥r5) then
  some ((⟨x1,(9:Int)⟩:aY))
 else
  (yO n x1 x2 x3 r4 n (([],(0:Int)))).bind fun (r9:List bT)=>
  (aL x3 ((0:Int))).bind fun (dR:Row)=>
  (sF n x3).bind fun (dV:Int)=>
  (qJ n ((x1,(x2,(x3,(r9,(⟨dR.Entry.ID,dR.Entry.eG,dR.Entry.eU,dR.Entry.gQ,imax x2.From r4.Entry.From,dV,x2.aH,x2.Vec,x2.aM⟩:Entry))))))).bind fun (iQ:aY)=>
  some iQ:=by kernel_rfl
noncomputable def yP (n:Nat) (x1:Book) (x2:Event) (x3:List Row) (m:Nat) (p:(List bT)×Int):Option (List bT):=
 dw (R:=R) 5 (aI ((aQ Tryz.f148.body [1,1,1,0,1,0,0]).getD .skip)) (⟨[(2,Aq.TV.ak Aq.Cp.sh (Aq.Ty.st 4) x3),(3,Aq.TV.ref 3 0),(4,Aq.TV.ref 4 0),(6,Aq.TV.ref 6 0)],[(3,Aq.Ob.ro (Aq.Ob.cells [Aq.TV.int Go.IntKind.i64 x1.aD.fF,Aq.TV.int Go.IntKind.i64 x1.aD.gB,Aq.TV.ak Aq.Cp.sh (Aq.Ty.st 0) x1.aD.Defs,Aq.TV.int Go.IntKind.i64 x1.aH,Aq.TV.int Go.IntKind.i64 x1.Day,Aq.TV.ak Aq.Cp.sh (Aq.Ty.int Go.IntKind.i64) x1.bV,Aq.TV.ak Aq.Cp.sh (Aq.Ty.st 4) x1.Rows])),(4,Aq.Ob.ro (Aq.Ob.cells [Aq.TV.int Go.IntKind.i64 x2.Kind,Aq.TV.int Go.IntKind.i64 x2.aH,Aq.TV.int Go.IntKind.i64 x2.Day,Aq.TV.int Go.IntKind.i64 x2.ID,Aq.TV.int Go.IntKind.i64 x2.eU,Aq.TV.int Go.IntKind.i64 x2.Until,Aq.TV.int Go.IntKind.i64 x2.From,Aq.TV.ak Aq.Cp.sh (Aq.Ty.int Go.IntKind.i64) x2.Vec,Aq.TV.ak Aq.Cp.sh (Aq.Ty.st 2) x2.aM,Aq.TV.int Go.IntKind.u8 x2.bg.b0,Aq.TV.int Go.IntKind.u8 x2.bg.b1,Aq.TV.int Go.IntKind.u8 x2.bg.b2,Aq.TV.int Go.IntKind.u8 x2.bg.b3,Aq.TV.int Go.IntKind.u8 x2.bg.b4,Aq.TV.int Go.IntKind.u8 x2.bg.b5,Aq.TV.int Go.IntKind.u8 x2.bg.b6,Aq.TV.int Go.IntKind.u8 x2.bg.b7,Aq.TV.int Go.IntKind.u8 x2.bg.b8,Aq.TV.int Go.IntKind.u8 x2.bg.b9,Aq.TV.int Go.IntKind.u8 x2.bg.b10,Aq.TV.int Go.IntKind.u8 x2.bg.b11,Aq.TV.int Go.IntKind.u8 x2.bg.b12,Aq.TV.int Go.IntKind.u8 x2.bg.b13,Aq.TV.int Go.IntKind.u8 x2.bg.b14,Aq.TV.int Go.IntKind.u8 x2.bg.b15])),(6,Aq.Ob.ro (Aq.Ob.cells [Aq.TV.int Go.IntKind.i64 ((0:Int)),Aq.TV.int Go.IntKind.i64 ((0:Int)),Aq.TV.dG,Aq.TV.int Go.IntKind.i64 ((0:Int)),Aq.TV.int Go.IntKind.i64 ((0:Int)),Aq.TV.dG,Aq.TV.dG,Aq.TV.int Go.IntKind.i64 ((0:Int))]))]⟩:Aq.MS R.T) (aR MV.loops 5).sh (aR MV.loops 5).outs (fun st k=>bD E R n false (MU n) aJ MV ((aQ Tryz.f148.body [1,1,1,0,1,0,0]).getD .skip) st k) m p
attribute [irreducible] yP
theorem abm (n:Nat) (x1:Book) (x2:Event) (x3:List Row) (m:Nat) (x5:List bT) (x6:Int):yP n x1 x2 x3 (m+1) (x5,x6)=
 bif decide (x6< (((x3.length:Nat):Int))) then
  (aL x3 x6).bind fun (r7:Row)=>
  bif bN (x5.length+([(⟨r7.Entry.From,jF r7.Entry.To (imax x2.From r7.Entry.From)⟩:bT)].length)) 16 then
   yP n x1 x2 x3 m ((x5++[(⟨r7.Entry.From,jF r7.Entry.To (imax x2.From r7.Entry.From)⟩:bT)],Go.IntKind.wrap Go.IntKind.i64 (x6+((1:Int)))))
  else
   none
 else
  some x5:=by kernel_rfl
theorem abn (n:Nat) (x1:Book) (x2:Event) (x3:List Row):qL n (x1,(x2,x3))=
 bif !(decide (x2.From< ((0:Int)))) then
  (sF n x3).bind fun (r4:Int)=>
  bif decide (x2.From≥r4) then
   some ((⟨x1,(9:Int)⟩:aY))
  else
   (yP n x1 x2 x3 n (([],(0:Int)))).bind fun (r8:List bT)=>
   (qJ n ((x1,(x2,(x3,(r8,(⟨(0:Int),(0:Int),(0:Int),(0:Int),(0:Int),(0:Int),(0:Int),[],[]⟩:Entry))))))).bind fun (r9:aY)=>
   some r9
 else
  some ((⟨x1,(9:Int)⟩:aY)):=by kernel_rfl
noncomputable def wF (n:Nat) (x1:Book) (x2:Event) (x3:List Row) (r4:Row) (m:Nat) (p:(List bT)×Int):Option (List bT):=
 dw (R:=R) 8 (aI ((aQ Tryz.f149.body [1,1,1,1,1,0,1,0,0]).getD .skip)) (⟨[(2,Aq.TV.ak Aq.Cp.sh (Aq.Ty.st 4) x3),(3,Aq.TV.ref 3 0),(4,Aq.TV.ref 4 0),(6,Aq.TV.ref 6 0),(7,Aq.TV.int Go.IntKind.i64 r4.Entry.From)],[(3,Aq.Ob.ro (Aq.Ob.cells [Aq.TV.int Go.IntKind.i64 x1.aD.fF,Aq.TV.int Go.IntKind.i64 x1.aD.gB,Aq.TV.ak Aq.Cp.sh (Aq.Ty.st 0) x1.aD.Defs,Aq.TV.int Go.IntKind.i64 x1.aH,Aq.TV.int Go.IntKind.i64 x1.Day,Aq.TV.ak Aq.Cp.sh (Aq.Ty.int Go.IntKind.i64) x1.bV,Aq.TV.ak Aq.Cp.sh (Aq.Ty.st 4) x1.Rows])),(4,Aq.Ob.ro (Aq.Ob.cells [Aq.TV.int Go.IntKind.i64 x2.Kind,Aq.TV.int Go.IntKind.i64 x2.aH,Aq.TV.int Go.IntKind.i64 x2.Day,Aq.TV.int Go.IntKind.i64 x2.ID,Aq.TV.int Go.IntKind.i64 x2.eU,Aq.TV.int Go.IntKind.i64 x2.Until,Aq.TV.int Go.IntKind.i64 x2.From,Aq.TV.ak Aq.Cp.sh (Aq.Ty.int Go.IntKind.i64) x2.Vec,Aq.TV.ak Aq.Cp.sh (Aq.Ty.st 2) x2.aM,Aq.TV.int Go.IntKind.u8 x2.bg.b0,Aq.TV.int Go.IntKind.u8 x2.bg.b1,Aq.TV.int Go.IntKind.u8 x2.bg.b2,Aq.TV.int Go.IntKind.u8 x2.bg.b3,Aq.TV.int Go.IntKind.u8 x2.bg.b4,Aq.TV.int Go.IntKind.u8 x2.bg.b5,Aq.TV.int Go.IntKind.u8 x2.bg.b6,Aq.TV.int Go.IntKind.u8 x2.bg.b7,Aq.TV.int Go.IntKind.u8 x2.bg.b8,Aq.TV.int Go.IntKind.u8 x2.bg.b9,Aq.TV.int Go.IntKind.u8 x2.bg.b10,Aq.TV.int Go.IntKind.u8 x2.bg.b11,Aq.TV.int Go.IntKind.u8 x2.bg.b12,Aq.TV.int Go.IntKind.u8 x2.bg.b13,Aq.TV.int Go.IntKind.u8 x2.bg.b14,Aq.TV.int Go.IntKind.u8 x2.bg.b15])),(6,Aq.Ob.ro (Aq.Ob.cells [Aq.TV.int Go.IntKind.i64 ((0:Int)),Aq.TV.int Go.IntKind.i64 ((0:Int)),Aq.TV.dG,Aq.TV.int Go.IntKind.i64 ((0:Int)),Aq.TV.int Go.IntKind.i64 ((0:Int)),Aq.TV.dG,Aq.TV.dG,Aq.TV.int Go.IntKind.i64 ((0:Int))]))]⟩:Aq.MS R.T) (aR MX.loops 8).sh (aR MX.loops 8).outs (fun st k=>bD E R n false (MW n) aJ MX ((aQ Tryz.f149.body [1,1,1,1,1,0,1,0,0]).getD .skip) st k) m p
attribute [irreducible] wF
theorem abo (n:Nat) (x1:Book) (x2:Event) (x3:List Row) (r4:Row) (m:Nat) (x6:List bT) (x7:Int):wF n x1 x2 x3 r4 (m+1) (x6,x7)=
 bif decide (x7< (((x3.length:Nat):Int))) then
  (aL x3 x7).bind fun (r8:Row)=>
  bif bif x7==((0:Int)) then decide (x2.Until<r4.Entry.From) else false then
   bif bN (x6.length+([(⟨x2.Until,r8.Entry.To⟩:bT)].length)) 16 then
    wF n x1 x2 x3 r4 m ((x6++[(⟨x2.Until,r8.Entry.To⟩:bT)],Go.IntKind.wrap Go.IntKind.i64 (x7+((1:Int)))))
   else
    none
  else
   bif bN (x6.length+([(⟨imax r8.Entry.From (jF x2.Until r8.Entry.To),r8.Entry.To⟩:bT)].length)) 16 then
    wF n x1 x2 x3 r4 m ((x6++[(⟨imax r8.Entry.From (jF x2.Until r8.Entry.To),r8.Entry.To⟩:bT)],Go.IntKind.wrap Go.IntKind.i64 (x7+((1:Int)))))
   else
    none
 else
  some x6:=by kernel_rfl
theorem abp (n:Nat) (x1:Book) (x2:Event) (x3:List Row):qM n (x1,(x2,x3))=
 (aL x3 ((0:Int))).bind fun (r4:Row)=>
 bif bif decide (r4.Entry.From≤x2.Day) then true else r4.Entry.From==x2.Until then
  some ((⟨x1,(4:Int)⟩:aY))
 else
  bif !(decide (x2.Until<x2.Day)) then
   (sF n x3).bind fun (r5:Int)=>
   bif decide (x2.Until≥r5) then
    some ((⟨x1,(9:Int)⟩:aY))
   else
    (wF n x1 x2 x3 r4 n (([],(0:Int)))).bind fun (r9:List bT)=>
    (qJ n ((x1,(x2,(x3,(r9,(⟨(0:Int),(0:Int),(0:Int),(0:Int),(0:Int),(0:Int),(0:Int),[],[]⟩:Entry))))))).bind fun (dR:aY)=>
    some dR
  else
   some ((⟨x1,(9:Int)⟩:aY)):=by kernel_rfl
theorem abq (n:Nat) (x1:Book) (x2:Event):yw n (x1,x2)=
 bif bif bif bif x2.aH !=(Go.IntKind.wrap Go.IntKind.i64 (x1.aH+((1:Int)))) then true else decide (x2.aH> ((1073741824:Int))) then true else decide (x2.Day<x1.Day) then true else decide (x2.Day> ((1048576:Int))) then
  some ((⟨x1,(9:Int)⟩:aY))
 else
  bif x2.Kind==((1:Int)) then
   (yt n ((x1,x2))).bind fun (r3:aY)=>
   some r3
  else
   bif x2.Kind==((5:Int)) then
    (qJ n ((x1,(x2,([],([],(⟨(0:Int),(0:Int),(0:Int),(0:Int),(0:Int),(0:Int),(0:Int),[],[]⟩:Entry))))))).bind fun (r4:aY)=>
    some r4
   else
    bif x2.Kind==((2:Int)) then
     (sD n ((x1,x2.ID))).bind fun (r5:List Row)=>
     bif (((r5.length:Nat):Int))==((0:Int)) then
      some ((⟨x1,(5:Int)⟩:aY))
     else
      bif x2.Kind==((2:Int)) then
       (qK n ((x1,(x2,r5)))).bind fun (r6:aY)=>
       some r6
      else
       bif x2.Kind==((3:Int)) then
        (qL n ((x1,(x2,r5)))).bind fun (r7:aY)=>
        some r7
       else
        (qM n ((x1,(x2,r5)))).bind fun (r8:aY)=>
        some r8
    else
     bif x2.Kind==((3:Int)) then
      (sD n ((x1,x2.ID))).bind fun (r9:List Row)=>
      bif (((r9.length:Nat):Int))==((0:Int)) then
       some ((⟨x1,(5:Int)⟩:aY))
      else
       bif x2.Kind==((2:Int)) then
        (qK n ((x1,(x2,r9)))).bind fun (dR:aY)=>
        some dR
       else
        bif x2.Kind==((3:Int)) then
         (qL n ((x1,(x2,r9)))).bind fun (dV:aY)=>
         some dV
        else
         (qM n ((x1,(x2,r9)))).bind fun (iQ:aY)=>
         some iQ
     else
      bif x2.Kind==((4:Int)) then
       (sD n ((x1,x2.ID))).bind fun (iH:List Row)=>
       bif (((iH.length:Nat):Int))==((0:Int)) then
        some ((⟨x1,(5:Int)⟩:aY))
       else
        bif x2.Kind==((2:Int)) then
         (qK n ((x1,(x2,iH)))).bind fun (dB:aY)=>
         some dB
        else
         bif x2.Kind==((3:Int)) then
          (qL n ((x1,(x2,iH)))).bind fun (dW:aY)=>
          some dW
         else
          (qM n ((x1,(x2,iH)))).bind fun (r16:aY)=>
          some r16
      else
       some ((⟨x1,(1:Int)⟩:aY)):=by kernel_rfl
noncomputable def yQ (n:Nat) (x2:List Event) (m:Nat) (p:Int×dI×aY):Option ((PUnit×dI×aY)⊕(PUnit×dI)):=
 dw (R:=R) 3 (aI ((aQ Tryz.f44.body [1,1,0,1,0,0]).getD .skip)) (⟨[(1,Aq.TV.ak Aq.Cp.sh (Aq.Ty.st 13) x2),(4,Aq.TV.ref 4 0),(5,Aq.TV.ref 5 0)],[]⟩:Aq.MS R.T) (aR M0.loops 3).sh (aR M0.loops 3).outs (fun st k=>bD E R n false (MZ n) aJ M0 ((aQ Tryz.f44.body [1,1,0,1,0,0]).getD .skip) st k) m p
attribute [irreducible] yQ
theorem alv (n:Nat) (x2:List Event) (p:Int×dI×aY):yQ n x2 0 p=none:=by kernel_rfl
theorem Tk (n:Nat) (x2:List Event) (m:Nat) (x4:Int) (x5:dI) (x6:aY):yQ n x2 (m+1) (x4,(x5,x6))=
 bif bif decide (x4< (((x2.length:Nat):Int))) then x6.E==((0:Int)) else false then
  (aL x2 x4).bind fun (r7:Event)=>
  (yw n ((x6.B,r7))).bind fun (r8:aY)=>
  bif r8.E !=((0:Int)) then
   some (.inr (((),(⟨x6.B,x4,r8.E⟩:dI))))
  else
   yQ n x2 m ((Go.IntKind.wrap Go.IntKind.i64 (x4+((1:Int))),(x5,r8)))
 else
  some (.inl (((),(x5,x6)))):=by kernel_rfl
theorem abr (n:Nat) (x1:aD) (x2:List Event):yx n (x1,x2)=
 (xZ n x1).bind fun (r3:aY)=>
 (yQ n x2 n (((0:Int),((⟨(⟨(⟨(0:Int),(0:Int),[]⟩:aD),(0:Int),(0:Int),[],[]⟩:Book),(0:Int),(0:Int)⟩:dI),r3)))).bind fun (r9:(PUnit×dI×aY)⊕(PUnit×dI))=>
 Sum.elim (fun (wD:PUnit×dI×aY)=>
  bif wD.2.2.E !=((0:Int)) then
   some ((⟨(⟨(⟨(0:Int),(0:Int),[]⟩:aD),(0:Int),(0:Int),[],[]⟩:Book),(0:Int),wD.2.2.E⟩:dI))
  else
   some ((⟨wD.2.2.B,((x2.length:Nat):Int),(0:Int)⟩:dI)))
  (fun (I9:PUnit×dI)=>
   some I9.2) r9:=by kernel_rfl
theorem alx (n:Nat) (x1:aD) (x2:List Event):Cg n (x1,x2)=
 (vR n ((x2,(25:Int)))).bind fun (r3:Bool)=>
 (iG (!(!r3)) (Bh n ((x1,(6:Int)))) false).bind fun (r4:Bool)=>
 bif bif !r3 then true else !r4 then
  some (((⟨(⟨(0:Int),(0:Int),[]⟩:aD),(0:Int),(0:Int),[],[]⟩:Book),false))
 else
  (yx n ((x1,x2))).bind fun (r5:dI)=>
  (xY n x1).bind fun (r6:Int)=>
  some ((r5.B,r6==((0:Int)))):=by kernel_rfl
noncomputable def Jh (n:Nat) (x1:List Row) (m:Nat) (p:Int×List (Int×Int)):Option (PUnit×List (Int×Int)):=
 dw (R:=R) 3 (aI ((aQ Tryz.f99.body [1,1,0,1,0,0]).getD .skip)) (⟨[(3,Aq.TV.cK 6),(7,Aq.TV.ak Aq.Cp.sh (Aq.Ty.st 4) x1),(8,Aq.TV.int Go.IntKind.i64 (((x1.length:Nat):Int)))],[]⟩:Aq.MS R.T) (aR M6.loops 3).sh (aR M6.loops 3).outs (fun st k=>bD E R n false (M5 n) aJ M6 ((aQ Tryz.f99.body [1,1,0,1,0,0]).getD .skip) st k) m p
attribute [irreducible] Jh
theorem abt (n:Nat) (x1:List Row) (m:Nat) (x2:Int) (x3:List (Int×Int)):Jh n x1 (m+1) (x2,x3)=
 bif decide (x2< (((x1.length:Nat):Int))) then
  (aL x1 x2).bind fun (r4:Row)=>
  Jh n x1 m ((Go.IntKind.wrap Go.IntKind.i64 (x2+((1:Int))),jX (eB R (Aq.Ty.int Go.IntKind.i64)) r4.Entry.ID (imax (mg ((0:Int)) (iy (eB R (Aq.Ty.int Go.IntKind.i64)) r4.Entry.ID x3)) r4.Entry.eG) x3))
 else
  some (((),x3)):=by kernel_rfl
theorem aly (n:Nat) (x1:List Row):Ci n x1=
 (Jh n x1 n (((0:Int),[]))).bind fun (r5:PUnit×List (Int×Int))=>
 some r5.2:=by kernel_rfl
theorem alz (n:Nat) (x1:Book) (x2:Int):Ck n (x1,x2)=
 (Ci n x1.Rows).bind fun (r3:List (Int×Int))=>
 some (((),(x2,r3))):=by kernel_rfl
theorem alA (n:Nat) (x1:Row) (x2:Int) (x3:List (Int×Int)):Cn n (x1,(x2,x3))=
 some (bif bif decide (x1.cO≥((1:Int))) then decide (x1.cO≤x2) else false then decide (x1.Entry.eG< (mg ((0:Int)) (iy (eB R (Aq.Ty.int Go.IntKind.i64)) x1.Entry.ID x3))) else false):=by kernel_rfl
noncomputable def Ed (n:Nat) (x1:List Row) (x2:Int) (x3:List (Int×Int)) (m:Nat) (p:(List Row)×(List Row)×Int):Option ((List Row)×List Row):=
 dw (R:=R) 2 (aI ((aQ Tryz.f50.body [1,0,1,0,0]).getD .skip)) (⟨[(1,Aq.TV.fn 100 [] ([Aq.TV.aK [Aq.TV.int Go.IntKind.i64 x2] 0,Aq.TV.aK [Aq.TV.dx (Aq.Ty.int Go.IntKind.i64) (Aq.Ty.int Go.IntKind.i64) x3] 0])),(8,Aq.TV.ak Aq.Cp.sh (Aq.Ty.st 4) x1),(9,Aq.TV.int Go.IntKind.i64 (((x1.length:Nat):Int)))],[]⟩:Aq.MS R.T) (aR M8.loops 2).sh (aR M8.loops 2).outs (fun st k=>bD E R n false (M7 n) aJ M8 ((aQ Tryz.f50.body [1,0,1,0,0]).getD .skip) st k) m p
attribute [irreducible] Ed
theorem abu (n:Nat) (x1:List Row) (x2:Int) (x3:List (Int×Int)) (m:Nat) (x4:List Row) (x5:List Row) (x6:Int):Ed n x1 x2 x3 (m+1) (x4,(x5,x6))=
 bif decide (x6< (((x1.length:Nat):Int))) then
  (aL x1 x6).bind fun (r7:Row)=>
  (Cn n ((r7,(x2,x3)))).bind fun (r8:Bool)=>
  bif r8 then
   bif bN (x4.length+([r7].length)) 112 then
    Ed n x1 x2 x3 m ((x4++[r7],(x5,Go.IntKind.wrap Go.IntKind.i64 (x6+((1:Int))))))
   else
    none
  else
   bif bN (x5.length+([r7].length)) 112 then
    Ed n x1 x2 x3 m ((x4,(x5++[r7],Go.IntKind.wrap Go.IntKind.i64 (x6+((1:Int))))))
   else
    none
 else
  some ((x4,x5)):=by kernel_rfl
theorem alB (n:Nat) (x1:List Row) (x2:Int) (x3:List (Int×Int)):Cq n (x1,((),(x2,x3)))=
 (Ed n x1 x2 x3 n (([],([],(0:Int))))).bind fun (r9:(List Row)×List Row)=>
 some ((r9.1,r9.2)):=by kernel_rfl
noncomputable def Ji (n:Nat) (x1:List (List Int)) (m:Nat) (p:Int×Int):Option (Int):=
 dw (R:=R) 3 (aI ((aQ Tryz.f161.body [1,1,0,1,0,0]).getD .skip)) (⟨[(0,Aq.TV.ak Aq.Cp.sh (Aq.Ty.slice (Aq.Ty.int Go.IntKind.i64)) x1),(9,Aq.TV.ak Aq.Cp.sh (Aq.Ty.slice (Aq.Ty.int Go.IntKind.i64)) x1),(10,Aq.TV.int Go.IntKind.i64 (((x1.length:Nat):Int)))],[]⟩:Aq.MS R.T) (aR yA.loops 3).sh (aR yA.loops 3).outs (fun st k=>bD E R n false (Hl n) aJ yA ((aQ Tryz.f161.body [1,1,0,1,0,0]).getD .skip) st k) m p
attribute [irreducible] Ji
noncomputable def Jj (n:Nat) (x1:List (List Int)) (m:Nat) (p:(List Int)×Int):Option (List Int):=
 dw (R:=R) 11 (aI ((aQ Tryz.f161.body [1,1,1,1,0,1,0,0]).getD .skip)) (⟨[(25,Aq.TV.ak Aq.Cp.sh (Aq.Ty.slice (Aq.Ty.int Go.IntKind.i64)) x1),(26,Aq.TV.int Go.IntKind.i64 (((x1.length:Nat):Int)))],[]⟩:Aq.MS R.T) (aR yA.loops 11).sh (aR yA.loops 11).outs (fun st k=>bD E R n false (Hl n) aJ yA ((aQ Tryz.f161.body [1,1,1,1,0,1,0,0]).getD .skip) st k) m p
attribute [irreducible] Jj
theorem abv (n:Nat) (x1:List (List Int)) (m:Nat) (x2:Int) (x3:Int):Ji n x1 (m+1) (x2,x3)=
 bif decide (x3< (((x1.length:Nat):Int))) then
  (aL x1 x3).bind fun (r4:List Int)=>
  bif decide ((Go.IntKind.wrap Go.IntKind.i64 (x2+(((r4.length:Nat):Int))))< ((0:Int))) then
   none
  else
   Ji n x1 m ((Go.IntKind.wrap Go.IntKind.i64 (x2+(((r4.length:Nat):Int))),Go.IntKind.wrap Go.IntKind.i64 (x3+((1:Int)))))
 else
  some x2:=by kernel_rfl
theorem abw (n:Nat) (x1:List (List Int)) (m:Nat) (x7:List Int) (x8:Int):Jj n x1 (m+1) (x7,x8)=
 bif decide (x8< (((x1.length:Nat):Int))) then
  (aL x1 x8).bind fun (r9:List Int)=>
  bif bN (x7.length+r9.length) 8 then
   Jj n x1 m ((x7++r9,Go.IntKind.wrap Go.IntKind.i64 (x8+((1:Int)))))
  else
   none
 else
  some x7:=by kernel_rfl
theorem alC (n:Nat) (x1:List (List Int)):yB n x1=
 (Ji n x1 n (((0:Int),(0:Int)))).bind fun (r5:Int)=>
 (Bb (((),r5))).bind fun (r6:List Int)=>
 (Jj n x1 n ((r6,(0:Int)))).bind fun (dR:List Int)=>
 some dR:=by kernel_rfl
noncomputable def Ee (n:Nat) (m:Nat) (p:Int×List Int):Option (Int×List Int):=
 dw (R:=R) 3 (aI ((aQ Tryz.f105.body [1,1,1,0,0,0]).getD .skip)) (⟨[],[]⟩:Aq.MS R.T) (aR Na.loops 3).sh (aR Na.loops 3).outs (fun st k=>bD E R n false (M9 n) aJ Na ((aQ Tryz.f105.body [1,1,1,0,0,0]).getD .skip) st k) m p
attribute [irreducible] Ee
theorem alD (n:Nat) (m:Nat) (x2:Int) (x3:List Int):Ee n (m+1) (x2,x3)=
 bif decide (x2> ((127:Int))) then
  bif bN (x3.length+([Gl Go.IntKind.u8 (Go.IntKind.wrap Go.IntKind.u8 x2) ((128:Int))].length)) 1 then
   bif decide (((0:Int))≤((7:Int))) then
    Ee n m ((oN Go.IntKind.u64 x2 ((7:Int)),x3++[Gl Go.IntKind.u8 (Go.IntKind.wrap Go.IntKind.u8 x2) ((128:Int))]))
   else
    none
  else
   none
 else
  some ((x2,x3)):=by kernel_rfl
theorem alE (n:Nat) (x1:Int):sG n x1=
 bif decide (((0:Int))≤((1:Int))) then
  bif decide (((0:Int))≤((63:Int))) then
   (Ee n n ((mo Go.IntKind.u64 (Me Go.IntKind.u64 (Go.IntKind.wrap Go.IntKind.u64 x1) ((1:Int))) (Go.IntKind.wrap Go.IntKind.u64 (oN Go.IntKind.i64 x1 ((63:Int)))),[]))).bind fun (r4:Int×List Int)=>
   bif bN (r4.2.length+([Go.IntKind.wrap Go.IntKind.u8 r4.1].length)) 1 then
    some (r4.2++[Go.IntKind.wrap Go.IntKind.u8 r4.1])
   else
    none
  else
   none
 else
  none:=by kernel_rfl
noncomputable def Jk (n:Nat) (x1:List Int) (m:Nat) (p:(List Int)×Int):Option (List Int):=
 dw (R:=R) 3 (aI ((aQ Tryz.f104.body [1,1,0,1,0,0]).getD .skip)) (⟨[(1,Aq.TV.fn 105 [] []),(11,Aq.TV.ak Aq.Cp.sh (Aq.Ty.int Go.IntKind.i64) x1),(12,Aq.TV.int Go.IntKind.i64 (((x1.length:Nat):Int)))],[]⟩:Aq.MS R.T) (aR Nc.loops 3).sh (aR Nc.loops 3).outs (fun st k=>bD E R n false (Nb n) aJ Nc ((aQ Tryz.f104.body [1,1,0,1,0,0]).getD .skip) st k) m p
attribute [irreducible] Jk
theorem abx (n:Nat) (x1:List Int) (m:Nat) (x3:List Int) (x4:Int):Jk n x1 (m+1) (x3,x4)=
 bif decide (x4< (((x1.length:Nat):Int))) then
  (aL x1 x4).bind fun (r5:Int)=>
  (sG n r5).bind fun (r6:List Int)=>
  bif bN (x3.length+r6.length) 1 then
   Jk n x1 m ((x3++r6,Go.IntKind.wrap Go.IntKind.i64 (x4+((1:Int)))))
  else
   none
 else
  some x3:=by kernel_rfl
theorem alF (n:Nat) (x1:List Int):Hq n (x1,((),()))=
 (sG n (((x1.length:Nat):Int))).bind fun (r2:List Int)=>
 (Jk n x1 n ((r2,(0:Int)))).bind fun (r7:List Int)=>
 some r7:=by kernel_rfl
theorem alG (n:Nat) (x1:List Int):Cw n x1=
 (Hq n ((x1,((),())))).bind fun (r2:List Int)=>
 some r2:=by kernel_rfl
theorem alH (n:Nat) (x1:List UInt8):yC n x1=
 (sG n (((x1.length:Nat):Int))).bind fun (r2:List Int)=>
 bif bN (r2.length+((List.map (fun b:UInt8=>((b.toNat:Nat):Int)) x1).length)) 1 then
  some (r2++(List.map (fun b:UInt8=>((b.toNat:Nat):Int)) x1))
 else
  none:=by kernel_rfl
noncomputable def Jl (n:Nat) (x1:List (List UInt8)) (m:Nat) (p:(List Int)×Int):Option (List Int):=
 dw (R:=R) 3 (aI ((aQ Tryz.f201.body [1,1,0,1,0,0]).getD .skip)) (⟨[(1,Aq.TV.fn 159 [] []),(11,Aq.TV.ak Aq.Cp.sh Aq.Ty.str x1),(12,Aq.TV.int Go.IntKind.i64 (((x1.length:Nat):Int)))],[]⟩:Aq.MS R.T) (aR Ng.loops 3).sh (aR Ng.loops 3).outs (fun st k=>bD E R n false (Nf n) aJ Ng ((aQ Tryz.f201.body [1,1,0,1,0,0]).getD .skip) st k) m p
attribute [irreducible] Jl
theorem aby (n:Nat) (x1:List (List UInt8)) (m:Nat) (x3:List Int) (x4:Int):Jl n x1 (m+1) (x3,x4)=
 bif decide (x4< (((x1.length:Nat):Int))) then
  (aL x1 x4).bind fun (r5:List UInt8)=>
  (yC n r5).bind fun (r6:List Int)=>
  bif bN (x3.length+r6.length) 1 then
   Jl n x1 m ((x3++r6,Go.IntKind.wrap Go.IntKind.i64 (x4+((1:Int)))))
  else
   none
 else
  some x3:=by kernel_rfl
theorem alI (n:Nat) (x1:List (List UInt8)):Hw n (x1,((),()))=
 (sG n (((x1.length:Nat):Int))).bind fun (r2:List Int)=>
 (Jl n x1 n ((r2,(0:Int)))).bind fun (r7:List Int)=>
 some r7:=by kernel_rfl
theorem alJ (n:Nat) (x1:List (List UInt8)):CB n x1=
 (Hw n ((x1,((),())))).bind fun (r2:List Int)=>
 some r2:=by kernel_rfl
noncomputable def Jm (n:Nat) (x1:List (List Int)) (m:Nat) (p:Int×Int):Option (Int):=
 dw (R:=R) 3 (aI ((aQ Tryz.f162.body [1,1,0,1,0,0]).getD .skip)) (⟨[(0,Aq.TV.ak Aq.Cp.sh (Aq.Ty.slice (Aq.Ty.int Go.IntKind.u8)) x1),(9,Aq.TV.ak Aq.Cp.sh (Aq.Ty.slice (Aq.Ty.int Go.IntKind.u8)) x1),(10,Aq.TV.int Go.IntKind.i64 (((x1.length:Nat):Int)))],[]⟩:Aq.MS R.T) (aR yD.loops 3).sh (aR yD.loops 3).outs (fun st k=>bD E R n false (Hz n) aJ yD ((aQ Tryz.f162.body [1,1,0,1,0,0]).getD .skip) st k) m p
attribute [irreducible] Jm
noncomputable def Jo (n:Nat) (x1:List (List Int)) (m:Nat) (p:(List Int)×Int):Option (List Int):=
 dw (R:=R) 11 (aI ((aQ Tryz.f162.body [1,1,1,1,0,1,0,0]).getD .skip)) (⟨[(25,Aq.TV.ak Aq.Cp.sh (Aq.Ty.slice (Aq.Ty.int Go.IntKind.u8)) x1),(26,Aq.TV.int Go.IntKind.i64 (((x1.length:Nat):Int)))],[]⟩:Aq.MS R.T) (aR yD.loops 11).sh (aR yD.loops 11).outs (fun st k=>bD E R n false (Hz n) aJ yD ((aQ Tryz.f162.body [1,1,1,1,0,1,0,0]).getD .skip) st k) m p
attribute [irreducible] Jo
theorem abz (n:Nat) (x1:List (List Int)) (m:Nat) (x2:Int) (x3:Int):Jm n x1 (m+1) (x2,x3)=
 bif decide (x3< (((x1.length:Nat):Int))) then
  (aL x1 x3).bind fun (r4:List Int)=>
  bif decide ((Go.IntKind.wrap Go.IntKind.i64 (x2+(((r4.length:Nat):Int))))< ((0:Int))) then
   none
  else
   Jm n x1 m ((Go.IntKind.wrap Go.IntKind.i64 (x2+(((r4.length:Nat):Int))),Go.IntKind.wrap Go.IntKind.i64 (x3+((1:Int)))))
 else
  some x2:=by kernel_rfl
theorem abA (n:Nat) (x1:List (List Int)) (m:Nat) (x7:List Int) (x8:Int):Jo n x1 (m+1) (x7,x8)=
 bif decide (x8< (((x1.length:Nat):Int))) then
  (aL x1 x8).bind fun (r9:List Int)=>
  bif bN (x7.length+r9.length) 1 then
   Jo n x1 m ((x7++r9,Go.IntKind.wrap Go.IntKind.i64 (x8+((1:Int)))))
  else
   none
 else
  some x7:=by kernel_rfl
theorem alK (n:Nat) (x1:List (List Int)):CG n x1=
 (Jm n x1 n (((0:Int),(0:Int)))).bind fun (r5:Int)=>
 (Bc (((),r5))).bind fun (r6:List Int)=>
 (Jo n x1 n ((r6,(0:Int)))).bind fun (dR:List Int)=>
 some dR:=by kernel_rfl
noncomputable def Jp (n:Nat) (x1:Entry) (m:Nat) (p:(List Int)×(List (List UInt8))×Int):Option ((List Int)×List (List UInt8)):=
 dw (R:=R) 4 (aI ((aQ Tryz.f103.body [1,1,1,0,1,0,0]).getD .skip)) (⟨[(34,Aq.TV.ak Aq.Cp.sh (Aq.Ty.st 2) x1.aM),(35,Aq.TV.int Go.IntKind.i64 (((x1.aM.length:Nat):Int)))],[]⟩:Aq.MS R.T) (aR Ni.loops 4).sh (aR Ni.loops 4).outs (fun st k=>bD E R n false (Nh n) aJ Ni ((aQ Tryz.f103.body [1,1,1,0,1,0,0]).getD .skip) st k) m p
attribute [irreducible] Jp
theorem abB (n:Nat) (x1:Entry) (m:Nat) (x3:List Int) (x4:List (List UInt8)) (x5:Int):Jp n x1 (m+1) (x3,(x4,x5))=
 bif decide (x5< (((x1.aM.length:Nat):Int))) then
  (aL x1.aM x5).bind fun (r6:Attr)=>
  bif bN (x3.length+([r6.Kind,r6.N].length)) 8 then
   bif bN (x4.length+([r6.Name,r6.S].length)) 16 then
    Jp n x1 m ((x3++[r6.Kind,r6.N],(x4++[r6.Name,r6.S],Go.IntKind.wrap Go.IntKind.i64 (x5+((1:Int))))))
   else
    none
  else
   none
 else
  some ((x3,x4)):=by kernel_rfl
theorem alL (n:Nat) (x1:Entry):CK n x1=
 (yB n ([[x1.ID,x1.eG,x1.eU,x1.gQ,x1.From,x1.To,x1.fM,((x1.Vec.length:Nat):Int)],x1.Vec,[((x1.aM.length:Nat):Int)]])).bind fun (r2:List Int)=>
 (Jp n x1 n ((r2,([],(0:Int))))).bind fun (r7:(List Int)×List (List UInt8))=>
 (Cw n r7.1).bind fun (r8:List Int)=>
 (CB n r7.2).bind fun (r9:List Int)=>
 (CG n [r8,r9]).bind fun (dR:List Int)=>
 some dR:=by kernel_rfl
theorem alM (n:Nat):H6 n ()=
 some ((Vec.lit 8 [(1779033703:Int),(3144134277:Int),(1013904242:Int),(2773480762:Int),(1359893119:Int),(2600822924:Int),(528734635:Int),(1541459225:Int)],(Vec.lit 64 [(0:Int),(0:Int),(0:Int),(0:Int),(0:Int),(0:Int),(0:Int),(0:Int),(0:Int),(0:Int),(0:Int),(0:Int),(0:Int),(0:Int),(0:Int),(0:Int),(0:Int),(0:Int),(0:Int),(0:Int),(0:Int),(0:Int),(0:Int),(0:Int),(0:Int),(0:Int),(0:Int),(0:Int),(0:Int),(0:Int),(0:Int),(0:Int),(0:Int),(0:Int),(0:Int),(0:Int),(0:Int),(0:Int),(0:Int),(0:Int),(0:Int),(0:Int),(0:Int),(0:Int),(0:Int),(0:Int),(0:Int),(0:Int),(0:Int),(0:Int),(0:Int),(0:Int),(0:Int),(0:Int),(0:Int),(0:Int),(0:Int),(0:Int),(0:Int),(0:Int),(0:Int),(0:Int),(0:Int),(0:Int)],(0:Int)))):=by kernel_rfl
theorem alN (n:Nat) (x1:Int) (x2:Int):p9 n (x1,x2)=
 bif decide (((0:Int))≤(nW Go.IntKind.u64 (Go.IntKind.wrap Go.IntKind.u64 x2) ((31:Int)))) then
  bif decide (((0:Int))≤(Go.IntKind.wrap Go.IntKind.u64 (((32:Int))-(nW Go.IntKind.u64 (Go.IntKind.wrap Go.IntKind.u64 x2) ((31:Int)))))) then
   some (Gl Go.IntKind.u32 (Me Go.IntKind.u32 x1 (nW Go.IntKind.u64 (Go.IntKind.wrap Go.IntKind.u64 x2) ((31:Int)))) (oN Go.IntKind.u32 x1 (Go.IntKind.wrap Go.IntKind.u64 (((32:Int))-(nW Go.IntKind.u64 (Go.IntKind.wrap Go.IntKind.u64 x2) ((31:Int)))))))
  else
   none
 else
  none:=by kernel_rfl
noncomputable def Ef (n:Nat) (x1:List Int) (x2:Int) (m:Nat) (p:Int×Vec 64):Option (PUnit×Vec 64):=
 dw (R:=R) 7 (aI ((aQ Tryz.f223.body [1,1,0,1,0,0,1,1,0,0,1,0,1,0,0,1,0,0]).getD .skip)) (⟨[(0,Aq.TV.ak Aq.Cp.sh (Aq.Ty.int Go.IntKind.u8) x1),(2,Aq.TV.ref 2 0),(3,Aq.TV.ref 3 0),(4,Aq.TV.int Go.IntKind.i64 x2),(11,Aq.TV.int Go.IntKind.i64 x2),(22,Aq.TV.ak Aq.Cp.any (Aq.Ty.int Go.IntKind.u8) (List.drop (Int.toNat (Go.IntKind.wrap Go.IntKind.i64 (((4:Int))*x2))) (List.take (Int.toNat (Go.IntKind.wrap Go.IntKind.i64 ((Go.IntKind.wrap Go.IntKind.i64 (((4:Int))*x2))+((4:Int))))) x1))),(23,Aq.TV.int Go.IntKind.i64 ((((List.drop (Int.toNat (Go.IntKind.wrap Go.IntKind.i64 (((4:Int))*x2))) (List.take (Int.toNat (Go.IntKind.wrap Go.IntKind.i64 ((Go.IntKind.wrap Go.IntKind.i64 (((4:Int))*x2))+((4:Int))))) x1)).length:Nat):Int)))],[(2,Aq.Ob.ro (Aq.Ob.ro (Aq.Ob.sg [Aq.Sg.a Go.IntKind.u32 64 (Vec.rep 64 ((0:Int)))])))]⟩:Aq.MS R.T) (aR yE.loops 7).sh (aR yE.loops 7).outs (fun st k=>bD E R n false (H8 n) aJ yE ((aQ Tryz.f223.body [1,1,0,1,0,0,1,1,0,0,1,0,1,0,0,1,0,0]).getD .skip) st k) m p
attribute [irreducible] Ef
noncomputable def uJ (n:Nat) (x1:List Int) (m:Nat) (p:Int×Vec 64):Option (PUnit×Vec 64):=
 dw (R:=R) 3 (aI ((aQ Tryz.f223.body [1,1,0,1,0,0]).getD .skip)) (⟨[(0,Aq.TV.ak Aq.Cp.sh (Aq.Ty.int Go.IntKind.u8) x1),(2,Aq.TV.ref 2 0),(3,Aq.TV.ref 3 0)],[(2,Aq.Ob.ro (Aq.Ob.sg [Aq.Sg.a Go.IntKind.u32 64 (Vec.rep 64 ((0:Int)))]))]⟩:Aq.MS R.T) (aR yE.loops 3).sh (aR yE.loops 3).outs (fun st k=>bD E R n false (H8 n) aJ yE ((aQ Tryz.f223.body [1,1,0,1,0,0]).getD .skip) st k) m p
attribute [irreducible] uJ
theorem alO (n:Nat) (x1:List Int) (x2:Int) (m:Nat) (x4:Int) (x5:Vec 64):Ef n x1 x2 (m+1) (x4,x5)=
 bif decide (x4< ((((List.drop (Int.toNat (Go.IntKind.wrap Go.IntKind.i64 (((4:Int))*x2))) (List.take (Int.toNat (Go.IntKind.wrap Go.IntKind.i64 ((Go.IntKind.wrap Go.IntKind.i64 (((4:Int))*x2))+((4:Int))))) x1)).length:Nat):Int))) then
  (aL (List.drop (Int.toNat (Go.IntKind.wrap Go.IntKind.i64 (((4:Int))*x2))) (List.take (Int.toNat (Go.IntKind.wrap Go.IntKind.i64 ((Go.IntKind.wrap Go.IntKind.i64 (((4:Int))*x2))+((4:Int))))) x1)) x4).bind fun (r6:Int)=>
  bif eO x2 64 then
   bif decide (((0:Int))≤((8:Int))) then
    bif eO x2 64 then
     Ef n x1 x2 m ((Go.IntKind.wrap Go.IntKind.i64 (x4+((1:Int))),x5.set x2 (Gl Go.IntKind.u32 (Me Go.IntKind.u32 (x5.at' x2) ((8:Int))) (Go.IntKind.wrap Go.IntKind.u32 r6))))
    else
     none
   else
    none
  else
   none
 else
  some (((),x5)):=by kernel_rfl
theorem alP (n:Nat) (x1:List Int) (m:Nat) (x2:Int) (x3:Vec 64):uJ n x1 (m+1) (x2,x3)=
 bif decide (x2< ((64:Int))) then
  bif decide (x2< ((16:Int))) then
   bif (jL (Go.IntKind.wrap Go.IntKind.i64 ((Go.IntKind.wrap Go.IntKind.i64 (((4:Int))*x2))+((4:Int)))) x1.length)&& (jL (Go.IntKind.wrap Go.IntKind.i64 (((4:Int))*x2)) (Int.toNat (Go.IntKind.wrap Go.IntKind.i64 ((Go.IntKind.wrap Go.IntKind.i64 (((4:Int))*x2))+((4:Int)))))) then
    (Ef n x1 x2 n (((0:Int),x3))).bind fun (r7:PUnit×Vec 64)=>
    uJ n x1 m ((Go.IntKind.wrap Go.IntKind.i64 (x2+((1:Int))),r7.2))
   else
    none
  else
   bif eO (Go.IntKind.wrap Go.IntKind.i64 (x2-((15:Int)))) 64 then
    bif eO (Go.IntKind.wrap Go.IntKind.i64 (x2-((2:Int)))) 64 then
     (p9 n ((x3.at' (Go.IntKind.wrap Go.IntKind.i64 (x2-((15:Int)))),(-7:Int)))).bind fun (r8:Int)=>
     (p9 n ((x3.at' (Go.IntKind.wrap Go.IntKind.i64 (x2-((15:Int)))),(-18:Int)))).bind fun (r9:Int)=>
     bif decide (((0:Int))≤((3:Int))) then
      (p9 n ((x3.at' (Go.IntKind.wrap Go.IntKind.i64 (x2-((2:Int)))),(-17:Int)))).bind fun (dR:Int)=>
      (p9 n ((x3.at' (Go.IntKind.wrap Go.IntKind.i64 (x2-((2:Int)))),(-19:Int)))).bind fun (dV:Int)=>
      bif decide (((0:Int))≤((10:Int))) then
       bif eO (Go.IntKind.wrap Go.IntKind.i64 (x2-((16:Int)))) 64 then
        bif eO (Go.IntKind.wrap Go.IntKind.i64 (x2-((7:Int)))) 64 then
         bif eO x2 64 then
          uJ n x1 m ((Go.IntKind.wrap Go.IntKind.i64 (x2+((1:Int))),x3.set x2 (Go.IntKind.wrap Go.IntKind.u32 ((Go.IntKind.wrap Go.IntKind.u32 ((Go.IntKind.wrap Go.IntKind.u32 ((x3.at' (Go.IntKind.wrap Go.IntKind.i64 (x2-((16:Int)))))+(mo Go.IntKind.u32 (mo Go.IntKind.u32 r8 r9) (oN Go.IntKind.u32 (x3.at' (Go.IntKind.wrap Go.IntKind.i64 (x2-((15:Int))))) ((3:Int))))))+(x3.at' (Go.IntKind.wrap Go.IntKind.i64 (x2-((7:Int)))))))+(mo Go.IntKind.u32 (mo Go.IntKind.u32 dR dV) (oN Go.IntKind.u32 (x3.at' (Go.IntKind.wrap Go.IntKind.i64 (x2-((2:Int))))) ((10:Int))))))))
         else
          none
        else
         none
       else
        none
      else
       none
     else
      none
    else
     none
   else
    none
 else
  some (((),x3)):=by kernel_rfl
theorem alQ (n:Nat) (x1:List Int):CS n x1=
 (uJ n x1 n (((0:Int),Vec.rep 64 ((0:Int))))).bind fun (iQ:PUnit×Vec 64)=>
 some iQ.2:=by kernel_rfl
theorem alR (n:Nat) (x1:Int) (x2:Int) (x3:Int) (x4:Int):yF n (x1,(x2,(x3,x4)))=
 (p9 n ((x1,Go.IntKind.wrap Go.IntKind.i64 (((0:Int))-x2)))).bind fun (r5:Int)=>
 (p9 n ((x1,Go.IntKind.wrap Go.IntKind.i64 (((0:Int))-x3)))).bind fun (r6:Int)=>
 (p9 n ((x1,Go.IntKind.wrap Go.IntKind.i64 (((0:Int))-x4)))).bind fun (r7:Int)=>
 some (mo Go.IntKind.u32 (mo Go.IntKind.u32 r5 r6) r7):=by kernel_rfl
noncomputable def yR (n:Nat) (x1:Vec 8) (r3:Vec 64) (m:Nat) (p:Int×(Vec 4)×Vec 4):Option (PUnit×(Vec 4)×Vec 4):=
 dw (R:=R) 4 (aI ((aQ Tryz.f198.body [1,1,1,0,1,0,0]).getD .skip)) (⟨[(2,Aq.TV.ref 2 0),(4,Aq.TV.ref 4 0),(5,Aq.TV.ref 5 0),(6,Aq.TV.ref 6 0),(7,Aq.TV.ref 7 0),(21,Aq.TV.sg [Aq.Sg.a Go.IntKind.u32 64 Md])],[(2,Aq.Ob.ro (Aq.Ob.sg [Aq.Sg.a Go.IntKind.u32 8 x1])),(4,Aq.Ob.ro (Aq.Ob.sg [Aq.Sg.a Go.IntKind.u32 8 (Vec.rep 8 ((0:Int)))])),(5,Aq.Ob.ro (Aq.Ob.sg [Aq.Sg.a Go.IntKind.u32 64 r3]))]⟩:Aq.MS R.T) (aR yG.loops 4).sh (aR yG.loops 4).outs (fun st k=>bD E R n false (Ib n) aJ yG ((aQ Tryz.f198.body [1,1,1,0,1,0,0]).getD .skip) st k) m p
attribute [irreducible] yR
noncomputable def Eh (n:Nat) (r9:PUnit×(Vec 4)×Vec 4) (m:Nat) (p:Int×Vec 8):Option (PUnit×Vec 8):=
 dw (R:=R) 12 (aI ((aQ Tryz.f198.body [1,1,1,1,0,1,0,0]).getD .skip)) (⟨[(2,Aq.TV.ref 2 0),(4,Aq.TV.ref 4 0),(6,Aq.TV.ref 6 0),(7,Aq.TV.ref 7 0)],[(4,Aq.Ob.ro (Aq.Ob.sg [Aq.Sg.a Go.IntKind.u32 8 (Vec.rep 8 ((0:Int)))])),(6,Aq.Ob.ro (Aq.Ob.sg [Aq.Sg.a Go.IntKind.u32 4 r9.2.1])),(7,Aq.Ob.ro (Aq.Ob.sg [Aq.Sg.a Go.IntKind.u32 4 r9.2.2]))]⟩:Aq.MS R.T) (aR yG.loops 12).sh (aR yG.loops 12).outs (fun st k=>bD E R n false (Ib n) aJ yG ((aQ Tryz.f198.body [1,1,1,1,0,1,0,0]).getD .skip) st k) m p
attribute [irreducible] Eh
theorem alS (n:Nat) (x1:Vec 8) (r3:Vec 64) (m:Nat) (x4:Int) (x5:Vec 4) (x6:Vec 4):yR n x1 r3 (m+1) (x4,(x5,x6))=
 bif decide (x4< ((64:Int))) then
  bif eO x4 64 then
   bif eO ((3:Int)) 4 then
    bif eO ((0:Int)) 4 then
     (yF n ((x6.at' ((0:Int)),((6:Int),((11:Int),(25:Int)))))).bind fun (r7:Int)=>
     bif eO ((0:Int)) 4 then
      bif eO ((1:Int)) 4 then
       bif eO ((0:Int)) 4 then
        bif eO ((2:Int)) 4 then
         bif eO x4 64 then
          bif eO ((0:Int)) 4 then
           (yF n ((x5.at' ((0:Int)),((2:Int),((13:Int),(22:Int)))))).bind fun (r8:Int)=>
           bif eO ((0:Int)) 4 then
            bif eO ((1:Int)) 4 then
             bif eO ((0:Int)) 4 then
              bif eO ((2:Int)) 4 then
               bif eO ((1:Int)) 4 then
                bif eO ((2:Int)) 4 then
                 bif eO ((3:Int)) 4 then
                  bif eO ((0:Int)) 4 then
                   bif eO ((1:Int)) 4 then
                    bif eO ((2:Int)) 4 then
                     bif eO ((0:Int)) 4 then
                      bif eO ((1:Int)) 4 then
                       bif eO ((2:Int)) 4 then
                        yR n x1 r3 m ((Go.IntKind.wrap Go.IntKind.i64 (x4+((1:Int))),(Vec.lit 4 [Go.IntKind.wrap Go.IntKind.u32 ((Go.IntKind.wrap Go.IntKind.u32 ((Go.IntKind.wrap Go.IntKind.u32 ((Go.IntKind.wrap Go.IntKind.u32 ((Go.IntKind.wrap Go.IntKind.u32 ((x6.at' ((3:Int)))+r7))+(mo Go.IntKind.u32 (nW Go.IntKind.u32 (x6.at' ((0:Int))) (x6.at' ((1:Int)))) (nW Go.IntKind.u32 (mo Go.IntKind.u32 ((4294967295:Int)) (x6.at' ((0:Int)))) (x6.at' ((2:Int)))))))+(Md.at' x4)))+(r3.at' x4)))+(Go.IntKind.wrap Go.IntKind.u32 (r8+(mo Go.IntKind.u32 (mo Go.IntKind.u32 (nW Go.IntKind.u32 (x5.at' ((0:Int))) (x5.at' ((1:Int)))) (nW Go.IntKind.u32 (x5.at' ((0:Int))) (x5.at' ((2:Int))))) (nW Go.IntKind.u32 (x5.at' ((1:Int))) (x5.at' ((2:Int)))))))),x5.at' ((0:Int)),x5.at' ((1:Int)),x5.at' ((2:Int))],Vec.lit 4 [Go.IntKind.wrap Go.IntKind.u32 ((x5.at' ((3:Int)))+(Go.IntKind.wrap Go.IntKind.u32 ((Go.IntKind.wrap Go.IntKind.u32 ((Go.IntKind.wrap Go.IntKind.u32 ((Go.IntKind.wrap Go.IntKind.u32 ((x6.at' ((3:Int)))+r7))+(mo Go.IntKind.u32 (nW Go.IntKind.u32 (x6.at' ((0:Int))) (x6.at' ((1:Int)))) (nW Go.IntKind.u32 (mo Go.IntKind.u32 ((4294967295:Int)) (x6.at' ((0:Int)))) (x6.at' ((2:Int)))))))+(Md.at' x4)))+(r3.at' x4)))),x6.at' ((0:Int)),x6.at' ((1:Int)),x6.at' ((2:Int))])))
                       else
                        none
                      else
                       none
                     else
                      none
                    else
                     none
                   else
                    none
                  else
                   none
                 else
                  none
                else
                 none
               else
                none
              else
               none
             else
              none
            else
             none
           else
            none
          else
           none
         else
          none
        else
         none
       else
        none
      else
       none
     else
      none
    else
     none
   else
    none
  else
   none
 else
  some (((),(x5,x6))):=by kernel_rfl
theorem alT (n:Nat) (r9:PUnit×(Vec 4)×Vec 4) (m:Nat) (x10:Int) (jN:Vec 8):Eh n r9 (m+1) (x10,jN)=
 bif decide (x10< ((4:Int))) then
  bif eO x10 8 then
   bif eO x10 4 then
    bif eO x10 8 then
     bif eO (Go.IntKind.wrap Go.IntKind.i64 (x10+((4:Int)))) 8 then
      bif eO x10 4 then
       bif eO (Go.IntKind.wrap Go.IntKind.i64 (x10+((4:Int)))) 8 then
        Eh n r9 m ((Go.IntKind.wrap Go.IntKind.i64 (x10+((1:Int))),(jN.set x10 (Go.IntKind.wrap Go.IntKind.u32 ((jN.at' x10)+(r9.2.1.at' x10)))).set (Go.IntKind.wrap Go.IntKind.i64 (x10+((4:Int)))) (Go.IntKind.wrap Go.IntKind.u32 (((jN.set x10 (Go.IntKind.wrap Go.IntKind.u32 ((jN.at' x10)+(r9.2.1.at' x10)))).at' (Go.IntKind.wrap Go.IntKind.i64 (x10+((4:Int)))))+(r9.2.2.at' x10)))))
       else
        none
      else
       none
     else
      none
    else
     none
   else
    none
  else
   none
 else
  some (((),jN)):=by kernel_rfl
theorem alU (n:Nat) (x1:Vec 8) (x2:List Int):CX n (x1,x2)=
 (CS n x2).bind fun (r3:Vec 64)=>
 bif mV 8 none (some ((4:Int))) then
  bif decide (0<4∧((4:Nat):Int)≤((4:Int))-((0:Int))) then
   bif mV 8 (some ((4:Int))) none then
    bif decide (0<4∧((4:Nat):Int)≤((8:Int))-((4:Int))) then
     (yR n x1 r3 n (((0:Int),(x1.slc ((0:Int)) 4,x1.slc ((4:Int)) 4)))).bind fun (r9:PUnit×(Vec 4)×Vec 4)=>
     (Eh n r9 n (((0:Int),x1))).bind fun (iQ:PUnit×Vec 8)=>
     some iQ.2
    else
     none
   else
    none
  else
   none
 else
  none:=by kernel_rfl
noncomputable def wG (n:Nat) (m:Nat) (p:(List UInt8)×(Vec 8)×(Vec 64)×Int):Option (PUnit×(Vec 8)×(Vec 64)×Int):=
 dw (R:=R) 1 (aI ((aQ Tryz.f158.body [1,0,0,0]).getD .skip)) (⟨[(2,Aq.TV.ref 2 0),(4,Aq.TV.ref 4 0)],[(4,Aq.Ob.ro (Aq.Ob.sg [Aq.Sg.a Go.IntKind.u32 8 (Vec.rep 8 ((0:Int))),Aq.Sg.a Go.IntKind.u8 64 (Vec.rep 64 ((0:Int))),Aq.Sg.i Go.IntKind.u64 ((0:Int))]))]⟩:Aq.MS R.T) (aR Nk.loops 1).sh (aR Nk.loops 1).outs (fun st k=>bD E R n false (Nj n) aJ Nk ((aQ Tryz.f158.body [1,0,0,0]).getD .skip) st k) m p
attribute [irreducible] wG
theorem alV (n:Nat) (m:Nat) (x5:List UInt8) (x6:Vec 8) (x7:Vec 64) (x8:Int):wG n (m+1) (x5,(x6,(x7,x8)))=
 bif !(x5==[]) then
  bif !(((64:Int))==((0:Int))) then
   bif mV 64 (some (Go.IntKind.wrap Go.IntKind.i64 (Int.tmod x8 ((64:Int))))) none then
    bif jL ((((List.take (Int.toNat (((64:Int))-(Go.IntKind.wrap Go.IntKind.i64 (Int.tmod x8 ((64:Int)))))) (List.map (fun b:UInt8=>((b.toNat:Nat):Int)) x5)).length:Nat):Int)) x5.length then
     bif (Go.IntKind.wrap Go.IntKind.i64 ((Go.IntKind.wrap Go.IntKind.i64 (Int.tmod x8 ((64:Int))))+((((List.take (Int.toNat (((64:Int))-(Go.IntKind.wrap Go.IntKind.i64 (Int.tmod x8 ((64:Int)))))) (List.map (fun b:UInt8=>((b.toNat:Nat):Int)) x5)).length:Nat):Int))))==((64:Int)) then
      (CX n ((x6,(x7.rR (Go.IntKind.wrap Go.IntKind.i64 (Int.tmod x8 ((64:Int)))) (List.take (Int.toNat (((64:Int))-(Go.IntKind.wrap Go.IntKind.i64 (Int.tmod x8 ((64:Int)))))) (List.map (fun b:UInt8=>((b.toNat:Nat):Int)) x5))).l))).bind fun (r9:Vec 8)=>
      wG n m ((List.drop (Int.toNat ((((List.take (Int.toNat (((64:Int))-(Go.IntKind.wrap Go.IntKind.i64 (Int.tmod x8 ((64:Int)))))) (List.map (fun b:UInt8=>((b.toNat:Nat):Int)) x5)).length:Nat):Int))) x5,(r9,(x7.rR (Go.IntKind.wrap Go.IntKind.i64 (Int.tmod x8 ((64:Int)))) (List.take (Int.toNat (((64:Int))-(Go.IntKind.wrap Go.IntKind.i64 (Int.tmod x8 ((64:Int)))))) (List.map (fun b:UInt8=>((b.toNat:Nat):Int)) x5)),Go.IntKind.wrap Go.IntKind.u64 (x8+(Go.IntKind.wrap Go.IntKind.u64 ((((List.take (Int.toNat (((64:Int))-(Go.IntKind.wrap Go.IntKind.i64 (Int.tmod x8 ((64:Int)))))) (List.map (fun b:UInt8=>((b.toNat:Nat):Int)) x5)).length:Nat):Int))))))))
     else
      wG n m ((List.drop (Int.toNat ((((List.take (Int.toNat (((64:Int))-(Go.IntKind.wrap Go.IntKind.i64 (Int.tmod x8 ((64:Int)))))) (List.map (fun b:UInt8=>((b.toNat:Nat):Int)) x5)).length:Nat):Int))) x5,(x6,(x7.rR (Go.IntKind.wrap Go.IntKind.i64 (Int.tmod x8 ((64:Int)))) (List.take (Int.toNat (((64:Int))-(Go.IntKind.wrap Go.IntKind.i64 (Int.tmod x8 ((64:Int)))))) (List.map (fun b:UInt8=>((b.toNat:Nat):Int)) x5)),Go.IntKind.wrap Go.IntKind.u64 (x8+(Go.IntKind.wrap Go.IntKind.u64 ((((List.take (Int.toNat (((64:Int))-(Go.IntKind.wrap Go.IntKind.i64 (Int.tmod x8 ((64:Int)))))) (List.map (fun b:UInt8=>((b.toNat:Nat):Int)) x5)).length:Nat):Int))))))))
    else
     none
   else
    none
  else
   none
 else
  some (((),(x6,(x7,x8)))):=by kernel_rfl
theorem alW (n:Nat) (x1:Vec 8) (x2:Vec 64) (x3:Int) (x4:List UInt8):vU n ((x1,(x2,x3)),x4)=
 (wG n n ((x4,(x1,(x2,x3))))).bind fun (dR:PUnit×(Vec 8)×(Vec 64)×Int)=>
 some ((dR.2.1,(dR.2.2.1,dR.2.2.2))):=by kernel_rfl
noncomputable def Ei (n:Nat) (x1:Vec 8) (x2:Vec 64) (x3:Int) (m:Nat) (p:List Int):Option (List Int):=
 dw (R:=R) 3 (aI ((aQ Tryz.f160.body [1,1,1,0,0,0]).getD .skip)) (⟨[(1,Aq.TV.ref 1 0),(2,Aq.TV.ref 2 0),(3,Aq.TV.int Go.IntKind.u64 (Go.IntKind.wrap Go.IntKind.u64 (((8:Int))*x3)))],[(1,Aq.Ob.ro (Aq.Ob.sg [Aq.Sg.a Go.IntKind.u32 8 x1,Aq.Sg.a Go.IntKind.u8 64 x2,Aq.Sg.i Go.IntKind.u64 x3])),(2,Aq.Ob.ro (Aq.Ob.sg [Aq.Sg.a Go.IntKind.u8 32 (Vec.rep 32 ((0:Int)))]))]⟩:Aq.MS R.T) (aR sH.loops 3).sh (aR sH.loops 3).outs (fun st k=>bD E R n false (CZ n) aJ sH ((aQ Tryz.f160.body [1,1,1,0,0,0]).getD .skip) st k) m p
attribute [irreducible] Ei
noncomputable def Ej (n:Nat) (x1:Vec 8) (x2:Vec 64) (x3:Int) (m:Nat) (p:(List Int)×Int):Option (List Int):=
 dw (R:=R) 6 (aI ((aQ Tryz.f160.body [1,1,1,1,0,1,0,0]).getD .skip)) (⟨[(1,Aq.TV.ref 1 0),(2,Aq.TV.ref 2 0),(3,Aq.TV.int Go.IntKind.u64 (Go.IntKind.wrap Go.IntKind.u64 (((8:Int))*x3)))],[(1,Aq.Ob.ro (Aq.Ob.sg [Aq.Sg.a Go.IntKind.u32 8 x1,Aq.Sg.a Go.IntKind.u8 64 x2,Aq.Sg.i Go.IntKind.u64 x3])),(2,Aq.Ob.ro (Aq.Ob.sg [Aq.Sg.a Go.IntKind.u8 32 (Vec.rep 32 ((0:Int)))]))]⟩:Aq.MS R.T) (aR sH.loops 6).sh (aR sH.loops 6).outs (fun st k=>bD E R n false (CZ n) aJ sH ((aQ Tryz.f160.body [1,1,1,1,0,1,0,0]).getD .skip) st k) m p
attribute [irreducible] Ej
noncomputable def El (n:Nat) (r9:(Vec 8)×(Vec 64)×Int) (m:Nat) (p:Int×Vec 32):Option (PUnit×Vec 32):=
 dw (R:=R) 13 (aI ((aQ Tryz.f160.body [1,1,1,1,1,1,1,0,1,0,0]).getD .skip)) (⟨[(1,Aq.TV.ref 1 0),(2,Aq.TV.ref 2 0),(6,Aq.TV.ref 6 0)],[(1,Aq.Ob.ro (Aq.Ob.sg [Aq.Sg.a Go.IntKind.u32 8 r9.1,Aq.Sg.a Go.IntKind.u8 64 r9.2.1,Aq.Sg.i Go.IntKind.u64 r9.2.2])),(2,Aq.Ob.ro (Aq.Ob.sg [Aq.Sg.a Go.IntKind.u8 32 (Vec.rep 32 ((0:Int)))]))]⟩:Aq.MS R.T) (aR sH.loops 13).sh (aR sH.loops 13).outs (fun st k=>bD E R n false (CZ n) aJ sH ((aQ Tryz.f160.body [1,1,1,1,1,1,1,0,1,0,0]).getD .skip) st k) m p
attribute [irreducible] El
theorem alX (n:Nat) (x1:Vec 8) (x2:Vec 64) (x3:Int) (m:Nat) (x4:List Int):Ei n x1 x2 x3 (m+1) x4=
 bif !(((64:Int))==((0:Int))) then
  bif (Int.tmod (Go.IntKind.wrap Go.IntKind.i64 ((Go.IntKind.wrap Go.IntKind.i64 x3)+(((x4.length:Nat):Int)))) ((64:Int))) !=((56:Int)) then
   bif bN (x4.length+([(0:Int)].length)) 1 then
    Ei n x1 x2 x3 m (x4++[(0:Int)])
   else
    none
  else
   some x4
 else
  none:=by kernel_rfl
theorem alY (n:Nat) (x1:Vec 8) (x2:Vec 64) (x3:Int) (m:Nat) (x6:List Int) (x7:Int):Ej n x1 x2 x3 (m+1) (x6,x7)=
 bif decide (x7< ((8:Int))) then
  bif decide (((0:Int))≤(Go.IntKind.wrap Go.IntKind.i64 (((56:Int))-(Go.IntKind.wrap Go.IntKind.i64 (((8:Int))*x7))))) then
   bif bN (x6.length+([Go.IntKind.wrap Go.IntKind.u8 (oN Go.IntKind.u64 (Go.IntKind.wrap Go.IntKind.u64 (((8:Int))*x3)) (Go.IntKind.wrap Go.IntKind.i64 (((56:Int))-(Go.IntKind.wrap Go.IntKind.i64 (((8:Int))*x7)))))].length)) 1 then
    Ej n x1 x2 x3 m ((x6++[Go.IntKind.wrap Go.IntKind.u8 (oN Go.IntKind.u64 (Go.IntKind.wrap Go.IntKind.u64 (((8:Int))*x3)) (Go.IntKind.wrap Go.IntKind.i64 (((56:Int))-(Go.IntKind.wrap Go.IntKind.i64 (((8:Int))*x7)))))],Go.IntKind.wrap Go.IntKind.i64 (x7+((1:Int)))))
   else
    none
  else
   none
 else
  some x6:=by kernel_rfl
theorem alZ (n:Nat) (r9:(Vec 8)×(Vec 64)×Int) (m:Nat) (x10:Int) (jN:Vec 32):El n r9 (m+1) (x10,jN)=
 bif decide (x10< ((32:Int))) then
  bif !(((4:Int))==((0:Int))) then
   bif eO (Go.IntKind.wrap Go.IntKind.i64 (Int.tdiv x10 ((4:Int)))) 8 then
    bif !(((4:Int))==((0:Int))) then
     bif decide (((0:Int))≤(Go.IntKind.wrap Go.IntKind.i64 (((24:Int))-(Go.IntKind.wrap Go.IntKind.i64 (((8:Int))*(Int.tmod x10 ((4:Int)))))))) then
      bif eO x10 32 then
       El n r9 m ((Go.IntKind.wrap Go.IntKind.i64 (x10+((1:Int))),jN.set x10 (Go.IntKind.wrap Go.IntKind.u8 (oN Go.IntKind.u32 (r9.1.at' (Go.IntKind.wrap Go.IntKind.i64 (Int.tdiv x10 ((4:Int))))) (Go.IntKind.wrap Go.IntKind.i64 (((24:Int))-(Go.IntKind.wrap Go.IntKind.i64 (((8:Int))*(Int.tmod x10 ((4:Int)))))))))))
      else
       none
     else
      none
    else
     none
   else
    none
  else
   none
 else
  some (((),jN)):=by kernel_rfl
theorem al0 (n:Nat) (x1:Vec 8) (x2:Vec 64) (x3:Int):C9 n (x1,(x2,x3))=
 (Ei n x1 x2 x3 n [(128:Int)]).bind fun (r5:List Int)=>
 (Ej n x1 x2 x3 n ((r5,(0:Int)))).bind fun (r8:List Int)=>
 (vU n (((x1,(x2,x3)),List.map (fun n:Int=>UInt8.ofNat n.toNat) r8))).bind fun (r9:(Vec 8)×(Vec 64)×Int)=>
 (El n r9 n (((0:Int),Vec.rep 32 ((0:Int))))).bind fun (iQ:PUnit×Vec 32)=>
 some iQ.2:=by kernel_rfl
noncomputable def Em (n:Nat) (x2:List (List UInt8)) (m:Nat) (p:Int×(Vec 8)×(Vec 64)×Int):Option (PUnit×(Vec 8)×(Vec 64)×Int):=
 dw (R:=R) 3 (aI ((aQ Tryz.f102.body [1,1,0,1,0,0]).getD .skip)) (⟨[(4,Aq.TV.ref 4 0),(5,Aq.TV.ref 5 0),(15,Aq.TV.ak Aq.Cp.sh Aq.Ty.str x2),(16,Aq.TV.int Go.IntKind.i64 (((x2.length:Nat):Int)))],[(4,Aq.Ob.ro (Aq.Ob.cells [Aq.TV.int Go.IntKind.u8 ((0:Int)),Aq.TV.int Go.IntKind.u8 ((0:Int)),Aq.TV.int Go.IntKind.u8 ((0:Int)),Aq.TV.int Go.IntKind.u8 ((0:Int)),Aq.TV.int Go.IntKind.u8 ((0:Int)),Aq.TV.int Go.IntKind.u8 ((0:Int)),Aq.TV.int Go.IntKind.u8 ((0:Int)),Aq.TV.int Go.IntKind.u8 ((0:Int)),Aq.TV.int Go.IntKind.u8 ((0:Int)),Aq.TV.int Go.IntKind.u8 ((0:Int)),Aq.TV.int Go.IntKind.u8 ((0:Int)),Aq.TV.int Go.IntKind.u8 ((0:Int)),Aq.TV.int Go.IntKind.u8 ((0:Int)),Aq.TV.int Go.IntKind.u8 ((0:Int)),Aq.TV.int Go.IntKind.u8 ((0:Int)),Aq.TV.int Go.IntKind.u8 ((0:Int))]))]⟩:Aq.MS R.T) (aR Nn.loops 3).sh (aR Nn.loops 3).outs (fun st k=>bD E R n false (Nl n) aJ Nn ((aQ Tryz.f102.body [1,1,0,1,0,0]).getD .skip) st k) m p
attribute [irreducible] Em
theorem abC (n:Nat) (x2:List (List UInt8)) (m:Nat) (x5:Int) (x6:Vec 8) (x7:Vec 64) (x8:Int):Em n x2 (m+1) (x5,(x6,(x7,x8)))=
 bif decide (x5< (((x2.length:Nat):Int))) then
  (aL x2 x5).bind fun (r9:List UInt8)=>
  (yC n r9).bind fun (dR:List Int)=>
  (vU n (((x6,(x7,x8)),List.map (fun n:Int=>UInt8.ofNat n.toNat) dR))).bind fun (dV:(Vec 8)×(Vec 64)×Int)=>
  Em n x2 m ((Go.IntKind.wrap Go.IntKind.i64 (x5+((1:Int))),(dV.1,(dV.2.1,dV.2.2))))
 else
  some (((),(x6,(x7,x8)))):=by kernel_rfl
theorem al1 (n:Nat) (x1:Int) (x2:List (List UInt8)):Db n (x1,x2)=
 (H6 n (())).bind fun (r3:(Vec 8)×(Vec 64)×Int)=>
 (vU n (((r3.1,(r3.2.1,r3.2.2)),List.map (fun n:Int=>UInt8.ofNat n.toNat) [Go.IntKind.wrap Go.IntKind.u8 x1]))).bind fun (r4:(Vec 8)×(Vec 64)×Int)=>
 (Em n x2 n (((0:Int),(r4.1,(r4.2.1,r4.2.2))))).bind fun (iQ:PUnit×(Vec 8)×(Vec 64)×Int)=>
 (C9 n ((iQ.2.1,(iQ.2.2.1,iQ.2.2.2)))).bind fun (iH:Vec 32)=>
 bif mV 32 none (some ((16:Int))) then
  bif decide (0<16∧((16:Nat):Int)≤((16:Int))-((0:Int))) then
   some ((⟨iH.nth 0,iH.nth 1,iH.nth 2,iH.nth 3,iH.nth 4,iH.nth 5,iH.nth 6,iH.nth 7,iH.nth 8,iH.nth 9,iH.nth 10,iH.nth 11,iH.nth 12,iH.nth 13,iH.nth 14,iH.nth 15⟩:dK))
  else
   none
 else
  none:=by kernel_rfl
theorem al2 (n:Nat) (x1:Entry):Df n x1=
 (CK n x1).bind fun (r2:List Int)=>
 (Db n (((14:Int),[List.map (fun n:Int=>UInt8.ofNat n.toNat) r2]))).bind fun (r3:dK)=>
 some r3:=by kernel_rfl
theorem al3 (n:Nat) (x1:Row):vV n x1=
 (Df n x1.Entry).bind fun (r2:dK)=>
 some ((⟨x1.Entry.ID,x1.Entry.eG,x1.Entry.fM,x1.cO,r2⟩:Gone)):=by kernel_rfl
noncomputable def Jq (n:Nat) (x1:Book) (r4:(List Row)×List Row) (m:Nat) (p:(List Gone)×Int):Option (List Gone):=
 dw (R:=R) 6 (aI ((aQ Tryz.f16.body [1,1,1,1,0,1,0,0]).getD .skip)) (⟨[(2,Aq.TV.ref 2 0),(4,Aq.TV.ref 4 0),(8,Aq.TV.ak Aq.Cp.sh (Aq.Ty.st 4) r4.2),(30,Aq.TV.ak Aq.Cp.sh (Aq.Ty.st 4) r4.1),(31,Aq.TV.int Go.IntKind.i64 (((r4.1.length:Nat):Int)))],[(2,Aq.Ob.ro (Aq.Ob.cells [Aq.TV.int Go.IntKind.i64 x1.aD.fF,Aq.TV.int Go.IntKind.i64 x1.aD.gB,Aq.TV.ak Aq.Cp.sh (Aq.Ty.st 0) x1.aD.Defs,Aq.TV.int Go.IntKind.i64 x1.aH,Aq.TV.int Go.IntKind.i64 x1.Day,Aq.TV.ak Aq.Cp.sh (Aq.Ty.int Go.IntKind.i64) x1.bV,Aq.TV.ak Aq.Cp.sh (Aq.Ty.st 4) x1.Rows])),(4,Aq.Ob.ro (Aq.Ob.cells [Aq.TV.int Go.IntKind.i64 ((0:Int)),Aq.TV.int Go.IntKind.i64 ((0:Int)),Aq.TV.dG,Aq.TV.int Go.IntKind.i64 ((0:Int)),Aq.TV.int Go.IntKind.i64 ((0:Int)),Aq.TV.dG,Aq.TV.dG]))]⟩:Aq.MS R.T) (aR Nq.loops 6).sh (aR Nq.loops 6).outs (fun st k=>bD E R n false (Np n) aJ Nq ((aQ Tryz.f16.body [1,1,1,1,0,1,0,0]).getD .skip) st k) m p
attribute [irreducible] Jq
theorem abD (n:Nat) (x1:Book) (r4:(List Row)×List Row) (m:Nat) (x5:List Gone) (x6:Int):Jq n x1 r4 (m+1) (x5,x6)=
 bif decide (x6< (((r4.1.length:Nat):Int))) then
  (aL r4.1 x6).bind fun (r7:Row)=>
  (vV n r7).bind fun (r8:Gone)=>
  bif bN (x5.length+([r8].length)) 48 then
   Jq n x1 r4 m ((x5++[r8],Go.IntKind.wrap Go.IntKind.i64 (x6+((1:Int)))))
  else
   none
 else
  some x5:=by kernel_rfl
theorem al4 (n:Nat) (x1:Book) (x2:Int):qN n (x1,x2)=
 bif bif decide (x2< ((0:Int))) then true else decide (x2>x1.aH) then
  some ((x1,([],(9:Int))))
 else
  (Ck n ((x1,x2))).bind fun (r3:PUnit×Int×List (Int×Int))=>
  (Cq n ((x1.Rows,((),(r3.2.1,r3.2.2))))).bind fun (r4:(List Row)×List Row)=>
  (Jq n x1 r4 n (([],(0:Int)))).bind fun (r9:List Gone)=>
  some (((⟨x1.aD,x1.aH,x1.Day,x1.bV,r4.2⟩:Book),(r9,(0:Int)))):=by kernel_rfl
noncomputable def Jr (n:Nat) (x1:List Int) (x2:List Int) (m:Nat) (p:Int):Option (PUnit⊕Int):=
 dw (R:=R) 6 (aI ((aQ Tryz.f101.body [1,1,1,0,1,0,0]).getD .skip)) (⟨[(0,Aq.TV.ak Aq.Cp.sh (Aq.Ty.int Go.IntKind.i64) x1),(1,Aq.TV.ak Aq.Cp.sh (Aq.Ty.int Go.IntKind.i64) x2)],[]⟩:Aq.MS R.T) (aR Ns.loops 6).sh (aR Ns.loops 6).outs (fun st k=>bD E R n false (Nr n) aJ Ns ((aQ Tryz.f101.body [1,1,1,0,1,0,0]).getD .skip) st k) m p
attribute [irreducible] Jr
theorem abE (n:Nat) (x1:List Int) (x2:List Int) (m:Nat) (x3:Int):Jr n x1 x2 (m+1) x3=
 bif decide (x3< (((x1.length:Nat):Int))) then
  (aL x1 x3).bind fun (r4:Int)=>
  (aL x2 x3).bind fun (r5:Int)=>
  bif decide (r4<r5) then
   some (.inr ((-1:Int)))
  else
   (aL x1 x3).bind fun (r6:Int)=>
   (aL x2 x3).bind fun (r7:Int)=>
   bif decide (r6>r7) then
    some (.inr ((1:Int)))
   else
    Jr n x1 x2 m (Go.IntKind.wrap Go.IntKind.i64 (x3+((1:Int))))
 else
  some (.inl (())):=by kernel_rfl
theorem al5 (n:Nat) (x1:List Int) (x2:List Int):Dk n (x1,x2)=
 bif decide ((((x1.length:Nat):Int))< (((x2.length:Nat):Int))) then
  some ((-1:Int))
 else
  bif decide ((((x1.length:Nat):Int))> (((x2.length:Nat):Int))) then
   some ((1:Int))
  else
   (Jr n x1 x2 n ((0:Int))).bind fun (r8:PUnit⊕Int)=>
   Sum.elim (fun (q9:PUnit)=>
    some ((0:Int)))
    (fun (wD:Int)=>
     some wD) r8:=by kernel_rfl
theorem al6 (n:Nat) (x1:List Int) (x2:List Int):yH n (x1,x2)=
 (Dk n ((x1,x2))).bind fun (r3:Int)=>
 some (r3==((0:Int))):=by kernel_rfl
noncomputable def yS (n:Nat) (m:Nat) (p:Int×List Int):Option (Int×List Int):=
 dw (R:=R) 5 (aI ((aQ Tryz.f106.body [1,1,1,1,0,0,0]).getD .skip)) (⟨[],[]⟩:Aq.MS R.T) (aR Nu.loops 5).sh (aR Nu.loops 5).outs (fun st k=>bD E R n false (Nt n) aJ Nu ((aQ Tryz.f106.body [1,1,1,1,0,0,0]).getD .skip) st k) m p
attribute [irreducible] yS
theorem al7 (n:Nat) (m:Nat) (x2:Int) (x3:List Int):yS n (m+1) (x2,x3)=
 bif decide (x2≥((128:Int))) then
  bif !(((128:Int))==((0:Int))) then
   bif bN (x3.length+([Go.IntKind.wrap Go.IntKind.u8 ((Go.IntKind.wrap Go.IntKind.u8 (Int.tmod x2 ((128:Int))))+((128:Int)))].length)) 1 then
    bif !(((128:Int))==((0:Int))) then
     yS n m ((Go.IntKind.wrap Go.IntKind.u64 (Int.tdiv x2 ((128:Int))),x3++[Go.IntKind.wrap Go.IntKind.u8 ((Go.IntKind.wrap Go.IntKind.u8 (Int.tmod x2 ((128:Int))))+((128:Int)))]))
    else
     none
   else
    none
  else
   none
 else
  some ((x2,x3)):=by kernel_rfl
theorem al8 (n:Nat) (x1:Int):sI n x1=
 bif decide (x1< ((0:Int))) then
  (yS n n ((Go.IntKind.wrap Go.IntKind.u64 ((Go.IntKind.wrap Go.IntKind.u64 ((Go.IntKind.wrap Go.IntKind.u64 (Go.IntKind.wrap Go.IntKind.i64 (((-1:Int))-x1)))*((2:Int))))+((1:Int))),[]))).bind fun (r4:Int×List Int)=>
  bif bN (r4.2.length+([Go.IntKind.wrap Go.IntKind.u8 r4.1].length)) 1 then
   some (r4.2++[Go.IntKind.wrap Go.IntKind.u8 r4.1])
  else
   none
 else
  (yS n n ((Go.IntKind.wrap Go.IntKind.u64 ((Go.IntKind.wrap Go.IntKind.u64 x1)*((2:Int))),[]))).bind fun (r5:Int×List Int)=>
  bif bN (r5.2.length+([Go.IntKind.wrap Go.IntKind.u8 r5.1].length)) 1 then
   some (r5.2++[Go.IntKind.wrap Go.IntKind.u8 r5.1])
  else
   none:=by kernel_rfl
noncomputable def Js (n:Nat) (x1:List Int) (m:Nat) (p:(List Int)×Int):Option (List Int):=
 dw (R:=R) 3 (aI ((aQ Tryz.f61.body [1,1,0,1,0,0]).getD .skip)) (⟨[(0,Aq.TV.ak Aq.Cp.sh (Aq.Ty.int Go.IntKind.i64) x1)],[]⟩:Aq.MS R.T) (aR Nw.loops 3).sh (aR Nw.loops 3).outs (fun st k=>bD E R n false (Nv n) aJ Nw ((aQ Tryz.f61.body [1,1,0,1,0,0]).getD .skip) st k) m p
attribute [irreducible] Js
theorem abF (n:Nat) (x1:List Int) (m:Nat) (x3:List Int) (x4:Int):Js n x1 (m+1) (x3,x4)=
 bif decide (x4< (((x1.length:Nat):Int))) then
  (aL x1 x4).bind fun (r5:Int)=>
  (sI n r5).bind fun (r6:List Int)=>
  bif bN (x3.length+r6.length) 1 then
   Js n x1 m ((x3++r6,Go.IntKind.wrap Go.IntKind.i64 (x4+((1:Int)))))
  else
   none
 else
  some x3:=by kernel_rfl
theorem al9 (n:Nat) (x1:List Int):Dp n x1=
 (sI n (((x1.length:Nat):Int))).bind fun (r2:List Int)=>
 (Js n x1 n ((r2,(0:Int)))).bind fun (r7:List Int)=>
 some r7:=by kernel_rfl
theorem ama (n:Nat) (x1:List UInt8):Dt n x1=
 (sI n (((x1.length:Nat):Int))).bind fun (r2:List Int)=>
 bif bN (r2.length+((List.map (fun b:UInt8=>((b.toNat:Nat):Int)) x1).length)) 1 then
  some (r2++(List.map (fun b:UInt8=>((b.toNat:Nat):Int)) x1))
 else
  none:=by kernel_rfl
noncomputable def Jt (n:Nat) (x1:List (List UInt8)) (m:Nat) (p:(List Int)×Int):Option (List Int):=
 dw (R:=R) 3 (aI ((aQ Tryz.f129.body [1,1,0,1,0,0]).getD .skip)) (⟨[(0,Aq.TV.ak Aq.Cp.sh Aq.Ty.str x1)],[]⟩:Aq.MS R.T) (aR Nz.loops 3).sh (aR Nz.loops 3).outs (fun st k=>bD E R n false (Ny n) aJ Nz ((aQ Tryz.f129.body [1,1,0,1,0,0]).getD .skip) st k) m p
attribute [irreducible] Jt
theorem abG (n:Nat) (x1:List (List UInt8)) (m:Nat) (x3:List Int) (x4:Int):Jt n x1 (m+1) (x3,x4)=
 bif decide (x4< (((x1.length:Nat):Int))) then
  (aL x1 x4).bind fun (r5:List UInt8)=>
  (Dt n r5).bind fun (r6:List Int)=>
  bif bN (x3.length+r6.length) 1 then
   Jt n x1 m ((x3++r6,Go.IntKind.wrap Go.IntKind.i64 (x4+((1:Int)))))
  else
   none
 else
  some x3:=by kernel_rfl
theorem amb (n:Nat) (x1:List (List UInt8)):Dv n x1=
 (sI n (((x1.length:Nat):Int))).bind fun (r2:List Int)=>
 (Jt n x1 n ((r2,(0:Int)))).bind fun (r7:List Int)=>
 some r7:=by kernel_rfl
noncomputable def Ju (n:Nat) (x1:Entry) (m:Nat) (p:(List Int)×(List (List UInt8))×Int):Option ((List Int)×List (List UInt8)):=
 dw (R:=R) 6 (aI ((aQ Tryz.f74.body [1,1,1,1,1,0,1,0,0]).getD .skip)) (⟨[(1,Aq.TV.ref 1 0)],[(1,Aq.Ob.ro (Aq.Ob.cells [Aq.TV.int Go.IntKind.i64 x1.ID,Aq.TV.int Go.IntKind.i64 x1.eG,Aq.TV.int Go.IntKind.i64 x1.eU,Aq.TV.int Go.IntKind.i64 x1.gQ,Aq.TV.int Go.IntKind.i64 x1.From,Aq.TV.int Go.IntKind.i64 x1.To,Aq.TV.int Go.IntKind.i64 x1.fM,Aq.TV.ak Aq.Cp.sh (Aq.Ty.int Go.IntKind.i64) x1.Vec,Aq.TV.ak Aq.Cp.sh (Aq.Ty.st 2) x1.aM]))]⟩:Aq.MS R.T) (aR NC.loops 6).sh (aR NC.loops 6).outs (fun st k=>bD E R n false (NA n) aJ NC ((aQ Tryz.f74.body [1,1,1,1,1,0,1,0,0]).getD .skip) st k) m p
attribute [irreducible] Ju
theorem abH (n:Nat) (x1:Entry) (m:Nat) (x2:List Int) (x3:List (List UInt8)) (x4:Int):Ju n x1 (m+1) (x2,(x3,x4))=
 bif decide (x4< (((x1.aM.length:Nat):Int))) then
  (aL x1.aM x4).bind fun (r5:Attr)=>
  (aL x1.aM x4).bind fun (r6:Attr)=>
  bif bN (x2.length+([r5.Kind,r6.N].length)) 8 then
   (aL x1.aM x4).bind fun (r7:Attr)=>
   (aL x1.aM x4).bind fun (r8:Attr)=>
   bif bN (x3.length+([r7.Name,r8.S].length)) 16 then
    Ju n x1 m ((x2++[r5.Kind,r6.N],(x3++[r7.Name,r8.S],Go.IntKind.wrap Go.IntKind.i64 (x4+((1:Int))))))
   else
    none
  else
   none
 else
  some ((x2,x3)):=by kernel_rfl
theorem amc (n:Nat) (x1:Entry):yI n x1=
 bif bN (([x1.ID,x1.eG,x1.eU,x1.gQ,x1.From,x1.To,x1.fM,((x1.Vec.length:Nat):Int)].length)+x1.Vec.length) 8 then
  bif bN ((([x1.ID,x1.eG,x1.eU,x1.gQ,x1.From,x1.To,x1.fM,((x1.Vec.length:Nat):Int)]++x1.Vec).length)+([((x1.aM.length:Nat):Int)].length)) 8 then
   (Ju n x1 n ((([x1.ID,x1.eG,x1.eU,x1.gQ,x1.From,x1.To,x1.fM,((x1.Vec.length:Nat):Int)]++x1.Vec)++[((x1.aM.length:Nat):Int)],([],(0:Int))))).bind fun (r9:(List Int)×List (List UInt8))=>
   (Dp n r9.1).bind fun (dR:List Int)=>
   bif bN (((0:Nat))+dR.length) 1 then
    (Dv n r9.2).bind fun (dV:List Int)=>
    bif bN ((([]++dR).length)+dV.length) 1 then
     some (([]++dR)++dV)
    else
     none
   else
    none
  else
   none
 else
  none:=by kernel_rfl
theorem amd (n:Nat) (x1:Entry) (x2:Entry):Dy n (x1,x2)=
 (yI n x1).bind fun (r3:List Int)=>
 (yI n x2).bind fun (r4:List Int)=>
 some ((List.map (fun n:Int=>UInt8.ofNat n.toNat) r3)==(List.map (fun n:Int=>UInt8.ofNat n.toNat) r4)):=by kernel_rfl
noncomputable def Jv (n:Nat) (x1:List Row) (x2:List Row) (m:Nat) (p:Int):Option (PUnit⊕Bool):=
 dw (R:=R) 4 (aI ((aQ Tryz.f53.body [1,1,0,1,0,0]).getD .skip)) (⟨[(0,Aq.TV.ak Aq.Cp.sh (Aq.Ty.st 4) x1),(1,Aq.TV.ak Aq.Cp.sh (Aq.Ty.st 4) x2)],[]⟩:Aq.MS R.T) (aR NG.loops 4).sh (aR NG.loops 4).outs (fun st k=>bD E R n false (ND n) aJ NG ((aQ Tryz.f53.body [1,1,0,1,0,0]).getD .skip) st k) m p
attribute [irreducible] Jv
theorem abI (n:Nat) (x1:List Row) (x2:List Row) (m:Nat) (x3:Int):Jv n x1 x2 (m+1) x3=
 bif decide (x3< (((x1.length:Nat):Int))) then
  (aL x1 x3).bind fun (r4:Row)=>
  (aL x2 x3).bind fun (r5:Row)=>
  bif !(r4.cO !=r5.cO) then
   (aL x1 x3).bind fun (r6:Row)=>
   (aL x2 x3).bind fun (r7:Row)=>
   (Dy n ((r6.Entry,r7.Entry))).bind fun (r8:Bool)=>
   bif !r8 then
    some (.inr false)
   else
    Jv n x1 x2 m (Go.IntKind.wrap Go.IntKind.i64 (x3+((1:Int))))
  else
   some (.inr false)
 else
  some (.inl (())):=by kernel_rfl
theorem ame (n:Nat) (x1:List Row) (x2:List Row):yJ n (x1,x2)=
 bif (((x1.length:Nat):Int)) !=(((x2.length:Nat):Int)) then
  some false
 else
  (Jv n x1 x2 n ((0:Int))).bind fun (r9:PUnit⊕Bool)=>
  Sum.elim (fun (wD:PUnit)=>
   some true)
   (fun (I9:Bool)=>
    some I9) r9:=by kernel_rfl
theorem amf (n:Nat) (x1:Book) (x2:Book):vW n (x1,x2)=
 (iG (bif x1.aH==x2.aH then x1.Day==x2.Day else false) (yH n ((x1.bV,x2.bV))) false).bind fun (r3:Bool)=>
 (iG (bif bif x1.aH==x2.aH then x1.Day==x2.Day else false then r3 else false) (yJ n ((x1.Rows,x2.Rows))) false).bind fun (r4:Bool)=>
 some (bif bif bif x1.aH==x2.aH then x1.Day==x2.Day else false then r3 else false then r4 else false):=by kernel_rfl
theorem amg (n:Nat) (x1:List Attr) (x2:Pred):DI n (x1,x2)=
 some true:=by kernel_rfl
theorem amh (n:Nat) (x1:Attr) (x2:List UInt8):IC n (x1,x2)=
 some (x1.Name==x2):=by kernel_rfl
noncomputable def Jw (n:Nat) (x1:List Attr) (x2:List UInt8) (m:Nat) (p:Int):Option (PUnit⊕Int):=
 dw (R:=R) 2 (aI ((aQ Tryz.f208.body [1,0,1,0,0]).getD .skip)) (⟨[(0,Aq.TV.ak Aq.Cp.sh (Aq.Ty.st 2) x1),(1,Aq.TV.fn 209 [] ([Aq.TV.aK [Aq.TV.str x2] 0])),(7,Aq.TV.int Go.IntKind.i64 (((x1.length:Nat):Int)))],[]⟩:Aq.MS R.T) (aR NI.loops 2).sh (aR NI.loops 2).outs (fun st k=>bD E R n false (NH n) aJ NI ((aQ Tryz.f208.body [1,0,1,0,0]).getD .skip) st k) m p
attribute [irreducible] Jw
theorem abJ (n:Nat) (x1:List Attr) (x2:List UInt8) (m:Nat) (x3:Int):Jw n x1 x2 (m+1) x3=
 bif decide (x3< (((x1.length:Nat):Int))) then
  (aL x1 x3).bind fun (r4:Attr)=>
  (IC n ((r4,x2))).bind fun (r5:Bool)=>
  bif r5 then
   some (.inr x3)
  else
   Jw n x1 x2 m (Go.IntKind.wrap Go.IntKind.i64 (x3+((1:Int))))
 else
  some (.inl (())):=by kernel_rfl
theorem ami (n:Nat) (x1:List Attr) (x2:List UInt8):IG n (x1,((),x2))=
 (Jw n x1 x2 n ((0:Int))).bind fun (r6:PUnit⊕Int)=>
 Sum.elim (fun (q7:PUnit)=>
  some ((-1:Int)))
  (fun (q8:Int)=>
   some q8) r6:=by kernel_rfl
theorem amj (n:Nat) (x1:List Attr) (x2:List UInt8):vX n (x1,x2)=
 (IG n ((x1,((),x2)))).bind fun (r3:Int)=>
 bif decide (r3< ((0:Int))) then
  some (((⟨[],(0:Int),(0:Int),[]⟩:Attr),false))
 else
  (aL x1 r3).bind fun (r4:Attr)=>
  some ((r4,true)):=by kernel_rfl
theorem amk (n:Nat) (x1:List Attr) (x2:Pred):DR n (x1,x2)=
 (vX n ((x1,x2.Name))).bind fun (r3:Attr×Bool)=>
 some r3.2:=by kernel_rfl
theorem aml (n:Nat) (x1:List Attr) (x2:Pred):DU n (x1,x2)=
 (vX n ((x1,x2.Name))).bind fun (r3:Attr×Bool)=>
 some (bif bif bif r3.2 then r3.1.Kind==((1:Int)) else false then decide (r3.1.N≥x2.N) else false then decide (r3.1.N≤x2.M) else false):=by kernel_rfl
theorem amm (n:Nat) (x1:List Attr) (x2:Pred):DW n (x1,x2)=
 (vX n ((x1,x2.Name))).bind fun (r3:Attr×Bool)=>
 some (bif bif r3.2 then r3.1.Kind==((2:Int)) else false then r3.1.S==x2.S else false):=by kernel_rfl
theorem amn (n g:Nat) (x1:List Attr) (x2:Pred):sQ n (g+1) (x1,x2)=
 bif x2.Op==((1:Int)) then
  (DI n ((x1,x2.re))).bind fun (r3:Bool)=>
  some r3
 else
  bif x2.Op==((2:Int)) then
   (IV n g ((x1,x2.re))).bind fun (r4:Bool)=>
   some r4
  else
   bif x2.Op==((3:Int)) then
    (DY n g ((x1,x2.re))).bind fun (r5:Bool)=>
    some r5
   else
    bif x2.Op==((4:Int)) then
     (IX n g ((x1,x2.re))).bind fun (r6:Bool)=>
     some r6
    else
     bif x2.Op==((5:Int)) then
      (DR n ((x1,x2.re))).bind fun (r7:Bool)=>
      some r7
     else
      bif x2.Op==((6:Int)) then
       (DU n ((x1,x2.re))).bind fun (r8:Bool)=>
       some r8
      else
       bif x2.Op==((7:Int)) then
        (DW n ((x1,x2.re))).bind fun (r9:Bool)=>
        some r9
       else
        some false:=by kernel_rfl
noncomputable def Jy (n:Nat) (g:Nat) (x1:List Attr) (x2:Pred) (m:Nat) (p:Int):Option (PUnit⊕Bool):=
 dw (R:=R) 2 (aI ((aQ Tryz.f118.body [1,0,1,0,0]).getD .skip)) (⟨[(0,Aq.TV.ak Aq.Cp.sh (Aq.Ty.st 2) x1),(8,Aq.TV.ak Aq.Cp.sh (Aq.Ty.st 8) x2.bS),(9,Aq.TV.int Go.IntKind.i64 (((x2.bS.length:Nat):Int)))],[]⟩:Aq.MS R.T) (aR IQ.loops 2).sh (aR IQ.loops 2).outs (fun st k=>bD E R n false (mq n (dz n g)) aJ IQ ((aQ Tryz.f118.body [1,0,1,0,0]).getD .skip) st k) m p
attribute [irreducible] Jy
theorem abK (n:Nat) (g:Nat) (x1:List Attr) (x2:Pred) (m:Nat) (x3:Int):Jy n g x1 x2 (m+1) x3=
 bif decide (x3< (((x2.bS.length:Nat):Int))) then
  (aL x2.bS x3).bind fun (r4:Pred)=>
  (sQ n g ((x1,r4.re))).bind fun (r5:Bool)=>
  bif !r5 then
   some (.inr false)
  else
   Jy n g x1 x2 m (Go.IntKind.wrap Go.IntKind.i64 (x3+((1:Int))))
 else
  some (.inl (())):=by kernel_rfl
theorem amo (n g:Nat) (x1:List Attr) (x2:Pred):IV n (g+1) (x1,x2)=
 (Jy n g x1 x2 n ((0:Int))).bind fun (r6:PUnit⊕Bool)=>
 Sum.elim (fun (q7:PUnit)=>
  some true)
  (fun (q8:Bool)=>
   some q8) r6:=by kernel_rfl
theorem abL (n g:Nat) (x1:List Attr) (x2:Pred):DY n (g+1) (x1,x2)=
 (IW n g ((x2.bS,(x1,())))).bind fun (r3:Bool)=>
 some r3:=by kernel_rfl
theorem amq (n g:Nat) (x1:List Pred) (x2:List Attr):IW n (g+1) (x1,(x2,()))=
 (NJ n g ((x1,(x2,())))).bind fun (r3:Int)=>
 some (decide (r3≥((0:Int)))):=by kernel_rfl
noncomputable def Jz (n:Nat) (g:Nat) (x1:List Pred) (x2:List Attr) (m:Nat) (p:Int):Option (PUnit⊕Int):=
 dw (R:=R) 2 (aI ((aQ Tryz.f207.body [1,0,1,0,0]).getD .skip)) (⟨[(0,Aq.TV.ak Aq.Cp.sh (Aq.Ty.st 8) x1),(1,Aq.TV.fn 69 [Aq.TV.ak Aq.Cp.sh (Aq.Ty.st 2) x2] []),(7,Aq.TV.int Go.IntKind.i64 (((x1.length:Nat):Int)))],[]⟩:Aq.MS R.T) (aR IU.loops 2).sh (aR IU.loops 2).outs (fun st k=>bD E R n false (mq n (dz n g)) aJ IU ((aQ Tryz.f207.body [1,0,1,0,0]).getD .skip) st k) m p
attribute [irreducible] Jz
theorem abM (n:Nat) (g:Nat) (x1:List Pred) (x2:List Attr) (m:Nat) (x3:Int):Jz n g x1 x2 (m+1) x3=
 bif decide (x3< (((x1.length:Nat):Int))) then
  (aL x1 x3).bind fun (r4:Pred)=>
  (sQ n g ((x2,r4.re))).bind fun (r5:Bool)=>
  bif r5 then
   some (.inr x3)
  else
   Jz n g x1 x2 m (Go.IntKind.wrap Go.IntKind.i64 (x3+((1:Int))))
 else
  some (.inl (())):=by kernel_rfl
theorem amr (n g:Nat) (x1:List Pred) (x2:List Attr):NJ n (g+1) (x1,(x2,()))=
 (Jz n g x1 x2 n ((0:Int))).bind fun (r6:PUnit⊕Int)=>
 Sum.elim (fun (q7:PUnit)=>
  some ((-1:Int)))
  (fun (q8:Int)=>
   some q8) r6:=by kernel_rfl
theorem ams (n g:Nat) (x1:List Attr) (x2:Pred):IX n (g+1) (x1,x2)=
 (DY n g ((x1,x2.re))).bind fun (r3:Bool)=>
 some (!r3):=by kernel_rfl
theorem amt (n:Nat) (x1:Pred) (x2:List Attr):vY n (x1,x2)=
 (DX n ((x2,x1.re))).bind fun (r3:Bool)=>
 some r3:=by kernel_rfl
noncomputable def yT (n:Nat) (x1:List Law) (x2:Book) (x4:Int) (r5:Row) (m:Nat) (p:Int×Int):Option (Int):=
 dw (R:=R) 7 (aI ((aQ Tryz.f14.body [1,1,0,1,0,0,1,1,0,0,1,1,1,0,0]).getD .skip)) (⟨[(0,Aq.TV.ak Aq.Cp.sh (Aq.Ty.st 9) x1),(3,Aq.TV.ref 3 0),(7,Aq.TV.ref 7 0),(13,Aq.TV.ak Aq.Cp.sh (Aq.Ty.st 4) x2.Rows),(14,Aq.TV.int Go.IntKind.i64 (((x2.Rows.length:Nat):Int))),(15,Aq.TV.int Go.IntKind.i64 x4),(28,Aq.TV.ak Aq.Cp.sh (Aq.Ty.st 9) x1),(29,Aq.TV.int Go.IntKind.i64 (((x1.length:Nat):Int)))],[(3,Aq.Ob.ro (Aq.Ob.ro (Aq.Ob.cells [Aq.TV.int Go.IntKind.i64 x2.aD.fF,Aq.TV.int Go.IntKind.i64 x2.aD.gB,Aq.TV.ak Aq.Cp.sh (Aq.Ty.st 0) x2.aD.Defs,Aq.TV.int Go.IntKind.i64 x2.aH,Aq.TV.int Go.IntKind.i64 x2.Day,Aq.TV.ak Aq.Cp.sh (Aq.Ty.int Go.IntKind.i64) x2.bV,Aq.TV.ak Aq.Cp.sh (Aq.Ty.st 4) x2.Rows]))),(7,Aq.Ob.ro (Aq.Ob.cells [Aq.TV.int Go.IntKind.i64 r5.Entry.ID,Aq.TV.int Go.IntKind.i64 r5.Entry.eG,Aq.TV.int Go.IntKind.i64 r5.Entry.eU,Aq.TV.int Go.IntKind.i64 r5.Entry.gQ,Aq.TV.int Go.IntKind.i64 r5.Entry.From,Aq.TV.int Go.IntKind.i64 r5.Entry.To,Aq.TV.int Go.IntKind.i64 r5.Entry.fM,Aq.TV.ak Aq.Cp.sh (Aq.Ty.int Go.IntKind.i64) r5.Entry.Vec,Aq.TV.ak Aq.Cp.sh (Aq.Ty.st 2) r5.Entry.aM,Aq.TV.int Go.IntKind.i64 r5.cO]))]⟩:Aq.MS R.T) (aR yK.loops 7).sh (aR yK.loops 7).outs (fun st k=>bD E R n false (IZ n) aJ yK ((aQ Tryz.f14.body [1,1,0,1,0,0,1,1,0,0,1,1,1,0,0]).getD .skip) st k) m p
attribute [irreducible] yT
noncomputable def yU (n:Nat) (x1:List Law) (x2:Book) (m:Nat) (p:Int×Int):Option (Int):=
 dw (R:=R) 3 (aI ((aQ Tryz.f14.body [1,1,0,1,0,0]).getD .skip)) (⟨[(0,Aq.TV.ak Aq.Cp.sh (Aq.Ty.st 9) x1),(3,Aq.TV.ref 3 0),(13,Aq.TV.ak Aq.Cp.sh (Aq.Ty.st 4) x2.Rows),(14,Aq.TV.int Go.IntKind.i64 (((x2.Rows.length:Nat):Int)))],[(3,Aq.Ob.ro (Aq.Ob.cells [Aq.TV.int Go.IntKind.i64 x2.aD.fF,Aq.TV.int Go.IntKind.i64 x2.aD.gB,Aq.TV.ak Aq.Cp.sh (Aq.Ty.st 0) x2.aD.Defs,Aq.TV.int Go.IntKind.i64 x2.aH,Aq.TV.int Go.IntKind.i64 x2.Day,Aq.TV.ak Aq.Cp.sh (Aq.Ty.int Go.IntKind.i64) x2.bV,Aq.TV.ak Aq.Cp.sh (Aq.Ty.st 4) x2.Rows]))]⟩:Aq.MS R.T) (aR yK.loops 3).sh (aR yK.loops 3).outs (fun st k=>bD E R n false (IZ n) aJ yK ((aQ Tryz.f14.body [1,1,0,1,0,0]).getD .skip) st k) m p
attribute [irreducible] yU
theorem abN (n:Nat) (x1:List Law) (x2:Book) (x4:Int) (r5:Row) (m:Nat) (x6:Int) (x7:Int):yT n x1 x2 x4 r5 (m+1) (x6,x7)=
 bif decide (x7< (((x1.length:Nat):Int))) then
  (aL x1 x7).bind fun (r8:Law)=>
  (aL x2.bV (Go.IntKind.wrap Go.IntKind.i64 (r5.cO-((1:Int))))).bind fun (r9:Int)=>
  bif decide ((Go.IntKind.wrap Go.IntKind.i64 (r9+r8.bV))≥x2.Day) then
   (vY n ((r8.Where.re,r5.Entry.aM))).bind fun (dR:Bool)=>
   bif dR then
    some (Go.IntKind.wrap Go.IntKind.i64 (r5.cO-((1:Int))))
   else
    yT n x1 x2 x4 r5 m ((x6,Go.IntKind.wrap Go.IntKind.i64 (x7+((1:Int)))))
  else
   yT n x1 x2 x4 r5 m ((x6,Go.IntKind.wrap Go.IntKind.i64 (x7+((1:Int)))))
 else
  some x6:=by kernel_rfl
theorem abO (n:Nat) (x1:List Law) (x2:Book) (m:Nat) (x3:Int) (x4:Int):yU n x1 x2 (m+1) (x3,x4)=
 bif decide (x4< (((x2.Rows.length:Nat):Int))) then
  (aL x2.Rows x4).bind fun (r5:Row)=>
  bif bif decide (r5.cO< ((1:Int))) then true else decide (r5.cO>x3) then
   yU n x1 x2 m ((x3,Go.IntKind.wrap Go.IntKind.i64 (x4+((1:Int)))))
  else
   (yT n x1 x2 x4 r5 n ((x3,(0:Int)))).bind fun (dV:Int)=>
   yU n x1 x2 m ((dV,Go.IntKind.wrap Go.IntKind.i64 (x4+((1:Int)))))
 else
  some x3:=by kernel_rfl
theorem amu (n:Nat) (x1:List Law) (x2:Book):qW n (x1,x2)=
 (yU n x1 x2 n ((x2.aH,(0:Int)))).bind fun (iQ:Int)=>
 some iQ:=by kernel_rfl
noncomputable def wH (n:Nat) (g:Nat) (x1:Pred) (m:Nat) (p:(List Pred)×Int):Option (List Pred):=
 dw (R:=R) 3 (aI ((aQ Tryz.f54.body [1,1,0,1,0,0]).getD .skip)) (⟨[(1,Aq.TV.ref 1 0)],[(1,Aq.Ob.ro (Aq.Ob.cells [Aq.TV.int Go.IntKind.i64 x1.Op,Aq.TV.str x1.Name,Aq.TV.int Go.IntKind.i64 x1.N,Aq.TV.int Go.IntKind.i64 x1.M,Aq.TV.str x1.S,Aq.TV.ak Aq.Cp.sh (Aq.Ty.st 8) x1.bS]))]⟩:Aq.MS R.T) (aR I5.loops 3).sh (aR I5.loops 3).outs (fun st k=>bD E R n false (I6 n (oP n g)) aJ I5 ((aQ Tryz.f54.body [1,1,0,1,0,0]).getD .skip) st k) m p
attribute [irreducible] wH
theorem abP (n:Nat) (g:Nat) (x1:Pred) (m:Nat) (x2:List Pred) (x3:Int):wH n g x1 (m+1) (x2,x3)=
 bif bif decide (x3< (((x1.bS.length:Nat):Int))) then decide ((((x2.length:Nat):Int))< ((1000:Int))) else false then
  (aL x1.bS x3).bind fun (r4:Pred)=>
  (D6 n g r4.re).bind fun (r5:List Pred)=>
  bif bN (x2.length+r5.length) 80 then
   wH n g x1 m ((x2++r5,Go.IntKind.wrap Go.IntKind.i64 (x3+((1:Int)))))
  else
   none
 else
  some x2:=by kernel_rfl
theorem amv (n g:Nat) (x1:Pred):D6 n (g+1) x1=
 (wH n g x1 n (([x1.re],(0:Int)))).bind fun (r6:List Pred)=>
 bif decide ((((r6.length:Nat):Int))> ((1000:Int))) then
  bif jL ((1000:Int)) r6.length then
   some (List.take (Int.toNat ((1000:Int))) r6)
  else
   none
 else
  some r6:=by kernel_rfl
theorem amw (n:Nat) (x1:Pred):D8 n x1=
 bif bif bif bif decide (x1.Op< ((5:Int))) then decide ((((x1.Name.length:Nat):Int))> ((0:Int))) else false then true else bif x1.Op !=((6:Int)) then bif x1.N !=((0:Int)) then true else x1.M !=((0:Int)) else false then true else bif x1.Op !=((7:Int)) then decide ((((x1.S.length:Nat):Int))> ((0:Int))) else false then
  some false
 else
  bif decide (x1.N>x1.M) then
   some false
  else
   bif bif x1.Op==((2:Int)) then true else x1.Op==((3:Int)) then
    some (decide ((((x1.bS.length:Nat):Int))> ((0:Int))))
   else
    bif x1.Op==((4:Int)) then
     some ((((x1.bS.length:Nat):Int))==((1:Int)))
    else
     some ((((x1.bS.length:Nat):Int))==((0:Int))):=by kernel_rfl
noncomputable def uK (n:Nat) (x1:aD) (r3:List Pred) (m:Nat) (p:Int):Option (PUnit⊕Int):=
 dw (R:=R) 5 (aI ((aQ Tryz.f18.body [1,1,1,0,1,0,0]).getD .skip)) (⟨[(2,Aq.TV.ref 2 0),(5,Aq.TV.ak Aq.Cp.sh (Aq.Ty.st 8) r3)],[(2,Aq.Ob.ro (Aq.Ob.cells [Aq.TV.int Go.IntKind.i64 x1.fF,Aq.TV.int Go.IntKind.i64 x1.gB,Aq.TV.ak Aq.Cp.sh (Aq.Ty.st 0) x1.Defs]))]⟩:Aq.MS R.T) (aR NM.loops 5).sh (aR NM.loops 5).outs (fun st k=>bD E R n false (NK n) aJ NM ((aQ Tryz.f18.body [1,1,1,0,1,0,0]).getD .skip) st k) m p
attribute [irreducible] uK
theorem abQ (n:Nat) (x1:aD) (r3:List Pred) (m:Nat) (x4:Int):uK n x1 r3 (m+1) x4=
 bif decide (x4< (((r3.length:Nat):Int))) then
  (aL r3 x4).bind fun (r5:Pred)=>
  bif bif decide (r5.Op< ((1:Int))) then true else decide (r5.Op> ((7:Int))) then
   some (.inr ((1:Int)))
  else
   (D8 n r5.re).bind fun (r6:Bool)=>
   bif !r6 then
    some (.inr ((3:Int)))
   else
    bif decide (r5.Op< ((5:Int))) then
     uK n x1 r3 m (Go.IntKind.wrap Go.IntKind.i64 (x4+((1:Int))))
    else
     (yg n ((x1,r5.Name))).bind fun (r7:Int)=>
     bif decide (r7< ((0:Int))) then
      some (.inr ((5:Int)))
     else
      (iG (r5.Op==((6:Int))) (aL x1.Defs r7) ((⟨[],(0:Int),(0:Int),(0:Int),[]⟩:Def))).bind fun (r8:Def)=>
      (iG (bif !(bif r5.Op==((6:Int)) then r8.Kind !=((1:Int)) else false) then r5.Op==((7:Int)) else false) (aL x1.Defs r7) ((⟨[],(0:Int),(0:Int),(0:Int),[]⟩:Def))).bind fun (r9:Def)=>
      bif bif bif r5.Op==((6:Int)) then r8.Kind !=((1:Int)) else false then true else bif r5.Op==((7:Int)) then r9.Kind !=((2:Int)) else false then
       some (.inr ((130:Int)))
      else
       uK n x1 r3 m (Go.IntKind.wrap Go.IntKind.i64 (x4+((1:Int))))
 else
  some (.inl (())):=by kernel_rfl
theorem amx (n:Nat) (x1:aD) (x2:Pred):vZ n (x1,x2)=
 (yL n x2.re).bind fun (r3:List Pred)=>
 bif decide ((((r3.length:Nat):Int))> ((64:Int))) then
  some ((2:Int))
 else
  (uK n x1 r3 n ((0:Int))).bind fun (dR:PUnit⊕Int)=>
  Sum.elim (fun (I9:PUnit)=>
   some ((0:Int)))
   (fun (NV:Int)=>
    some NV) dR:=by kernel_rfl
noncomputable def yV (n:Nat) (x1:aD) (r5:Book×Bool) (r7:Book×(List Gone)×Int) (r8:Book×(List Gone)×Int) (r9:Book×(List Gone)×Int) (jN:Int) (m:Nat) (p:Bool×Int):Option (Bool):=
 dw (R:=R) 17 (aI ((aQ Tryz.f4.body [1,1,1,1,1,1,1,1,1,1,0,1,0,0,1,0,0,1,0,1,0,0]).getD .skip)) (⟨[(4,Aq.TV.ref 4 0),(9,Aq.TV.ref 9 0),(20,Aq.TV.ak Aq.Cp.sh (Aq.Ty.st 7) r9.2.1),(22,Aq.TV.ak Aq.Cp.any (Aq.Ty.st 7) (([]++r7.2.1)++r8.2.1)),(23,Aq.TV.int Go.IntKind.i64 jN)],[(4,Aq.Ob.ro (Aq.Ob.ro (Aq.Ob.cells [Aq.TV.int Go.IntKind.i64 x1.fF,Aq.TV.int Go.IntKind.i64 x1.gB,Aq.TV.ak Aq.Cp.sh (Aq.Ty.st 0) x1.Defs]))),(9,Aq.Ob.ro (Aq.Ob.ro (Aq.Ob.cells [Aq.TV.int Go.IntKind.i64 r5.1.aD.fF,Aq.TV.int Go.IntKind.i64 r5.1.aD.gB,Aq.TV.ak Aq.Cp.sh (Aq.Ty.st 0) r5.1.aD.Defs,Aq.TV.int Go.IntKind.i64 r5.1.aH,Aq.TV.int Go.IntKind.i64 r5.1.Day,Aq.TV.ak Aq.Cp.sh (Aq.Ty.int Go.IntKind.i64) r5.1.bV,Aq.TV.ak Aq.Cp.sh (Aq.Ty.st 4) r5.1.Rows])))]⟩:Aq.MS R.T) (aR yM.loops 17).sh (aR yM.loops 17).outs (fun st k=>bD E R n false (NP n) aJ yM ((aQ Tryz.f4.body [1,1,1,1,1,1,1,1,1,1,0,1,0,0,1,0,0,1,0,1,0,0]).getD .skip) st k) m p
attribute [irreducible] yV
noncomputable def yX (n:Nat) (x1:aD) (r5:Book×Bool) (r7:Book×(List Gone)×Int) (r8:Book×(List Gone)×Int) (r9:Book×(List Gone)×Int) (m:Nat) (p:Int):Option (PUnit⊕Bool):=
 dw (R:=R) 13 (aI ((aQ Tryz.f4.body [1,1,1,1,1,1,1,1,1,1,0,1,0,0]).getD .skip)) (⟨[(4,Aq.TV.ref 4 0),(9,Aq.TV.ref 9 0),(20,Aq.TV.ak Aq.Cp.sh (Aq.Ty.st 7) r9.2.1),(22,Aq.TV.ak Aq.Cp.any (Aq.Ty.st 7) (([]++r7.2.1)++r8.2.1))],[(4,Aq.Ob.ro (Aq.Ob.cells [Aq.TV.int Go.IntKind.i64 x1.fF,Aq.TV.int Go.IntKind.i64 x1.gB,Aq.TV.ak Aq.Cp.sh (Aq.Ty.st 0) x1.Defs])),(9,Aq.Ob.ro (Aq.Ob.cells [Aq.TV.int Go.IntKind.i64 r5.1.aD.fF,Aq.TV.int Go.IntKind.i64 r5.1.aD.gB,Aq.TV.ak Aq.Cp.sh (Aq.Ty.st 0) r5.1.aD.Defs,Aq.TV.int Go.IntKind.i64 r5.1.aH,Aq.TV.int Go.IntKind.i64 r5.1.Day,Aq.TV.ak Aq.Cp.sh (Aq.Ty.int Go.IntKind.i64) r5.1.bV,Aq.TV.ak Aq.Cp.sh (Aq.Ty.st 4) r5.1.Rows]))]⟩:Aq.MS R.T) (aR yM.loops 13).sh (aR yM.loops 13).outs (fun st k=>bD E R n false (NP n) aJ yM ((aQ Tryz.f4.body [1,1,1,1,1,1,1,1,1,1,0,1,0,0]).getD .skip) st k) m p
attribute [irreducible] yX
theorem abR (n:Nat) (x1:aD) (r5:Book×Bool) (r7:Book×(List Gone)×Int) (r8:Book×(List Gone)×Int) (r9:Book×(List Gone)×Int) (jN:Int) (m:Nat) (Tm:Bool) (JA:Int):yV n x1 r5 r7 r8 r9 jN (m+1) (Tm,JA)=
 bif decide (JA< ((((([]++r7.2.1)++r8.2.1).length:Nat):Int))) then
  bif !Tm then
   (aL (([]++r7.2.1)++r8.2.1) JA).bind fun (dB:Gone)=>
   (aL r9.2.1 jN).bind fun (dW:Gone)=>
   yV n x1 r5 r7 r8 r9 jN m (((dB.ID==dW.ID)&& ((dB.eG==dW.eG)&& ((dB.fM==dW.fM)&& ((dB.cO==dW.cO)&& (((dB.Leaf.b0==dW.Leaf.b0)&& ((dB.Leaf.b1==dW.Leaf.b1)&& ((dB.Leaf.b2==dW.Leaf.b2)&& ((dB.Leaf.b3==dW.Leaf.b3)&& ((dB.Leaf.b4==dW.Leaf.b4)&& ((dB.Leaf.b5==dW.Leaf.b5)&& ((dB.Leaf.b6==dW.Leaf.b6)&& ((dB.Leaf.b7==dW.Leaf.b7)&& ((dB.Leaf.b8==dW.Leaf.b8)&& ((dB.Leaf.b9==dW.Leaf.b9)&& ((dB.Leaf.b10==dW.Leaf.b10)&& ((dB.Leaf.b11==dW.Leaf.b11)&& ((dB.Leaf.b12==dW.Leaf.b12)&& ((dB.Leaf.b13==dW.Leaf.b13)&& ((dB.Leaf.b14==dW.Leaf.b14)&& ((dB.Leaf.b15==dW.Leaf.b15)&& true))))))))))))))))&& true)))),Go.IntKind.wrap Go.IntKind.i64 (JA+((1:Int)))))
  else
   yV n x1 r5 r7 r8 r9 jN m ((true,Go.IntKind.wrap Go.IntKind.i64 (JA+((1:Int)))))
 else
  some Tm:=by kernel_rfl
theorem abS (n:Nat) (x1:aD) (r5:Book×Bool) (r7:Book×(List Gone)×Int) (r8:Book×(List Gone)×Int) (r9:Book×(List Gone)×Int) (m:Nat) (jN:Int):yX n x1 r5 r7 r8 r9 (m+1) jN=
 bif decide (jN< (((r9.2.1.length:Nat):Int))) then
  (yV n x1 r5 r7 r8 r9 jN n ((false,(0:Int)))).bind fun (r16:Bool)=>
  bif !r16 then
   some (.inr false)
  else
   yX n x1 r5 r7 r8 r9 m (Go.IntKind.wrap Go.IntKind.i64 (jN+((1:Int))))
 else
  some (.inl (())):=by kernel_rfl
theorem amy (n:Nat) (x1:aD) (x2:List Event) (x3:Int) (x4:Int):NT n (x1,(x2,(x3,x4)))=
 (Cg n ((x1,x2))).bind fun (r5:Book×Bool)=>
 bif !r5.2 then
  (vT n (())).bind fun (r6:Bool)=>
  some r6
 else
  bif !((Go.IntKind.wrap Go.IntKind.i64 (r5.1.aH+((1:Int))))==((0:Int))) then
   bif !((Go.IntKind.wrap Go.IntKind.i64 (r5.1.aH+((1:Int))))==((0:Int))) then
    (qN n ((r5.1,Int.tmod (Go.IntKind.wrap Go.IntKind.i64 (jF x3 x4)) (Go.IntKind.wrap Go.IntKind.i64 (r5.1.aH+((1:Int))))))).bind fun (r7:Book×(List Gone)×Int)=>
    (qN n ((r7.1,imax (Int.tmod (Go.IntKind.wrap Go.IntKind.i64 (jF x3 x4)) (Go.IntKind.wrap Go.IntKind.i64 (r5.1.aH+((1:Int))))) (Int.tmod (Go.IntKind.wrap Go.IntKind.i64 (imax x3 x4)) (Go.IntKind.wrap Go.IntKind.i64 (r5.1.aH+((1:Int)))))))).bind fun (r8:Book×(List Gone)×Int)=>
    (qN n ((r5.1,imax (Int.tmod (Go.IntKind.wrap Go.IntKind.i64 (jF x3 x4)) (Go.IntKind.wrap Go.IntKind.i64 (r5.1.aH+((1:Int))))) (Int.tmod (Go.IntKind.wrap Go.IntKind.i64 (imax x3 x4)) (Go.IntKind.wrap Go.IntKind.i64 (r5.1.aH+((1:Int)))))))).bind fun (r9:Book×(List Gone)×Int)=>
    (iG (!(bif bif r7.2.2 !=((0:Int)) then true else r8.2.2 !=((0:Int)) then true else r9.2.2 !=((0:Int)))) (vW n ((r8.1,r9.1))) false).bind fun (dR:Bool)=>
    bif bif bif bif bif r7.2.2 !=((0:Int)) then true else r8.2.2 !=((0:Int)) then true else r9.2.2 !=((0:Int)) then true else !dR then true else (Go.IntKind.wrap Go.IntKind.i64 ((((r7.2.1.length:Nat):Int))+(((r8.2.1.length:Nat):Int)))) !=(((r9.2.1.length:Nat):Int)) then
     some false
    else
     bif bN (((0:Nat))+r7.2.1.length) 48 then
      bif bN ((([]++r7.2.1).length)+r8.2.1.length) 48 then
       (yX n x1 r5 r7 r8 r9 n ((0:Int))).bind fun (ru:PUnit⊕Bool)=>
       Sum.elim (fun (q18:PUnit)=>
        (qW n (([(⟨[(120:UInt8)],(⟨(4:Int),[],(0:Int),(0:Int),[],[(⟨(1:Int),[],(0:Int),(0:Int),[],[]⟩:Pred)]⟩:Pred),(9:Int)⟩:Law)],r5.1))).bind fun (Je:Int)=>
        (vT n (())).bind fun (Jf:Bool)=>
        bif Jf then
         bif Je==r5.1.aH then
          (qW n (([],r5.1))).bind fun (Eb:Int)=>
          bif Eb==r5.1.aH then
           (vZ n ((x1,(⟨(4:Int),[],(0:Int),(0:Int),[],[(⟨(1:Int),[],(0:Int),(0:Int),[],[]⟩:Pred)]⟩:Pred)))).bind fun (Ec:Int)=>
           some (Ec==((0:Int)))
          else
           some false
         else
          some false
        else
         some false)
        (fun (Tn:Bool)=>
         some Tn) ru
      else
       none
     else
      none
   else
    none
  else
   none:=by kernel_rfl
end Sh
