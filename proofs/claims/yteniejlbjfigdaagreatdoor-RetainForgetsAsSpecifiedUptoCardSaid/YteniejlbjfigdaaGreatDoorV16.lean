/- Part of the proof of a law. -/
import Derived.Test.YteniejlbjfigdaaGreatDoorV15
set_option linter.all false
set_option linter.unusedSimpArgs false
set_option linter.unusedSectionVars false
open Go Go.Proofs Aq
namespace Sh
set_option maxRecDepth 100000
set_option linter.unusedVariables false
def aP (l:List (Nat×Note)) (k:Nat):Note:=match look l k with
 |some q=>q
 |none=>⟨[],[],⟨[],[]⟩,[]⟩
abbrev tK:List UInt8:=[0,1,2,2,3,3,3,3,4,4,4,4,4,4,4,4,5,5,5,5,5,5,5,5,5,5,5,5,5,5,5,5,6,6,6,6,6,6,6,6,6,6,6,6,6,6,6,6,6,6,6,6,6,6,6,6,6,6,6,6,6,6,6,6,7,7,7,7,7,7,7,7,7,7,7,7,7,7,7,7,7,7,7,7,7,7,7,7,7,7,7,7,7,7,7,7,7,7,7,7,7,7,7,7,7,7,7,7,7,7,7,7,7,7,7,7,7,7,7,7,7,7,7,7,7,7,7,7,8,8,8,8,8,8,8,8,8,8,8,8,8,8,8,8,8,8,8,8,8,8,8,8,8,8,8,8,8,8,8,8,8,8,8,8,8,8,8,8,8,8,8,8,8,8,8,8,8,8,8,8,8,8,8,8,8,8,8,8,8,8,8,8,8,8,8,8,8,8,8,8,8,8,8,8,8,8,8,8,8,8,8,8,8,8,8,8,8,8,8,8,8,8,8,8,8,8,8,8,8,8,8,8,8,8,8,8,8,8,8,8,8,8,8,8,8,8,8,8,8,8,8,8,8,8,8,8]
noncomputable def yQ (n:Nat) (x1:Entry) (m:Nat) (p:Int):Option (PUnit⊕Bool):=
 cu (R:=R) 2 (aL ((aN Tryz.f75.body [1,0,1,0,0]).getD .skip)) (⟨[(1,TV.ref 1 0)],[(1,Ob.ro (Ob.cells [TV.int IntKind.i64 x1.ID,TV.int IntKind.i64 x1.bU,TV.int IntKind.i64 x1.dY,TV.int IntKind.i64 x1.fQ,TV.int IntKind.i64 x1.From,TV.int IntKind.i64 x1.To,TV.int IntKind.i64 x1.dJ,TV.aj Cp.sh (Ty.int IntKind.i64) x1.Vec,TV.aj Cp.sh (Ty.st 2) x1.aI]))]⟩:MS R.T) (aP NK.loops 2).sh (aP NK.loops 2).outs (fun st k=>bA E R n false (NJ n) aG NK ((aN Tryz.f75.body [1,0,1,0,0]).getD .skip) st k) m p
theorem af2 (n:Nat) (x1:Entry) (p:Int):yQ n x1 0 p=none:=by kernel_rfl
theorem XY (n:Nat) (x1:Entry) (m:Nat) (x2:Int):yQ n x1 (m+1) x2=
 bif bif decide (x2< (((x1.aI.length:Nat):Int))) then decide (x2≤(20:Int)) else false then
  (aK x1.aI x2).bind fun (r3:Attr)=>
  (jc (!(decide ((((r3.Name.length:Nat):Int))> (300:Int)))) (aK x1.aI x2) ((⟨[],(0:Int),(0:Int),[]⟩:Attr))).bind fun (r4:Attr)=>
  bif bif decide ((((r3.Name.length:Nat):Int))> (300:Int)) then true else decide ((((r4.S.length:Nat):Int))> (300:Int)) then
   some (.inr false)
  else
   yQ n x1 m (IntKind.wrap IntKind.i64 (x2+(1:Int)))
 else
  some (.inl (())):=by kernel_rfl
theorem af3 (n:Nat) (x1:Entry):Ak n x1=
 (yQ n x1 n (0:Int)).bind fun (r5:PUnit⊕Bool)=>
 Sum.elim (fun (q6:PUnit)=>
  some (bif decide ((((x1.Vec.length:Nat):Int))≤(40:Int)) then decide ((((x1.aI.length:Nat):Int))≤(20:Int)) else false))
  (fun (q7:Bool)=>
   some q7) r5:=by kernel_rfl
noncomputable def tL (n:Nat) (x1:List Event) (x2:Int) (m:Nat) (p:Int):Option (PUnit⊕Bool):=
 cu (R:=R) 2 (aL ((aN Tryz.f38.body [1,0,1,0,0]).getD .skip)) (⟨[(0,TV.aj Cp.sh (Ty.st 13) x1),(1,TV.int IntKind.i64 x2)],[]⟩:MS R.T) (aP NR.loops 2).sh (aP NR.loops 2).outs (fun st k=>bA E R n false (NP n) aG NR ((aN Tryz.f38.body [1,0,1,0,0]).getD .skip) st k) m p
theorem af4 (n:Nat) (x1:List Event) (x2:Int) (p:Int):tL n x1 x2 0 p=none:=by kernel_rfl
theorem RH (n:Nat) (x1:List Event) (x2:Int) (m:Nat) (x3:Int):tL n x1 x2 (m+1) x3=
 bif bif decide (x3< (((x1.length:Nat):Int))) then decide (x3≤x2) else false then
  (aK x1 x3).bind fun (r4:Event)=>
  (aK x1 x3).bind fun (r5:Event)=>
  (Ak n ((⟨(0:Int),(0:Int),(0:Int),(0:Int),(0:Int),(0:Int),(0:Int),r4.Vec,r5.aI⟩:Entry))).bind fun (r6:Bool)=>
  bif !r6 then
   some (.inr false)
  else
   tL n x1 x2 m (IntKind.wrap IntKind.i64 (x3+(1:Int)))
 else
  some (.inl (())):=by kernel_rfl
theorem af5 (n:Nat) (x1:List Event) (x2:Int):yx n (x1,x2)=
 (tL n x1 x2 n (0:Int)).bind fun (r7:PUnit⊕Bool)=>
 Sum.elim (fun (q8:PUnit)=>
  some (decide ((((x1.length:Nat):Int))≤x2)))
  (fun (q9:Bool)=>
   some q9) r7:=by kernel_rfl
noncomputable def yR (n:Nat) (x1:aF) (x2:Int) (x3:Int) (r4:Def) (m:Nat) (p:Int):Option (PUnit⊕Bool):=
 cu (R:=R) 8 (aL ((aN Tryz.f43.body [1,0,1,0,0,1,0,0,1,1,1,0,0]).getD .skip)) (⟨[(1,TV.int IntKind.i64 x2),(2,TV.ref 2 0),(5,TV.int IntKind.i64 x3),(6,TV.ref 6 0)],[(2,Ob.ro (Ob.ro (Ob.cells [TV.int IntKind.i64 x1.gq,TV.int IntKind.i64 x1.iG,TV.aj Cp.sh (Ty.st 0) x1.Defs]))),(6,Ob.ro (Ob.cells [TV.str r4.Name,TV.int IntKind.i64 r4.Kind,TV.int IntKind.i64 r4.Lo,TV.int IntKind.i64 r4.Hi,TV.aj Cp.sh Ty.str r4.Words]))]⟩:MS R.T) (aP Al.loops 8).sh (aP Al.loops 8).outs (fun st k=>bA E R n false (Ib n) aG Al ((aN Tryz.f43.body [1,0,1,0,0,1,0,0,1,1,1,0,0]).getD .skip) st k) m p
noncomputable def yS (n:Nat) (x1:aF) (x2:Int) (m:Nat) (p:Int):Option (PUnit⊕Bool):=
 cu (R:=R) 2 (aL ((aN Tryz.f43.body [1,0,1,0,0]).getD .skip)) (⟨[(1,TV.int IntKind.i64 x2),(2,TV.ref 2 0)],[(2,Ob.ro (Ob.cells [TV.int IntKind.i64 x1.gq,TV.int IntKind.i64 x1.iG,TV.aj Cp.sh (Ty.st 0) x1.Defs]))]⟩:MS R.T) (aP Al.loops 2).sh (aP Al.loops 2).outs (fun st k=>bA E R n false (Ib n) aG Al ((aN Tryz.f43.body [1,0,1,0,0]).getD .skip) st k) m p
theorem af6 (n:Nat) (x1:aF) (x2:Int) (x3:Int) (r4:Def) (m:Nat) (x5:Int):yR n x1 x2 x3 r4 (m+1) x5=
 bif decide (x5< (((r4.Words.length:Nat):Int))) then
  (aK r4.Words x5).bind fun (r6:List UInt8)=>
  bif decide ((((r6.length:Nat):Int))> (100:Int)) then
   some (.inr false)
  else
   yR n x1 x2 x3 r4 m (IntKind.wrap IntKind.i64 (x5+(1:Int)))
 else
  some (.inl (())):=by kernel_rfl
theorem af7 (n:Nat) (x1:aF) (x2:Int) (m:Nat) (x3:Int):yS n x1 x2 (m+1) x3=
 bif bif decide (x3< (((x1.Defs.length:Nat):Int))) then decide (x3≤x2) else false then
  (aK x1.Defs x3).bind fun (r4:Def)=>
  bif bif decide ((((r4.Words.length:Nat):Int))> (60:Int)) then true else decide ((((r4.Name.length:Nat):Int))> (100:Int)) then
   some (.inr false)
  else
   (yR n x1 x2 x3 r4 n (0:Int)).bind fun (r7:PUnit⊕Bool)=>
   Sum.elim (fun (q8:PUnit)=>
    yS n x1 x2 m (IntKind.wrap IntKind.i64 (x3+(1:Int))))
    (fun (q9:Bool)=>
     some (.inr q9)) r7
 else
  some (.inl (())):=by kernel_rfl
theorem arP (n:Nat) (x1:aF) (x2:Int):D6 n (x1,x2)=
 (yS n x1 x2 n (0:Int)).bind fun (eB:PUnit⊕Bool)=>
 Sum.elim (fun (RI:PUnit)=>
  some (decide ((((x1.Defs.length:Nat):Int))≤x2)))
  (fun (q12:Bool)=>
   some q12) eB:=by kernel_rfl
theorem arQ (n:Nat) (x1:Int):D7 n x1=
 some (bif decide (x1≥(1:Int)) then decide (x1≤(3:Int)) else false):=by kernel_rfl
noncomputable def Kv (n:Nat) (x1:List (List UInt8)) (x2:List UInt8) (m:Nat) (p:Int):Option (PUnit⊕Bool):=
 cu (R:=R) 2 (aL ((aN Tryz.f197.body [1,0,1,0,0]).getD .skip)) (⟨[(0,TV.aj Cp.sh Ty.str x1),(1,TV.str x2)],[]⟩:MS R.T) (aP NW.loops 2).sh (aP NW.loops 2).outs (fun st k=>bA E R n false (NV n) aG NW ((aN Tryz.f197.body [1,0,1,0,0]).getD .skip) st k) m p
theorem af9 (n:Nat) (x1:List (List UInt8)) (x2:List UInt8) (m:Nat) (x3:Int):Kv n x1 x2 (m+1) x3=
 bif decide (x3< (((x1.length:Nat):Int))) then
  (aK x1 x3).bind fun (r4:List UInt8)=>
  bif r4==x2 then
   some (.inr true)
  else
   Kv n x1 x2 m (IntKind.wrap IntKind.i64 (x3+(1:Int)))
 else
  some (.inl (())):=by kernel_rfl
theorem arR (n:Nat) (x1:List (List UInt8)) (x2:List UInt8):yA n (x1,x2)=
 (Kv n x1 x2 n (0:Int)).bind fun (r5:PUnit⊕Bool)=>
 Sum.elim (fun (q6:PUnit)=>
  some false)
  (fun (q7:Bool)=>
   some q7) r5:=by kernel_rfl
noncomputable def yT (n:Nat) (x1:List UInt8) (m:Nat) (p:Int):Option (PUnit⊕Bool):=
 cu (R:=R) 2 (aL ((aN Tryz.f150.body [1,0,1,0,0]).getD .skip)) (⟨[(0,TV.str x1)],[]⟩:MS R.T) (aP N7.loops 2).sh (aP N7.loops 2).outs (fun st k=>bA E R n false (NZ n) aG N7 ((aN Tryz.f150.body [1,0,1,0,0]).getD .skip) st k) m p
theorem aga (n:Nat) (x1:List UInt8) (m:Nat) (x2:Int):yT n x1 (m+1) x2=
 bif decide (x2< (((x1.length:Nat):Int))) then
  (aK x1 x2).bind fun (r3:UInt8)=>
  bif bif !(bif decide ((((r3.toNat:Nat):Int))≥(97:Int)) then decide ((((r3.toNat:Nat):Int))≤(122:Int)) else false) then bif x2==(0:Int) then true else !(bif bif decide ((((r3.toNat:Nat):Int))≥(48:Int)) then decide ((((r3.toNat:Nat):Int))≤(57:Int)) else false then true else (((r3.toNat:Nat):Int))==(95:Int)) else false then
   some (.inr false)
  else
   yT n x1 m (IntKind.wrap IntKind.i64 (x2+(1:Int)))
 else
  some (.inl (())):=by kernel_rfl
theorem arS (n:Nat) (x1:List UInt8):Am n x1=
 (yT n x1 n (0:Int)).bind fun (r4:PUnit⊕Bool)=>
 Sum.elim (fun (q5:PUnit)=>
  (jc (bif decide ((((x1.length:Nat):Int))≥(1:Int)) then decide ((((x1.length:Nat):Int))≤(40:Int)) else false) (yA n (([[(97:UInt8),(108:UInt8),(108:UInt8)],[(97:UInt8),(110:UInt8),(100:UInt8)],[(104:UInt8),(97:UInt8),(115:UInt8)],[(105:UInt8),(110:UInt8)],[(110:UInt8),(111:UInt8),(116:UInt8)],[(111:UInt8),(114:UInt8)]],x1))) false).bind fun (r7:Bool)=>
  some (bif bif decide ((((x1.length:Nat):Int))≥(1:Int)) then decide ((((x1.length:Nat):Int))≤(40:Int)) else false then !r7 else false))
  (fun (q6:Bool)=>
   some q6) r4:=by kernel_rfl
noncomputable def yU (n:Nat) (x1:List (List UInt8)) (m:Nat) (p:Int):Option (PUnit⊕Int):=
 cu (R:=R) 4 (aL ((aN Tryz.f151.body [1,1,0,1,0,0]).getD .skip)) (⟨[(0,TV.aj Cp.sh Ty.str x1)],[]⟩:MS R.T) (aP Ao.loops 4).sh (aP Ao.loops 4).outs (fun st k=>bA E R n false (Ii n) aG Ao ((aN Tryz.f151.body [1,1,0,1,0,0]).getD .skip) st k) m p
noncomputable def yV (n:Nat) (x1:List (List UInt8)) (m:Nat) (p:Int):Option (PUnit⊕Int):=
 cu (R:=R) 9 (aL ((aN Tryz.f151.body [1,1,1,0,1,0,0]).getD .skip)) (⟨[(0,TV.aj Cp.sh Ty.str x1)],[]⟩:MS R.T) (aP Ao.loops 9).sh (aP Ao.loops 9).outs (fun st k=>bA E R n false (Ii n) aG Ao ((aN Tryz.f151.body [1,1,1,0,1,0,0]).getD .skip) st k) m p
theorem agb (n:Nat) (x1:List (List UInt8)) (m:Nat) (x2:Int):yU n x1 (m+1) x2=
 bif decide (x2< (((x1.length:Nat):Int))) then
  (aK x1 x2).bind fun (r3:List UInt8)=>
  (Am n r3).bind fun (r4:Bool)=>
  bif !r4 then
   some (.inr (5:Int))
  else
   yU n x1 m (IntKind.wrap IntKind.i64 (x2+(1:Int)))
 else
  some (.inl (())):=by kernel_rfl
theorem agc (n:Nat) (x1:List (List UInt8)) (m:Nat) (x8:Int):yV n x1 (m+1) x8=
 bif decide (x8< (((x1.length:Nat):Int))) then
  (aK x1 x8).bind fun (r9:List UInt8)=>
  (aK x1 (IntKind.wrap IntKind.i64 (x8-(1:Int)))).bind fun (eB:List UInt8)=>
  bif (Go.Op.bytesLess r9 eB)||(r9==eB) then
   some (.inr (6:Int))
  else
   yV n x1 m (IntKind.wrap IntKind.i64 (x8+(1:Int)))
 else
  some (.inl (())):=by kernel_rfl
theorem arT (n:Nat) (x1:List (List UInt8)):D8 n x1=
 bif bif decide ((((x1.length:Nat):Int))< (1:Int)) then true else decide ((((x1.length:Nat):Int))> (50:Int)) then
  some (2:Int)
 else
  (yU n x1 n (0:Int)).bind fun (r5:PUnit⊕Int)=>
  Sum.elim (fun (q6:PUnit)=>
   (yV n x1 n (1:Int)).bind fun (dR:PUnit⊕Int)=>
   Sum.elim (fun (q12:PUnit)=>
    some (0:Int))
    (fun (q13:Int)=>
     some q13) dR)
   (fun (q7:Int)=>
    some q7) r5:=by kernel_rfl
theorem arV (n:Nat) (x1:Def) (x2:List UInt8):D9 n (x1,x2)=
 (Am n x1.Name).bind fun (r3:Bool)=>
 bif !r3 then
  some (5:Int)
 else
  bif (Go.Op.bytesLess x1.Name x2)||(x1.Name==x2) then
   some (6:Int)
  else
   bif x1.Kind==(1:Int) then
    bif bif bif decide (x1.Lo< (-1099511627776:Int)) then true else decide (x1.Hi> (1099511627776:Int)) then true else decide (x1.Lo>x1.Hi) then
     some (131:Int)
    else
     bif decide ((((x1.Words.length:Nat):Int))> (0:Int)) then
      some (3:Int)
     else
      some (0:Int)
   else
    bif x1.Kind==(2:Int) then
     bif bif x1.Lo !=(0:Int) then true else x1.Hi !=(0:Int) then
      some (3:Int)
     else
      (D8 n x1.Words).bind fun (r4:Int)=>
      some r4
    else
     some (130:Int):=by kernel_rfl
noncomputable def yX (n:Nat) (x1:aF) (m:Nat) (p:(List UInt8)×Int):Option (PUnit⊕Int):=
 cu (R:=R) 7 (aL ((aN Tryz.f45.body [1,1,1,1,0,1,0,0]).getD .skip)) (⟨[(1,TV.ref 1 0)],[(1,Ob.ro (Ob.cells [TV.int IntKind.i64 x1.gq,TV.int IntKind.i64 x1.iG,TV.aj Cp.sh (Ty.st 0) x1.Defs]))]⟩:MS R.T) (aP Od.loops 7).sh (aP Od.loops 7).outs (fun st k=>bA E R n false (Oc n) aG Od ((aN Tryz.f45.body [1,1,1,1,0,1,0,0]).getD .skip) st k) m p
theorem agd (n:Nat) (x1:aF) (m:Nat) (x3:List UInt8) (x4:Int):yX n x1 (m+1) (x3,x4)=
 bif decide (x4< (((x1.Defs.length:Nat):Int))) then
  (aK x1.Defs x4).bind fun (r5:Def)=>
  (D9 n ((r5,x3))).bind fun (r6:Int)=>
  bif r6 !=(0:Int) then
   some (.inr r6)
  else
   (aK x1.Defs x4).bind fun (r7:Def)=>
   yX n x1 m ((r7.Name,IntKind.wrap IntKind.i64 (x4+(1:Int))))
 else
  some (.inl (())):=by kernel_rfl
theorem arW (n:Nat) (x1:aF):Ap n x1=
 (jc (!(bif decide (x1.gq< (1:Int)) then true else decide (x1.gq> (32:Int)))) (D7 n x1.iG) false).bind fun (r2:Bool)=>
 bif bif bif decide (x1.gq< (1:Int)) then true else decide (x1.gq> (32:Int)) then true else !r2 then
  some (1:Int)
 else
  bif decide ((((x1.Defs.length:Nat):Int))> (16:Int)) then
   some (2:Int)
  else
   (yX n x1 n (([],(0:Int)))).bind fun (r8:PUnit⊕Int)=>
   Sum.elim (fun (q9:PUnit)=>
    some (0:Int))
    (fun (uX:Int)=>
     some uX) r8:=by kernel_rfl
theorem XZ (n:Nat) (x1:aF):Ar n x1=
 (Ap n x1).bind fun (r2:Int)=>
 bif r2 !=(0:Int) then
  some ((⟨(⟨(⟨(0:Int),(0:Int),[]⟩:aF),(0:Int),(0:Int),[],[]⟩:Book),r2⟩:aU))
 else
  some ((⟨(⟨x1,(0:Int),(0:Int),[],[]⟩:Book),(0:Int)⟩:aU)):=by kernel_rfl
noncomputable def Kw (n:Nat) (x1:Book) (x2:Int) (m:Nat) (p:Int):Option (PUnit⊕Bool):=
 cu (R:=R) 2 (aL ((aN Tryz.f192.body [1,0,1,0,0]).getD .skip)) (⟨[(1,TV.int IntKind.i64 x2),(2,TV.ref 2 0)],[(2,Ob.ro (Ob.cells [TV.int IntKind.i64 x1.aF.gq,TV.int IntKind.i64 x1.aF.iG,TV.aj Cp.sh (Ty.st 0) x1.aF.Defs,TV.int IntKind.i64 x1.aH,TV.int IntKind.i64 x1.Day,TV.aj Cp.sh (Ty.int IntKind.i64) x1.dn,TV.aj Cp.sh (Ty.st 4) x1.Rows]))]⟩:MS R.T) (aP Oi.loops 2).sh (aP Oi.loops 2).outs (fun st k=>bA E R n false (Oh n) aG Oi ((aN Tryz.f192.body [1,0,1,0,0]).getD .skip) st k) m p
theorem agf (n:Nat) (x1:Book) (x2:Int) (m:Nat) (x3:Int):Kw n x1 x2 (m+1) x3=
 bif decide (x3< (((x1.Rows.length:Nat):Int))) then
  (aK x1.Rows x3).bind fun (r4:Row)=>
  bif r4.Entry.ID==x2 then
   some (.inr true)
  else
   Kw n x1 x2 m (IntKind.wrap IntKind.i64 (x3+(1:Int)))
 else
  some (.inl (())):=by kernel_rfl
theorem arX (n:Nat) (x1:Book) (x2:Int):Ea n (x1,x2)=
 (Kw n x1 x2 n (0:Int)).bind fun (r5:PUnit⊕Bool)=>
 Sum.elim (fun (q6:PUnit)=>
  some false)
  (fun (q7:Bool)=>
   some q7) r5:=by kernel_rfl
noncomputable def yY (n:Nat) (x1:List Int) (m:Nat) (p:Int):Option (PUnit⊕Bool):=
 cu (R:=R) 2 (aL ((aN Tryz.f221.body [1,0,1,0,0]).getD .skip)) (⟨[(0,TV.aj Cp.sh (Ty.int IntKind.i64) x1)],[]⟩:MS R.T) (aP Om.loops 2).sh (aP Om.loops 2).outs (fun st k=>bA E R n false (Ol n) aG Om ((aN Tryz.f221.body [1,0,1,0,0]).getD .skip) st k) m p
theorem agh (n:Nat) (x1:List Int) (m:Nat) (x2:Int):yY n x1 (m+1) x2=
 bif decide (x2< (((x1.length:Nat):Int))) then
  (aK x1 x2).bind fun (r3:Int)=>
  (jc (!(decide (r3< (-1000:Int)))) (aK x1 x2) (0:Int)).bind fun (r4:Int)=>
  bif bif decide (r3< (-1000:Int)) then true else decide (r4> (1000:Int)) then
   some (.inr false)
  else
   yY n x1 m (IntKind.wrap IntKind.i64 (x2+(1:Int)))
 else
  some (.inl (())):=by kernel_rfl
theorem arY (n:Nat) (x1:List Int):Eb n x1=
 (yY n x1 n (0:Int)).bind fun (r5:PUnit⊕Bool)=>
 Sum.elim (fun (q6:PUnit)=>
  some (bif decide ((((x1.length:Nat):Int))≥(1:Int)) then decide ((((x1.length:Nat):Int))≤(32:Int)) else false))
  (fun (q7:Bool)=>
   some q7) r5:=by kernel_rfl
noncomputable def Ky (n:Nat) (x1:aF) (x2:List UInt8) (m:Nat) (p:Int):Option (PUnit⊕Int):=
 cu (R:=R) 2 (aL ((aN Tryz.f56.body [1,0,1,0,0]).getD .skip)) (⟨[(1,TV.str x2),(2,TV.ref 2 0)],[(2,Ob.ro (Ob.cells [TV.int IntKind.i64 x1.gq,TV.int IntKind.i64 x1.iG,TV.aj Cp.sh (Ty.st 0) x1.Defs]))]⟩:MS R.T) (aP Ot.loops 2).sh (aP Ot.loops 2).outs (fun st k=>bA E R n false (Oq n) aG Ot ((aN Tryz.f56.body [1,0,1,0,0]).getD .skip) st k) m p
theorem agi (n:Nat) (x1:aF) (x2:List UInt8) (m:Nat) (x3:Int):Ky n x1 x2 (m+1) x3=
 bif decide (x3< (((x1.Defs.length:Nat):Int))) then
  (aK x1.Defs x3).bind fun (r4:Def)=>
  bif r4.Name==x2 then
   some (.inr x3)
  else
   Ky n x1 x2 m (IntKind.wrap IntKind.i64 (x3+(1:Int)))
 else
  some (.inl (())):=by kernel_rfl
theorem arZ (n:Nat) (x1:aF) (x2:List UInt8):Ec n (x1,x2)=
 (Ky n x1 x2 n (0:Int)).bind fun (r5:PUnit⊕Int)=>
 Sum.elim (fun (q6:PUnit)=>
  some (-1:Int))
  (fun (q7:Int)=>
   some q7) r5:=by kernel_rfl
theorem ar0 (n:Nat) (x1:Def) (x2:Attr):wz n (x1,x2)=
 bif x2.Kind !=x1.Kind then
  some (130:Int)
 else
  bif x2.Kind==(1:Int) then
   bif !(x2.S==[]) then
    some (3:Int)
   else
    bif bif decide (x2.N<x1.Lo) then true else decide (x2.N>x1.Hi) then
     some (131:Int)
    else
     some (0:Int)
  else
   bif x2.N !=(0:Int) then
    some (3:Int)
   else
    (yA n ((x1.Words,x2.S))).bind fun (r3:Bool)=>
    bif !r3 then
     some (131:Int)
    else
     some (0:Int):=by kernel_rfl
noncomputable def tN (n:Nat) (x1:aF) (x2:List Attr) (m:Nat) (p:Int):Option (PUnit⊕Int):=
 cu (R:=R) 2 (aL ((aN Tryz.f222.body [1,0,1,0,0]).getD .skip)) (⟨[(1,TV.aj Cp.sh (Ty.st 2) x2),(2,TV.ref 2 0)],[(2,Ob.ro (Ob.cells [TV.int IntKind.i64 x1.gq,TV.int IntKind.i64 x1.iG,TV.aj Cp.sh (Ty.st 0) x1.Defs]))]⟩:MS R.T) (aP Ox.loops 2).sh (aP Ox.loops 2).outs (fun st k=>bA E R n false (Ow n) aG Ox ((aN Tryz.f222.body [1,0,1,0,0]).getD .skip) st k) m p
theorem agj (n:Nat) (x1:aF) (x2:List Attr) (m:Nat) (x3:Int):tN n x1 x2 (m+1) x3=
 bif decide (x3< (((x2.length:Nat):Int))) then
  (aK x2 x3).bind fun (r4:Attr)=>
  (Ec n ((x1,r4.Name))).bind fun (r5:Int)=>
  bif decide (r5< (0:Int)) then
   some (.inr (5:Int))
  else
   bif decide (x3> (0:Int)) then
    (aK x2 x3).bind fun (r6:Attr)=>
    (aK x2 (IntKind.wrap IntKind.i64 (x3-(1:Int)))).bind fun (r7:Attr)=>
    bif (Go.Op.bytesLess r6.Name r7.Name)||(r6.Name==r7.Name) then
     some (.inr (6:Int))
    else
     (aK x1.Defs r5).bind fun (r8:Def)=>
     (aK x2 x3).bind fun (r9:Attr)=>
     (wz n ((r8,r9))).bind fun (eB:Int)=>
     bif eB !=(0:Int) then
      some (.inr eB)
     else
      tN n x1 x2 m (IntKind.wrap IntKind.i64 (x3+(1:Int)))
   else
    (aK x1.Defs r5).bind fun (dR:Def)=>
    (aK x2 x3).bind fun (gY:Attr)=>
    (wz n ((dR,gY))).bind fun (fH:Int)=>
    bif fH !=(0:Int) then
     some (.inr fH)
    else
     tN n x1 x2 m (IntKind.wrap IntKind.i64 (x3+(1:Int)))
 else
  some (.inl (())):=by kernel_rfl
theorem ar1 (n:Nat) (x1:aF) (x2:List Attr):Ed n (x1,x2)=
 (tN n x1 x2 n (0:Int)).bind fun (dL:PUnit⊕Int)=>
 Sum.elim (fun (q15:PUnit)=>
  some (0:Int))
  (fun (q16:Int)=>
   some q16) dL:=by kernel_rfl
theorem ar2 (n:Nat) (x1:aF) (x2:Entry):Au n (x1,x2)=
 bif bif bif bif bif bif decide (x2.ID< (1:Int)) then true else decide (x2.ID> (1073741824:Int)) then true else decide (x2.dY< (1:Int)) then true else decide (x2.dY> (1073741824:Int)) then true else decide (x2.bU< (1:Int)) then true else decide (x2.bU> (1073741824:Int)) then
  some (1:Int)
 else
  bif bif bif bif bif bif bif decide (x2.fQ< (0:Int)) then true else decide (x2.From<x2.fQ) then true else decide (x2.To≤x2.From) then true else decide (x2.To> (1048577:Int)) then true else decide (x2.From> (1048576:Int)) then true else decide (x2.dJ< (1:Int)) then true else decide (x2.dJ> (1073741824:Int)) then
   some (9:Int)
  else
   (Eb n x2.Vec).bind fun (r3:Bool)=>
   bif bif !r3 then true else (((x2.Vec.length:Nat):Int)) !=x1.gq then
    some (40:Int)
   else
    (Ed n ((x1,x2.aI))).bind fun (r4:Int)=>
    some r4:=by kernel_rfl
noncomputable def tO (n:Nat) (x1:Book) (x2:Int) (m:Nat) (p:Int×Int):Option (Int):=
 cu (R:=R) 3 (aL ((aN Tryz.f194.body [1,1,0,1,0,0]).getD .skip)) (⟨[(1,TV.int IntKind.i64 x2),(2,TV.ref 2 0)],[(2,Ob.ro (Ob.cells [TV.int IntKind.i64 x1.aF.gq,TV.int IntKind.i64 x1.aF.iG,TV.aj Cp.sh (Ty.st 0) x1.aF.Defs,TV.int IntKind.i64 x1.aH,TV.int IntKind.i64 x1.Day,TV.aj Cp.sh (Ty.int IntKind.i64) x1.dn,TV.aj Cp.sh (Ty.st 4) x1.Rows]))]⟩:MS R.T) (aP OB.loops 3).sh (aP OB.loops 3).outs (fun st k=>bA E R n false (OA n) aG OB ((aN Tryz.f194.body [1,1,0,1,0,0]).getD .skip) st k) m p
theorem ar3 (n:Nat) (x1:Book) (x2:Int) (p:Int×Int):tO n x1 x2 0 p=none:=by kernel_rfl
theorem X0 (n:Nat) (x1:Book) (x2:Int) (m:Nat) (x3:Int) (x4:Int):tO n x1 x2 (m+1) (x3,x4)=
 bif decide (x4< (((x1.Rows.length:Nat):Int))) then
  (aK x1.Rows x4).bind fun (r5:Row)=>
  bif r5.Entry.ID==x2 then
   (aK x1.Rows x4).bind fun (r6:Row)=>
   tO n x1 x2 m ((imax x3 r6.Entry.bU,IntKind.wrap IntKind.i64 (x4+(1:Int))))
  else
   tO n x1 x2 m ((x3,IntKind.wrap IntKind.i64 (x4+(1:Int))))
 else
  some x3:=by kernel_rfl
theorem agk (n:Nat) (x1:Book) (x2:Int):Av n (x1,x2)=
 (tO n x1 x2 n (((0:Int),(0:Int)))).bind fun (r7:Int)=>
 some r7:=by kernel_rfl
noncomputable def EL (n:Nat) (x2:Int) (x3:Int) (x4:Int) (m:Nat) (p:Int×List Row):Option (PUnit×List Row):=
 cu (R:=R) 3 (aL ((aN Tryz.f195.body [1,1,0,1,0,0]).getD .skip)) (⟨[(1,TV.int IntKind.i64 x2),(2,TV.int IntKind.i64 x3),(3,TV.int IntKind.i64 x4),(9,TV.vw 13 (Ty.st 4))],[]⟩:MS R.T) (aP OE.loops 3).sh (aP OE.loops 3).outs (fun st k=>bA E R n true (OD n) aG OE ((aN Tryz.f195.body [1,1,0,1,0,0]).getD .skip) st k) m p
theorem agl (n:Nat) (x2:Int) (x3:Int) (x4:Int) (m:Nat) (x5:Int) (x6:List Row):EL n x2 x3 x4 (m+1) (x5,x6)=
 bif decide (x5< (((x6.length:Nat):Int))) then
  bif decide (0≤x5∧x5< ((x6.length:Nat):Int)) then
   (aK x6 x5).bind fun (r7:Row)=>
   bif GX (r7.Entry.ID==x2) (decide (0≤x5∧x5< ((x6.length:Nat):Int))) then
    (jc (r7.Entry.ID==x2) (aK x6 x5) ((⟨(⟨(0:Int),(0:Int),(0:Int),(0:Int),(0:Int),(0:Int),(0:Int),[],[]⟩:Entry),(0:Int)⟩:Row))).bind fun (r8:Row)=>
    bif GX (bif r7.Entry.ID==x2 then r8.Entry.From==x3 else false) (decide (0≤x5∧x5< ((x6.length:Nat):Int))) then
     (jc (bif r7.Entry.ID==x2 then r8.Entry.From==x3 else false) (aK x6 x5) ((⟨(⟨(0:Int),(0:Int),(0:Int),(0:Int),(0:Int),(0:Int),(0:Int),[],[]⟩:Entry),(0:Int)⟩:Row))).bind fun (r9:Row)=>
     bif GX (bif bif r7.Entry.ID==x2 then r8.Entry.From==x3 else false then r9.dF==(0:Int) else false) (decide (0≤x5∧x5< ((x6.length:Nat):Int))) then
      (jc (bif bif r7.Entry.ID==x2 then r8.Entry.From==x3 else false then r9.dF==(0:Int) else false) (aK x6 x5) ((⟨(⟨(0:Int),(0:Int),(0:Int),(0:Int),(0:Int),(0:Int),(0:Int),[],[]⟩:Entry),(0:Int)⟩:Row))).bind fun (eB:Row)=>
      bif bif bif bif r7.Entry.ID==x2 then r8.Entry.From==x3 else false then r9.dF==(0:Int) else false then decide (eB.Entry.dJ<x4) else false then
       bif decide (0≤x5∧x5< ((x6.length:Nat):Int)) then
        (aK x6 x5).bind fun (dR:Row)=>
        EL n x2 x3 x4 m ((IntKind.wrap IntKind.i64 (x5+(1:Int)),mh x6 x5 ((⟨dR.Entry,x4⟩:Row))))
       else
        none
      else
       EL n x2 x3 x4 m ((IntKind.wrap IntKind.i64 (x5+(1:Int)),x6))
     else
      none
    else
     none
   else
    none
  else
   none
 else
  some (((),x6)):=by kernel_rfl
theorem ar4 (n:Nat) (x1:List Row) (x2:Int) (x3:Int) (x4:Int):yB n (x1,(x2,(x3,x4)))=
 bif bC x1.length 112 then
  (EL n x2 x3 x4 n (((0:Int),x1))).bind fun (gY:PUnit×List Row)=>
  some gY.2
 else
  none:=by kernel_rfl
noncomputable def pE (n:Nat) (x1:Book) (x2:Event) (x3:List Row) (x4:List bQ) (x5:Entry) (m:Nat) (p:Int×(List Row)×(List Row)×Int):Option (Int×(List Row)×List Row):=
 cu (R:=R) 5 (aL ((aN Tryz.f145.body [1,1,1,1,0,1,0,0]).getD .skip)) (⟨[(2,TV.aj Cp.sh (Ty.st 4) x3),(3,TV.aj Cp.sh (Ty.st 21) x4),(5,TV.ref 5 0),(6,TV.ref 6 0),(9,TV.ref 9 0),(10,TV.ref 10 0)],[(5,Ob.ro (Ob.cells [TV.int IntKind.i64 x1.aF.gq,TV.int IntKind.i64 x1.aF.iG,TV.aj Cp.sh (Ty.st 0) x1.aF.Defs,TV.int IntKind.i64 x1.aH,TV.int IntKind.i64 x1.Day,TV.aj Cp.sh (Ty.int IntKind.i64) x1.dn,TV.aj Cp.sh (Ty.st 4) x1.Rows])),(6,Ob.ro (Ob.cells [TV.int IntKind.i64 x2.Kind,TV.int IntKind.i64 x2.aH,TV.int IntKind.i64 x2.Day,TV.int IntKind.i64 x2.ID,TV.int IntKind.i64 x2.dY,TV.int IntKind.i64 x2.Until,TV.int IntKind.i64 x2.From,TV.aj Cp.sh (Ty.int IntKind.i64) x2.Vec,TV.aj Cp.sh (Ty.st 2) x2.aI,TV.int IntKind.u8 x2.bD.b0,TV.int IntKind.u8 x2.bD.b1,TV.int IntKind.u8 x2.bD.b2,TV.int IntKind.u8 x2.bD.b3,TV.int IntKind.u8 x2.bD.b4,TV.int IntKind.u8 x2.bD.b5,TV.int IntKind.u8 x2.bD.b6,TV.int IntKind.u8 x2.bD.b7,TV.int IntKind.u8 x2.bD.b8,TV.int IntKind.u8 x2.bD.b9,TV.int IntKind.u8 x2.bD.b10,TV.int IntKind.u8 x2.bD.b11,TV.int IntKind.u8 x2.bD.b12,TV.int IntKind.u8 x2.bD.b13,TV.int IntKind.u8 x2.bD.b14,TV.int IntKind.u8 x2.bD.b15])),(9,Ob.ro (Ob.cells [TV.int IntKind.i64 x5.ID,TV.int IntKind.i64 x5.bU,TV.int IntKind.i64 x5.dY,TV.int IntKind.i64 x5.fQ,TV.int IntKind.i64 x5.From,TV.int IntKind.i64 x5.To,TV.int IntKind.i64 x5.dJ,TV.aj Cp.sh (Ty.int IntKind.i64) x5.Vec,TV.aj Cp.sh (Ty.st 2) x5.aI])),(10,Ob.ro (Ob.cells [TV.int IntKind.i64 (0:Int),TV.int IntKind.i64 (0:Int),TV.dK,TV.int IntKind.i64 (0:Int),TV.int IntKind.i64 (0:Int),TV.dK,TV.dK,TV.int IntKind.i64 (0:Int)]))]⟩:MS R.T) (aP OI.loops 5).sh (aP OI.loops 5).outs (fun st k=>bA E R n false (OH n) aG OI ((aN Tryz.f145.body [1,1,1,1,0,1,0,0]).getD .skip) st k) m p
theorem ar5 (n:Nat) (x1:Book) (x2:Event) (x3:List Row) (x4:List bQ) (x5:Entry) (p:Int×(List Row)×(List Row)×Int):pE n x1 x2 x3 x4 x5 0 p=none:=by kernel_rfl
theorem X3 (n:Nat) (x1:Book) (x2:Event) (x3:List Row) (x4:List bQ) (x5:Entry) (m:Nat) (x7:Int) (x8:List Row) (x9:List Row) (x10:Int):pE n x1 x2 x3 x4 x5 (m+1) (x7,(x8,(x9,x10)))=
 bif decide (x10< (((x3.length:Nat):Int))) then
  (aK x3 x10).bind fun (dR:Row)=>
  (aK x4 x10).bind fun (gY:bQ)=>
  bif gY.from_==dR.Entry.From then
   (aK x4 x10).bind fun (fH:bQ)=>
   bif fH.to==dR.Entry.To then
    pE n x1 x2 x3 x4 x5 m ((x7,(x8,(x9,IntKind.wrap IntKind.i64 (x10+(1:Int))))))
   else
    (yB n ((x8,(x2.ID,(dR.Entry.From,x2.aH))))).bind fun (dL:List Row)=>
    (aK x4 x10).bind fun (iU:bQ)=>
    (aK x4 x10).bind fun (r16:bQ)=>
    bif decide (iU.from_<r16.to) then
     (aK x4 x10).bind fun (kR:bQ)=>
     (aK x4 x10).bind fun (fC:bQ)=>
     bif bC (x9.length+([(⟨(⟨dR.Entry.ID,IntKind.wrap IntKind.i64 (x7+(1:Int)),dR.Entry.dY,dR.Entry.fQ,kR.from_,fC.to,x2.aH,dR.Entry.Vec,dR.Entry.aI⟩:Entry),(0:Int)⟩:Row)].length)) 112 then
      pE n x1 x2 x3 x4 x5 m ((IntKind.wrap IntKind.i64 (x7+(1:Int)),(dL,(x9++[(⟨(⟨dR.Entry.ID,IntKind.wrap IntKind.i64 (x7+(1:Int)),dR.Entry.dY,dR.Entry.fQ,kR.from_,fC.to,x2.aH,dR.Entry.Vec,dR.Entry.aI⟩:Entry),(0:Int)⟩:Row)],IntKind.wrap IntKind.i64 (x10+(1:Int))))))
     else
      none
    else
     pE n x1 x2 x3 x4 x5 m ((x7,(dL,(x9,IntKind.wrap IntKind.i64 (x10+(1:Int))))))
  else
   (yB n ((x8,(x2.ID,(dR.Entry.From,x2.aH))))).bind fun (RJ:List Row)=>
   (aK x4 x10).bind fun (kE:bQ)=>
   (aK x4 x10).bind fun (gy:bQ)=>
   bif decide (kE.from_<gy.to) then
    (aK x4 x10).bind fun (gG:bQ)=>
    (aK x4 x10).bind fun (RL:bQ)=>
    bif bC (x9.length+([(⟨(⟨dR.Entry.ID,IntKind.wrap IntKind.i64 (x7+(1:Int)),dR.Entry.dY,dR.Entry.fQ,gG.from_,RL.to,x2.aH,dR.Entry.Vec,dR.Entry.aI⟩:Entry),(0:Int)⟩:Row)].length)) 112 then
     pE n x1 x2 x3 x4 x5 m ((IntKind.wrap IntKind.i64 (x7+(1:Int)),(RJ,(x9++[(⟨(⟨dR.Entry.ID,IntKind.wrap IntKind.i64 (x7+(1:Int)),dR.Entry.dY,dR.Entry.fQ,gG.from_,RL.to,x2.aH,dR.Entry.Vec,dR.Entry.aI⟩:Entry),(0:Int)⟩:Row)],IntKind.wrap IntKind.i64 (x10+(1:Int))))))
    else
     none
   else
    pE n x1 x2 x3 x4 x5 m ((x7,(RJ,(x9,IntKind.wrap IntKind.i64 (x10+(1:Int))))))
 else
  some ((x7,(x8,x9))):=by kernel_rfl
theorem X4 (n:Nat) (x1:Book) (x2:Event) (x3:List Row) (x4:List bQ) (x5:Entry):rH n (x1,(x2,(x3,(x4,x5))))=
 (Av n ((x1,x2.ID))).bind fun (r6:Int)=>
 (pE n x1 x2 x3 x4 x5 n ((r6,(x1.Rows,([],(0:Int)))))).bind fun (kF:Int×(List Row)×List Row)=>
 bif x5.ID !=(0:Int) then
  (Au n ((x1.aF,(⟨x5.ID,IntKind.wrap IntKind.i64 (kF.1+(1:Int)),x5.dY,x5.fQ,x5.From,x5.To,x5.dJ,x5.Vec,x5.aI⟩:Entry)))).bind fun (EM:Int)=>
  bif EM !=(0:Int) then
   some ((⟨x1,EM⟩:aU))
  else
   bif bC (kF.2.2.length+([(⟨(⟨x5.ID,IntKind.wrap IntKind.i64 (kF.1+(1:Int)),x5.dY,x5.fQ,x5.From,x5.To,x5.dJ,x5.Vec,x5.aI⟩:Entry),(0:Int)⟩:Row)].length)) 112 then
    bif decide ((IntKind.wrap IntKind.i64 ((((kF.2.1.length:Nat):Int))+((((kF.2.2++[(⟨(⟨x5.ID,IntKind.wrap IntKind.i64 (kF.1+(1:Int)),x5.dY,x5.fQ,x5.From,x5.To,x5.dJ,x5.Vec,x5.aI⟩:Entry),(0:Int)⟩:Row)]).length:Nat):Int))))> (65536:Int)) then
     some ((⟨x1,(2:Int)⟩:aU))
    else
     bif bC (((0:Nat))+x1.dn.length) 8 then
      bif bC ((([]++x1.dn).length)+([x2.Day].length)) 8 then
       bif bC (((0:Nat))+kF.2.1.length) 112 then
        bif bC ((([]++kF.2.1).length)+((kF.2.2++[(⟨(⟨x5.ID,IntKind.wrap IntKind.i64 (kF.1+(1:Int)),x5.dY,x5.fQ,x5.From,x5.To,x5.dJ,x5.Vec,x5.aI⟩:Entry),(0:Int)⟩:Row)]).length)) 112 then
         some ((⟨(⟨x1.aF,x2.aH,x2.Day,([]++x1.dn)++[x2.Day],([]++kF.2.1)++(kF.2.2++[(⟨(⟨x5.ID,IntKind.wrap IntKind.i64 (kF.1+(1:Int)),x5.dY,x5.fQ,x5.From,x5.To,x5.dJ,x5.Vec,x5.aI⟩:Entry),(0:Int)⟩:Row)])⟩:Book),(0:Int)⟩:aU))
        else
         none
       else
        none
      else
       none
     else
      none
   else
    none
 else
  bif decide ((IntKind.wrap IntKind.i64 ((((kF.2.1.length:Nat):Int))+(((kF.2.2.length:Nat):Int))))> (65536:Int)) then
   some ((⟨x1,(2:Int)⟩:aU))
  else
   bif bC (((0:Nat))+x1.dn.length) 8 then
    bif bC ((([]++x1.dn).length)+([x2.Day].length)) 8 then
     bif bC (((0:Nat))+kF.2.1.length) 112 then
      bif bC ((([]++kF.2.1).length)+kF.2.2.length) 112 then
       some ((⟨(⟨x1.aF,x2.aH,x2.Day,([]++x1.dn)++[x2.Day],([]++kF.2.1)++kF.2.2⟩:Book),(0:Int)⟩:aU))
      else
       none
     else
      none
    else
     none
   else
    none:=by kernel_rfl
theorem X5 (n:Nat) (x1:Book) (x2:Event):Aw n (x1,x2)=
 (Ea n ((x1,x2.ID))).bind fun (r3:Bool)=>
 bif r3 then
  some ((⟨x1,(6:Int)⟩:aU))
 else
  (Au n ((x1.aF,(⟨x2.ID,(1:Int),x2.dY,x2.Day,x2.Until,(1048577:Int),x2.aH,x2.Vec,x2.aI⟩:Entry)))).bind fun (r4:Int)=>
  bif r4 !=(0:Int) then
   some ((⟨x1,r4⟩:aU))
  else
   (rH n ((x1,(x2,([],([],(⟨x2.ID,(1:Int),x2.dY,x2.Day,x2.Until,(1048577:Int),x2.aH,x2.Vec,x2.aI⟩:Entry))))))).bind fun (r5:aU)=>
   some r5:=by kernel_rfl
noncomputable def Kz (n:Nat) (x1:Book) (x2:Int) (x3:Int) (m:Nat) (p:Int×List Row):Option (Int×List Row):=
 cu (R:=R) 8 (aL ((aN Tryz.f146.body [1,1,0,1,0,0,1,0,0,1,0,1,1,0,0,0]).getD .skip)) (⟨[(1,TV.int IntKind.i64 x2),(2,TV.ref 2 0),(5,TV.vw 42 (Ty.st 4)),(6,TV.int IntKind.i64 x3)],[(2,Ob.ro (Ob.ro (Ob.cells [TV.int IntKind.i64 x1.aF.gq,TV.int IntKind.i64 x1.aF.iG,TV.aj Cp.sh (Ty.st 0) x1.aF.Defs,TV.int IntKind.i64 x1.aH,TV.int IntKind.i64 x1.Day,TV.aj Cp.sh (Ty.int IntKind.i64) x1.dn,TV.aj Cp.sh (Ty.st 4) x1.Rows])))]⟩:MS R.T) (aP Ay.loops 8).sh (aP Ay.loops 8).outs (fun st k=>bA E R n true (IE n) aG Ay ((aN Tryz.f146.body [1,1,0,1,0,0,1,0,0,1,0,1,1,0,0,0]).getD .skip) st k) m p
noncomputable def Bz (n:Nat) (x1:Book) (x2:Int) (m:Nat) (p:(PUnit×Int)×List Row):Option (PUnit×List Row):=
 cu (R:=R) 3 (aL ((aN Tryz.f146.body [1,1,0,1,0,0]).getD .skip)) (⟨[(1,TV.int IntKind.i64 x2),(2,TV.ref 2 0)],[(2,Ob.ro (Ob.cells [TV.int IntKind.i64 x1.aF.gq,TV.int IntKind.i64 x1.aF.iG,TV.aj Cp.sh (Ty.st 0) x1.aF.Defs,TV.int IntKind.i64 x1.aH,TV.int IntKind.i64 x1.Day,TV.aj Cp.sh (Ty.int IntKind.i64) x1.dn,TV.aj Cp.sh (Ty.st 4) x1.Rows]))]⟩:MS R.T) (aP Ay.loops 3).sh (aP Ay.loops 3).outs (fun st k=>bA E R n true (IE n) aG Ay ((aN Tryz.f146.body [1,1,0,1,0,0]).getD .skip) st k) m p
theorem agm (n:Nat) (x1:Book) (x2:Int) (x3:Int) (m:Nat) (x8:Int) (x9:List Row):Kz n x1 x2 x3 (m+1) (x8,x9)=
 bif decide (x8> (0:Int)) then
  bif decide (0≤(IntKind.wrap IntKind.i64 (x8-(1:Int)))∧(IntKind.wrap IntKind.i64 (x8-(1:Int)))< ((x9.length:Nat):Int)) then
   (aK x9 (IntKind.wrap IntKind.i64 (x8-(1:Int)))).bind fun (eB:Row)=>
   (aK x1.Rows x3).bind fun (dR:Row)=>
   bif decide (eB.Entry.From>dR.Entry.From) then
    bif decide (0≤(IntKind.wrap IntKind.i64 (x8-(1:Int)))∧(IntKind.wrap IntKind.i64 (x8-(1:Int)))< ((x9.length:Nat):Int)) then
     (aK x9 (IntKind.wrap IntKind.i64 (x8-(1:Int)))).bind fun (gY:Row)=>
     bif decide (0≤x8∧x8< ((x9.length:Nat):Int)) then
      (aK x9 x8).bind fun (fH:Row)=>
      Kz n x1 x2 x3 m ((IntKind.wrap IntKind.i64 (x8-(1:Int)),mh x9 x8 gY))
     else
      none
    else
     none
   else
    some ((x8,x9))
  else
   none
 else
  some ((x8,x9)):=by kernel_rfl
theorem agn (n:Nat) (x1:Book) (x2:Int) (m:Nat) (x3:Int) (x4:List Row):Bz n x1 x2 (m+1) (((),x3),x4)=
 bif decide (x3< (((x1.Rows.length:Nat):Int))) then
  (aK x1.Rows x3).bind fun (r5:Row)=>
  (jc (r5.Entry.ID==x2) (aK x1.Rows x3) ((⟨(⟨(0:Int),(0:Int),(0:Int),(0:Int),(0:Int),(0:Int),(0:Int),[],[]⟩:Entry),(0:Int)⟩:Row))).bind fun (r6:Row)=>
  bif bif r5.Entry.ID==x2 then r6.dF==(0:Int) else false then
   (aK x1.Rows x3).bind fun (r7:Row)=>
   bif bC (x4.length+([r7].length)) 112 then
    (Kz n x1 x2 x3 n ((((x4.length:Nat):Int),x4++[r7]))).bind fun (dL:Int×List Row)=>
    (aK x1.Rows x3).bind fun (iU:Row)=>
    bif decide (0≤dL.1∧dL.1< ((dL.2.length:Nat):Int)) then
     (aK dL.2 dL.1).bind fun (r16:Row)=>
     Bz n x1 x2 m ((((),IntKind.wrap IntKind.i64 (x3+(1:Int))),mh dL.2 dL.1 iU))
    else
     none
   else
    none
  else
   Bz n x1 x2 m ((((),IntKind.wrap IntKind.i64 (x3+(1:Int))),x4))
 else
  some (((),x4)):=by kernel_rfl
theorem ar6 (n:Nat) (x1:Book) (x2:Int):rJ n (x1,x2)=
 (Bz n x1 x2 n ((((),(0:Int)),[]))).bind fun (kR:PUnit×List Row)=>
 some kR.2:=by kernel_rfl
theorem agp (n:Nat) (x1:List Row):sZ n x1=
 (aK x1 (IntKind.wrap IntKind.i64 ((((x1.length:Nat):Int))-(1:Int)))).bind fun (r2:Row)=>
 some r2.Entry.To:=by kernel_rfl
noncomputable def wH (n:Nat) (x1:Book) (x2:Event) (x3:List Row) (r4:Row) (m:Nat) (p:(List bQ)×Int):Option (List bQ):=
 cu (R:=R) 6 (aL ((aN Tryz.f147.body [1,1,1,1,0,1,0,0]).getD .skip)) (⟨[(2,TV.aj Cp.sh (Ty.st 4) x3),(3,TV.ref 3 0),(4,TV.ref 4 0),(6,TV.ref 6 0),(7,TV.int IntKind.i64 (imax x2.From r4.Entry.From))],[(3,Ob.ro (Ob.cells [TV.int IntKind.i64 x1.aF.gq,TV.int IntKind.i64 x1.aF.iG,TV.aj Cp.sh (Ty.st 0) x1.aF.Defs,TV.int IntKind.i64 x1.aH,TV.int IntKind.i64 x1.Day,TV.aj Cp.sh (Ty.int IntKind.i64) x1.dn,TV.aj Cp.sh (Ty.st 4) x1.Rows])),(4,Ob.ro (Ob.cells [TV.int IntKind.i64 x2.Kind,TV.int IntKind.i64 x2.aH,TV.int IntKind.i64 x2.Day,TV.int IntKind.i64 x2.ID,TV.int IntKind.i64 x2.dY,TV.int IntKind.i64 x2.Until,TV.int IntKind.i64 x2.From,TV.aj Cp.sh (Ty.int IntKind.i64) x2.Vec,TV.aj Cp.sh (Ty.st 2) x2.aI,TV.int IntKind.u8 x2.bD.b0,TV.int IntKind.u8 x2.bD.b1,TV.int IntKind.u8 x2.bD.b2,TV.int IntKind.u8 x2.bD.b3,TV.int IntKind.u8 x2.bD.b4,TV.int IntKind.u8 x2.bD.b5,TV.int IntKind.u8 x2.bD.b6,TV.int IntKind.u8 x2.bD.b7,TV.int IntKind.u8 x2.bD.b8,TV.int IntKind.u8 x2.bD.b9,TV.int IntKind.u8 x2.bD.b10,TV.int IntKind.u8 x2.bD.b11,TV.int IntKind.u8 x2.bD.b12,TV.int IntKind.u8 x2.bD.b13,TV.int IntKind.u8 x2.bD.b14,TV.int IntKind.u8 x2.bD.b15])),(6,Ob.ro (Ob.cells [TV.int IntKind.i64 (0:Int),TV.int IntKind.i64 (0:Int),TV.dK,TV.int IntKind.i64 (0:Int),TV.int IntKind.i64 (0:Int),TV.dK,TV.dK,TV.int IntKind.i64 (0:Int)]))]⟩:MS R.T) (aP OQ.loops 6).sh (aP OQ.loops 6).outs (fun st k=>bA E R n false (OP n) aG OQ ((aN Tryz.f147.body [1,1,1,1,0,1,0,0]).getD .skip) st k) m p
theorem ar7 (n:Nat) (x1:Book) (x2:Event) (x3:List Row) (r4:Row) (p:(List bQ)×Int):wH n x1 x2 x3 r4 0 p=none:=by kernel_rfl
theorem X6 (n:Nat) (x1:Book) (x2:Event) (x3:List Row) (r4:Row) (m:Nat) (x6:List bQ) (x7:Int):wH n x1 x2 x3 r4 (m+1) (x6,x7)=
 bif decide (x7< (((x3.length:Nat):Int))) then
  (aK x3 x7).bind fun (r8:Row)=>
  bif bC (x6.length+([(⟨r8.Entry.From,oO r8.Entry.To (imax (imax x2.From r4.Entry.From) r8.Entry.From)⟩:bQ)].length)) 16 then
   wH n x1 x2 x3 r4 m ((x6++[(⟨r8.Entry.From,oO r8.Entry.To (imax (imax x2.From r4.Entry.From) r8.Entry.From)⟩:bQ)],IntKind.wrap IntKind.i64 (x7+(1:Int))))
  else
   none
 else
  some x6:=by kernel_rfl
theorem X7 (n:Nat) (x1:Book) (x2:Event) (x3:List Row):qx n (x1,(x2,x3))=
 (aK x3 (0:Int)).bind fun (r4:Row)=>
 (jc (!(decide (x2.From< (0:Int)))) (sZ n x3) (0:Int)).bind fun (r5:Int)=>
 bif bif decide (x2.From< (0:Int)) then true else decide ((imax x2.From r4.Entry.From)≥r5) then
  some ((⟨x1,(9:Int)⟩:aU))
 else
  (wH n x1 x2 x3 r4 n (([],(0:Int)))).bind fun (r9:List bQ)=>
  (aK x3 (0:Int)).bind fun (eB:Row)=>
  (sZ n x3).bind fun (dR:Int)=>
  (rH n ((x1,(x2,(x3,(r9,(⟨eB.Entry.ID,eB.Entry.bU,eB.Entry.dY,eB.Entry.fQ,imax x2.From r4.Entry.From,dR,x2.aH,x2.Vec,x2.aI⟩:Entry))))))).bind fun (gY:aU)=>
  some gY:=by kernel_rfl
noncomputable def wI (n:Nat) (x1:Book) (x2:Event) (x3:List Row) (m:Nat) (p:(List bQ)×Int):Option (List bQ):=
 cu (R:=R) 5 (aL ((aN Tryz.f148.body [1,1,1,0,1,0,0]).getD .skip)) (⟨[(2,TV.aj Cp.sh (Ty.st 4) x3),(3,TV.ref 3 0),(4,TV.ref 4 0),(6,TV.ref 6 0)],[(3,Ob.ro (Ob.cells [TV.int IntKind.i64 x1.aF.gq,TV.int IntKind.i64 x1.aF.iG,TV.aj Cp.sh (Ty.st 0) x1.aF.Defs,TV.int IntKind.i64 x1.aH,TV.int IntKind.i64 x1.Day,TV.aj Cp.sh (Ty.int IntKind.i64) x1.dn,TV.aj Cp.sh (Ty.st 4) x1.Rows])),(4,Ob.ro (Ob.cells [TV.int IntKind.i64 x2.Kind,TV.int IntKind.i64 x2.aH,TV.int IntKind.i64 x2.Day,TV.int IntKind.i64 x2.ID,TV.int IntKind.i64 x2.dY,TV.int IntKind.i64 x2.Until,TV.int IntKind.i64 x2.From,TV.aj Cp.sh (Ty.int IntKind.i64) x2.Vec,TV.aj Cp.sh (Ty.st 2) x2.aI,TV.int IntKind.u8 x2.bD.b0,TV.int IntKind.u8 x2.bD.b1,TV.int IntKind.u8 x2.bD.b2,TV.int IntKind.u8 x2.bD.b3,TV.int IntKind.u8 x2.bD.b4,TV.int IntKind.u8 x2.bD.b5,TV.int IntKind.u8 x2.bD.b6,TV.int IntKind.u8 x2.bD.b7,TV.int IntKind.u8 x2.bD.b8,TV.int IntKind.u8 x2.bD.b9,TV.int IntKind.u8 x2.bD.b10,TV.int IntKind.u8 x2.bD.b11,TV.int IntKind.u8 x2.bD.b12,TV.int IntKind.u8 x2.bD.b13,TV.int IntKind.u8 x2.bD.b14,TV.int IntKind.u8 x2.bD.b15])),(6,Ob.ro (Ob.cells [TV.int IntKind.i64 (0:Int),TV.int IntKind.i64 (0:Int),TV.dK,TV.int IntKind.i64 (0:Int),TV.int IntKind.i64 (0:Int),TV.dK,TV.dK,TV.int IntKind.i64 (0:Int)]))]⟩:MS R.T) (aP OV.loops 5).sh (aP OV.loops 5).outs (fun st k=>bA E R n false (OU n) aG OV ((aN Tryz.f148.body [1,1,1,0,1,0,0]).getD .skip) st k) m p
theorem ar8 (n:Nat) (x1:Book) (x2:Event) (x3:List Row) (p:(List bQ)×Int):wI n x1 x2 x3 0 p=none:=by kernel_rfl
theorem X8 (n:Nat) (x1:Book) (x2:Event) (x3:List Row) (m:Nat) (x5:List bQ) (x6:Int):wI n x1 x2 x3 (m+1) (x5,x6)=
 bif decide (x6< (((x3.length:Nat):Int))) then
  (aK x3 x6).bind fun (r7:Row)=>
  bif bC (x5.length+([(⟨r7.Entry.From,oO r7.Entry.To (imax x2.From r7.Entry.From)⟩:bQ)].length)) 16 then
   wI n x1 x2 x3 m ((x5++[(⟨r7.Entry.From,oO r7.Entry.To (imax x2.From r7.Entry.From)⟩:bQ)],IntKind.wrap IntKind.i64 (x6+(1:Int))))
  else
   none
 else
  some x5:=by kernel_rfl
theorem X9 (n:Nat) (x1:Book) (x2:Event) (x3:List Row):qy n (x1,(x2,x3))=
 bif !(decide (x2.From< (0:Int))) then
  (sZ n x3).bind fun (r4:Int)=>
  bif decide (x2.From≥r4) then
   some ((⟨x1,(9:Int)⟩:aU))
  else
   (wI n x1 x2 x3 n (([],(0:Int)))).bind fun (r8:List bQ)=>
   (rH n ((x1,(x2,(x3,(r8,(⟨(0:Int),(0:Int),(0:Int),(0:Int),(0:Int),(0:Int),(0:Int),[],[]⟩:Entry))))))).bind fun (r9:aU)=>
   some r9
 else
  some ((⟨x1,(9:Int)⟩:aU)):=by kernel_rfl
noncomputable def uY (n:Nat) (x1:Book) (x2:Event) (x3:List Row) (r4:Row) (m:Nat) (p:(List bQ)×Int):Option (List bQ):=
 cu (R:=R) 8 (aL ((aN Tryz.f149.body [1,1,1,1,1,0,1,0,0]).getD .skip)) (⟨[(2,TV.aj Cp.sh (Ty.st 4) x3),(3,TV.ref 3 0),(4,TV.ref 4 0),(6,TV.ref 6 0),(7,TV.int IntKind.i64 r4.Entry.From)],[(3,Ob.ro (Ob.cells [TV.int IntKind.i64 x1.aF.gq,TV.int IntKind.i64 x1.aF.iG,TV.aj Cp.sh (Ty.st 0) x1.aF.Defs,TV.int IntKind.i64 x1.aH,TV.int IntKind.i64 x1.Day,TV.aj Cp.sh (Ty.int IntKind.i64) x1.dn,TV.aj Cp.sh (Ty.st 4) x1.Rows])),(4,Ob.ro (Ob.cells [TV.int IntKind.i64 x2.Kind,TV.int IntKind.i64 x2.aH,TV.int IntKind.i64 x2.Day,TV.int IntKind.i64 x2.ID,TV.int IntKind.i64 x2.dY,TV.int IntKind.i64 x2.Until,TV.int IntKind.i64 x2.From,TV.aj Cp.sh (Ty.int IntKind.i64) x2.Vec,TV.aj Cp.sh (Ty.st 2) x2.aI,TV.int IntKind.u8 x2.bD.b0,TV.int IntKind.u8 x2.bD.b1,TV.int IntKind.u8 x2.bD.b2,TV.int IntKind.u8 x2.bD.b3,TV.int IntKind.u8 x2.bD.b4,TV.int IntKind.u8 x2.bD.b5,TV.int IntKind.u8 x2.bD.b6,TV.int IntKind.u8 x2.bD.b7,TV.int IntKind.u8 x2.bD.b8,TV.int IntKind.u8 x2.bD.b9,TV.int IntKind.u8 x2.bD.b10,TV.int IntKind.u8 x2.bD.b11,TV.int IntKind.u8 x2.bD.b12,TV.int IntKind.u8 x2.bD.b13,TV.int IntKind.u8 x2.bD.b14,TV.int IntKind.u8 x2.bD.b15])),(6,Ob.ro (Ob.cells [TV.int IntKind.i64 (0:Int),TV.int IntKind.i64 (0:Int),TV.dK,TV.int IntKind.i64 (0:Int),TV.int IntKind.i64 (0:Int),TV.dK,TV.dK,TV.int IntKind.i64 (0:Int)]))]⟩:MS R.T) (aP OZ.loops 8).sh (aP OZ.loops 8).outs (fun st k=>bA E R n false (OY n) aG OZ ((aN Tryz.f149.body [1,1,1,1,1,0,1,0,0]).getD .skip) st k) m p
theorem ar9 (n:Nat) (x1:Book) (x2:Event) (x3:List Row) (r4:Row) (p:(List bQ)×Int):uY n x1 x2 x3 r4 0 p=none:=by kernel_rfl
theorem Ya (n:Nat) (x1:Book) (x2:Event) (x3:List Row) (r4:Row) (m:Nat) (x6:List bQ) (x7:Int):uY n x1 x2 x3 r4 (m+1) (x6,x7)=
 bif decide (x7< (((x3.length:Nat):Int))) then
  (aK x3 x7).bind fun (r8:Row)=>
  bif bif x7==(0:Int) then decide (x2.Until<r4.Entry.From) else false then
   bif bC (x6.length+([(⟨x2.Until,r8.Entry.To⟩:bQ)].length)) 16 then
    uY n x1 x2 x3 r4 m ((x6++[(⟨x2.Until,r8.Entry.To⟩:bQ)],IntKind.wrap IntKind.i64 (x7+(1:Int))))
   else
    none
  else
   bif bC (x6.length+([(⟨imax r8.Entry.From (oO x2.Until r8.Entry.To),r8.Entry.To⟩:bQ)].length)) 16 then
    uY n x1 x2 x3 r4 m ((x6++[(⟨imax r8.Entry.From (oO x2.Until r8.Entry.To),r8.Entry.To⟩:bQ)],IntKind.wrap IntKind.i64 (x7+(1:Int))))
   else
    none
 else
  some x6:=by kernel_rfl
theorem Yb (n:Nat) (x1:Book) (x2:Event) (x3:List Row):qz n (x1,(x2,x3))=
 (aK x3 (0:Int)).bind fun (r4:Row)=>
 bif bif decide (r4.Entry.From≤x2.Day) then true else r4.Entry.From==x2.Until then
  some ((⟨x1,(4:Int)⟩:aU))
 else
  bif !(decide (x2.Until<x2.Day)) then
   (sZ n x3).bind fun (r5:Int)=>
   bif decide (x2.Until≥r5) then
    some ((⟨x1,(9:Int)⟩:aU))
   else
    (uY n x1 x2 x3 r4 n (([],(0:Int)))).bind fun (r9:List bQ)=>
    (rH n ((x1,(x2,(x3,(r9,(⟨(0:Int),(0:Int),(0:Int),(0:Int),(0:Int),(0:Int),(0:Int),[],[]⟩:Entry))))))).bind fun (eB:aU)=>
    some eB
  else
   some ((⟨x1,(9:Int)⟩:aU)):=by kernel_rfl
theorem Yc (n:Nat) (x1:Book) (x2:Event):yC n (x1,x2)=
 bif bif bif bif x2.aH !=(IntKind.wrap IntKind.i64 (x1.aH+(1:Int))) then true else decide (x2.aH> (1073741824:Int)) then true else decide (x2.Day<x1.Day) then true else decide (x2.Day> (1048576:Int)) then
  some ((⟨x1,(9:Int)⟩:aU))
 else
  bif x2.Kind==(1:Int) then
   (Aw n ((x1,x2))).bind fun (r3:aU)=>
   some r3
  else
   bif x2.Kind==(5:Int) then
    (rH n ((x1,(x2,([],([],(⟨(0:Int),(0:Int),(0:Int),(0:Int),(0:Int),(0:Int),(0:Int),[],[]⟩:Entry))))))).bind fun (r4:aU)=>
    some r4
   else
    bif x2.Kind==(2:Int) then
     (rJ n ((x1,x2.ID))).bind fun (r5:List Row)=>
     bif (((r5.length:Nat):Int))==(0:Int) then
      some ((⟨x1,(5:Int)⟩:aU))
     else
      bif x2.Kind==(2:Int) then
       (qx n ((x1,(x2,r5)))).bind fun (r6:aU)=>
       some r6
      else
       bif x2.Kind==(3:Int) then
        (qy n ((x1,(x2,r5)))).bind fun (r7:aU)=>
        some r7
       else
        (qz n ((x1,(x2,r5)))).bind fun (r8:aU)=>
        some r8
    else
     bif x2.Kind==(3:Int) then
      (rJ n ((x1,x2.ID))).bind fun (r9:List Row)=>
      bif (((r9.length:Nat):Int))==(0:Int) then
       some ((⟨x1,(5:Int)⟩:aU))
      else
       bif x2.Kind==(2:Int) then
        (qx n ((x1,(x2,r9)))).bind fun (eB:aU)=>
        some eB
       else
        bif x2.Kind==(3:Int) then
         (qy n ((x1,(x2,r9)))).bind fun (dR:aU)=>
         some dR
        else
         (qz n ((x1,(x2,r9)))).bind fun (gY:aU)=>
         some gY
     else
      bif x2.Kind==(4:Int) then
       (rJ n ((x1,x2.ID))).bind fun (fH:List Row)=>
       bif (((fH.length:Nat):Int))==(0:Int) then
        some ((⟨x1,(5:Int)⟩:aU))
       else
        bif x2.Kind==(2:Int) then
         (qx n ((x1,(x2,fH)))).bind fun (dL:aU)=>
         some dL
        else
         bif x2.Kind==(3:Int) then
          (qy n ((x1,(x2,fH)))).bind fun (iU:aU)=>
          some iU
         else
          (qz n ((x1,(x2,fH)))).bind fun (r16:aU)=>
          some r16
      else
       some ((⟨x1,(1:Int)⟩:aU)):=by kernel_rfl
noncomputable def yZ (n:Nat) (x2:List Event) (m:Nat) (p:Int×dH×aU):Option ((PUnit×dH×aU)⊕(PUnit×dH)):=
 cu (R:=R) 3 (aL ((aN Tryz.f44.body [1,1,0,1,0,0]).getD .skip)) (⟨[(1,TV.aj Cp.sh (Ty.st 13) x2),(4,TV.ref 4 0),(5,TV.ref 5 0)],[]⟩:MS R.T) (aP O6.loops 3).sh (aP O6.loops 3).outs (fun st k=>bA E R n false (O5 n) aG O6 ((aN Tryz.f44.body [1,1,0,1,0,0]).getD .skip) st k) m p
theorem agq (n:Nat) (x2:List Event) (p:Int×dH×aU):yZ n x2 0 p=none:=by kernel_rfl
theorem RN (n:Nat) (x2:List Event) (m:Nat) (x4:Int) (x5:dH) (x6:aU):yZ n x2 (m+1) (x4,(x5,x6))=
 bif bif decide (x4< (((x2.length:Nat):Int))) then x6.E==(0:Int) else false then
  (aK x2 x4).bind fun (r7:Event)=>
  (yC n ((x6.B,r7))).bind fun (r8:aU)=>
  bif r8.E !=(0:Int) then
   some (.inr (((),(⟨x6.B,x4,r8.E⟩:dH))))
  else
   yZ n x2 m ((IntKind.wrap IntKind.i64 (x4+(1:Int)),(x5,r8)))
 else
  some (.inl (((),(x5,x6)))):=by kernel_rfl
theorem Yd (n:Nat) (x1:aF) (x2:List Event):yD n (x1,x2)=
 (Ar n x1).bind fun (r3:aU)=>
 (yZ n x2 n (((0:Int),((⟨(⟨(⟨(0:Int),(0:Int),[]⟩:aF),(0:Int),(0:Int),[],[]⟩:Book),(0:Int),(0:Int)⟩:dH),r3)))).bind fun (r9:(PUnit×dH×aU)⊕(PUnit×dH))=>
 Sum.elim (fun (uX:PUnit×dH×aU)=>
  bif uX.2.2.E !=(0:Int) then
   some ((⟨(⟨(⟨(0:Int),(0:Int),[]⟩:aF),(0:Int),(0:Int),[],[]⟩:Book),(0:Int),uX.2.2.E⟩:dH))
  else
   some ((⟨uX.2.2.B,((x2.length:Nat):Int),(0:Int)⟩:dH)))
  (fun (RI:PUnit×dH)=>
   some RI.2) r9:=by kernel_rfl
theorem agr (n:Nat) (x1:aF) (x2:List Event):Az n (x1,x2)=
 (yx n ((x2,(25:Int)))).bind fun (r3:Bool)=>
 (jc (!(!r3)) (D6 n ((x1,(6:Int)))) false).bind fun (r4:Bool)=>
 bif bif !r3 then true else !r4 then
  some (((⟨(⟨(0:Int),(0:Int),[]⟩:aF),(0:Int),(0:Int),[],[]⟩:Book),false))
 else
  (yD n ((x1,x2))).bind fun (r5:dH)=>
  (Ap n x1).bind fun (r6:Int)=>
  some ((r5.B,r6==(0:Int))):=by kernel_rfl
noncomputable def KC (n:Nat) (x1:List Row) (m:Nat) (p:Int×List (Int×Int)):Option (PUnit×List (Int×Int)):=
 cu (R:=R) 3 (aL ((aN Tryz.f99.body [1,1,0,1,0,0]).getD .skip)) (⟨[(3,TV.cK 6),(7,TV.aj Cp.sh (Ty.st 4) x1),(8,TV.int IntKind.i64 (((x1.length:Nat):Int)))],[]⟩:MS R.T) (aP Pd.loops 3).sh (aP Pd.loops 3).outs (fun st k=>bA E R n false (Pb n) aG Pd ((aN Tryz.f99.body [1,1,0,1,0,0]).getD .skip) st k) m p
theorem ags (n:Nat) (x1:List Row) (m:Nat) (x2:Int) (x3:List (Int×Int)):KC n x1 (m+1) (x2,x3)=
 bif decide (x2< (((x1.length:Nat):Int))) then
  (aK x1 x2).bind fun (r4:Row)=>
  KC n x1 m ((IntKind.wrap IntKind.i64 (x2+(1:Int)),kP (eH R (Ty.int IntKind.i64)) r4.Entry.ID (imax (nG (0:Int) (iZ (eH R (Ty.int IntKind.i64)) r4.Entry.ID x3)) r4.Entry.bU) x3))
 else
  some (((),x3)):=by kernel_rfl
theorem asa (n:Nat) (x1:List Row):Ee n x1=
 (KC n x1 n (((0:Int),[]))).bind fun (r5:PUnit×List (Int×Int))=>
 some r5.2:=by kernel_rfl
theorem agt (n:Nat) (x1:Book) (x2:Int):yF n (x1,x2)=
 (Ee n x1.Rows).bind fun (r3:List (Int×Int))=>
 some (((),(x2,r3))):=by kernel_rfl
theorem asb (n:Nat) (x1:Row) (x2:Int) (x3:List (Int×Int)):AA n (x1,(x2,x3))=
 some (bif bif decide (x1.dF≥(1:Int)) then decide (x1.dF≤x2) else false then decide (x1.Entry.bU< (nG (0:Int) (iZ (eH R (Ty.int IntKind.i64)) x1.Entry.ID x3))) else false):=by kernel_rfl
noncomputable def EN (n:Nat) (x1:List Row) (x2:Int) (x3:List (Int×Int)) (m:Nat) (p:(List Row)×(List Row)×Int):Option ((List Row)×List Row):=
 cu (R:=R) 2 (aL ((aN Tryz.f50.body [1,0,1,0,0]).getD .skip)) (⟨[(1,TV.fn 100 [] ([TV.aM [TV.int IntKind.i64 x2] 0,TV.aM [TV.dD (Ty.int IntKind.i64) (Ty.int IntKind.i64) x3] 0])),(8,TV.aj Cp.sh (Ty.st 4) x1),(9,TV.int IntKind.i64 (((x1.length:Nat):Int)))],[]⟩:MS R.T) (aP Pk.loops 2).sh (aP Pk.loops 2).outs (fun st k=>bA E R n false (Pj n) aG Pk ((aN Tryz.f50.body [1,0,1,0,0]).getD .skip) st k) m p
theorem agu (n:Nat) (x1:List Row) (x2:Int) (x3:List (Int×Int)) (m:Nat) (x4:List Row) (x5:List Row) (x6:Int):EN n x1 x2 x3 (m+1) (x4,(x5,x6))=
 bif decide (x6< (((x1.length:Nat):Int))) then
  (aK x1 x6).bind fun (r7:Row)=>
  (AA n ((r7,(x2,x3)))).bind fun (r8:Bool)=>
  bif r8 then
   bif bC (x4.length+([r7].length)) 112 then
    EN n x1 x2 x3 m ((x4++[r7],(x5,IntKind.wrap IntKind.i64 (x6+(1:Int)))))
   else
    none
  else
   bif bC (x5.length+([r7].length)) 112 then
    EN n x1 x2 x3 m ((x4,(x5++[r7],IntKind.wrap IntKind.i64 (x6+(1:Int)))))
   else
    none
 else
  some ((x4,x5)):=by kernel_rfl
theorem asc (n:Nat) (x1:List Row) (x2:Int) (x3:List (Int×Int)):Ef n (x1,((),(x2,x3)))=
 (EN n x1 x2 x3 n (([],([],(0:Int))))).bind fun (r9:(List Row)×List Row)=>
 some ((r9.1,r9.2)):=by kernel_rfl
noncomputable def EO (n:Nat) (x1:List (List Int)) (m:Nat) (p:Int×Int):Option (Int):=
 cu (R:=R) 3 (aL ((aN Tryz.f161.body [1,1,0,1,0,0]).getD .skip)) (⟨[(0,TV.aj Cp.sh (Ty.slice (Ty.int IntKind.i64)) x1),(9,TV.aj Cp.sh (Ty.slice (Ty.int IntKind.i64)) x1),(10,TV.int IntKind.i64 (((x1.length:Nat):Int)))],[]⟩:MS R.T) (aP AB.loops 3).sh (aP AB.loops 3).outs (fun st k=>bA E R n false (I6 n) aG AB ((aN Tryz.f161.body [1,1,0,1,0,0]).getD .skip) st k) m p
noncomputable def EP (n:Nat) (x1:List (List Int)) (m:Nat) (p:(List Int)×Int):Option (List Int):=
 cu (R:=R) 11 (aL ((aN Tryz.f161.body [1,1,1,1,0,1,0,0]).getD .skip)) (⟨[(25,TV.aj Cp.sh (Ty.slice (Ty.int IntKind.i64)) x1),(26,TV.int IntKind.i64 (((x1.length:Nat):Int)))],[]⟩:MS R.T) (aP AB.loops 11).sh (aP AB.loops 11).outs (fun st k=>bA E R n false (I6 n) aG AB ((aN Tryz.f161.body [1,1,1,1,0,1,0,0]).getD .skip) st k) m p
theorem RP (n:Nat) (x1:List (List Int)) (m:Nat) (x2:Int) (x3:Int):EO n x1 (m+1) (x2,x3)=
 bif decide (x3< (((x1.length:Nat):Int))) then
  (aK x1 x3).bind fun (r4:List Int)=>
  bif decide ((IntKind.wrap IntKind.i64 (x2+(((r4.length:Nat):Int))))< (0:Int)) then
   none
  else
   EO n x1 m ((IntKind.wrap IntKind.i64 (x2+(((r4.length:Nat):Int))),IntKind.wrap IntKind.i64 (x3+(1:Int))))
 else
  some x2:=by kernel_rfl
theorem RQ (n:Nat) (x1:List (List Int)) (m:Nat) (x7:List Int) (x8:Int):EP n x1 (m+1) (x7,x8)=
 bif decide (x8< (((x1.length:Nat):Int))) then
  (aK x1 x8).bind fun (r9:List Int)=>
  bif bC (x7.length+r9.length) 8 then
   EP n x1 m ((x7++r9,IntKind.wrap IntKind.i64 (x8+(1:Int))))
  else
   none
 else
  some x7:=by kernel_rfl
theorem agv (n:Nat) (x1:List (List Int)):yG n x1=
 (EO n x1 n (((0:Int),(0:Int)))).bind fun (r5:Int)=>
 (DZ (((),r5))).bind fun (r6:List Int)=>
 (EP n x1 n ((r6,(0:Int)))).bind fun (eB:List Int)=>
 some eB:=by kernel_rfl
noncomputable def y5 (n:Nat) (m:Nat) (p:Int×List Int):Option (Int×List Int):=
 cu (R:=R) 3 (aL ((aN Tryz.f105.body [1,1,1,0,0,0]).getD .skip)) (⟨[],[]⟩:MS R.T) (aP Po.loops 3).sh (aP Po.loops 3).outs (fun st k=>bA E R n false (Pn n) aG Po ((aN Tryz.f105.body [1,1,1,0,0,0]).getD .skip) st k) m p
theorem Ye (n:Nat) (m:Nat) (x2:Int) (x3:List Int):y5 n (m+1) (x2,x3)=
 bif decide (x2> (127:Int)) then
  bif bC (x3.length+([jE IntKind.u8 (IntKind.wrap IntKind.u8 x2) (128:Int)].length)) 1 then
   bif decide ((0:Int)≤(7:Int)) then
    y5 n m ((eP IntKind.u64 x2 (7:Int),x3++[jE IntKind.u8 (IntKind.wrap IntKind.u8 x2) (128:Int)]))
   else
    none
  else
   none
 else
  some ((x2,x3)):=by kernel_rfl
theorem agw (n:Nat) (x1:Int):tq n x1=
 bif decide ((0:Int)≤(1:Int)) then
  bif decide ((0:Int)≤(63:Int)) then
   (y5 n n ((dz IntKind.u64 (j5 IntKind.u64 (IntKind.wrap IntKind.u64 x1) (1:Int)) (IntKind.wrap IntKind.u64 (eP IntKind.i64 x1 (63:Int))),[]))).bind fun (r4:Int×List Int)=>
   bif bC (r4.2.length+([IntKind.wrap IntKind.u8 r4.1].length)) 1 then
    some (r4.2++[IntKind.wrap IntKind.u8 r4.1])
   else
    none
  else
   none
 else
  none:=by kernel_rfl
noncomputable def ER (n:Nat) (x1:List Int) (m:Nat) (p:(List Int)×Int):Option (List Int):=
 cu (R:=R) 3 (aL ((aN Tryz.f104.body [1,1,0,1,0,0]).getD .skip)) (⟨[(1,TV.fn 105 [] []),(11,TV.aj Cp.sh (Ty.int IntKind.i64) x1),(12,TV.int IntKind.i64 (((x1.length:Nat):Int)))],[]⟩:MS R.T) (aP Pq.loops 3).sh (aP Pq.loops 3).outs (fun st k=>bA E R n false (Pp n) aG Pq ((aN Tryz.f104.body [1,1,0,1,0,0]).getD .skip) st k) m p
theorem RU (n:Nat) (x1:List Int) (m:Nat) (x3:List Int) (x4:Int):ER n x1 (m+1) (x3,x4)=
 bif decide (x4< (((x1.length:Nat):Int))) then
  (aK x1 x4).bind fun (r5:Int)=>
  (tq n r5).bind fun (r6:List Int)=>
  bif bC (x3.length+r6.length) 1 then
   ER n x1 m ((x3++r6,IntKind.wrap IntKind.i64 (x4+(1:Int))))
  else
   none
 else
  some x3:=by kernel_rfl
theorem agx (n:Nat) (x1:List Int):I8 n (x1,((),()))=
 (tq n (((x1.length:Nat):Int))).bind fun (r2:List Int)=>
 (ER n x1 n ((r2,(0:Int)))).bind fun (r7:List Int)=>
 some r7:=by kernel_rfl
theorem agy (n:Nat) (x1:List Int):yH n x1=
 (I8 n ((x1,((),())))).bind fun (r2:List Int)=>
 some r2:=by kernel_rfl
theorem agz (n:Nat) (x1:List UInt8):yI n x1=
 (tq n (((x1.length:Nat):Int))).bind fun (r2:List Int)=>
 bif bC (r2.length+((List.map (fun b:UInt8=>((b.toNat:Nat):Int)) x1).length)) 1 then
  some (r2++(List.map (fun b:UInt8=>((b.toNat:Nat):Int)) x1))
 else
  none:=by kernel_rfl
noncomputable def ET (n:Nat) (x1:List (List UInt8)) (m:Nat) (p:(List Int)×Int):Option (List Int):=
 cu (R:=R) 3 (aL ((aN Tryz.f201.body [1,1,0,1,0,0]).getD .skip)) (⟨[(1,TV.fn 159 [] []),(11,TV.aj Cp.sh Ty.str x1),(12,TV.int IntKind.i64 (((x1.length:Nat):Int)))],[]⟩:MS R.T) (aP Py.loops 3).sh (aP Py.loops 3).outs (fun st k=>bA E R n false (Px n) aG Py ((aN Tryz.f201.body [1,1,0,1,0,0]).getD .skip) st k) m p
theorem RV (n:Nat) (x1:List (List UInt8)) (m:Nat) (x3:List Int) (x4:Int):ET n x1 (m+1) (x3,x4)=
 bif decide (x4< (((x1.length:Nat):Int))) then
  (aK x1 x4).bind fun (r5:List UInt8)=>
  (yI n r5).bind fun (r6:List Int)=>
  bif bC (x3.length+r6.length) 1 then
   ET n x1 m ((x3++r6,IntKind.wrap IntKind.i64 (x4+(1:Int))))
  else
   none
 else
  some x3:=by kernel_rfl
theorem agA (n:Nat) (x1:List (List UInt8)):Jc n (x1,((),()))=
 (tq n (((x1.length:Nat):Int))).bind fun (r2:List Int)=>
 (ET n x1 n ((r2,(0:Int)))).bind fun (r7:List Int)=>
 some r7:=by kernel_rfl
theorem agB (n:Nat) (x1:List (List UInt8)):AJ n x1=
 (Jc n ((x1,((),())))).bind fun (r2:List Int)=>
 some r2:=by kernel_rfl
noncomputable def EU (n:Nat) (x1:List (List Int)) (m:Nat) (p:Int×Int):Option (Int):=
 cu (R:=R) 3 (aL ((aN Tryz.f162.body [1,1,0,1,0,0]).getD .skip)) (⟨[(0,TV.aj Cp.sh (Ty.slice (Ty.int IntKind.u8)) x1),(9,TV.aj Cp.sh (Ty.slice (Ty.int IntKind.u8)) x1),(10,TV.int IntKind.i64 (((x1.length:Nat):Int)))],[]⟩:MS R.T) (aP AL.loops 3).sh (aP AL.loops 3).outs (fun st k=>bA E R n false (Je n) aG AL ((aN Tryz.f162.body [1,1,0,1,0,0]).getD .skip) st k) m p
noncomputable def EW (n:Nat) (x1:List (List Int)) (m:Nat) (p:(List Int)×Int):Option (List Int):=
 cu (R:=R) 11 (aL ((aN Tryz.f162.body [1,1,1,1,0,1,0,0]).getD .skip)) (⟨[(25,TV.aj Cp.sh (Ty.slice (Ty.int IntKind.u8)) x1),(26,TV.int IntKind.i64 (((x1.length:Nat):Int)))],[]⟩:MS R.T) (aP AL.loops 11).sh (aP AL.loops 11).outs (fun st k=>bA E R n false (Je n) aG AL ((aN Tryz.f162.body [1,1,1,1,0,1,0,0]).getD .skip) st k) m p
theorem RX (n:Nat) (x1:List (List Int)) (m:Nat) (x2:Int) (x3:Int):EU n x1 (m+1) (x2,x3)=
 bif decide (x3< (((x1.length:Nat):Int))) then
  (aK x1 x3).bind fun (r4:List Int)=>
  bif decide ((IntKind.wrap IntKind.i64 (x2+(((r4.length:Nat):Int))))< (0:Int)) then
   none
  else
   EU n x1 m ((IntKind.wrap IntKind.i64 (x2+(((r4.length:Nat):Int))),IntKind.wrap IntKind.i64 (x3+(1:Int))))
 else
  some x2:=by kernel_rfl
theorem RY (n:Nat) (x1:List (List Int)) (m:Nat) (x7:List Int) (x8:Int):EW n x1 (m+1) (x7,x8)=
 bif decide (x8< (((x1.length:Nat):Int))) then
  (aK x1 x8).bind fun (r9:List Int)=>
  bif bC (x7.length+r9.length) 1 then
   EW n x1 m ((x7++r9,IntKind.wrap IntKind.i64 (x8+(1:Int))))
  else
   none
 else
  some x7:=by kernel_rfl
theorem agC (n:Nat) (x1:List (List Int)):AO n x1=
 (EU n x1 n (((0:Int),(0:Int)))).bind fun (r5:Int)=>
 (D5 (((),r5))).bind fun (r6:List Int)=>
 (EW n x1 n ((r6,(0:Int)))).bind fun (eB:List Int)=>
 some eB:=by kernel_rfl
noncomputable def BA (n:Nat) (x1:Entry) (m:Nat) (p:(List Int)×(List (List UInt8))×Int):Option ((List Int)×List (List UInt8)):=
 cu (R:=R) 4 (aL ((aN Tryz.f103.body [1,1,1,0,1,0,0]).getD .skip)) (⟨[(34,TV.aj Cp.sh (Ty.st 2) x1.aI),(35,TV.int IntKind.i64 (((x1.aI.length:Nat):Int)))],[]⟩:MS R.T) (aP PI.loops 4).sh (aP PI.loops 4).outs (fun st k=>bA E R n false (PG n) aG PI ((aN Tryz.f103.body [1,1,1,0,1,0,0]).getD .skip) st k) m p
theorem RZ (n:Nat) (x1:Entry) (m:Nat) (x3:List Int) (x4:List (List UInt8)) (x5:Int):BA n x1 (m+1) (x3,(x4,x5))=
 bif decide (x5< (((x1.aI.length:Nat):Int))) then
  (aK x1.aI x5).bind fun (r6:Attr)=>
  bif bC (x3.length+([r6.Kind,r6.N].length)) 8 then
   bif bC (x4.length+([r6.Name,r6.S].length)) 16 then
    BA n x1 m ((x3++[r6.Kind,r6.N],(x4++[r6.Name,r6.S],IntKind.wrap IntKind.i64 (x5+(1:Int)))))
   else
    none
  else
   none
 else
  some ((x3,x4)):=by kernel_rfl
theorem agD (n:Nat) (x1:Entry):AP n x1=
 (yG n ([[x1.ID,x1.bU,x1.dY,x1.fQ,x1.From,x1.To,x1.dJ,((x1.Vec.length:Nat):Int)],x1.Vec,[((x1.aI.length:Nat):Int)]])).bind fun (r2:List Int)=>
 (BA n x1 n ((r2,([],(0:Int))))).bind fun (r7:(List Int)×List (List UInt8))=>
 (yH n r7.1).bind fun (r8:List Int)=>
 (AJ n r7.2).bind fun (r9:List Int)=>
 (AO n [r8,r9]).bind fun (eB:List Int)=>
 some eB:=by kernel_rfl
theorem agE (n:Nat):Ej n ()=
 some ((Vec.lit 8 [(1779033703:Int),(3144134277:Int),(1013904242:Int),(2773480762:Int),(1359893119:Int),(2600822924:Int),(528734635:Int),(1541459225:Int)],(Vec.lit 64 [(0:Int),(0:Int),(0:Int),(0:Int),(0:Int),(0:Int),(0:Int),(0:Int),(0:Int),(0:Int),(0:Int),(0:Int),(0:Int),(0:Int),(0:Int),(0:Int),(0:Int),(0:Int),(0:Int),(0:Int),(0:Int),(0:Int),(0:Int),(0:Int),(0:Int),(0:Int),(0:Int),(0:Int),(0:Int),(0:Int),(0:Int),(0:Int),(0:Int),(0:Int),(0:Int),(0:Int),(0:Int),(0:Int),(0:Int),(0:Int),(0:Int),(0:Int),(0:Int),(0:Int),(0:Int),(0:Int),(0:Int),(0:Int),(0:Int),(0:Int),(0:Int),(0:Int),(0:Int),(0:Int),(0:Int),(0:Int),(0:Int),(0:Int),(0:Int),(0:Int),(0:Int),(0:Int),(0:Int),(0:Int)],(0:Int)))):=by kernel_rfl
theorem ase (n:Nat) (x1:Int) (x2:Int):rM n (x1,x2)=
 bif decide ((0:Int)≤(gX IntKind.u64 (IntKind.wrap IntKind.u64 x2) (31:Int))) then
  bif decide ((0:Int)≤(IntKind.wrap IntKind.u64 ((32:Int)-(gX IntKind.u64 (IntKind.wrap IntKind.u64 x2) (31:Int))))) then
   some (jE IntKind.u32 (j5 IntKind.u32 x1 (gX IntKind.u64 (IntKind.wrap IntKind.u64 x2) (31:Int))) (eP IntKind.u32 x1 (IntKind.wrap IntKind.u64 ((32:Int)-(gX IntKind.u64 (IntKind.wrap IntKind.u64 x2) (31:Int))))))
  else
   none
 else
  none:=by kernel_rfl
noncomputable def wJ (n:Nat) (x1:List Int) (x2:Int) (m:Nat) (p:Int×Vec 64):Option (PUnit×Vec 64):=
 cu (R:=R) 7 (aL ((aN Tryz.f223.body [1,1,0,1,0,0,1,1,0,0,1,0,1,0,0,1,0,0]).getD .skip)) (⟨[(0,TV.aj Cp.sh (Ty.int IntKind.u8) x1),(2,TV.ref 2 0),(3,TV.ref 3 0),(4,TV.int IntKind.i64 x2),(11,TV.int IntKind.i64 x2),(22,TV.aj Cp.any (Ty.int IntKind.u8) (List.drop (Int.toNat (IntKind.wrap IntKind.i64 ((4:Int)*x2))) (List.take (Int.toNat (IntKind.wrap IntKind.i64 ((IntKind.wrap IntKind.i64 ((4:Int)*x2))+(4:Int)))) x1))),(23,TV.int IntKind.i64 ((((List.drop (Int.toNat (IntKind.wrap IntKind.i64 ((4:Int)*x2))) (List.take (Int.toNat (IntKind.wrap IntKind.i64 ((IntKind.wrap IntKind.i64 ((4:Int)*x2))+(4:Int)))) x1)).length:Nat):Int)))],[(2,Ob.ro (Ob.ro (Ob.sg [Sg.a IntKind.u32 64 (Vec.rep 64 (0:Int))])))]⟩:MS R.T) (aP AQ.loops 7).sh (aP AQ.loops 7).outs (fun st k=>bA E R n false (Jj n) aG AQ ((aN Tryz.f223.body [1,1,0,1,0,0,1,1,0,0,1,0,1,0,0,1,0,0]).getD .skip) st k) m p
noncomputable def tQ (n:Nat) (x1:List Int) (m:Nat) (p:Int×Vec 64):Option (PUnit×Vec 64):=
 cu (R:=R) 3 (aL ((aN Tryz.f223.body [1,1,0,1,0,0]).getD .skip)) (⟨[(0,TV.aj Cp.sh (Ty.int IntKind.u8) x1),(2,TV.ref 2 0),(3,TV.ref 3 0)],[(2,Ob.ro (Ob.sg [Sg.a IntKind.u32 64 (Vec.rep 64 (0:Int))]))]⟩:MS R.T) (aP AQ.loops 3).sh (aP AQ.loops 3).outs (fun st k=>bA E R n false (Jj n) aG AQ ((aN Tryz.f223.body [1,1,0,1,0,0]).getD .skip) st k) m p
theorem Yf (n:Nat) (x1:List Int) (x2:Int) (m:Nat) (x4:Int) (x5:Vec 64):wJ n x1 x2 (m+1) (x4,x5)=
 bif decide (x4< ((((List.drop (Int.toNat (IntKind.wrap IntKind.i64 ((4:Int)*x2))) (List.take (Int.toNat (IntKind.wrap IntKind.i64 ((IntKind.wrap IntKind.i64 ((4:Int)*x2))+(4:Int)))) x1)).length:Nat):Int))) then
  (aK (List.drop (Int.toNat (IntKind.wrap IntKind.i64 ((4:Int)*x2))) (List.take (Int.toNat (IntKind.wrap IntKind.i64 ((IntKind.wrap IntKind.i64 ((4:Int)*x2))+(4:Int)))) x1)) x4).bind fun (r6:Int)=>
  bif bP x2 64 then
   bif decide ((0:Int)≤(8:Int)) then
    bif bP x2 64 then
     wJ n x1 x2 m ((IntKind.wrap IntKind.i64 (x4+(1:Int)),x5.set x2 (jE IntKind.u32 (j5 IntKind.u32 (x5.at' x2) (8:Int)) (IntKind.wrap IntKind.u32 r6))))
    else
     none
   else
    none
  else
   none
 else
  some (((),x5)):=by kernel_rfl
theorem R3 (n:Nat) (x1:List Int) (m:Nat) (x2:Int) (x3:Vec 64):tQ n x1 (m+1) (x2,x3)=
 bif decide (x2< (64:Int)) then
  bif decide (x2< (16:Int)) then
   bif (gW (IntKind.wrap IntKind.i64 ((IntKind.wrap IntKind.i64 ((4:Int)*x2))+(4:Int))) x1.length)&& (gW (IntKind.wrap IntKind.i64 ((4:Int)*x2)) (Int.toNat (IntKind.wrap IntKind.i64 ((IntKind.wrap IntKind.i64 ((4:Int)*x2))+(4:Int))))) then
    (wJ n x1 x2 n (((0:Int),x3))).bind fun (r7:PUnit×Vec 64)=>
    tQ n x1 m ((IntKind.wrap IntKind.i64 (x2+(1:Int)),r7.2))
   else
    none
  else
   bif bP (IntKind.wrap IntKind.i64 (x2-(15:Int))) 64 then
    bif bP (IntKind.wrap IntKind.i64 (x2-(2:Int))) 64 then
     (rM n ((x3.at' (IntKind.wrap IntKind.i64 (x2-(15:Int))),(-7:Int)))).bind fun (r8:Int)=>
     (rM n ((x3.at' (IntKind.wrap IntKind.i64 (x2-(15:Int))),(-18:Int)))).bind fun (r9:Int)=>
     bif decide ((0:Int)≤(3:Int)) then
      (rM n ((x3.at' (IntKind.wrap IntKind.i64 (x2-(2:Int))),(-17:Int)))).bind fun (eB:Int)=>
      (rM n ((x3.at' (IntKind.wrap IntKind.i64 (x2-(2:Int))),(-19:Int)))).bind fun (dR:Int)=>
      bif decide ((0:Int)≤(10:Int)) then
       bif bP (IntKind.wrap IntKind.i64 (x2-(16:Int))) 64 then
        bif bP (IntKind.wrap IntKind.i64 (x2-(7:Int))) 64 then
         bif bP x2 64 then
          tQ n x1 m ((IntKind.wrap IntKind.i64 (x2+(1:Int)),x3.set x2 (IntKind.wrap IntKind.u32 ((IntKind.wrap IntKind.u32 ((IntKind.wrap IntKind.u32 ((x3.at' (IntKind.wrap IntKind.i64 (x2-(16:Int))))+(dz IntKind.u32 (dz IntKind.u32 r8 r9) (eP IntKind.u32 (x3.at' (IntKind.wrap IntKind.i64 (x2-(15:Int)))) (3:Int)))))+(x3.at' (IntKind.wrap IntKind.i64 (x2-(7:Int))))))+(dz IntKind.u32 (dz IntKind.u32 eB dR) (eP IntKind.u32 (x3.at' (IntKind.wrap IntKind.i64 (x2-(2:Int)))) (10:Int)))))))
         else
          none
        else
         none
       else
        none
      else
       none
     else
      none
    else
     none
   else
    none
 else
  some (((),x3)):=by kernel_rfl
theorem agF (n:Nat) (x1:List Int):AU n x1=
 (tQ n x1 n (((0:Int),Vec.rep 64 (0:Int)))).bind fun (gY:PUnit×Vec 64)=>
 some gY.2:=by kernel_rfl
theorem asf (n:Nat) (x1:Int) (x2:Int) (x3:Int) (x4:Int):AV n (x1,(x2,(x3,x4)))=
 (rM n ((x1,IntKind.wrap IntKind.i64 ((0:Int)-x2)))).bind fun (r5:Int)=>
 (rM n ((x1,IntKind.wrap IntKind.i64 ((0:Int)-x3)))).bind fun (r6:Int)=>
 (rM n ((x1,IntKind.wrap IntKind.i64 ((0:Int)-x4)))).bind fun (r7:Int)=>
 some (dz IntKind.u32 (dz IntKind.u32 r5 r6) r7):=by kernel_rfl
noncomputable def wK (n:Nat) (x1:Vec 8) (r3:Vec 64) (m:Nat) (p:Int×(Vec 4)×Vec 4):Option (PUnit×(Vec 4)×Vec 4):=
 cu (R:=R) 4 (aL ((aN Tryz.f198.body [1,1,1,0,1,0,0]).getD .skip)) (⟨[(2,TV.ref 2 0),(4,TV.ref 4 0),(5,TV.ref 5 0),(6,TV.ref 6 0),(7,TV.ref 7 0),(21,TV.sg [Sg.a IntKind.u32 64 uK])],[(2,Ob.ro (Ob.sg [Sg.a IntKind.u32 8 x1])),(4,Ob.ro (Ob.sg [Sg.a IntKind.u32 8 (Vec.rep 8 (0:Int))])),(5,Ob.ro (Ob.sg [Sg.a IntKind.u32 64 r3]))]⟩:MS R.T) (aP AX.loops 4).sh (aP AX.loops 4).outs (fun st k=>bA E R n false (Jm n) aG AX ((aN Tryz.f198.body [1,1,1,0,1,0,0]).getD .skip) st k) m p
noncomputable def y7 (n:Nat) (r9:PUnit×(Vec 4)×Vec 4) (m:Nat) (p:Int×Vec 8):Option (PUnit×Vec 8):=
 cu (R:=R) 12 (aL ((aN Tryz.f198.body [1,1,1,1,0,1,0,0]).getD .skip)) (⟨[(2,TV.ref 2 0),(4,TV.ref 4 0),(6,TV.ref 6 0),(7,TV.ref 7 0)],[(4,Ob.ro (Ob.sg [Sg.a IntKind.u32 8 (Vec.rep 8 (0:Int))])),(6,Ob.ro (Ob.sg [Sg.a IntKind.u32 4 r9.2.1])),(7,Ob.ro (Ob.sg [Sg.a IntKind.u32 4 r9.2.2]))]⟩:MS R.T) (aP AX.loops 12).sh (aP AX.loops 12).outs (fun st k=>bA E R n false (Jm n) aG AX ((aN Tryz.f198.body [1,1,1,1,0,1,0,0]).getD .skip) st k) m p
theorem Yg (n:Nat) (x1:Vec 8) (r3:Vec 64) (m:Nat) (x4:Int) (x5:Vec 4) (x6:Vec 4):wK n x1 r3 (m+1) (x4,(x5,x6))=
 bif decide (x4< (64:Int)) then
  bif bP x4 64 then
   bif bP (3:Int) 4 then
    bif bP (0:Int) 4 then
     (AV n ((x6.at' (0:Int),((6:Int),((11:Int),(25:Int)))))).bind fun (r7:Int)=>
     bif bP (0:Int) 4 then
      bif bP (1:Int) 4 then
       bif bP (0:Int) 4 then
        bif bP (2:Int) 4 then
         bif bP x4 64 then
          bif bP (0:Int) 4 then
           (AV n ((x5.at' (0:Int),((2:Int),((13:Int),(22:Int)))))).bind fun (r8:Int)=>
           bif bP (0:Int) 4 then
            bif bP (1:Int) 4 then
             bif bP (0:Int) 4 then
              bif bP (2:Int) 4 then
               bif bP (1:Int) 4 then
                bif bP (2:Int) 4 then
                 bif bP (3:Int) 4 then
                  bif bP (0:Int) 4 then
                   bif bP (1:Int) 4 then
                    bif bP (2:Int) 4 then
                     bif bP (0:Int) 4 then
                      bif bP (1:Int) 4 then
                       bif bP (2:Int) 4 then
                        wK n x1 r3 m ((IntKind.wrap IntKind.i64 (x4+(1:Int)),(Vec.lit 4 [IntKind.wrap IntKind.u32 ((IntKind.wrap IntKind.u32 ((IntKind.wrap IntKind.u32 ((IntKind.wrap IntKind.u32 ((IntKind.wrap IntKind.u32 ((x6.at' (3:Int))+r7))+(dz IntKind.u32 (gX IntKind.u32 (x6.at' (0:Int)) (x6.at' (1:Int))) (gX IntKind.u32 (dz IntKind.u32 (4294967295:Int) (x6.at' (0:Int))) (x6.at' (2:Int))))))+(uK.at' x4)))+(r3.at' x4)))+(IntKind.wrap IntKind.u32 (r8+(dz IntKind.u32 (dz IntKind.u32 (gX IntKind.u32 (x5.at' (0:Int)) (x5.at' (1:Int))) (gX IntKind.u32 (x5.at' (0:Int)) (x5.at' (2:Int)))) (gX IntKind.u32 (x5.at' (1:Int)) (x5.at' (2:Int))))))),x5.at' (0:Int),x5.at' (1:Int),x5.at' (2:Int)],Vec.lit 4 [IntKind.wrap IntKind.u32 ((x5.at' (3:Int))+(IntKind.wrap IntKind.u32 ((IntKind.wrap IntKind.u32 ((IntKind.wrap IntKind.u32 ((IntKind.wrap IntKind.u32 ((x6.at' (3:Int))+r7))+(dz IntKind.u32 (gX IntKind.u32 (x6.at' (0:Int)) (x6.at' (1:Int))) (gX IntKind.u32 (dz IntKind.u32 (4294967295:Int) (x6.at' (0:Int))) (x6.at' (2:Int))))))+(uK.at' x4)))+(r3.at' x4)))),x6.at' (0:Int),x6.at' (1:Int),x6.at' (2:Int)])))
                       else
                        none
                      else
                       none
                     else
                      none
                    else
                     none
                   else
                    none
                  else
                   none
                 else
                  none
                else
                 none
               else
                none
              else
               none
             else
              none
            else
             none
           else
            none
          else
           none
         else
          none
        else
         none
       else
        none
      else
       none
     else
      none
    else
     none
   else
    none
  else
   none
 else
  some (((),(x5,x6))):=by kernel_rfl
theorem Yh (n:Nat) (r9:PUnit×(Vec 4)×Vec 4) (m:Nat) (x10:Int) (nL:Vec 8):y7 n r9 (m+1) (x10,nL)=
 bif decide (x10< (4:Int)) then
  bif bP x10 8 then
   bif bP x10 4 then
    bif bP x10 8 then
     bif bP (IntKind.wrap IntKind.i64 (x10+(4:Int))) 8 then
      bif bP x10 4 then
       bif bP (IntKind.wrap IntKind.i64 (x10+(4:Int))) 8 then
        y7 n r9 m ((IntKind.wrap IntKind.i64 (x10+(1:Int)),(nL.set x10 (IntKind.wrap IntKind.u32 ((nL.at' x10)+(r9.2.1.at' x10)))).set (IntKind.wrap IntKind.i64 (x10+(4:Int))) (IntKind.wrap IntKind.u32 (((nL.set x10 (IntKind.wrap IntKind.u32 ((nL.at' x10)+(r9.2.1.at' x10)))).at' (IntKind.wrap IntKind.i64 (x10+(4:Int))))+(r9.2.2.at' x10)))))
       else
        none
      else
       none
     else
      none
    else
     none
   else
    none
  else
   none
 else
  some (((),nL)):=by kernel_rfl
theorem agG (n:Nat) (x1:Vec 8) (x2:List Int):AY n (x1,x2)=
 (AU n x2).bind fun (r3:Vec 64)=>
 bif nH 8 none (some (4:Int)) then
  bif decide (0<4∧((4:Nat):Int)≤(4:Int)-(0:Int)) then
   bif nH 8 (some (4:Int)) none then
    bif decide (0<4∧((4:Nat):Int)≤(8:Int)-(4:Int)) then
     (wK n x1 r3 n (((0:Int),(x1.slc (0:Int) 4,x1.slc (4:Int) 4)))).bind fun (r9:PUnit×(Vec 4)×Vec 4)=>
     (y7 n r9 n (((0:Int),x1))).bind fun (gY:PUnit×Vec 8)=>
     some gY.2
    else
     none
   else
    none
  else
   none
 else
  none:=by kernel_rfl
noncomputable def wL (n:Nat) (m:Nat) (p:(List UInt8)×(Vec 8)×(Vec 64)×Int):Option (PUnit×(Vec 8)×(Vec 64)×Int):=
 cu (R:=R) 1 (aL ((aN Tryz.f158.body [1,0,0,0]).getD .skip)) (⟨[(2,TV.ref 2 0),(4,TV.ref 4 0)],[(4,Ob.ro (Ob.sg [Sg.a IntKind.u32 8 (Vec.rep 8 (0:Int)),Sg.a IntKind.u8 64 (Vec.rep 64 (0:Int)),Sg.i IntKind.u64 (0:Int)]))]⟩:MS R.T) (aP PX.loops 1).sh (aP PX.loops 1).outs (fun st k=>bA E R n false (PW n) aG PX ((aN Tryz.f158.body [1,0,0,0]).getD .skip) st k) m p
theorem R4 (n:Nat) (m:Nat) (x5:List UInt8) (x6:Vec 8) (x7:Vec 64) (x8:Int):wL n (m+1) (x5,(x6,(x7,x8)))=
 bif !(x5==[]) then
  bif !((64:Int)==(0:Int)) then
   bif nH 64 (some (IntKind.wrap IntKind.i64 (Int.tmod x8 (64:Int)))) none then
    bif gW ((((List.take (Int.toNat ((64:Int)-(IntKind.wrap IntKind.i64 (Int.tmod x8 (64:Int))))) (List.map (fun b:UInt8=>((b.toNat:Nat):Int)) x5)).length:Nat):Int)) x5.length then
     bif (IntKind.wrap IntKind.i64 ((IntKind.wrap IntKind.i64 (Int.tmod x8 (64:Int)))+((((List.take (Int.toNat ((64:Int)-(IntKind.wrap IntKind.i64 (Int.tmod x8 (64:Int))))) (List.map (fun b:UInt8=>((b.toNat:Nat):Int)) x5)).length:Nat):Int))))==(64:Int) then
      (AY n ((x6,(x7.oP (IntKind.wrap IntKind.i64 (Int.tmod x8 (64:Int))) (List.take (Int.toNat ((64:Int)-(IntKind.wrap IntKind.i64 (Int.tmod x8 (64:Int))))) (List.map (fun b:UInt8=>((b.toNat:Nat):Int)) x5))).l))).bind fun (r9:Vec 8)=>
      wL n m ((List.drop (Int.toNat ((((List.take (Int.toNat ((64:Int)-(IntKind.wrap IntKind.i64 (Int.tmod x8 (64:Int))))) (List.map (fun b:UInt8=>((b.toNat:Nat):Int)) x5)).length:Nat):Int))) x5,(r9,(x7.oP (IntKind.wrap IntKind.i64 (Int.tmod x8 (64:Int))) (List.take (Int.toNat ((64:Int)-(IntKind.wrap IntKind.i64 (Int.tmod x8 (64:Int))))) (List.map (fun b:UInt8=>((b.toNat:Nat):Int)) x5)),IntKind.wrap IntKind.u64 (x8+(IntKind.wrap IntKind.u64 ((((List.take (Int.toNat ((64:Int)-(IntKind.wrap IntKind.i64 (Int.tmod x8 (64:Int))))) (List.map (fun b:UInt8=>((b.toNat:Nat):Int)) x5)).length:Nat):Int))))))))
     else
      wL n m ((List.drop (Int.toNat ((((List.take (Int.toNat ((64:Int)-(IntKind.wrap IntKind.i64 (Int.tmod x8 (64:Int))))) (List.map (fun b:UInt8=>((b.toNat:Nat):Int)) x5)).length:Nat):Int))) x5,(x6,(x7.oP (IntKind.wrap IntKind.i64 (Int.tmod x8 (64:Int))) (List.take (Int.toNat ((64:Int)-(IntKind.wrap IntKind.i64 (Int.tmod x8 (64:Int))))) (List.map (fun b:UInt8=>((b.toNat:Nat):Int)) x5)),IntKind.wrap IntKind.u64 (x8+(IntKind.wrap IntKind.u64 ((((List.take (Int.toNat ((64:Int)-(IntKind.wrap IntKind.i64 (Int.tmod x8 (64:Int))))) (List.map (fun b:UInt8=>((b.toNat:Nat):Int)) x5)).length:Nat):Int))))))))
    else
     none
   else
    none
  else
   none
 else
  some (((),(x6,(x7,x8)))):=by kernel_rfl
theorem agH (n:Nat) (x1:Vec 8) (x2:Vec 64) (x3:Int) (x4:List UInt8):uM n ((x1,(x2,x3)),x4)=
 (wL n n ((x4,(x1,(x2,x3))))).bind fun (eB:PUnit×(Vec 8)×(Vec 64)×Int)=>
 some ((eB.2.1,(eB.2.2.1,eB.2.2.2))):=by kernel_rfl
noncomputable def BD (n:Nat) (x1:Vec 8) (x2:Vec 64) (x3:Int) (m:Nat) (p:List Int):Option (List Int):=
 cu (R:=R) 3 (aL ((aN Tryz.f160.body [1,1,1,0,0,0]).getD .skip)) (⟨[(1,TV.ref 1 0),(2,TV.ref 2 0),(3,TV.int IntKind.u64 (IntKind.wrap IntKind.u64 ((8:Int)*x3)))],[(1,Ob.ro (Ob.sg [Sg.a IntKind.u32 8 x1,Sg.a IntKind.u8 64 x2,Sg.i IntKind.u64 x3])),(2,Ob.ro (Ob.sg [Sg.a IntKind.u8 32 (Vec.rep 32 (0:Int))]))]⟩:MS R.T) (aP uN.loops 3).sh (aP uN.loops 3).outs (fun st k=>bA E R n false (El n) aG uN ((aN Tryz.f160.body [1,1,1,0,0,0]).getD .skip) st k) m p
noncomputable def y8 (n:Nat) (x1:Vec 8) (x2:Vec 64) (x3:Int) (m:Nat) (p:(List Int)×Int):Option (List Int):=
 cu (R:=R) 6 (aL ((aN Tryz.f160.body [1,1,1,1,0,1,0,0]).getD .skip)) (⟨[(1,TV.ref 1 0),(2,TV.ref 2 0),(3,TV.int IntKind.u64 (IntKind.wrap IntKind.u64 ((8:Int)*x3)))],[(1,Ob.ro (Ob.sg [Sg.a IntKind.u32 8 x1,Sg.a IntKind.u8 64 x2,Sg.i IntKind.u64 x3])),(2,Ob.ro (Ob.sg [Sg.a IntKind.u8 32 (Vec.rep 32 (0:Int))]))]⟩:MS R.T) (aP uN.loops 6).sh (aP uN.loops 6).outs (fun st k=>bA E R n false (El n) aG uN ((aN Tryz.f160.body [1,1,1,1,0,1,0,0]).getD .skip) st k) m p
noncomputable def y9 (n:Nat) (r9:(Vec 8)×(Vec 64)×Int) (m:Nat) (p:Int×Vec 32):Option (PUnit×Vec 32):=
 cu (R:=R) 13 (aL ((aN Tryz.f160.body [1,1,1,1,1,1,1,0,1,0,0]).getD .skip)) (⟨[(1,TV.ref 1 0),(2,TV.ref 2 0),(6,TV.ref 6 0)],[(1,Ob.ro (Ob.sg [Sg.a IntKind.u32 8 r9.1,Sg.a IntKind.u8 64 r9.2.1,Sg.i IntKind.u64 r9.2.2])),(2,Ob.ro (Ob.sg [Sg.a IntKind.u8 32 (Vec.rep 32 (0:Int))]))]⟩:MS R.T) (aP uN.loops 13).sh (aP uN.loops 13).outs (fun st k=>bA E R n false (El n) aG uN ((aN Tryz.f160.body [1,1,1,1,1,1,1,0,1,0,0]).getD .skip) st k) m p
theorem Yi (n:Nat) (x1:Vec 8) (x2:Vec 64) (x3:Int) (m:Nat) (x4:List Int):BD n x1 x2 x3 (m+1) x4=
 bif !((64:Int)==(0:Int)) then
  bif (Int.tmod (IntKind.wrap IntKind.i64 ((IntKind.wrap IntKind.i64 x3)+(((x4.length:Nat):Int)))) (64:Int)) !=(56:Int) then
   bif bC (x4.length+([(0:Int)].length)) 1 then
    BD n x1 x2 x3 m (x4++[(0:Int)])
   else
    none
  else
   some x4
 else
  none:=by kernel_rfl
theorem Yj (n:Nat) (x1:Vec 8) (x2:Vec 64) (x3:Int) (m:Nat) (x6:List Int) (x7:Int):y8 n x1 x2 x3 (m+1) (x6,x7)=
 bif decide (x7< (8:Int)) then
  bif decide ((0:Int)≤(IntKind.wrap IntKind.i64 ((56:Int)-(IntKind.wrap IntKind.i64 ((8:Int)*x7))))) then
   bif bC (x6.length+([IntKind.wrap IntKind.u8 (eP IntKind.u64 (IntKind.wrap IntKind.u64 ((8:Int)*x3)) (IntKind.wrap IntKind.i64 ((56:Int)-(IntKind.wrap IntKind.i64 ((8:Int)*x7)))))].length)) 1 then
    y8 n x1 x2 x3 m ((x6++[IntKind.wrap IntKind.u8 (eP IntKind.u64 (IntKind.wrap IntKind.u64 ((8:Int)*x3)) (IntKind.wrap IntKind.i64 ((56:Int)-(IntKind.wrap IntKind.i64 ((8:Int)*x7)))))],IntKind.wrap IntKind.i64 (x7+(1:Int))))
   else
    none
  else
   none
 else
  some x6:=by kernel_rfl
theorem Yk (n:Nat) (r9:(Vec 8)×(Vec 64)×Int) (m:Nat) (x10:Int) (nL:Vec 32):y9 n r9 (m+1) (x10,nL)=
 bif decide (x10< (32:Int)) then
  bif !((4:Int)==(0:Int)) then
   bif bP (IntKind.wrap IntKind.i64 (Int.tdiv x10 (4:Int))) 8 then
    bif !((4:Int)==(0:Int)) then
     bif decide ((0:Int)≤(IntKind.wrap IntKind.i64 ((24:Int)-(IntKind.wrap IntKind.i64 ((8:Int)*(Int.tmod x10 (4:Int))))))) then
      bif bP x10 32 then
       y9 n r9 m ((IntKind.wrap IntKind.i64 (x10+(1:Int)),nL.set x10 (IntKind.wrap IntKind.u8 (eP IntKind.u32 (r9.1.at' (IntKind.wrap IntKind.i64 (Int.tdiv x10 (4:Int)))) (IntKind.wrap IntKind.i64 ((24:Int)-(IntKind.wrap IntKind.i64 ((8:Int)*(Int.tmod x10 (4:Int))))))))))
      else
       none
     else
      none
    else
     none
   else
    none
  else
   none
 else
  some (((),nL)):=by kernel_rfl
theorem agI (n:Nat) (x1:Vec 8) (x2:Vec 64) (x3:Int):AZ n (x1,(x2,x3))=
 (BD n x1 x2 x3 n [(128:Int)]).bind fun (r5:List Int)=>
 (y8 n x1 x2 x3 n ((r5,(0:Int)))).bind fun (r8:List Int)=>
 (uM n (((x1,(x2,x3)),List.map (fun n:Int=>UInt8.ofNat n.toNat) r8))).bind fun (r9:(Vec 8)×(Vec 64)×Int)=>
 (y9 n r9 n (((0:Int),Vec.rep 32 (0:Int)))).bind fun (gY:PUnit×Vec 32)=>
 some gY.2:=by kernel_rfl
noncomputable def BG (n:Nat) (x2:List (List UInt8)) (m:Nat) (p:Int×(Vec 8)×(Vec 64)×Int):Option (PUnit×(Vec 8)×(Vec 64)×Int):=
 cu (R:=R) 3 (aL ((aN Tryz.f102.body [1,1,0,1,0,0]).getD .skip)) (⟨[(4,TV.ref 4 0),(5,TV.ref 5 0),(15,TV.aj Cp.sh Ty.str x2),(16,TV.int IntKind.i64 (((x2.length:Nat):Int)))],[(4,Ob.ro (Ob.cells [TV.int IntKind.u8 (0:Int),TV.int IntKind.u8 (0:Int),TV.int IntKind.u8 (0:Int),TV.int IntKind.u8 (0:Int),TV.int IntKind.u8 (0:Int),TV.int IntKind.u8 (0:Int),TV.int IntKind.u8 (0:Int),TV.int IntKind.u8 (0:Int),TV.int IntKind.u8 (0:Int),TV.int IntKind.u8 (0:Int),TV.int IntKind.u8 (0:Int),TV.int IntKind.u8 (0:Int),TV.int IntKind.u8 (0:Int),TV.int IntKind.u8 (0:Int),TV.int IntKind.u8 (0:Int),TV.int IntKind.u8 (0:Int)]))]⟩:MS R.T) (aP P6.loops 3).sh (aP P6.loops 3).outs (fun st k=>bA E R n false (P5 n) aG P6 ((aN Tryz.f102.body [1,1,0,1,0,0]).getD .skip) st k) m p
theorem R5 (n:Nat) (x2:List (List UInt8)) (m:Nat) (x5:Int) (x6:Vec 8) (x7:Vec 64) (x8:Int):BG n x2 (m+1) (x5,(x6,(x7,x8)))=
 bif decide (x5< (((x2.length:Nat):Int))) then
  (aK x2 x5).bind fun (r9:List UInt8)=>
  (yI n r9).bind fun (eB:List Int)=>
  (uM n (((x6,(x7,x8)),List.map (fun n:Int=>UInt8.ofNat n.toNat) eB))).bind fun (dR:(Vec 8)×(Vec 64)×Int)=>
  BG n x2 m ((IntKind.wrap IntKind.i64 (x5+(1:Int)),(dR.1,(dR.2.1,dR.2.2))))
 else
  some (((),(x6,(x7,x8)))):=by kernel_rfl
theorem agJ (n:Nat) (x1:Int) (x2:List (List UInt8)):uO n (x1,x2)=
 (Ej n (())).bind fun (r3:(Vec 8)×(Vec 64)×Int)=>
 (uM n (((r3.1,(r3.2.1,r3.2.2)),List.map (fun n:Int=>UInt8.ofNat n.toNat) [IntKind.wrap IntKind.u8 x1]))).bind fun (r4:(Vec 8)×(Vec 64)×Int)=>
 (BG n x2 n (((0:Int),(r4.1,(r4.2.1,r4.2.2))))).bind fun (gY:PUnit×(Vec 8)×(Vec 64)×Int)=>
 (AZ n ((gY.2.1,(gY.2.2.1,gY.2.2.2)))).bind fun (fH:Vec 32)=>
 bif nH 32 none (some (16:Int)) then
  bif decide (0<16∧((16:Nat):Int)≤(16:Int)-(0:Int)) then
   some ((⟨fH.nth 0,fH.nth 1,fH.nth 2,fH.nth 3,fH.nth 4,fH.nth 5,fH.nth 6,fH.nth 7,fH.nth 8,fH.nth 9,fH.nth 10,fH.nth 11,fH.nth 12,fH.nth 13,fH.nth 14,fH.nth 15⟩:au))
  else
   none
 else
  none:=by kernel_rfl
theorem agK (n:Nat) (x1:Entry):A8 n x1=
 (AP n x1).bind fun (r2:List Int)=>
 (uO n (((14:Int),[List.map (fun n:Int=>UInt8.ofNat n.toNat) r2]))).bind fun (r3:au)=>
 some r3:=by kernel_rfl
theorem agL (n:Nat) (x1:Row):uP n x1=
 (A8 n x1.Entry).bind fun (r2:au)=>
 some ((⟨x1.Entry.ID,x1.Entry.bU,x1.Entry.dJ,x1.dF,r2⟩:Gone)):=by kernel_rfl
noncomputable def KE (n:Nat) (x1:Book) (r4:(List Row)×List Row) (m:Nat) (p:(List Gone)×Int):Option (List Gone):=
 cu (R:=R) 6 (aL ((aN Tryz.f16.body [1,1,1,1,0,1,0,0]).getD .skip)) (⟨[(2,TV.ref 2 0),(4,TV.ref 4 0),(8,TV.aj Cp.sh (Ty.st 4) r4.2),(30,TV.aj Cp.sh (Ty.st 4) r4.1),(31,TV.int IntKind.i64 (((r4.1.length:Nat):Int)))],[(2,Ob.ro (Ob.cells [TV.int IntKind.i64 x1.aF.gq,TV.int IntKind.i64 x1.aF.iG,TV.aj Cp.sh (Ty.st 0) x1.aF.Defs,TV.int IntKind.i64 x1.aH,TV.int IntKind.i64 x1.Day,TV.aj Cp.sh (Ty.int IntKind.i64) x1.dn,TV.aj Cp.sh (Ty.st 4) x1.Rows])),(4,Ob.ro (Ob.cells [TV.int IntKind.i64 (0:Int),TV.int IntKind.i64 (0:Int),TV.dK,TV.int IntKind.i64 (0:Int),TV.int IntKind.i64 (0:Int),TV.dK,TV.dK]))]⟩:MS R.T) (aP Qb.loops 6).sh (aP Qb.loops 6).outs (fun st k=>bA E R n false (Qa n) aG Qb ((aN Tryz.f16.body [1,1,1,1,0,1,0,0]).getD .skip) st k) m p
theorem agM (n:Nat) (x1:Book) (r4:(List Row)×List Row) (m:Nat) (x5:List Gone) (x6:Int):KE n x1 r4 (m+1) (x5,x6)=
 bif decide (x6< (((r4.1.length:Nat):Int))) then
  (aK r4.1 x6).bind fun (r7:Row)=>
  (uP n r7).bind fun (r8:Gone)=>
  bif bC (x5.length+([r8].length)) 48 then
   KE n x1 r4 m ((x5++[r8],IntKind.wrap IntKind.i64 (x6+(1:Int))))
  else
   none
 else
  some x5:=by kernel_rfl
theorem agN (n:Nat) (x1:Book) (x2:Int):uQ n (x1,x2)=
 bif bif decide (x2< (0:Int)) then true else decide (x2>x1.aH) then
  some ((x1,([],(9:Int))))
 else
  (yF n ((x1,x2))).bind fun (r3:PUnit×Int×List (Int×Int))=>
  (Ef n ((x1.Rows,((),(r3.2.1,r3.2.2))))).bind fun (r4:(List Row)×List Row)=>
  (KE n x1 r4 n (([],(0:Int)))).bind fun (r9:List Gone)=>
  some (((⟨x1.aF,x1.aH,x1.Day,x1.dn,r4.2⟩:Book),(r9,(0:Int)))):=by kernel_rfl
noncomputable def EX (n:Nat) (x1:Book) (x2:Int) (m:Nat) (p:Int):Option (PUnit⊕Bool):=
 cu (R:=R) 2 (aL ((aN Tryz.f57.body [1,0,1,0,0]).getD .skip)) (⟨[(1,TV.int IntKind.i64 x2),(2,TV.ref 2 0)],[(2,Ob.ro (Ob.cells [TV.int IntKind.i64 x1.aF.gq,TV.int IntKind.i64 x1.aF.iG,TV.aj Cp.sh (Ty.st 0) x1.aF.Defs,TV.int IntKind.i64 x1.aH,TV.int IntKind.i64 x1.Day,TV.aj Cp.sh (Ty.int IntKind.i64) x1.dn,TV.aj Cp.sh (Ty.st 4) x1.Rows]))]⟩:MS R.T) (aP Qe.loops 2).sh (aP Qe.loops 2).outs (fun st k=>bA E R n false (Qd n) aG Qe ((aN Tryz.f57.body [1,0,1,0,0]).getD .skip) st k) m p
theorem agO (n:Nat) (x1:Book) (x2:Int) (m:Nat) (x3:Int):EX n x1 x2 (m+1) x3=
 bif decide (x3< (((x1.Rows.length:Nat):Int))) then
  (aK x1.Rows x3).bind fun (r4:Row)=>
  (aK x1.Rows x2).bind fun (r5:Row)=>
  bif r4.Entry.ID==r5.Entry.ID then
   (aK x1.Rows x3).bind fun (r6:Row)=>
   (aK x1.Rows x2).bind fun (r7:Row)=>
   bif decide (r6.Entry.bU>r7.Entry.bU) then
    some (.inr false)
   else
    EX n x1 x2 m (IntKind.wrap IntKind.i64 (x3+(1:Int)))
  else
   EX n x1 x2 m (IntKind.wrap IntKind.i64 (x3+(1:Int)))
 else
  some (.inl (())):=by kernel_rfl
theorem ash (n:Nat) (x1:Book) (x2:Int):Em n (x1,x2)=
 (EX n x1 x2 n (0:Int)).bind fun (r8:PUnit⊕Bool)=>
 Sum.elim (fun (q9:PUnit)=>
  some true)
  (fun (uX:Bool)=>
   some uX) r8:=by kernel_rfl
theorem Yl (n:Nat) (x1:Book) (x2:Int) (x3:Int):wB n (x1,(x2,x3))=
 bif bif decide (x3< (0:Int)) then true else decide (x3≥(((x1.Rows.length:Nat):Int))) then
  some false
 else
  (aK x1.Rows x3).bind fun (r4:Row)=>
  (jc (decide (r4.dF≥(1:Int))) (aK x1.Rows x3) ((⟨(⟨(0:Int),(0:Int),(0:Int),(0:Int),(0:Int),(0:Int),(0:Int),[],[]⟩:Entry),(0:Int)⟩:Row))).bind fun (r5:Row)=>
  (jc (bif decide (r4.dF≥(1:Int)) then decide (r5.dF≤x2) else false) (Em n ((x1,x3))) false).bind fun (r6:Bool)=>
  some (bif bif decide (r4.dF≥(1:Int)) then decide (r5.dF≤x2) else false then !r6 else false):=by kernel_rfl
noncomputable def za (n:Nat) (m:Nat) (p:Int×List Int):Option (Int×List Int):=
 cu (R:=R) 5 (aL ((aN Tryz.f106.body [1,1,1,1,0,0,0]).getD .skip)) (⟨[],[]⟩:MS R.T) (aP Qi.loops 5).sh (aP Qi.loops 5).outs (fun st k=>bA E R n false (Qh n) aG Qi ((aN Tryz.f106.body [1,1,1,1,0,0,0]).getD .skip) st k) m p
theorem Ym (n:Nat) (m:Nat) (x2:Int) (x3:List Int):za n (m+1) (x2,x3)=
 bif decide (x2≥(128:Int)) then
  bif !((128:Int)==(0:Int)) then
   bif bC (x3.length+([IntKind.wrap IntKind.u8 ((IntKind.wrap IntKind.u8 (Int.tmod x2 (128:Int)))+(128:Int))].length)) 1 then
    bif !((128:Int)==(0:Int)) then
     za n m ((IntKind.wrap IntKind.u64 (Int.tdiv x2 (128:Int)),x3++[IntKind.wrap IntKind.u8 ((IntKind.wrap IntKind.u8 (Int.tmod x2 (128:Int)))+(128:Int))]))
    else
     none
   else
    none
  else
   none
 else
  some ((x2,x3)):=by kernel_rfl
theorem agP (n:Nat) (x1:Int):tu n x1=
 bif decide (x1< (0:Int)) then
  (za n n ((IntKind.wrap IntKind.u64 ((IntKind.wrap IntKind.u64 ((IntKind.wrap IntKind.u64 (IntKind.wrap IntKind.i64 ((-1:Int)-x1)))*(2:Int)))+(1:Int)),[]))).bind fun (r4:Int×List Int)=>
  bif bC (r4.2.length+([IntKind.wrap IntKind.u8 r4.1].length)) 1 then
   some (r4.2++[IntKind.wrap IntKind.u8 r4.1])
  else
   none
 else
  (za n n ((IntKind.wrap IntKind.u64 ((IntKind.wrap IntKind.u64 x1)*(2:Int)),[]))).bind fun (r5:Int×List Int)=>
  bif bC (r5.2.length+([IntKind.wrap IntKind.u8 r5.1].length)) 1 then
   some (r5.2++[IntKind.wrap IntKind.u8 r5.1])
  else
   none:=by kernel_rfl
noncomputable def EY (n:Nat) (x1:List Int) (m:Nat) (p:(List Int)×Int):Option (List Int):=
 cu (R:=R) 3 (aL ((aN Tryz.f61.body [1,1,0,1,0,0]).getD .skip)) (⟨[(0,TV.aj Cp.sh (Ty.int IntKind.i64) x1)],[]⟩:MS R.T) (aP Qk.loops 3).sh (aP Qk.loops 3).outs (fun st k=>bA E R n false (Qj n) aG Qk ((aN Tryz.f61.body [1,1,0,1,0,0]).getD .skip) st k) m p
theorem R6 (n:Nat) (x1:List Int) (m:Nat) (x3:List Int) (x4:Int):EY n x1 (m+1) (x3,x4)=
 bif decide (x4< (((x1.length:Nat):Int))) then
  (aK x1 x4).bind fun (r5:Int)=>
  (tu n r5).bind fun (r6:List Int)=>
  bif bC (x3.length+r6.length) 1 then
   EY n x1 m ((x3++r6,IntKind.wrap IntKind.i64 (x4+(1:Int))))
  else
   none
 else
  some x3:=by kernel_rfl
theorem agQ (n:Nat) (x1:List Int):yJ n x1=
 (tu n (((x1.length:Nat):Int))).bind fun (r2:List Int)=>
 (EY n x1 n ((r2,(0:Int)))).bind fun (r7:List Int)=>
 some r7:=by kernel_rfl
theorem agR (n:Nat) (x1:List UInt8):yK n x1=
 (tu n (((x1.length:Nat):Int))).bind fun (r2:List Int)=>
 bif bC (r2.length+((List.map (fun b:UInt8=>((b.toNat:Nat):Int)) x1).length)) 1 then
  some (r2++(List.map (fun b:UInt8=>((b.toNat:Nat):Int)) x1))
 else
  none:=by kernel_rfl
noncomputable def EZ (n:Nat) (x1:List (List UInt8)) (m:Nat) (p:(List Int)×Int):Option (List Int):=
 cu (R:=R) 3 (aL ((aN Tryz.f129.body [1,1,0,1,0,0]).getD .skip)) (⟨[(0,TV.aj Cp.sh Ty.str x1)],[]⟩:MS R.T) (aP Qo.loops 3).sh (aP Qo.loops 3).outs (fun st k=>bA E R n false (Qn n) aG Qo ((aN Tryz.f129.body [1,1,0,1,0,0]).getD .skip) st k) m p
theorem R7 (n:Nat) (x1:List (List UInt8)) (m:Nat) (x3:List Int) (x4:Int):EZ n x1 (m+1) (x3,x4)=
 bif decide (x4< (((x1.length:Nat):Int))) then
  (aK x1 x4).bind fun (r5:List UInt8)=>
  (yK n r5).bind fun (r6:List Int)=>
  bif bC (x3.length+r6.length) 1 then
   EZ n x1 m ((x3++r6,IntKind.wrap IntKind.i64 (x4+(1:Int))))
  else
   none
 else
  some x3:=by kernel_rfl
theorem agS (n:Nat) (x1:List (List UInt8)):A9 n x1=
 (tu n (((x1.length:Nat):Int))).bind fun (r2:List Int)=>
 (EZ n x1 n ((r2,(0:Int)))).bind fun (r7:List Int)=>
 some r7:=by kernel_rfl
noncomputable def E5 (n:Nat) (x1:Entry) (m:Nat) (p:(List Int)×(List (List UInt8))×Int):Option ((List Int)×List (List UInt8)):=
 cu (R:=R) 6 (aL ((aN Tryz.f74.body [1,1,1,1,1,0,1,0,0]).getD .skip)) (⟨[(1,TV.ref 1 0)],[(1,Ob.ro (Ob.cells [TV.int IntKind.i64 x1.ID,TV.int IntKind.i64 x1.bU,TV.int IntKind.i64 x1.dY,TV.int IntKind.i64 x1.fQ,TV.int IntKind.i64 x1.From,TV.int IntKind.i64 x1.To,TV.int IntKind.i64 x1.dJ,TV.aj Cp.sh (Ty.int IntKind.i64) x1.Vec,TV.aj Cp.sh (Ty.st 2) x1.aI]))]⟩:MS R.T) (aP Qr.loops 6).sh (aP Qr.loops 6).outs (fun st k=>bA E R n false (Qq n) aG Qr ((aN Tryz.f74.body [1,1,1,1,1,0,1,0,0]).getD .skip) st k) m p
theorem R8 (n:Nat) (x1:Entry) (m:Nat) (x2:List Int) (x3:List (List UInt8)) (x4:Int):E5 n x1 (m+1) (x2,(x3,x4))=
 bif decide (x4< (((x1.aI.length:Nat):Int))) then
  (aK x1.aI x4).bind fun (r5:Attr)=>
  (aK x1.aI x4).bind fun (r6:Attr)=>
  bif bC (x2.length+([r5.Kind,r6.N].length)) 8 then
   (aK x1.aI x4).bind fun (r7:Attr)=>
   (aK x1.aI x4).bind fun (r8:Attr)=>
   bif bC (x3.length+([r7.Name,r8.S].length)) 16 then
    E5 n x1 m ((x2++[r5.Kind,r6.N],(x3++[r7.Name,r8.S],IntKind.wrap IntKind.i64 (x4+(1:Int)))))
   else
    none
  else
   none
 else
  some ((x2,x3)):=by kernel_rfl
theorem agT (n:Nat) (x1:Entry):wC n x1=
 bif bC (([x1.ID,x1.bU,x1.dY,x1.fQ,x1.From,x1.To,x1.dJ,((x1.Vec.length:Nat):Int)].length)+x1.Vec.length) 8 then
  bif bC ((([x1.ID,x1.bU,x1.dY,x1.fQ,x1.From,x1.To,x1.dJ,((x1.Vec.length:Nat):Int)]++x1.Vec).length)+([((x1.aI.length:Nat):Int)].length)) 8 then
   (E5 n x1 n ((([x1.ID,x1.bU,x1.dY,x1.fQ,x1.From,x1.To,x1.dJ,((x1.Vec.length:Nat):Int)]++x1.Vec)++[((x1.aI.length:Nat):Int)],([],(0:Int))))).bind fun (r9:(List Int)×List (List UInt8))=>
   (yJ n r9.1).bind fun (eB:List Int)=>
   bif bC (((0:Nat))+eB.length) 1 then
    (A9 n r9.2).bind fun (dR:List Int)=>
    bif bC ((([]++eB).length)+dR.length) 1 then
     some (([]++eB)++dR)
    else
     none
   else
    none
  else
   none
 else
  none:=by kernel_rfl
noncomputable def KF (n:Nat) (x2:List (List UInt8)) (m:Nat) (p:(List Int)×Int):Option (List Int):=
 cu (R:=R) 3 (aL ((aN Tryz.f108.body [1,1,0,1,0,0]).getD .skip)) (⟨[(1,TV.aj Cp.sh Ty.str x2)],[]⟩:MS R.T) (aP Qu.loops 3).sh (aP Qu.loops 3).outs (fun st k=>bA E R n false (Qt n) aG Qu ((aN Tryz.f108.body [1,1,0,1,0,0]).getD .skip) st k) m p
theorem agU (n:Nat) (x2:List (List UInt8)) (m:Nat) (x3:List Int) (x4:Int):KF n x2 (m+1) (x3,x4)=
 bif decide (x4< (((x2.length:Nat):Int))) then
  (aK x2 x4).bind fun (r5:List UInt8)=>
  (yK n r5).bind fun (r6:List Int)=>
  bif bC (x3.length+r6.length) 1 then
   KF n x2 m ((x3++r6,IntKind.wrap IntKind.i64 (x4+(1:Int))))
  else
   none
 else
  some x3:=by kernel_rfl
theorem asi (n:Nat) (x1:Int) (x2:List (List UInt8)):Eo n (x1,x2)=
 (KF n x2 n (([IntKind.wrap IntKind.u8 x1],(0:Int)))).bind fun (r7:List Int)=>
 some r7:=by kernel_rfl
noncomputable def KG (n:Nat) (x1:List Int) (m:Nat) (p:List Int):Option (List Int):=
 cu (R:=R) 3 (aL ((aN Tryz.f202.body [1,1,1,0,0,0]).getD .skip)) (⟨[(0,TV.aj Cp.sh (Ty.int IntKind.u8) x1)],[]⟩:MS R.T) (aP Ba.loops 3).sh (aP Ba.loops 3).outs (fun st k=>bA E R n false (JD n) aG Ba ((aN Tryz.f202.body [1,1,1,0,0,0]).getD .skip) st k) m p
noncomputable def E8 (n:Nat) (x1:List Int) (m:Nat) (p:(List Int)×Int):Option (List Int):=
 cu (R:=R) 7 (aL ((aN Tryz.f202.body [1,1,1,1,1,0,1,0,0]).getD .skip)) (⟨[(4,TV.int IntKind.u64 (IntKind.wrap IntKind.u64 ((8:Int)*(IntKind.wrap IntKind.u64 (((x1.length:Nat):Int))))))],[]⟩:MS R.T) (aP Ba.loops 7).sh (aP Ba.loops 7).outs (fun st k=>bA E R n false (JD n) aG Ba ((aN Tryz.f202.body [1,1,1,1,1,0,1,0,0]).getD .skip) st k) m p
theorem agV (n:Nat) (x1:List Int) (m:Nat) (x2:List Int):KG n x1 (m+1) x2=
 bif !((64:Int)==(0:Int)) then
  bif (Int.tmod (((x2.length:Nat):Int)) (64:Int)) !=(56:Int) then
   bif bC (x2.length+([(0:Int)].length)) 1 then
    KG n x1 m (x2++[(0:Int)])
   else
    none
  else
   some x2
 else
  none:=by kernel_rfl
theorem agW (n:Nat) (x1:List Int) (m:Nat) (x4:List Int) (x5:Int):E8 n x1 (m+1) (x4,x5)=
 bif decide (x5< (8:Int)) then
  bif decide ((0:Int)≤(IntKind.wrap IntKind.i64 ((56:Int)-(IntKind.wrap IntKind.i64 ((8:Int)*x5))))) then
   bif bC (x4.length+([IntKind.wrap IntKind.u8 (eP IntKind.u64 (IntKind.wrap IntKind.u64 ((8:Int)*(IntKind.wrap IntKind.u64 (((x1.length:Nat):Int))))) (IntKind.wrap IntKind.i64 ((56:Int)-(IntKind.wrap IntKind.i64 ((8:Int)*x5)))))].length)) 1 then
    E8 n x1 m ((x4++[IntKind.wrap IntKind.u8 (eP IntKind.u64 (IntKind.wrap IntKind.u64 ((8:Int)*(IntKind.wrap IntKind.u64 (((x1.length:Nat):Int))))) (IntKind.wrap IntKind.i64 ((56:Int)-(IntKind.wrap IntKind.i64 ((8:Int)*x5)))))],IntKind.wrap IntKind.i64 (x5+(1:Int))))
   else
    none
  else
   none
 else
  some x4:=by kernel_rfl
theorem asj (n:Nat) (x1:List Int):Ep n x1=
 bif bC (((0:Nat))+x1.length) 1 then
  bif bC ((([]++x1).length)+([(128:Int)].length)) 1 then
   (KG n x1 n (([]++x1)++[(128:Int)])).bind fun (r3:List Int)=>
   (E8 n x1 n ((r3,(0:Int)))).bind fun (r6:List Int)=>
   some r6
  else
   none
 else
  none:=by kernel_rfl
theorem asl (n:Nat) (x1:Int) (x2:Int):oD n (x1,x2)=
 bif decide ((0:Int)≤x2) then
  bif decide ((0:Int)≤(IntKind.wrap IntKind.i64 ((32:Int)-x2))) then
   some (jE IntKind.u32 (eP IntKind.u32 x1 x2) (j5 IntKind.u32 x1 (IntKind.wrap IntKind.i64 ((32:Int)-x2))))
  else
   none
 else
  none:=by kernel_rfl
noncomputable def KH (n:Nat) (x1:List Int) (m:Nat) (p:Int×Vec 64):Option (PUnit×Vec 64):=
 cu (R:=R) 3 (aL ((aN Tryz.f203.body [1,1,0,1,0,0]).getD .skip)) (⟨[(0,TV.aj Cp.sh (Ty.int IntKind.u8) x1),(2,TV.ref 2 0),(3,TV.ref 3 0)],[(2,Ob.ro (Ob.sg [Sg.a IntKind.u32 64 (Vec.rep 64 (0:Int))]))]⟩:MS R.T) (aP Bb.loops 3).sh (aP Bb.loops 3).outs (fun st k=>bA E R n false (JG n) aG Bb ((aN Tryz.f203.body [1,1,0,1,0,0]).getD .skip) st k) m p
noncomputable def E9 (n:Nat) (m:Nat) (p:Int×Vec 64):Option (PUnit×Vec 64):=
 cu (R:=R) 7 (aL ((aN Tryz.f203.body [1,1,1,0,1,0,0]).getD .skip)) (⟨[(2,TV.ref 2 0),(3,TV.ref 3 0)],[(2,Ob.ro (Ob.sg [Sg.a IntKind.u32 64 (Vec.rep 64 (0:Int))]))]⟩:MS R.T) (aP Bb.loops 7).sh (aP Bb.loops 7).outs (fun st k=>bA E R n false (JG n) aG Bb ((aN Tryz.f203.body [1,1,1,0,1,0,0]).getD .skip) st k) m p
theorem agX (n:Nat) (x1:List Int) (m:Nat) (x2:Int) (x3:Vec 64):KH n x1 (m+1) (x2,x3)=
 bif decide (x2< (16:Int)) then
  (aK x1 (IntKind.wrap IntKind.i64 ((4:Int)*x2))).bind fun (r4:Int)=>
  bif decide ((0:Int)≤(24:Int)) then
   (aK x1 (IntKind.wrap IntKind.i64 ((IntKind.wrap IntKind.i64 ((4:Int)*x2))+(1:Int)))).bind fun (r5:Int)=>
   bif decide ((0:Int)≤(16:Int)) then
    (aK x1 (IntKind.wrap IntKind.i64 ((IntKind.wrap IntKind.i64 ((4:Int)*x2))+(2:Int)))).bind fun (r6:Int)=>
    bif decide ((0:Int)≤(8:Int)) then
     (aK x1 (IntKind.wrap IntKind.i64 ((IntKind.wrap IntKind.i64 ((4:Int)*x2))+(3:Int)))).bind fun (r7:Int)=>
     bif bP x2 64 then
      KH n x1 m ((IntKind.wrap IntKind.i64 (x2+(1:Int)),x3.set x2 (jE IntKind.u32 (jE IntKind.u32 (jE IntKind.u32 (j5 IntKind.u32 (IntKind.wrap IntKind.u32 r4) (24:Int)) (j5 IntKind.u32 (IntKind.wrap IntKind.u32 r5) (16:Int))) (j5 IntKind.u32 (IntKind.wrap IntKind.u32 r6) (8:Int))) (IntKind.wrap IntKind.u32 r7))))
     else
      none
    else
     none
   else
    none
  else
   none
 else
  some (((),x3)):=by kernel_rfl
theorem agY (n:Nat) (m:Nat) (x9:Int) (x10:Vec 64):E9 n (m+1) (x9,x10)=
 bif decide (x9< (64:Int)) then
  bif bP (IntKind.wrap IntKind.i64 (x9-(15:Int))) 64 then
   (oD n ((x10.at' (IntKind.wrap IntKind.i64 (x9-(15:Int))),(7:Int)))).bind fun (dR:Int)=>
   bif bP (IntKind.wrap IntKind.i64 (x9-(15:Int))) 64 then
    (oD n ((x10.at' (IntKind.wrap IntKind.i64 (x9-(15:Int))),(18:Int)))).bind fun (gY:Int)=>
    bif bP (IntKind.wrap IntKind.i64 (x9-(15:Int))) 64 then
     bif decide ((0:Int)≤(3:Int)) then
      bif bP (IntKind.wrap IntKind.i64 (x9-(2:Int))) 64 then
       (oD n ((x10.at' (IntKind.wrap IntKind.i64 (x9-(2:Int))),(17:Int)))).bind fun (fH:Int)=>
       bif bP (IntKind.wrap IntKind.i64 (x9-(2:Int))) 64 then
        (oD n ((x10.at' (IntKind.wrap IntKind.i64 (x9-(2:Int))),(19:Int)))).bind fun (dL:Int)=>
        bif bP (IntKind.wrap IntKind.i64 (x9-(2:Int))) 64 then
         bif decide ((0:Int)≤(10:Int)) then
          bif bP (IntKind.wrap IntKind.i64 (x9-(16:Int))) 64 then
           bif bP (IntKind.wrap IntKind.i64 (x9-(7:Int))) 64 then
            bif bP x9 64 then
             E9 n m ((IntKind.wrap IntKind.i64 (x9+(1:Int)),x10.set x9 (IntKind.wrap IntKind.u32 ((IntKind.wrap IntKind.u32 ((IntKind.wrap IntKind.u32 ((x10.at' (IntKind.wrap IntKind.i64 (x9-(16:Int))))+(dz IntKind.u32 (dz IntKind.u32 dR gY) (eP IntKind.u32 (x10.at' (IntKind.wrap IntKind.i64 (x9-(15:Int)))) (3:Int)))))+(x10.at' (IntKind.wrap IntKind.i64 (x9-(7:Int))))))+(dz IntKind.u32 (dz IntKind.u32 fH dL) (eP IntKind.u32 (x10.at' (IntKind.wrap IntKind.i64 (x9-(2:Int)))) (10:Int)))))))
            else
             none
           else
            none
          else
           none
         else
          none
        else
         none
       else
        none
      else
       none
     else
      none
    else
     none
   else
    none
  else
   none
 else
  some (((),x10)):=by kernel_rfl
theorem asn (n:Nat) (x1:List Int):Er n x1=
 (KH n x1 n (((0:Int),Vec.rep 64 (0:Int)))).bind fun (r8:PUnit×Vec 64)=>
 (E9 n n (((16:Int),r8.2))).bind fun (iU:PUnit×Vec 64)=>
 some iU.2:=by kernel_rfl
noncomputable def Fa (n:Nat) (r2:List Int) (x3:Int) (x4:Vec 8) (r5:Vec 64) (m:Nat) (p:Int×Vec 8):Option (PUnit×Vec 8):=
 cu (R:=R) 9 (aL ((aN Tryz.f164.body [1,1,1,0,1,0,0,1,0,0,1,1,0,1,0,0]).getD .skip)) (⟨[(2,TV.ref 2 0),(3,TV.ref 3 0),(4,TV.aj Cp.sh (Ty.int IntKind.u8) r2),(5,TV.int IntKind.i64 x3),(6,TV.ref 6 0),(7,TV.ref 7 0)],[(2,Ob.ro (Ob.ro (Ob.sg [Sg.a IntKind.u8 32 (Vec.rep 32 (0:Int))]))),(3,Ob.ro (Ob.sg [Sg.a IntKind.u32 8 x4])),(6,Ob.ro (Ob.sg [Sg.a IntKind.u32 64 r5]))]⟩:MS R.T) (aP qA.loops 9).sh (aP qA.loops 9).outs (fun st k=>bA E R n false (Bc n) aG qA ((aN Tryz.f164.body [1,1,1,0,1,0,0,1,0,0,1,1,0,1,0,0]).getD .skip) st k) m p
noncomputable def Fb (n:Nat) (r2:List Int) (x3:Int) (dL:PUnit×Vec 8) (m:Nat) (p:Int×Vec 8):Option (PUnit×Vec 8):=
 cu (R:=R) 15 (aL ((aN Tryz.f164.body [1,1,1,0,1,0,0,1,0,0,1,1,1,1,0,0]).getD .skip)) (⟨[(2,TV.ref 2 0),(3,TV.ref 3 0),(4,TV.aj Cp.sh (Ty.int IntKind.u8) r2),(5,TV.int IntKind.i64 x3),(7,TV.ref 7 0)],[(2,Ob.ro (Ob.ro (Ob.sg [Sg.a IntKind.u8 32 (Vec.rep 32 (0:Int))]))),(7,Ob.ro (Ob.sg [Sg.a IntKind.u32 8 dL.2]))]⟩:MS R.T) (aP qA.loops 15).sh (aP qA.loops 15).outs (fun st k=>bA E R n false (Bc n) aG qA ((aN Tryz.f164.body [1,1,1,0,1,0,0,1,0,0,1,1,1,1,0,0]).getD .skip) st k) m p
noncomputable def Fe (n:Nat) (r2:List Int) (m:Nat) (p:Int×Vec 8):Option (PUnit×Vec 8):=
 cu (R:=R) 4 (aL ((aN Tryz.f164.body [1,1,1,0,1,0,0]).getD .skip)) (⟨[(2,TV.ref 2 0),(3,TV.ref 3 0),(4,TV.aj Cp.sh (Ty.int IntKind.u8) r2)],[(2,Ob.ro (Ob.sg [Sg.a IntKind.u8 32 (Vec.rep 32 (0:Int))]))]⟩:MS R.T) (aP qA.loops 4).sh (aP qA.loops 4).outs (fun st k=>bA E R n false (Bc n) aG qA ((aN Tryz.f164.body [1,1,1,0,1,0,0]).getD .skip) st k) m p
noncomputable def Fg (n:Nat) (fC:PUnit×Vec 8) (m:Nat) (p:Int×Vec 32):Option (PUnit×Vec 32):=
 cu (R:=R) 20 (aL ((aN Tryz.f164.body [1,1,1,1,1,0,1,0,0]).getD .skip)) (⟨[(2,TV.ref 2 0),(3,TV.ref 3 0),(12,TV.ref 12 0)],[(2,Ob.ro (Ob.sg [Sg.a IntKind.u8 32 (Vec.rep 32 (0:Int))])),(3,Ob.ro (Ob.sg [Sg.a IntKind.u32 8 fC.2]))]⟩:MS R.T) (aP qA.loops 20).sh (aP qA.loops 20).outs (fun st k=>bA E R n false (Bc n) aG qA ((aN Tryz.f164.body [1,1,1,1,1,0,1,0,0]).getD .skip) st k) m p
theorem agZ (n:Nat) (r2:List Int) (x3:Int) (x4:Vec 8) (r5:Vec 64) (m:Nat) (x6:Int) (x7:Vec 8):Fa n r2 x3 x4 r5 (m+1) (x6,x7)=
 bif decide (x6< (64:Int)) then
  bif bP (7:Int) 8 then
   bif bP (4:Int) 8 then
    (oD n ((x7.at' (4:Int),(6:Int)))).bind fun (r8:Int)=>
    bif bP (4:Int) 8 then
     (oD n ((x7.at' (4:Int),(11:Int)))).bind fun (r9:Int)=>
     bif bP (4:Int) 8 then
      (oD n ((x7.at' (4:Int),(25:Int)))).bind fun (eB:Int)=>
      bif bP (4:Int) 8 then
       bif bP (5:Int) 8 then
        bif bP (4:Int) 8 then
         bif bP (6:Int) 8 then
          bif bP x6 64 then
           bif bP x6 64 then
            bif bP (0:Int) 8 then
             (oD n ((x7.at' (0:Int),(2:Int)))).bind fun (dR:Int)=>
             bif bP (0:Int) 8 then
              (oD n ((x7.at' (0:Int),(13:Int)))).bind fun (gY:Int)=>
              bif bP (0:Int) 8 then
               (oD n ((x7.at' (0:Int),(22:Int)))).bind fun (fH:Int)=>
               bif bP (0:Int) 8 then
                bif bP (1:Int) 8 then
                 bif bP (0:Int) 8 then
                  bif bP (2:Int) 8 then
                   bif bP (1:Int) 8 then
                    bif bP (2:Int) 8 then
                     bif bP (0:Int) 8 then
                      bif bP (1:Int) 8 then
                       bif bP (2:Int) 8 then
                        bif bP (3:Int) 8 then
                         bif bP (4:Int) 8 then
                          bif bP (5:Int) 8 then
                           bif bP (6:Int) 8 then
                            Fa n r2 x3 x4 r5 m ((IntKind.wrap IntKind.i64 (x6+(1:Int)),Vec.lit 8 [IntKind.wrap IntKind.u32 ((IntKind.wrap IntKind.u32 ((IntKind.wrap IntKind.u32 ((IntKind.wrap IntKind.u32 ((IntKind.wrap IntKind.u32 ((x7.at' (7:Int))+(dz IntKind.u32 (dz IntKind.u32 r8 r9) eB)))+(dz IntKind.u32 (gX IntKind.u32 (x7.at' (4:Int)) (x7.at' (5:Int))) (gX IntKind.u32 (dz IntKind.u32 (x7.at' (4:Int)) (4294967295:Int)) (x7.at' (6:Int))))))+(uK.at' x6)))+(r5.at' x6)))+(IntKind.wrap IntKind.u32 ((dz IntKind.u32 (dz IntKind.u32 dR gY) fH)+(dz IntKind.u32 (dz IntKind.u32 (gX IntKind.u32 (x7.at' (0:Int)) (x7.at' (1:Int))) (gX IntKind.u32 (x7.at' (0:Int)) (x7.at' (2:Int)))) (gX IntKind.u32 (x7.at' (1:Int)) (x7.at' (2:Int))))))),x7.at' (0:Int),x7.at' (1:Int),x7.at' (2:Int),IntKind.wrap IntKind.u32 ((x7.at' (3:Int))+(IntKind.wrap IntKind.u32 ((IntKind.wrap IntKind.u32 ((IntKind.wrap IntKind.u32 ((IntKind.wrap IntKind.u32 ((x7.at' (7:Int))+(dz IntKind.u32 (dz IntKind.u32 r8 r9) eB)))+(dz IntKind.u32 (gX IntKind.u32 (x7.at' (4:Int)) (x7.at' (5:Int))) (gX IntKind.u32 (dz IntKind.u32 (x7.at' (4:Int)) (4294967295:Int)) (x7.at' (6:Int))))))+(uK.at' x6)))+(r5.at' x6)))),x7.at' (4:Int),x7.at' (5:Int),x7.at' (6:Int)]))
                           else
                            none
                          else
                           none
                         else
                          none
                        else
                         none
                       else
                        none
                      else
                       none
                     else
                      none
                    else
                     none
                   else
                    none
                  else
                   none
                 else
                  none
                else
                 none
               else
                none
              else
               none
             else
              none
            else
             none
           else
            none
          else
           none
         else
          none
        else
         none
       else
        none
      else
       none
     else
      none
    else
     none
   else
    none
  else
   none
 else
  some (((),x7)):=by kernel_rfl
theorem ag0 (n:Nat) (r2:List Int) (x3:Int) (dL:PUnit×Vec 8) (m:Nat) (pF:Int) (uZ:Vec 8):Fb n r2 x3 dL (m+1) (pF,uZ)=
 bif decide (pF< (8:Int)) then
  bif bP pF 8 then
   bif bP pF 8 then
    bif bP pF 8 then
     Fb n r2 x3 dL m ((IntKind.wrap IntKind.i64 (pF+(1:Int)),uZ.set pF (IntKind.wrap IntKind.u32 ((uZ.at' pF)+(dL.2.at' pF)))))
    else
     none
   else
    none
  else
   none
 else
  some (((),uZ)):=by kernel_rfl
theorem ag1 (n:Nat) (r2:List Int) (m:Nat) (x3:Int) (x4:Vec 8):Fe n r2 (m+1) (x3,x4)=
 bif decide (x3< (((r2.length:Nat):Int))) then
  bif (gW (IntKind.wrap IntKind.i64 (x3+(64:Int))) r2.length)&& (gW x3 (Int.toNat (IntKind.wrap IntKind.i64 (x3+(64:Int))))) then
   (Er n (List.drop (Int.toNat x3) (List.take (Int.toNat (IntKind.wrap IntKind.i64 (x3+(64:Int)))) r2))).bind fun (r5:Vec 64)=>
   (Fa n r2 x3 x4 r5 n (((0:Int),x4))).bind fun (dL:PUnit×Vec 8)=>
   (Fb n r2 x3 dL n (((0:Int),x4))).bind fun (kR:PUnit×Vec 8)=>
   Fe n r2 m ((IntKind.wrap IntKind.i64 (x3+(64:Int)),kR.2))
  else
   none
 else
  some (((),x4)):=by kernel_rfl
theorem ag2 (n:Nat) (fC:PUnit×Vec 8) (m:Nat) (wM:Int) (x20:Vec 32):Fg n fC (m+1) (wM,x20)=
 bif decide (wM< (32:Int)) then
  bif !((4:Int)==(0:Int)) then
   bif bP (IntKind.wrap IntKind.i64 (Int.tdiv wM (4:Int))) 8 then
    bif !((4:Int)==(0:Int)) then
     bif decide ((0:Int)≤(IntKind.wrap IntKind.i64 ((24:Int)-(IntKind.wrap IntKind.i64 ((8:Int)*(Int.tmod wM (4:Int))))))) then
      bif bP wM 32 then
       Fg n fC m ((IntKind.wrap IntKind.i64 (wM+(1:Int)),x20.set wM (IntKind.wrap IntKind.u8 (eP IntKind.u32 (fC.2.at' (IntKind.wrap IntKind.i64 (Int.tdiv wM (4:Int)))) (IntKind.wrap IntKind.i64 ((24:Int)-(IntKind.wrap IntKind.i64 ((8:Int)*(Int.tmod wM (4:Int))))))))))
      else
       none
     else
      none
    else
     none
   else
    none
  else
   none
 else
  some (((),x20)):=by kernel_rfl
theorem aso (n:Nat) (x1:List Int):Es n x1=
 (Ep n x1).bind fun (r2:List Int)=>
 (Fe n r2 n (((0:Int),Vec.lit 8 [(1779033703:Int),(3144134277:Int),(1013904242:Int),(2773480762:Int),(1359893119:Int),(2600822924:Int),(528734635:Int),(1541459225:Int)]))).bind fun (fC:PUnit×Vec 8)=>
 (Fg n fC n (((0:Int),Vec.rep 32 (0:Int)))).bind fun (gy:PUnit×Vec 32)=>
 some gy.2:=by kernel_rfl
theorem asq (n:Nat) (x1:Int) (x2:List (List UInt8)):wD n (x1,x2)=
 (Eo n ((x1,x2))).bind fun (r3:List Int)=>
 (Et n r3).bind fun (r4:au)=>
 some r4:=by kernel_rfl
theorem asr (n:Nat) (x1:Entry):Eu n x1=
 (wC n x1).bind fun (r2:List Int)=>
 (wD n (((14:Int),[List.map (fun n:Int=>UInt8.ofNat n.toNat) r2]))).bind fun (r3:au)=>
 some r3:=by kernel_rfl
theorem asu (n:Nat) (x1:Row):Bd n x1=
 (Eu n x1.Entry).bind fun (r2:au)=>
 some ((⟨x1.Entry.ID,x1.Entry.bU,x1.Entry.dJ,x1.dF,r2⟩:Gone)):=by kernel_rfl
noncomputable def Fh (n:Nat) (x1:Book) (x2:Int) (m:Nat) (p:Int×Int×Int×(List Def)×Int×Int×(List Int)×(List Row)×(List Gone)×Int):Option (PUnit×Int×Int×(List Def)×Int×Int×(List Int)×(List Row)×(List Gone)×Int):=
 cu (R:=R) 5 (aL ((aN Tryz.f19.body [1,1,1,0,1,0,0]).getD .skip)) (⟨[(1,TV.int IntKind.i64 x2),(2,TV.ref 2 0),(4,TV.ref 4 0),(5,TV.ref 5 0)],[(2,Ob.ro (Ob.cells [TV.int IntKind.i64 x1.aF.gq,TV.int IntKind.i64 x1.aF.iG,TV.aj Cp.sh (Ty.st 0) x1.aF.Defs,TV.int IntKind.i64 x1.aH,TV.int IntKind.i64 x1.Day,TV.aj Cp.sh (Ty.int IntKind.i64) x1.dn,TV.aj Cp.sh (Ty.st 4) x1.Rows])),(4,Ob.ro (Ob.cells [TV.int IntKind.i64 (0:Int),TV.int IntKind.i64 (0:Int),TV.dK,TV.int IntKind.i64 (0:Int),TV.int IntKind.i64 (0:Int),TV.dK,TV.dK,TV.dK,TV.int IntKind.i64 (0:Int)]))]⟩:MS R.T) (aP QF.loops 5).sh (aP QF.loops 5).outs (fun st k=>bA E R n false (QE n) aG QF ((aN Tryz.f19.body [1,1,1,0,1,0,0]).getD .skip) st k) m p
theorem ag3 (n:Nat) (x1:Book) (x2:Int) (m:Nat) (x3:Int) (x4:Int) (x5:Int) (x6:List Def) (x7:Int) (x8:Int) (x9:List Int) (x10:List Row) (nL:List Gone) (R9:Int):Fh n x1 x2 (m+1) (x3,(x4,(x5,(x6,(x7,(x8,(x9,(x10,(nL,R9)))))))))=
 bif decide (x3< (((x1.Rows.length:Nat):Int))) then
  (wB n ((x1,(x2,x3)))).bind fun (fH:Bool)=>
  bif fH then
   (aK x1.Rows x3).bind fun (dL:Row)=>
   (Bd n dL).bind fun (iU:Gone)=>
   bif bC (nL.length+([iU].length)) 48 then
    Fh n x1 x2 m ((IntKind.wrap IntKind.i64 (x3+(1:Int)),(x4,(x5,(x6,(x7,(x8,(x9,(x10,(nL++[iU],R9))))))))))
   else
    none
  else
   (aK x1.Rows x3).bind fun (r16:Row)=>
   bif bC (x10.length+([r16].length)) 112 then
    Fh n x1 x2 m ((IntKind.wrap IntKind.i64 (x3+(1:Int)),(x4,(x5,(x6,(x7,(x8,(x9,(x10++[r16],(nL,R9))))))))))
   else
    none
 else
  some (((),(x4,(x5,(x6,(x7,(x8,(x9,(x10,(nL,R9)))))))))):=by kernel_rfl
theorem ag4 (n:Nat) (x1:Book) (x2:Int):wE n (x1,x2)=
 bif bif decide (x2< (0:Int)) then true else decide (x2>x1.aH) then
  some ((⟨x1,[],(9:Int)⟩:fF))
 else
  (Fh n x1 x2 n (((0:Int),(x1.aF.gq,(x1.aF.iG,(x1.aF.Defs,(x1.aH,(x1.Day,(x1.dn,([],([],(0:Int)))))))))))).bind fun (kR:PUnit×Int×Int×(List Def)×Int×Int×(List Int)×(List Row)×(List Gone)×Int)=>
  some ((⟨(⟨(⟨kR.2.1,kR.2.2.1,kR.2.2.2.1⟩:aF),kR.2.2.2.2.1,kR.2.2.2.2.2.1,kR.2.2.2.2.2.2.1,kR.2.2.2.2.2.2.2.1⟩:Book),kR.2.2.2.2.2.2.2.2.1,kR.2.2.2.2.2.2.2.2.2⟩:fF)):=by kernel_rfl
noncomputable def KI (n:Nat) (x1:List Int) (x2:List Int) (m:Nat) (p:Int):Option (PUnit⊕Int):=
 cu (R:=R) 6 (aL ((aN Tryz.f101.body [1,1,1,0,1,0,0]).getD .skip)) (⟨[(0,TV.aj Cp.sh (Ty.int IntKind.i64) x1),(1,TV.aj Cp.sh (Ty.int IntKind.i64) x2)],[]⟩:MS R.T) (aP QI.loops 6).sh (aP QI.loops 6).outs (fun st k=>bA E R n false (QH n) aG QI ((aN Tryz.f101.body [1,1,1,0,1,0,0]).getD .skip) st k) m p
theorem ag5 (n:Nat) (x1:List Int) (x2:List Int) (m:Nat) (x3:Int):KI n x1 x2 (m+1) x3=
 bif decide (x3< (((x1.length:Nat):Int))) then
  (aK x1 x3).bind fun (r4:Int)=>
  (aK x2 x3).bind fun (r5:Int)=>
  bif decide (r4<r5) then
   some (.inr (-1:Int))
  else
   (aK x1 x3).bind fun (r6:Int)=>
   (aK x2 x3).bind fun (r7:Int)=>
   bif decide (r6>r7) then
    some (.inr (1:Int))
   else
    KI n x1 x2 m (IntKind.wrap IntKind.i64 (x3+(1:Int)))
 else
  some (.inl (())):=by kernel_rfl
theorem asv (n:Nat) (x1:List Int) (x2:List Int):Ev n (x1,x2)=
 bif decide ((((x1.length:Nat):Int))< (((x2.length:Nat):Int))) then
  some (-1:Int)
 else
  bif decide ((((x1.length:Nat):Int))> (((x2.length:Nat):Int))) then
   some (1:Int)
  else
   (KI n x1 x2 n (0:Int)).bind fun (r8:PUnit⊕Int)=>
   Sum.elim (fun (q9:PUnit)=>
    some (0:Int))
    (fun (uX:Int)=>
     some uX) r8:=by kernel_rfl
theorem asw (n:Nat) (x1:List Int) (x2:List Int):Bf n (x1,x2)=
 (Ev n ((x1,x2))).bind fun (r3:Int)=>
 some (r3==(0:Int)):=by kernel_rfl
theorem asx (n:Nat) (x1:Entry) (x2:Entry):Ew n (x1,x2)=
 (wC n x1).bind fun (r3:List Int)=>
 (wC n x2).bind fun (r4:List Int)=>
 some ((List.map (fun n:Int=>UInt8.ofNat n.toNat) r3)==(List.map (fun n:Int=>UInt8.ofNat n.toNat) r4)):=by kernel_rfl
noncomputable def KJ (n:Nat) (x1:List Row) (x2:List Row) (m:Nat) (p:Int):Option (PUnit⊕Bool):=
 cu (R:=R) 4 (aL ((aN Tryz.f53.body [1,1,0,1,0,0]).getD .skip)) (⟨[(0,TV.aj Cp.sh (Ty.st 4) x1),(1,TV.aj Cp.sh (Ty.st 4) x2)],[]⟩:MS R.T) (aP QN.loops 4).sh (aP QN.loops 4).outs (fun st k=>bA E R n false (QM n) aG QN ((aN Tryz.f53.body [1,1,0,1,0,0]).getD .skip) st k) m p
theorem ag6 (n:Nat) (x1:List Row) (x2:List Row) (m:Nat) (x3:Int):KJ n x1 x2 (m+1) x3=
 bif decide (x3< (((x1.length:Nat):Int))) then
  (aK x1 x3).bind fun (r4:Row)=>
  (aK x2 x3).bind fun (r5:Row)=>
  bif !(r4.dF !=r5.dF) then
   (aK x1 x3).bind fun (r6:Row)=>
   (aK x2 x3).bind fun (r7:Row)=>
   (Ew n ((r6.Entry,r7.Entry))).bind fun (r8:Bool)=>
   bif !r8 then
    some (.inr false)
   else
    KJ n x1 x2 m (IntKind.wrap IntKind.i64 (x3+(1:Int)))
  else
   some (.inr false)
 else
  some (.inl (())):=by kernel_rfl
theorem asy (n:Nat) (x1:List Row) (x2:List Row):Bg n (x1,x2)=
 bif (((x1.length:Nat):Int)) !=(((x2.length:Nat):Int)) then
  some false
 else
  (KJ n x1 x2 n (0:Int)).bind fun (r9:PUnit⊕Bool)=>
  Sum.elim (fun (uX:PUnit)=>
   some true)
   (fun (RI:Bool)=>
    some RI) r9:=by kernel_rfl
theorem asz (n:Nat) (x1:Book) (x2:Book):yL n (x1,x2)=
 (jc (bif x1.aH==x2.aH then x1.Day==x2.Day else false) (Bf n ((x1.dn,x2.dn))) false).bind fun (r3:Bool)=>
 (jc (bif bif x1.aH==x2.aH then x1.Day==x2.Day else false then r3 else false) (Bg n ((x1.Rows,x2.Rows))) false).bind fun (r4:Bool)=>
 some (bif bif bif x1.aH==x2.aH then x1.Day==x2.Day else false then r3 else false then r4 else false):=by kernel_rfl
noncomputable def KL (n:Nat) (x1:List Gone) (x2:List Gone) (m:Nat) (p:Int):Option (PUnit⊕Bool):=
 cu (R:=R) 4 (aL ((aN Tryz.f20.body [1,1,0,1,0,0]).getD .skip)) (⟨[(0,TV.aj Cp.sh (Ty.st 7) x1),(1,TV.aj Cp.sh (Ty.st 7) x2)],[]⟩:MS R.T) (aP QU.loops 4).sh (aP QU.loops 4).outs (fun st k=>bA E R n false (QT n) aG QU ((aN Tryz.f20.body [1,1,0,1,0,0]).getD .skip) st k) m p
theorem ag7 (n:Nat) (x1:List Gone) (x2:List Gone) (m:Nat) (x3:Int):KL n x1 x2 (m+1) x3=
 bif decide (x3< (((x1.length:Nat):Int))) then
  (aK x1 x3).bind fun (r4:Gone)=>
  (aK x2 x3).bind fun (r5:Gone)=>
  bif !((r4.ID==r5.ID)&& ((r4.bU==r5.bU)&& ((r4.dJ==r5.dJ)&& ((r4.dF==r5.dF)&& (((r4.Leaf.b0==r5.Leaf.b0)&& ((r4.Leaf.b1==r5.Leaf.b1)&& ((r4.Leaf.b2==r5.Leaf.b2)&& ((r4.Leaf.b3==r5.Leaf.b3)&& ((r4.Leaf.b4==r5.Leaf.b4)&& ((r4.Leaf.b5==r5.Leaf.b5)&& ((r4.Leaf.b6==r5.Leaf.b6)&& ((r4.Leaf.b7==r5.Leaf.b7)&& ((r4.Leaf.b8==r5.Leaf.b8)&& ((r4.Leaf.b9==r5.Leaf.b9)&& ((r4.Leaf.b10==r5.Leaf.b10)&& ((r4.Leaf.b11==r5.Leaf.b11)&& ((r4.Leaf.b12==r5.Leaf.b12)&& ((r4.Leaf.b13==r5.Leaf.b13)&& ((r4.Leaf.b14==r5.Leaf.b14)&& ((r4.Leaf.b15==r5.Leaf.b15)&& true))))))))))))))))&& true))))) then
   some (.inr false)
  else
   KL n x1 x2 m (IntKind.wrap IntKind.i64 (x3+(1:Int)))
 else
  some (.inl (())):=by kernel_rfl
theorem asA (n:Nat) (x1:List Gone) (x2:List Gone):yM n (x1,x2)=
 bif (((x1.length:Nat):Int)) !=(((x2.length:Nat):Int)) then
  some false
 else
  (KL n x1 x2 n (0:Int)).bind fun (r6:PUnit⊕Bool)=>
  Sum.elim (fun (q7:PUnit)=>
   some true)
   (fun (q8:Bool)=>
    some q8) r6:=by kernel_rfl
theorem Yn (n:Nat) (x1:Book) (x2:Int) (x3:Int):yN n (x1,(x2,x3))=
 bif decide (x3≥(0:Int)) then
  bif decide (x3< (((x1.Rows.length:Nat):Int))) then
   (yF n ((x1,x2))).bind fun (r4:PUnit×Int×List (Int×Int))=>
   (aK x1.Rows x3).bind fun (r5:Row)=>
   (AA n ((r5,(r4.2.1,r4.2.2)))).bind fun (r6:Bool)=>
   some r6
  else
   some false
 else
  some false:=by kernel_rfl
theorem asB (n:Nat) (x1:Int) (x2:Snapshot):Ey n (x1,x2)=
 some (decide (x2.aH≥x1)):=by kernel_rfl
theorem asC (n:Nat) (x1:List (List UInt8)):Ez n x1=
 (uO n (((211:Int),x1))).bind fun (r2:au)=>
 some r2:=by kernel_rfl
theorem asD (n:Nat) (x1:Gone):Bh n x1=
 (yH n [x1.ID,x1.bU,x1.dJ,x1.dF]).bind fun (r2:List Int)=>
 (Ez n ([List.map (fun n:Int=>UInt8.ofNat n.toNat) r2,List.map (fun n:Int=>UInt8.ofNat n.toNat) [x1.Leaf.b0,x1.Leaf.b1,x1.Leaf.b2,x1.Leaf.b3,x1.Leaf.b4,x1.Leaf.b5,x1.Leaf.b6,x1.Leaf.b7,x1.Leaf.b8,x1.Leaf.b9,x1.Leaf.b10,x1.Leaf.b11,x1.Leaf.b12,x1.Leaf.b13,x1.Leaf.b14,x1.Leaf.b15]])).bind fun (r3:au)=>
 some r3:=by kernel_rfl
theorem asE (n:Nat) (x1:Gone):Bj n x1=
 (yJ n [x1.ID,x1.bU,x1.dJ,x1.dF]).bind fun (r2:List Int)=>
 (wD n (((211:Int),[List.map (fun n:Int=>UInt8.ofNat n.toNat) r2,List.map (fun n:Int=>UInt8.ofNat n.toNat) [x1.Leaf.b0,x1.Leaf.b1,x1.Leaf.b2,x1.Leaf.b3,x1.Leaf.b4,x1.Leaf.b5,x1.Leaf.b6,x1.Leaf.b7,x1.Leaf.b8,x1.Leaf.b9,x1.Leaf.b10,x1.Leaf.b11,x1.Leaf.b12,x1.Leaf.b13,x1.Leaf.b14,x1.Leaf.b15]]))).bind fun (r3:au)=>
 some r3:=by kernel_rfl
theorem asF (n:Nat) (x1:Gone) (x2:Int):J5 n (x1,x2)=
 some (bif decide (x1.dJ≤x2) then decide (x2<x1.dF) else false):=by kernel_rfl
theorem asG (n:Nat) (x1:Gone) (x2:Int):J7 n (x1,x2)=
 some (bif decide (x1.dJ≤x2) then decide (x2<x1.dF) else false):=by kernel_rfl
noncomputable def KM (n:Nat) (x1:List Gone) (m:Nat) (p:(List au)×Int):Option (List au):=
 cu (R:=R) 3 (aL ((aN Tryz.f64.body [1,1,0,1,0,0]).getD .skip)) (⟨[(6,TV.aj Cp.sh (Ty.st 7) x1),(7,TV.int IntKind.i64 (((x1.length:Nat):Int)))],[]⟩:MS R.T) (aP Q8.loops 3).sh (aP Q8.loops 3).outs (fun st k=>bA E R n false (Q7 n) aG Q8 ((aN Tryz.f64.body [1,1,0,1,0,0]).getD .skip) st k) m p
theorem ag8 (n:Nat) (x1:List Gone) (m:Nat) (x2:List au) (x3:Int):KM n x1 (m+1) (x2,x3)=
 bif decide (x3< (((x1.length:Nat):Int))) then
  (aK x1 x3).bind fun (r4:Gone)=>
  (Bh n r4).bind fun (r5:au)=>
  bif bC (x2.length+([r5].length)) 16 then
   KM n x1 m ((x2++[r5],IntKind.wrap IntKind.i64 (x3+(1:Int))))
  else
   none
 else
  some x2:=by kernel_rfl
theorem asH (n:Nat) (x1:List Gone):Bl n x1=
 (KM n x1 n (([],(0:Int)))).bind fun (r6:List au)=>
 some r6:=by kernel_rfl
theorem asI (n:Nat):EA n ()=
 (uO n (((32:Int),[]))).bind fun (r1:au)=>
 some r1:=by kernel_rfl
theorem asJ (n:Nat) (x1:Int):EB n x1=
 bif decide (x1≥(4294967296:Int)) then
  bif decide ((0:Int)≤(32:Int)) then
   bif decide ((eP IntKind.u64 x1 (32:Int))≥(65536:Int)) then
    bif decide ((0:Int)≤(16:Int)) then
     bif decide ((eP IntKind.u64 (eP IntKind.u64 x1 (32:Int)) (16:Int))≥(256:Int)) then
      bif decide ((0:Int)≤(8:Int)) then
       (aK tK (IntKind.wrap IntKind.u8 (eP IntKind.u64 (eP IntKind.u64 (eP IntKind.u64 x1 (32:Int)) (16:Int)) (8:Int)))).bind fun (r2:UInt8)=>
       some (IntKind.wrap IntKind.i64 ((IntKind.wrap IntKind.i64 ((IntKind.wrap IntKind.i64 ((32:Int)+(16:Int)))+(8:Int)))+(IntKind.wrap IntKind.i64 (((r2.toNat:Nat):Int)))))
      else
       none
     else
      (aK tK (IntKind.wrap IntKind.u8 (eP IntKind.u64 (eP IntKind.u64 x1 (32:Int)) (16:Int)))).bind fun (r3:UInt8)=>
      some (IntKind.wrap IntKind.i64 ((IntKind.wrap IntKind.i64 ((32:Int)+(16:Int)))+(IntKind.wrap IntKind.i64 (((r3.toNat:Nat):Int)))))
    else
     none
   else
    bif decide ((eP IntKind.u64 x1 (32:Int))≥(256:Int)) then
     bif decide ((0:Int)≤(8:Int)) then
      (aK tK (IntKind.wrap IntKind.u8 (eP IntKind.u64 (eP IntKind.u64 x1 (32:Int)) (8:Int)))).bind fun (r4:UInt8)=>
      some (IntKind.wrap IntKind.i64 ((IntKind.wrap IntKind.i64 ((32:Int)+(8:Int)))+(IntKind.wrap IntKind.i64 (((r4.toNat:Nat):Int)))))
     else
      none
    else
     (aK tK (IntKind.wrap IntKind.u8 (eP IntKind.u64 x1 (32:Int)))).bind fun (r5:UInt8)=>
     some (IntKind.wrap IntKind.i64 ((32:Int)+(IntKind.wrap IntKind.i64 (((r5.toNat:Nat):Int)))))
  else
   none
 else
  bif decide (x1≥(65536:Int)) then
   bif decide ((0:Int)≤(16:Int)) then
    bif decide ((eP IntKind.u64 x1 (16:Int))≥(256:Int)) then
     bif decide ((0:Int)≤(8:Int)) then
      (aK tK (IntKind.wrap IntKind.u8 (eP IntKind.u64 (eP IntKind.u64 x1 (16:Int)) (8:Int)))).bind fun (r6:UInt8)=>
      some (IntKind.wrap IntKind.i64 ((IntKind.wrap IntKind.i64 ((IntKind.wrap IntKind.i64 ((0:Int)+(16:Int)))+(8:Int)))+(IntKind.wrap IntKind.i64 (((r6.toNat:Nat):Int)))))
     else
      none
    else
     (aK tK (IntKind.wrap IntKind.u8 (eP IntKind.u64 x1 (16:Int)))).bind fun (r7:UInt8)=>
     some (IntKind.wrap IntKind.i64 ((IntKind.wrap IntKind.i64 ((0:Int)+(16:Int)))+(IntKind.wrap IntKind.i64 (((r7.toNat:Nat):Int)))))
   else
    none
  else
   bif decide (x1≥(256:Int)) then
    bif decide ((0:Int)≤(8:Int)) then
     (aK tK (IntKind.wrap IntKind.u8 (eP IntKind.u64 x1 (8:Int)))).bind fun (r8:UInt8)=>
     some (IntKind.wrap IntKind.i64 ((IntKind.wrap IntKind.i64 ((0:Int)+(8:Int)))+(IntKind.wrap IntKind.i64 (((r8.toNat:Nat):Int)))))
    else
     none
   else
    (aK tK (IntKind.wrap IntKind.u8 x1)).bind fun (r9:UInt8)=>
    some (IntKind.wrap IntKind.i64 ((0:Int)+(IntKind.wrap IntKind.i64 (((r9.toNat:Nat):Int))))):=by kernel_rfl
theorem asK (n:Nat) (x1:Int):EC n x1=
 (EB n x1).bind fun (r2:Int)=>
 some r2:=by kernel_rfl
theorem asL (n:Nat) (x1:Int):wF n x1=
 (EC n (IntKind.wrap IntKind.u64 (IntKind.wrap IntKind.i64 (x1-(1:Int))))).bind fun (r2:Int)=>
 bif decide ((0:Int)≤(IntKind.wrap IntKind.i64 (r2-(1:Int)))) then
  some (j5 IntKind.i64 (1:Int) (IntKind.wrap IntKind.i64 (r2-(1:Int))))
 else
  none:=by kernel_rfl
theorem asM (n:Nat) (x1:au) (x2:au):ED n (x1,x2)=
 (uO n (((31:Int),[List.map (fun n:Int=>UInt8.ofNat n.toNat) [x1.b0,x1.b1,x1.b2,x1.b3,x1.b4,x1.b5,x1.b6,x1.b7,x1.b8,x1.b9,x1.b10,x1.b11,x1.b12,x1.b13,x1.b14,x1.b15],List.map (fun n:Int=>UInt8.ofNat n.toNat) [x2.b0,x2.b1,x2.b2,x2.b3,x2.b4,x2.b5,x2.b6,x2.b7,x2.b8,x2.b9,x2.b10,x2.b11,x2.b12,x2.b13,x2.b14,x2.b15]]))).bind fun (r3:au)=>
 some r3:=by kernel_rfl
theorem asN (n g:Nat) (x1:List au):yO n (g+1) x1=
 bif (((x1.length:Nat):Int))==(0:Int) then
  (EA n (())).bind fun (r2:au)=>
  some r2
 else
  bif (((x1.length:Nat):Int))==(1:Int) then
   (aK x1 (0:Int)).bind fun (r3:au)=>
   some r3
  else
   (wF n (((x1.length:Nat):Int))).bind fun (r4:Int)=>
   bif (gW r4 x1.length)&& (gW r4 (Int.toNat r4)) then
    (yO n g (List.take (Int.toNat r4) x1)).bind fun (r5:au)=>
    bif (gW (((x1.length:Nat):Int)) x1.length)&& ((gW (((x1.length:Nat):Int)) (Int.toNat (((x1.length:Nat):Int))))&& (gW r4 (Int.toNat (((x1.length:Nat):Int))))) then
     (yO n g (List.drop (Int.toNat r4) (List.take (Int.toNat (((x1.length:Nat):Int))) x1))).bind fun (r6:au)=>
     (ED n ((r5,r6))).bind fun (r7:au)=>
     some r7
    else
     none
   else
    none:=by kernel_rfl
theorem asO (n:Nat) (x1:List Gone) (x2:Int):Bo n (x1,x2)=
 (Bl n x1).bind fun (r3:List au)=>
 (Bn n ((r3,x2))).bind fun (r4:(List au)×Int)=>
 some ((r4.1,r4.2)):=by kernel_rfl
noncomputable def KN (n:Nat) (x1:List Gone) (m:Nat) (p:(List au)×Int):Option (List au):=
 cu (R:=R) 3 (aL ((aN Tryz.f66.body [1,1,0,1,0,0]).getD .skip)) (⟨[(0,TV.aj Cp.sh (Ty.st 7) x1)],[]⟩:MS R.T) (aP Ro.loops 3).sh (aP Ro.loops 3).outs (fun st k=>bA E R n false (Rn n) aG Ro ((aN Tryz.f66.body [1,1,0,1,0,0]).getD .skip) st k) m p
theorem ag9 (n:Nat) (x1:List Gone) (m:Nat) (x2:List au) (x3:Int):KN n x1 (m+1) (x2,x3)=
 bif decide (x3< (((x1.length:Nat):Int))) then
  (aK x1 x3).bind fun (r4:Gone)=>
  (Bj n r4).bind fun (r5:au)=>
  bif bC (x2.length+([r5].length)) 16 then
   KN n x1 m ((x2++[r5],IntKind.wrap IntKind.i64 (x3+(1:Int))))
  else
   none
 else
  some x2:=by kernel_rfl
theorem asP (n:Nat) (x1:List Gone):Bp n x1=
 (KN n x1 n (([],(0:Int)))).bind fun (r6:List au)=>
 some r6:=by kernel_rfl
noncomputable def KO (n:Nat) (x1:Int) (m:Nat) (p:Int):Option (Int):=
 cu (R:=R) 2 (aL ((aN Tryz.f115.body [1,1,0,0,0]).getD .skip)) (⟨[(0,TV.int IntKind.i64 x1)],[]⟩:MS R.T) (aP Rs.loops 2).sh (aP Rs.loops 2).outs (fun st k=>bA E R n false (Rq n) aG Rs ((aN Tryz.f115.body [1,1,0,0,0]).getD .skip) st k) m p
theorem aha (n:Nat) (x1:Int) (m:Nat) (x2:Int):KO n x1 (m+1) x2=
 bif decide ((IntKind.wrap IntKind.i64 ((2:Int)*x2))<x1) then
  KO n x1 m (IntKind.wrap IntKind.i64 ((2:Int)*x2))
 else
  some x2:=by kernel_rfl
theorem asQ (n:Nat) (x1:Int):Bq n x1=
 (KO n x1 n (1:Int)).bind fun (r3:Int)=>
 some r3:=by kernel_rfl
theorem asR (n:Nat):EF n ()=
 (wD n (((32:Int),[]))).bind fun (r1:au)=>
 some r1:=by kernel_rfl
theorem asS (n:Nat) (x1:au) (x2:au):EG n (x1,x2)=
 (wD n (((31:Int),[List.map (fun n:Int=>UInt8.ofNat n.toNat) [x1.b0,x1.b1,x1.b2,x1.b3,x1.b4,x1.b5,x1.b6,x1.b7,x1.b8,x1.b9,x1.b10,x1.b11,x1.b12,x1.b13,x1.b14,x1.b15],List.map (fun n:Int=>UInt8.ofNat n.toNat) [x2.b0,x2.b1,x2.b2,x2.b3,x2.b4,x2.b5,x2.b6,x2.b7,x2.b8,x2.b9,x2.b10,x2.b11,x2.b12,x2.b13,x2.b14,x2.b15]]))).bind fun (r3:au)=>
 some r3:=by kernel_rfl
theorem asT (n g:Nat) (x1:List au):EH n (g+1) x1=
 bif (((x1.length:Nat):Int))==(0:Int) then
  (EF n (())).bind fun (r2:au)=>
  some r2
 else
  bif (((x1.length:Nat):Int))==(1:Int) then
   (aK x1 (0:Int)).bind fun (r3:au)=>
   some r3
  else
   (Bq n (((x1.length:Nat):Int))).bind fun (r4:Int)=>
   bif gW r4 x1.length then
    (EH n g (List.take (Int.toNat r4) x1)).bind fun (r5:au)=>
    bif gW r4 x1.length then
     (EH n g (List.drop (Int.toNat r4) x1)).bind fun (r6:au)=>
     (EG n ((r5,r6))).bind fun (r7:au)=>
     some r7
    else
     none
   else
    none:=by kernel_rfl
theorem asU (n:Nat) (x1:List au) (x2:au):Br n (x1,x2)=
 bif bC (((0:Nat))+x1.length) 16 then
  bif bC ((([]++x1).length)+([x2].length)) 16 then
   some (([]++x1)++[x2])
  else
   none
 else
  none:=by kernel_rfl
theorem Yo (n g:Nat) (x1:List au) (x2:Int):EI n (g+1) (x1,x2)=
 bif (((x1.length:Nat):Int))==(1:Int) then
  some []
 else
  (Bq n (((x1.length:Nat):Int))).bind fun (r3:Int)=>
  bif decide (x2<r3) then
   bif gW r3 x1.length then
    (EI n g ((List.take (Int.toNat r3) x1,x2))).bind fun (r4:List au)=>
    bif gW r3 x1.length then
     (yP n (List.drop (Int.toNat r3) x1)).bind fun (r5:au)=>
     (Br n ((r4,r5))).bind fun (r6:List au)=>
     some r6
    else
     none
   else
    none
  else
   bif gW r3 x1.length then
    (EI n g ((List.drop (Int.toNat r3) x1,IntKind.wrap IntKind.i64 (x2-r3)))).bind fun (r7:List au)=>
    bif gW r3 x1.length then
     (yP n (List.take (Int.toNat r3) x1)).bind fun (r8:au)=>
     (Br n ((r7,r8))).bind fun (r9:List au)=>
     some r9
    else
     none
   else
    none:=by kernel_rfl
theorem asV (n:Nat) (x1:List au) (x2:Int):EK n (x1,x2)=
 bif bif decide (x2< (0:Int)) then true else decide (x2≥(((x1.length:Nat):Int))) then
  some ((⟨[],(1:Int)⟩:gF))
 else
  (EJ n ((x1,x2))).bind fun (r3:List au)=>
  some ((⟨r3,(0:Int)⟩:gF)):=by kernel_rfl
theorem asW (n:Nat) (x1:List Gone) (x2:Int):Bt n (x1,x2)=
 bif bif decide (x2< (0:Int)) then true else decide (x2≥(((x1.length:Nat):Int))) then
  some ((⟨[],(1:Int)⟩:fA))
 else
  (Bp n x1).bind fun (r3:List au)=>
  (EK n ((r3,x2))).bind fun (r4:gF)=>
  some ((⟨r4.L,(0:Int)⟩:fA)):=by kernel_rfl
theorem asX (n:Nat) (x1:List Gone):Bu n x1=
 (Bl n x1).bind fun (r2:List au)=>
 (wG n r2).bind fun (r3:au)=>
 some r3:=by kernel_rfl
theorem asY (n:Nat) (x1:List Gone):Bv n x1=
 (Bp n x1).bind fun (r2:List au)=>
 (yP n r2).bind fun (r3:au)=>
 some r3:=by kernel_rfl
noncomputable def BH (n:Nat) (x4:Int) (x5:Int) (r6:Book×Bool) (m:Nat) (p:(List Gone)×Int):Option ((List Gone)⊕Bool):=
 cu (R:=R) 12 (aL ((aN Tryz.f5.body [1,1,1,1,1,1,1,1,0,1,0,0]).getD .skip)) (⟨[(3,TV.int IntKind.i64 x4),(4,TV.int IntKind.i64 x5),(11,TV.ref 11 0)],[(11,Ob.ro (Ob.cells [TV.int IntKind.i64 r6.1.aF.gq,TV.int IntKind.i64 r6.1.aF.iG,TV.aj Cp.sh (Ty.st 0) r6.1.aF.Defs,TV.int IntKind.i64 r6.1.aH,TV.int IntKind.i64 r6.1.Day,TV.aj Cp.sh (Ty.int IntKind.i64) r6.1.dn,TV.aj Cp.sh (Ty.st 4) r6.1.Rows]))]⟩:MS R.T) (aP Bw.loops 12).sh (aP Bw.loops 12).outs (fun st k=>bA E R n false (RF n) aG Bw ((aN Tryz.f5.body [1,1,1,1,1,1,1,1,0,1,0,0]).getD .skip) st k) m p
noncomputable def BJ (n:Nat) (lK:List Gone) (pG:(List au)×Int) (pI:fA) (m:Nat) (p:Int):Option (PUnit⊕Bool):=
 cu (R:=R) 23 (aL ((aN Tryz.f5.body [1,1,1,1,1,1,1,1,1,1,1,1,0,1,0,0]).getD .skip)) (⟨[(17,TV.aj Cp.any (Ty.st 7) lK),(20,TV.aj Cp.sh (Ty.st 6) pG.1),(22,TV.ref 22 0)],[(22,Ob.ro (Ob.cells [TV.aj Cp.sh (Ty.st 6) pI.L,TV.int IntKind.i64 pI.E]))]⟩:MS R.T) (aP Bw.loops 23).sh (aP Bw.loops 23).outs (fun st k=>bA E R n false (RF n) aG Bw ((aN Tryz.f5.body [1,1,1,1,1,1,1,1,1,1,1,1,0,1,0,0]).getD .skip) st k) m p
theorem ahb (n:Nat) (x4:Int) (x5:Int) (r6:Book×Bool) (m:Nat) (pF:List Gone) (uZ:Int):BH n x4 x5 r6 (m+1) (pF,uZ)=
 bif decide (uZ< (((r6.1.Rows.length:Nat):Int))) then
  (aK r6.1.Rows uZ).bind fun (kR:Row)=>
  (Bd n kR).bind fun (fC:Gone)=>
  (aK r6.1.Rows uZ).bind fun (RJ:Row)=>
  (uP n RJ).bind fun (kE:Gone)=>
  bif !(!((kE.ID==fC.ID)&& ((kE.bU==fC.bU)&& ((kE.dJ==fC.dJ)&& ((kE.dF==fC.dF)&& (((kE.Leaf.b0==fC.Leaf.b0)&& ((kE.Leaf.b1==fC.Leaf.b1)&& ((kE.Leaf.b2==fC.Leaf.b2)&& ((kE.Leaf.b3==fC.Leaf.b3)&& ((kE.Leaf.b4==fC.Leaf.b4)&& ((kE.Leaf.b5==fC.Leaf.b5)&& ((kE.Leaf.b6==fC.Leaf.b6)&& ((kE.Leaf.b7==fC.Leaf.b7)&& ((kE.Leaf.b8==fC.Leaf.b8)&& ((kE.Leaf.b9==fC.Leaf.b9)&& ((kE.Leaf.b10==fC.Leaf.b10)&& ((kE.Leaf.b11==fC.Leaf.b11)&& ((kE.Leaf.b12==fC.Leaf.b12)&& ((kE.Leaf.b13==fC.Leaf.b13)&& ((kE.Leaf.b14==fC.Leaf.b14)&& ((kE.Leaf.b15==fC.Leaf.b15)&& true))))))))))))))))&& true)))))) then
   (Bh n fC).bind fun (gy:au)=>
   (Bj n fC).bind fun (gG:au)=>
   bif !(!((gy.b0==gG.b0)&& ((gy.b1==gG.b1)&& ((gy.b2==gG.b2)&& ((gy.b3==gG.b3)&& ((gy.b4==gG.b4)&& ((gy.b5==gG.b5)&& ((gy.b6==gG.b6)&& ((gy.b7==gG.b7)&& ((gy.b8==gG.b8)&& ((gy.b9==gG.b9)&& ((gy.b10==gG.b10)&& ((gy.b11==gG.b11)&& ((gy.b12==gG.b12)&& ((gy.b13==gG.b13)&& ((gy.b14==gG.b14)&& ((gy.b15==gG.b15)&& true))))))))))))))))) then
    (J5 n ((fC,x5))).bind fun (RL:Bool)=>
    (J7 n ((fC,x5))).bind fun (kF:Bool)=>
    bif !(RL==kF) then
     some (.inr false)
    else
     bif bC (pF.length+([fC].length)) 48 then
      BH n x4 x5 r6 m ((pF++[fC],IntKind.wrap IntKind.i64 (uZ+(1:Int))))
     else
      none
   else
    some (.inr false)
  else
   some (.inr false)
 else
  some (.inl pF):=by kernel_rfl
theorem ahc (n:Nat) (lK:List Gone) (pG:(List au)×Int) (pI:fA) (m:Nat) (x30:Int):BJ n lK pG pI (m+1) x30=
 bif decide (x30< (((pG.1.length:Nat):Int))) then
  (aK pG.1 x30).bind fun (nM:au)=>
  (aK pI.L x30).bind fun (r32:au)=>
  bif !((nM.b0==r32.b0)&& ((nM.b1==r32.b1)&& ((nM.b2==r32.b2)&& ((nM.b3==r32.b3)&& ((nM.b4==r32.b4)&& ((nM.b5==r32.b5)&& ((nM.b6==r32.b6)&& ((nM.b7==r32.b7)&& ((nM.b8==r32.b8)&& ((nM.b9==r32.b9)&& ((nM.b10==r32.b10)&& ((nM.b11==r32.b11)&& ((nM.b12==r32.b12)&& ((nM.b13==r32.b13)&& ((nM.b14==r32.b14)&& ((nM.b15==r32.b15)&& true)))))))))))))))) then
   some (.inr false)
  else
   BJ n lK pG pI m (IntKind.wrap IntKind.i64 (x30+(1:Int)))
 else
  some (.inl (())):=by kernel_rfl
theorem asZ (n:Nat) (x1:aF) (x2:List Event) (x3:Int) (x4:Int) (x5:Int):RG n (x1,(x2,(x3,(x4,x5))))=
 (Az n ((x1,x2))).bind fun (r6:Book×Bool)=>
 bif !r6.2 then
  (yE n (())).bind fun (r7:Bool)=>
  some r7
 else
  (uQ n ((r6.1,x3))).bind fun (r8:Book×(List Gone)×Int)=>
  (wE n ((r6.1,x3))).bind fun (r9:fF)=>
  (yL n ((r8.1,r9.B))).bind fun (eB:Bool)=>
  bif !(!eB) then
   (yM n ((r8.2.1,r9.L))).bind fun (dR:Bool)=>
   bif !(!dR) then
    bif !(r8.2.2 !=r9.E) then
     (yN n ((r6.1,(x3,x4)))).bind fun (gY:Bool)=>
     (wB n ((r6.1,(x3,x4)))).bind fun (fH:Bool)=>
     bif !(gY==fH) then
      some false
     else
      (Ey n ((x3,(⟨(0:Int),x5⟩:Snapshot)))).bind fun (dL:Bool)=>
      bif !(dL==(decide (x5≥x3))) then
       some false
      else
       (BH n x4 x5 r6 n (([],(0:Int)))).bind fun (EM:(List Gone)⊕Bool)=>
       Sum.elim (fun (lK:List Gone)=>
        (Bo n ((lK,x4))).bind fun (pG:(List au)×Int)=>
        (Bt n ((lK,x4))).bind fun (pI:fA)=>
        bif bif pG.2 !=pI.E then true else (((pG.1.length:Nat):Int)) !=(((pI.L.length:Nat):Int)) then
         some false
        else
         (BJ n lK pG pI n (0:Int)).bind fun (Yp:PUnit⊕Bool)=>
         Sum.elim (fun (q34:PUnit)=>
          (yE n (())).bind fun (BK:Bool)=>
          (jc BK (Bu n lK) ((⟨(0:Int),(0:Int),(0:Int),(0:Int),(0:Int),(0:Int),(0:Int),(0:Int),(0:Int),(0:Int),(0:Int),(0:Int),(0:Int),(0:Int),(0:Int),(0:Int)⟩:au))).bind fun (mq:au)=>
          (jc BK (Bv n lK) ((⟨(0:Int),(0:Int),(0:Int),(0:Int),(0:Int),(0:Int),(0:Int),(0:Int),(0:Int),(0:Int),(0:Int),(0:Int),(0:Int),(0:Int),(0:Int),(0:Int)⟩:au))).bind fun (mD:au)=>
          some (bif BK then (mq.b0==mD.b0)&& ((mq.b1==mD.b1)&& ((mq.b2==mD.b2)&& ((mq.b3==mD.b3)&& ((mq.b4==mD.b4)&& ((mq.b5==mD.b5)&& ((mq.b6==mD.b6)&& ((mq.b7==mD.b7)&& ((mq.b8==mD.b8)&& ((mq.b9==mD.b9)&& ((mq.b10==mD.b10)&& ((mq.b11==mD.b11)&& ((mq.b12==mD.b12)&& ((mq.b13==mD.b13)&& ((mq.b14==mD.b14)&& ((mq.b15==mD.b15)&& true))))))))))))))) else false))
          (fun (Yq:Bool)=>
           some Yq) Yp)
        (fun (Yr:Bool)=>
         some Yr) EM
    else
     some false
   else
    some false
  else
   some false:=by kernel_rfl
attribute [irreducible] yQ tL yR yS Kv yT yU yV yX Kw yY Ky tN tO EL pE Kz Bz wH wI uY yZ KC EN EO EP y5 ER ET EU EW BA wJ tQ wK y7 wL BD y8 y9 BG KE EX za EY EZ E5 KF KG E8 KH E9 Fa Fb Fe Fg Fh KI KJ KL KM KN KO BH BJ
end Sh
