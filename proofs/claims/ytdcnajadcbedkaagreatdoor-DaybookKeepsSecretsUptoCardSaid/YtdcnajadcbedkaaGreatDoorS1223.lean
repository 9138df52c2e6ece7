/- Part of the proof of a law. -/
import Derived.Test.YtdcnajadcbedkaaGreatDoorS1222
set_option linter.all false
open Go Go.Proofs Aq
namespace Sh
set_option maxRecDepth 100000
noncomputable def yO (n:Nat) (x1:Entry) (m:Nat) (p:Int):Option (PUnit⊕Bool):=
 dA (R:=R) 2 (aJ ((aT Tryz.f34.body [1,0,1,0,0]).getD .skip)) (⟨[(1,TV.ref 1 0)],[(1,Ob.ro (Ob.cells [TV.int IntKind.i64 x1.ID,TV.int IntKind.i64 x1.fI,TV.int IntKind.i64 x1.bI,TV.int IntKind.i64 x1.iW,TV.int IntKind.i64 x1.From,TV.int IntKind.i64 x1.To,TV.int IntKind.i64 x1.jv,TV.aj (T:=R.T) Cp.sh (Ty.int IntKind.i64) x1.Vec,TV.aj (T:=R.T) Cp.sh (Ty.st 9) x1.aM]))]⟩:MS R.T) (aU Nq.loops 2).sh (aU Nq.loops 2).outs (fun st k=>bA E R n false (M9 n) aZ Nq ((aT Tryz.f34.body [1,0,1,0,0]).getD .skip) st k) m p
theorem acz (n:Nat) (x1:Entry) (p:Int):yO n x1 0 p=none:=by kernel_rfl
theorem U5 (n:Nat) (x1:Entry) (m:Nat) (x2:Int):yO n x1 (m+1) x2=
 bif bif decide (x2< (((x1.aM.length:Nat):Int))) then decide (x2<=(20:Int)) else false then
  (aB x1.aM x2).bind fun (r3:Attr)=>
  (iQ (!(decide ((((r3.Name.length:Nat):Int))> (300:Int)))) (aB x1.aM x2) ((⟨[],(0:Int),(0:Int),[]⟩:Attr))).bind fun (r4:Attr)=>
  bif bif decide ((((r3.Name.length:Nat):Int))> (300:Int)) then true else decide ((((r4.S.length:Nat):Int))> (300:Int)) then
   some (.inr false)
  else
   yO n x1 m (IntKind.wrap .i64 (x2+(1:Int)))
 else
  some (.inl (())):=by kernel_rfl
theorem acA (n:Nat) (x1:Entry):Aj n x1=
 (yO n x1 n (0:Int)).bind fun (r5:PUnit⊕Bool)=>
 Sum.elim (fun (q6:PUnit)=>
  some (bif decide ((((x1.Vec.length:Nat):Int))<=(40:Int)) then decide ((((x1.aM.length:Nat):Int))<=(20:Int)) else false))
  (fun (q7:Bool)=>
   some q7) r5:=by kernel_rfl
noncomputable def tT (n:Nat) (x1:List Event) (x2:Int) (m:Nat) (p:Int):Option (PUnit⊕Bool):=
 dA (R:=R) 2 (aJ ((aT Tryz.f79.body [1,0,1,0,0]).getD .skip)) (⟨[(0,TV.aj (T:=R.T) Cp.sh (Ty.st 14) x1),(1,TV.int IntKind.i64 x2)],[]⟩:MS R.T) (aU Nt.loops 2).sh (aU Nt.loops 2).outs (fun st k=>bA E R n false (Ns n) aZ Nt ((aT Tryz.f79.body [1,0,1,0,0]).getD .skip) st k) m p
theorem acB (n:Nat) (x1:List Event) (x2:Int) (p:Int):tT n x1 x2 0 p=none:=by kernel_rfl
theorem PI (n:Nat) (x1:List Event) (x2:Int) (m:Nat) (x3:Int):tT n x1 x2 (m+1) x3=
 bif bif decide (x3< (((x1.length:Nat):Int))) then decide (x3<=x2) else false then
  (aB x1 x3).bind fun (r4:Event)=>
  (aB x1 x3).bind fun (r5:Event)=>
  (Aj n ((⟨(0:Int),(0:Int),(0:Int),(0:Int),(0:Int),(0:Int),(0:Int),r4.Vec,r5.aM⟩:Entry))).bind fun (r6:Bool)=>
  bif !r6 then
   some (.inr false)
  else
   tT n x1 x2 m (IntKind.wrap .i64 (x3+(1:Int)))
 else
  some (.inl (())):=by kernel_rfl
theorem acC (n:Nat) (x1:List Event) (x2:Int):Ak n (x1,x2)=
 (tT n x1 x2 n (0:Int)).bind fun (r7:PUnit⊕Bool)=>
 Sum.elim (fun (q8:PUnit)=>
  some (decide ((((x1.length:Nat):Int))<=x2)))
  (fun (q9:Bool)=>
   some q9) r7:=by kernel_rfl
noncomputable def yP (n:Nat) (x1:ak) (x2:Int) (x3:Int) (r4:Def) (m:Nat) (p:Int):Option (PUnit⊕Bool):=
 dA (R:=R) 8 (aJ ((aT Tryz.f80.body [1,0,1,0,0,1,0,0,1,1,1,0,0]).getD .skip)) (⟨[(1,TV.int IntKind.i64 x2),(2,TV.ref 2 0),(5,TV.int IntKind.i64 x3),(6,TV.ref 6 0)],[(2,Ob.ro (Ob.ro (Ob.cells [TV.int IntKind.i64 x1.gq,TV.int IntKind.i64 x1.gY,TV.aj (T:=R.T) Cp.sh (Ty.st 7) x1.Defs]))),(6,Ob.ro (Ob.cells [TV.str r4.Name,TV.int IntKind.i64 r4.Kind,TV.int IntKind.i64 r4.Lo,TV.int IntKind.i64 r4.Hi,TV.aj (T:=R.T) Cp.sh Ty.str r4.Words]))]⟩:MS R.T) (aU Al.loops 8).sh (aU Al.loops 8).outs (fun st k=>bA E R n false (Ib n) aZ Al ((aT Tryz.f80.body [1,0,1,0,0,1,0,0,1,1,1,0,0]).getD .skip) st k) m p
noncomputable def yQ (n:Nat) (x1:ak) (x2:Int) (m:Nat) (p:Int):Option (PUnit⊕Bool):=
 dA (R:=R) 2 (aJ ((aT Tryz.f80.body [1,0,1,0,0]).getD .skip)) (⟨[(1,TV.int IntKind.i64 x2),(2,TV.ref 2 0)],[(2,Ob.ro (Ob.cells [TV.int IntKind.i64 x1.gq,TV.int IntKind.i64 x1.gY,TV.aj (T:=R.T) Cp.sh (Ty.st 7) x1.Defs]))]⟩:MS R.T) (aU Al.loops 2).sh (aU Al.loops 2).outs (fun st k=>bA E R n false (Ib n) aZ Al ((aT Tryz.f80.body [1,0,1,0,0]).getD .skip) st k) m p
theorem acD (n:Nat) (x1:ak) (x2:Int) (x3:Int) (r4:Def) (m:Nat) (x5:Int):yP n x1 x2 x3 r4 (m+1) x5=
 bif decide (x5< (((r4.Words.length:Nat):Int))) then
  (aB r4.Words x5).bind fun (r6:List UInt8)=>
  bif decide ((((r6.length:Nat):Int))> (100:Int)) then
   some (.inr false)
  else
   yP n x1 x2 x3 r4 m (IntKind.wrap .i64 (x5+(1:Int)))
 else
  some (.inl (())):=by kernel_rfl
theorem acE (n:Nat) (x1:ak) (x2:Int) (m:Nat) (x3:Int):yQ n x1 x2 (m+1) x3=
 bif bif decide (x3< (((x1.Defs.length:Nat):Int))) then decide (x3<=x2) else false then
  (aB x1.Defs x3).bind fun (r4:Def)=>
  bif bif decide ((((r4.Words.length:Nat):Int))> (60:Int)) then true else decide ((((r4.Name.length:Nat):Int))> (100:Int)) then
   some (.inr false)
  else
   (yP n x1 x2 x3 r4 n (0:Int)).bind fun (r7:PUnit⊕Bool)=>
   Sum.elim (fun (q8:PUnit)=>
    yQ n x1 x2 m (IntKind.wrap .i64 (x3+(1:Int))))
    (fun (q9:Bool)=>
     some (.inr q9)) r7
 else
  some (.inl (())):=by kernel_rfl
theorem anR (n:Nat) (x1:ak) (x2:Int):Am n (x1,x2)=
 (yQ n x1 x2 n (0:Int)).bind fun (bW:PUnit⊕Bool)=>
 Sum.elim (fun (PK:PUnit)=>
  some (decide ((((x1.Defs.length:Nat):Int))<=x2)))
  (fun (q12:Bool)=>
   some q12) bW:=by kernel_rfl
theorem anS (n:Nat) (x1:Int):D7 n x1=
 some (bif decide (x1>=(1:Int)) then decide (x1<=(3:Int)) else false):=by kernel_rfl
noncomputable def JA (n:Nat) (x1:List (List UInt8)) (x2:List UInt8) (m:Nat) (p:Int):Option (PUnit⊕Bool):=
 dA (R:=R) 2 (aJ ((aT Tryz.f220.body [1,0,1,0,0]).getD .skip)) (⟨[(0,TV.aj (T:=R.T) Cp.sh Ty.str x1),(1,TV.str x2)],[]⟩:MS R.T) (aU Nz.loops 2).sh (aU Nz.loops 2).outs (fun st k=>bA E R n false (Ny n) aZ Nz ((aT Tryz.f220.body [1,0,1,0,0]).getD .skip) st k) m p
theorem acG (n:Nat) (x1:List (List UInt8)) (x2:List UInt8) (m:Nat) (x3:Int):JA n x1 x2 (m+1) x3=
 bif decide (x3< (((x1.length:Nat):Int))) then
  (aB x1 x3).bind fun (r4:List UInt8)=>
  bif r4==x2 then
   some (.inr true)
  else
   JA n x1 x2 m (IntKind.wrap .i64 (x3+(1:Int)))
 else
  some (.inl (())):=by kernel_rfl
theorem anT (n:Nat) (x1:List (List UInt8)) (x2:List UInt8):yI n (x1,x2)=
 (JA n x1 x2 n (0:Int)).bind fun (r5:PUnit⊕Bool)=>
 Sum.elim (fun (q6:PUnit)=>
  some false)
  (fun (q7:Bool)=>
   some q7) r5:=by kernel_rfl
noncomputable def yR (n:Nat) (x1:List UInt8) (m:Nat) (p:Int):Option (PUnit⊕Bool):=
 dA (R:=R) 2 (aJ ((aT Tryz.f212.body [1,0,1,0,0]).getD .skip)) (⟨[(0,TV.str x1)],[]⟩:MS R.T) (aU ND.loops 2).sh (aU ND.loops 2).outs (fun st k=>bA E R n false (NC n) aZ ND ((aT Tryz.f212.body [1,0,1,0,0]).getD .skip) st k) m p
theorem acH (n:Nat) (x1:List UInt8) (m:Nat) (x2:Int):yR n x1 (m+1) x2=
 bif decide (x2< (((x1.length:Nat):Int))) then
  (aB x1 x2).bind fun (r3:UInt8)=>
  bif bif !(bif decide ((((r3.toNat:Nat):Int))>=(97:Int)) then decide ((((r3.toNat:Nat):Int))<=(122:Int)) else false) then bif x2==(0:Int) then true else !(bif bif decide ((((r3.toNat:Nat):Int))>=(48:Int)) then decide ((((r3.toNat:Nat):Int))<=(57:Int)) else false then true else (((r3.toNat:Nat):Int))==(95:Int)) else false then
   some (.inr false)
  else
   yR n x1 m (IntKind.wrap .i64 (x2+(1:Int)))
 else
  some (.inl (())):=by kernel_rfl
theorem anU (n:Nat) (x1:List UInt8):Ao n x1=
 (yR n x1 n (0:Int)).bind fun (r4:PUnit⊕Bool)=>
 Sum.elim (fun (q5:PUnit)=>
  (iQ (bif decide ((((x1.length:Nat):Int))>=(1:Int)) then decide ((((x1.length:Nat):Int))<=(40:Int)) else false) (yI n (([[(97:UInt8),(108:UInt8),(108:UInt8)],[(97:UInt8),(110:UInt8),(100:UInt8)],[(104:UInt8),(97:UInt8),(115:UInt8)],[(105:UInt8),(110:UInt8)],[(110:UInt8),(111:UInt8),(116:UInt8)],[(111:UInt8),(114:UInt8)]],x1))) false).bind fun (r7:Bool)=>
  some (bif bif decide ((((x1.length:Nat):Int))>=(1:Int)) then decide ((((x1.length:Nat):Int))<=(40:Int)) else false then !r7 else false))
  (fun (q6:Bool)=>
   some q6) r4:=by kernel_rfl
noncomputable def yS (n:Nat) (x1:List (List UInt8)) (m:Nat) (p:Int):Option (PUnit⊕Int):=
 dA (R:=R) 4 (aJ ((aT Tryz.f213.body [1,1,0,1,0,0]).getD .skip)) (⟨[(0,TV.aj (T:=R.T) Cp.sh Ty.str x1)],[]⟩:MS R.T) (aU Ap.loops 4).sh (aU Ap.loops 4).outs (fun st k=>bA E R n false (Ii n) aZ Ap ((aT Tryz.f213.body [1,1,0,1,0,0]).getD .skip) st k) m p
noncomputable def yT (n:Nat) (x1:List (List UInt8)) (m:Nat) (p:Int):Option (PUnit⊕Int):=
 dA (R:=R) 9 (aJ ((aT Tryz.f213.body [1,1,1,0,1,0,0]).getD .skip)) (⟨[(0,TV.aj (T:=R.T) Cp.sh Ty.str x1)],[]⟩:MS R.T) (aU Ap.loops 9).sh (aU Ap.loops 9).outs (fun st k=>bA E R n false (Ii n) aZ Ap ((aT Tryz.f213.body [1,1,1,0,1,0,0]).getD .skip) st k) m p
theorem acI (n:Nat) (x1:List (List UInt8)) (m:Nat) (x2:Int):yS n x1 (m+1) x2=
 bif decide (x2< (((x1.length:Nat):Int))) then
  (aB x1 x2).bind fun (r3:List UInt8)=>
  (Ao n r3).bind fun (r4:Bool)=>
  bif !r4 then
   some (.inr (5:Int))
  else
   yS n x1 m (IntKind.wrap .i64 (x2+(1:Int)))
 else
  some (.inl (())):=by kernel_rfl
theorem acJ (n:Nat) (x1:List (List UInt8)) (m:Nat) (x8:Int):yT n x1 (m+1) x8=
 bif decide (x8< (((x1.length:Nat):Int))) then
  (aB x1 x8).bind fun (r9:List UInt8)=>
  (aB x1 (IntKind.wrap .i64 (x8-(1:Int)))).bind fun (bW:List UInt8)=>
  bif (Go.Op.bytesLess r9 bW)||(r9==bW) then
   some (.inr (6:Int))
  else
   yT n x1 m (IntKind.wrap .i64 (x8+(1:Int)))
 else
  some (.inl (())):=by kernel_rfl
theorem anV (n:Nat) (x1:List (List UInt8)):D8 n x1=
 bif bif decide ((((x1.length:Nat):Int))< (1:Int)) then true else decide ((((x1.length:Nat):Int))> (50:Int)) then
  some (2:Int)
 else
  (yS n x1 n (0:Int)).bind fun (r5:PUnit⊕Int)=>
  Sum.elim (fun (q6:PUnit)=>
   (yT n x1 n (1:Int)).bind fun (dw:PUnit⊕Int)=>
   Sum.elim (fun (q12:PUnit)=>
    some (0:Int))
    (fun (q13:Int)=>
     some q13) dw)
   (fun (q7:Int)=>
    some q7) r5:=by kernel_rfl
theorem anX (n:Nat) (x1:Def) (x2:List UInt8):D9 n (x1,x2)=
 (Ao n x1.Name).bind fun (r3:Bool)=>
 bif !r3 then
  some (5:Int)
 else
  bif (Go.Op.bytesLess x1.Name x2)||(x1.Name==x2) then
   some (6:Int)
  else
   bif x1.Kind==(1:Int) then
    bif bif bif decide (x1.Lo< (-1099511627776:Int)) then true else decide (x1.Hi> (1099511627776:Int)) then true else decide (x1.Lo>x1.Hi) then
     some (131:Int)
    else
     bif decide ((((x1.Words.length:Nat):Int))> (0:Int)) then
      some (3:Int)
     else
      some (0:Int)
   else
    bif x1.Kind==(2:Int) then
     bif bif x1.Lo !=(0:Int) then true else x1.Hi !=(0:Int) then
      some (3:Int)
     else
      (D8 n x1.Words).bind fun (r4:Int)=>
      some r4
    else
     some (130:Int):=by kernel_rfl
noncomputable def yU (n:Nat) (x1:ak) (m:Nat) (p:(List UInt8)×Int):Option (PUnit⊕Int):=
 dA (R:=R) 7 (aJ ((aT Tryz.f160.body [1,1,1,1,0,1,0,0]).getD .skip)) (⟨[(1,TV.ref 1 0)],[(1,Ob.ro (Ob.cells [TV.int IntKind.i64 x1.gq,TV.int IntKind.i64 x1.gY,TV.aj (T:=R.T) Cp.sh (Ty.st 7) x1.Defs]))]⟩:MS R.T) (aU NK.loops 7).sh (aU NK.loops 7).outs (fun st k=>bA E R n false (NJ n) aZ NK ((aT Tryz.f160.body [1,1,1,1,0,1,0,0]).getD .skip) st k) m p
theorem acK (n:Nat) (x1:ak) (m:Nat) (x3:List UInt8) (x4:Int):yU n x1 (m+1) (x3,x4)=
 bif decide (x4< (((x1.Defs.length:Nat):Int))) then
  (aB x1.Defs x4).bind fun (r5:Def)=>
  (D9 n ((r5,x3))).bind fun (r6:Int)=>
  bif r6 !=(0:Int) then
   some (.inr r6)
  else
   (aB x1.Defs x4).bind fun (r7:Def)=>
   yU n x1 m ((r7.Name,IntKind.wrap .i64 (x4+(1:Int))))
 else
  some (.inl (())):=by kernel_rfl
theorem anY (n:Nat) (x1:ak):Ea n x1=
 (iQ (!(bif decide (x1.gq< (1:Int)) then true else decide (x1.gq> (32:Int)))) (D7 n x1.gY) false).bind fun (r2:Bool)=>
 bif bif bif decide (x1.gq< (1:Int)) then true else decide (x1.gq> (32:Int)) then true else !r2 then
  some (1:Int)
 else
  bif decide ((((x1.Defs.length:Nat):Int))> (16:Int)) then
   some (2:Int)
  else
   (yU n x1 n (([],(0:Int)))).bind fun (r8:PUnit⊕Int)=>
   Sum.elim (fun (q9:PUnit)=>
    some (0:Int))
    (fun (yV:Int)=>
     some yV) r8:=by kernel_rfl
theorem anZ (n:Nat) (x1:ak):yJ n x1=
 (Ea n x1).bind fun (r2:Int)=>
 bif r2 !=(0:Int) then
  some ((⟨(⟨(⟨(0:Int),(0:Int),[]⟩:ak),(0:Int),(0:Int),[],[]⟩:Book),r2⟩:bn))
 else
  some ((⟨(⟨x1,(0:Int),(0:Int),[],[]⟩:Book),(0:Int)⟩:bn)):=by kernel_rfl
noncomputable def JB (n:Nat) (x1:Book) (x2:Int) (m:Nat) (p:Int):Option (PUnit⊕Bool):=
 dA (R:=R) 2 (aJ ((aT Tryz.f193.body [1,0,1,0,0]).getD .skip)) (⟨[(1,TV.int IntKind.i64 x2),(2,TV.aK [TV.int IntKind.i64 x1.ak.gq,TV.int IntKind.i64 x1.ak.gY,TV.aj (T:=R.T) Cp.sh (Ty.st 7) x1.ak.Defs,TV.int IntKind.i64 x1.aI,TV.int IntKind.i64 x1.Day,TV.aj (T:=R.T) Cp.sh (Ty.int IntKind.i64) x1.bO,TV.aj (T:=R.T) Cp.sh (Ty.st 11) x1.Rows] 0)],[]⟩:MS R.T) (aU NS.loops 2).sh (aU NS.loops 2).outs (fun st k=>bA E R n false (NR n) aZ NS ((aT Tryz.f193.body [1,0,1,0,0]).getD .skip) st k) m p
theorem acL (n:Nat) (x1:Book) (x2:Int) (m:Nat) (x3:Int):JB n x1 x2 (m+1) x3=
 bif decide (x3< (((x1.Rows.length:Nat):Int))) then
  (aB x1.Rows x3).bind fun (r4:Row)=>
  bif r4.Entry.ID==x2 then
   some (.inr true)
  else
   JB n x1 x2 m (IntKind.wrap .i64 (x3+(1:Int)))
 else
  some (.inl (())):=by kernel_rfl
theorem an0 (n:Nat) (x1:Book) (x2:Int):Eb n (x1,x2)=
 (JB n x1 x2 n (0:Int)).bind fun (r5:PUnit⊕Bool)=>
 Sum.elim (fun (q6:PUnit)=>
  some false)
  (fun (q7:Bool)=>
   some q7) r5:=by kernel_rfl
noncomputable def yX (n:Nat) (x1:List Int) (m:Nat) (p:Int):Option (PUnit⊕Bool):=
 dA (R:=R) 2 (aJ ((aT Tryz.f214.body [1,0,1,0,0]).getD .skip)) (⟨[(0,TV.aj (T:=R.T) Cp.sh (Ty.int IntKind.i64) x1)],[]⟩:MS R.T) (aU NV.loops 2).sh (aU NV.loops 2).outs (fun st k=>bA E R n false (NU n) aZ NV ((aT Tryz.f214.body [1,0,1,0,0]).getD .skip) st k) m p
theorem acM (n:Nat) (x1:List Int) (m:Nat) (x2:Int):yX n x1 (m+1) x2=
 bif decide (x2< (((x1.length:Nat):Int))) then
  (aB x1 x2).bind fun (r3:Int)=>
  (iQ (!(decide (r3< (-1000:Int)))) (aB x1 x2) (0:Int)).bind fun (r4:Int)=>
  bif bif decide (r3< (-1000:Int)) then true else decide (r4> (1000:Int)) then
   some (.inr false)
  else
   yX n x1 m (IntKind.wrap .i64 (x2+(1:Int)))
 else
  some (.inl (())):=by kernel_rfl
theorem an1 (n:Nat) (x1:List Int):Ec n x1=
 (yX n x1 n (0:Int)).bind fun (r5:PUnit⊕Bool)=>
 Sum.elim (fun (q6:PUnit)=>
  some (bif decide ((((x1.length:Nat):Int))>=(1:Int)) then decide ((((x1.length:Nat):Int))<=(32:Int)) else false))
  (fun (q7:Bool)=>
   some q7) r5:=by kernel_rfl
noncomputable def JC (n:Nat) (x1:ak) (x2:List UInt8) (m:Nat) (p:Int):Option (PUnit⊕Int):=
 dA (R:=R) 2 (aJ ((aT Tryz.f221.body [1,0,1,0,0]).getD .skip)) (⟨[(1,TV.str x2),(2,TV.ref 2 0)],[(2,Ob.ro (Ob.cells [TV.int IntKind.i64 x1.gq,TV.int IntKind.i64 x1.gY,TV.aj (T:=R.T) Cp.sh (Ty.st 7) x1.Defs]))]⟩:MS R.T) (aU NZ.loops 2).sh (aU NZ.loops 2).outs (fun st k=>bA E R n false (NY n) aZ NZ ((aT Tryz.f221.body [1,0,1,0,0]).getD .skip) st k) m p
theorem acN (n:Nat) (x1:ak) (x2:List UInt8) (m:Nat) (x3:Int):JC n x1 x2 (m+1) x3=
 bif decide (x3< (((x1.Defs.length:Nat):Int))) then
  (aB x1.Defs x3).bind fun (r4:Def)=>
  bif r4.Name==x2 then
   some (.inr x3)
  else
   JC n x1 x2 m (IntKind.wrap .i64 (x3+(1:Int)))
 else
  some (.inl (())):=by kernel_rfl
theorem an2 (n:Nat) (x1:ak) (x2:List UInt8):Ed n (x1,x2)=
 (JC n x1 x2 n (0:Int)).bind fun (r5:PUnit⊕Int)=>
 Sum.elim (fun (q6:PUnit)=>
  some (-1:Int))
  (fun (q7:Int)=>
   some q7) r5:=by kernel_rfl
theorem an3 (n:Nat) (x1:Def) (x2:Attr):wE n (x1,x2)=
 bif x2.Kind !=x1.Kind then
  some (130:Int)
 else
  bif x2.Kind==(1:Int) then
   bif !(x2.S==[]) then
    some (3:Int)
   else
    bif bif decide (x2.N<x1.Lo) then true else decide (x2.N>x1.Hi) then
     some (131:Int)
    else
     some (0:Int)
  else
   bif x2.N !=(0:Int) then
    some (3:Int)
   else
    (yI n ((x1.Words,x2.S))).bind fun (r3:Bool)=>
    bif !r3 then
     some (131:Int)
    else
     some (0:Int):=by kernel_rfl
noncomputable def tV (n:Nat) (x1:ak) (x2:List Attr) (m:Nat) (p:Int):Option (PUnit⊕Int):=
 dA (R:=R) 2 (aJ ((aT Tryz.f215.body [1,0,1,0,0]).getD .skip)) (⟨[(1,TV.aj (T:=R.T) Cp.sh (Ty.st 9) x2),(2,TV.ref 2 0)],[(2,Ob.ro (Ob.cells [TV.int IntKind.i64 x1.gq,TV.int IntKind.i64 x1.gY,TV.aj (T:=R.T) Cp.sh (Ty.st 7) x1.Defs]))]⟩:MS R.T) (aU Oa.loops 2).sh (aU Oa.loops 2).outs (fun st k=>bA E R n false (N9 n) aZ Oa ((aT Tryz.f215.body [1,0,1,0,0]).getD .skip) st k) m p
theorem acO (n:Nat) (x1:ak) (x2:List Attr) (m:Nat) (x3:Int):tV n x1 x2 (m+1) x3=
 bif decide (x3< (((x2.length:Nat):Int))) then
  (aB x2 x3).bind fun (r4:Attr)=>
  (Ed n ((x1,r4.Name))).bind fun (r5:Int)=>
  bif decide (r5< (0:Int)) then
   some (.inr (5:Int))
  else
   bif decide (x3> (0:Int)) then
    (aB x2 x3).bind fun (r6:Attr)=>
    (aB x2 (IntKind.wrap .i64 (x3-(1:Int)))).bind fun (r7:Attr)=>
    bif (Go.Op.bytesLess r6.Name r7.Name)||(r6.Name==r7.Name) then
     some (.inr (6:Int))
    else
     (aB x1.Defs r5).bind fun (r8:Def)=>
     (aB x2 x3).bind fun (r9:Attr)=>
     (wE n ((r8,r9))).bind fun (bW:Int)=>
     bif bW !=(0:Int) then
      some (.inr bW)
     else
      tV n x1 x2 m (IntKind.wrap .i64 (x3+(1:Int)))
   else
    (aB x1.Defs r5).bind fun (dw:Def)=>
    (aB x2 x3).bind fun (gM:Attr)=>
    (wE n ((dw,gM))).bind fun (eG:Int)=>
    bif eG !=(0:Int) then
     some (.inr eG)
    else
     tV n x1 x2 m (IntKind.wrap .i64 (x3+(1:Int)))
 else
  some (.inl (())):=by kernel_rfl
theorem an4 (n:Nat) (x1:ak) (x2:List Attr):Ee n (x1,x2)=
 (tV n x1 x2 n (0:Int)).bind fun (iJ:PUnit⊕Int)=>
 Sum.elim (fun (q15:PUnit)=>
  some (0:Int))
  (fun (q16:Int)=>
   some q16) iJ:=by kernel_rfl
theorem an5 (n:Nat) (x1:ak) (x2:Entry):Ar n (x1,x2)=
 bif bif bif bif bif bif decide (x2.ID< (1:Int)) then true else decide (x2.ID> (1073741824:Int)) then true else decide (x2.bI< (1:Int)) then true else decide (x2.bI> (1073741824:Int)) then true else decide (x2.fI< (1:Int)) then true else decide (x2.fI> (1073741824:Int)) then
  some (1:Int)
 else
  bif bif bif bif bif bif bif decide (x2.iW< (0:Int)) then true else decide (x2.From<x2.iW) then true else decide (x2.To<=x2.From) then true else decide (x2.To> (1048577:Int)) then true else decide (x2.From> (1048576:Int)) then true else decide (x2.jv< (1:Int)) then true else decide (x2.jv> (1073741824:Int)) then
   some (9:Int)
  else
   (Ec n x2.Vec).bind fun (r3:Bool)=>
   bif bif !r3 then true else (((x2.Vec.length:Nat):Int)) !=x1.gq then
    some (40:Int)
   else
    (Ee n ((x1,x2.aM))).bind fun (r4:Int)=>
    some r4:=by kernel_rfl
noncomputable def EA (n:Nat) (x1:Book) (x2:Int) (m:Nat) (p:Int×Int):Option (Int):=
 dA (R:=R) 3 (aJ ((aT Tryz.f195.body [1,1,0,1,0,0]).getD .skip)) (⟨[(1,TV.int IntKind.i64 x2),(2,TV.aK [TV.int IntKind.i64 x1.ak.gq,TV.int IntKind.i64 x1.ak.gY,TV.aj (T:=R.T) Cp.sh (Ty.st 7) x1.ak.Defs,TV.int IntKind.i64 x1.aI,TV.int IntKind.i64 x1.Day,TV.aj (T:=R.T) Cp.sh (Ty.int IntKind.i64) x1.bO,TV.aj (T:=R.T) Cp.sh (Ty.st 11) x1.Rows] 0)],[]⟩:MS R.T) (aU Og.loops 3).sh (aU Og.loops 3).outs (fun st k=>bA E R n false (Oe n) aZ Og ((aT Tryz.f195.body [1,1,0,1,0,0]).getD .skip) st k) m p
theorem acP (n:Nat) (x1:Book) (x2:Int) (m:Nat) (x3:Int) (x4:Int):EA n x1 x2 (m+1) (x3,x4)=
 bif decide (x4< (((x1.Rows.length:Nat):Int))) then
  (aB x1.Rows x4).bind fun (r5:Row)=>
  bif r5.Entry.ID==x2 then
   (aB x1.Rows x4).bind fun (r6:Row)=>
   EA n x1 x2 m ((imax x3 r6.Entry.fI,IntKind.wrap .i64 (x4+(1:Int))))
  else
   EA n x1 x2 m ((x3,IntKind.wrap .i64 (x4+(1:Int))))
 else
  some x3:=by kernel_rfl
theorem an6 (n:Nat) (x1:Book) (x2:Int):Ef n (x1,x2)=
 (EA n x1 x2 n (((0:Int),(0:Int)))).bind fun (r7:Int)=>
 some r7:=by kernel_rfl
noncomputable def EB (n:Nat) (x2:Int) (x3:Int) (x4:Int) (m:Nat) (p:Int×List Row):Option (PUnit×List Row):=
 dA (R:=R) 3 (aJ ((aT Tryz.f196.body [1,1,0,1,0,0]).getD .skip)) (⟨[(1,TV.int IntKind.i64 x2),(2,TV.int IntKind.i64 x3),(3,TV.int IntKind.i64 x4),(9,TV.vw 13 (Ty.st 11))],[]⟩:MS R.T) (aU Oj.loops 3).sh (aU Oj.loops 3).outs (fun st k=>bA E R n true (Oi n) aZ Oj ((aT Tryz.f196.body [1,1,0,1,0,0]).getD .skip) st k) m p
theorem acQ (n:Nat) (x2:Int) (x3:Int) (x4:Int) (m:Nat) (x5:Int) (x6:List Row):EB n x2 x3 x4 (m+1) (x5,x6)=
 bif decide (x5< (((x6.length:Nat):Int))) then
  bif decide (0<=x5/\x5< ((x6.length:Nat):Int)) then
   (aB x6 x5).bind fun (r7:Row)=>
   bif Gi (r7.Entry.ID==x2) (decide (0<=x5/\x5< ((x6.length:Nat):Int))) then
    (iQ (r7.Entry.ID==x2) (aB x6 x5) ((⟨(⟨(0:Int),(0:Int),(0:Int),(0:Int),(0:Int),(0:Int),(0:Int),[],[]⟩:Entry),(0:Int)⟩:Row))).bind fun (r8:Row)=>
    bif Gi (bif r7.Entry.ID==x2 then r8.Entry.From==x3 else false) (decide (0<=x5/\x5< ((x6.length:Nat):Int))) then
     (iQ (bif r7.Entry.ID==x2 then r8.Entry.From==x3 else false) (aB x6 x5) ((⟨(⟨(0:Int),(0:Int),(0:Int),(0:Int),(0:Int),(0:Int),(0:Int),[],[]⟩:Entry),(0:Int)⟩:Row))).bind fun (r9:Row)=>
     bif Gi (bif bif r7.Entry.ID==x2 then r8.Entry.From==x3 else false then r9.dI==(0:Int) else false) (decide (0<=x5/\x5< ((x6.length:Nat):Int))) then
      (iQ (bif bif r7.Entry.ID==x2 then r8.Entry.From==x3 else false then r9.dI==(0:Int) else false) (aB x6 x5) ((⟨(⟨(0:Int),(0:Int),(0:Int),(0:Int),(0:Int),(0:Int),(0:Int),[],[]⟩:Entry),(0:Int)⟩:Row))).bind fun (bW:Row)=>
      bif bif bif bif r7.Entry.ID==x2 then r8.Entry.From==x3 else false then r9.dI==(0:Int) else false then decide (bW.Entry.jv<x4) else false then
       bif decide (0<=x5/\x5< ((x6.length:Nat):Int)) then
        (aB x6 x5).bind fun (dw:Row)=>
        EB n x2 x3 x4 m ((IntKind.wrap .i64 (x5+(1:Int)),aW x6 x5 ((⟨dw.Entry,x4⟩:Row))))
       else
        none
      else
       EB n x2 x3 x4 m ((IntKind.wrap .i64 (x5+(1:Int)),x6))
     else
      none
    else
     none
   else
    none
  else
   none
 else
  some (((),x6)):=by kernel_rfl
theorem an7 (n:Nat) (x1:List Row) (x2:Int) (x3:Int) (x4:Int):Au n (x1,(x2,(x3,x4)))=
 bif bJ x1.length 112 then
  (EB n x2 x3 x4 n (((0:Int),x1))).bind fun (gM:PUnit×List Row)=>
  some gM.2
 else
  none:=by kernel_rfl
noncomputable def sG (n:Nat) (x1:Book) (x2:Event) (x3:List Row) (x4:List bS) (x5:Entry) (m:Nat) (p:Int×(List Row)×(List Row)×Int):Option (Int×(List Row)×List Row):=
 dA (R:=R) 5 (aJ ((aT Tryz.f162.body [1,1,1,1,0,1,0,0]).getD .skip)) (⟨[(2,TV.aj (T:=R.T) Cp.sh (Ty.st 11) x3),(3,TV.aj (T:=R.T) Cp.sh (Ty.st 22) x4),(5,TV.aK [TV.int IntKind.i64 x1.ak.gq,TV.int IntKind.i64 x1.ak.gY,TV.aj (T:=R.T) Cp.sh (Ty.st 7) x1.ak.Defs,TV.int IntKind.i64 x1.aI,TV.int IntKind.i64 x1.Day,TV.aj (T:=R.T) Cp.sh (Ty.int IntKind.i64) x1.bO,TV.aj (T:=R.T) Cp.sh (Ty.st 11) x1.Rows] 0),(6,TV.ref 6 0),(9,TV.ref 9 0),(10,TV.ref 10 0)],[(6,Ob.ro (Ob.cells [TV.int IntKind.i64 x2.Kind,TV.int IntKind.i64 x2.aI,TV.int IntKind.i64 x2.Day,TV.int IntKind.i64 x2.ID,TV.int IntKind.i64 x2.bI,TV.int IntKind.i64 x2.Until,TV.int IntKind.i64 x2.From,TV.aj (T:=R.T) Cp.sh (Ty.int IntKind.i64) x2.Vec,TV.aj (T:=R.T) Cp.sh (Ty.st 9) x2.aM,TV.int IntKind.u8 x2.aL.b0,TV.int IntKind.u8 x2.aL.b1,TV.int IntKind.u8 x2.aL.b2,TV.int IntKind.u8 x2.aL.b3,TV.int IntKind.u8 x2.aL.b4,TV.int IntKind.u8 x2.aL.b5,TV.int IntKind.u8 x2.aL.b6,TV.int IntKind.u8 x2.aL.b7,TV.int IntKind.u8 x2.aL.b8,TV.int IntKind.u8 x2.aL.b9,TV.int IntKind.u8 x2.aL.b10,TV.int IntKind.u8 x2.aL.b11,TV.int IntKind.u8 x2.aL.b12,TV.int IntKind.u8 x2.aL.b13,TV.int IntKind.u8 x2.aL.b14,TV.int IntKind.u8 x2.aL.b15])),(9,Ob.ro (Ob.cells [TV.int IntKind.i64 x5.ID,TV.int IntKind.i64 x5.fI,TV.int IntKind.i64 x5.bI,TV.int IntKind.i64 x5.iW,TV.int IntKind.i64 x5.From,TV.int IntKind.i64 x5.To,TV.int IntKind.i64 x5.jv,TV.aj (T:=R.T) Cp.sh (Ty.int IntKind.i64) x5.Vec,TV.aj (T:=R.T) Cp.sh (Ty.st 9) x5.aM])),(10,Ob.ro (Ob.cells [TV.int IntKind.i64 (0:Int),TV.int IntKind.i64 (0:Int),TV.dX,TV.int IntKind.i64 (0:Int),TV.int IntKind.i64 (0:Int),TV.dX,TV.dX,TV.int IntKind.i64 (0:Int)]))]⟩:MS R.T) (aU Oo.loops 5).sh (aU Oo.loops 5).outs (fun st k=>bA E R n false (Om n) aZ Oo ((aT Tryz.f162.body [1,1,1,1,0,1,0,0]).getD .skip) st k) m p
theorem U6 (n:Nat) (x1:Book) (x2:Event) (x3:List Row) (x4:List bS) (x5:Entry) (m:Nat) (x7:Int) (x8:List Row) (x9:List Row) (x10:Int):sG n x1 x2 x3 x4 x5 (m+1) (x7,(x8,(x9,x10)))=
 bif decide (x10< (((x3.length:Nat):Int))) then
  (aB x3 x10).bind fun (dw:Row)=>
  (aB x4 x10).bind fun (gM:bS)=>
  bif gM.from_==dw.Entry.From then
   (aB x4 x10).bind fun (eG:bS)=>
   bif eG.to==dw.Entry.To then
    sG n x1 x2 x3 x4 x5 m ((x7,(x8,(x9,IntKind.wrap .i64 (x10+(1:Int))))))
   else
    (Au n ((x8,(x2.ID,(dw.Entry.From,x2.aI))))).bind fun (iJ:List Row)=>
    (aB x4 x10).bind fun (jD:bS)=>
    (aB x4 x10).bind fun (r16:bS)=>
    bif decide (jD.from_<r16.to) then
     (aB x4 x10).bind fun (oU:bS)=>
     (aB x4 x10).bind fun (wM:bS)=>
     bif bJ (x9.length+([(⟨(⟨dw.Entry.ID,IntKind.wrap .i64 (x7+(1:Int)),dw.Entry.bI,dw.Entry.iW,oU.from_,wM.to,x2.aI,dw.Entry.Vec,dw.Entry.aM⟩:Entry),(0:Int)⟩:Row)].length)) 112 then
      sG n x1 x2 x3 x4 x5 m ((IntKind.wrap .i64 (x7+(1:Int)),(iJ,(x9++[(⟨(⟨dw.Entry.ID,IntKind.wrap .i64 (x7+(1:Int)),dw.Entry.bI,dw.Entry.iW,oU.from_,wM.to,x2.aI,dw.Entry.Vec,dw.Entry.aM⟩:Entry),(0:Int)⟩:Row)],IntKind.wrap .i64 (x10+(1:Int))))))
     else
      none
    else
     sG n x1 x2 x3 x4 x5 m ((x7,(iJ,(x9,IntKind.wrap .i64 (x10+(1:Int))))))
  else
   (Au n ((x8,(x2.ID,(dw.Entry.From,x2.aI))))).bind fun (jE:List Row)=>
   (aB x4 x10).bind fun (AL:bS)=>
   (aB x4 x10).bind fun (wN:bS)=>
   bif decide (AL.from_<wN.to) then
    (aB x4 x10).bind fun (uY:bS)=>
    (aB x4 x10).bind fun (kS:bS)=>
    bif bJ (x9.length+([(⟨(⟨dw.Entry.ID,IntKind.wrap .i64 (x7+(1:Int)),dw.Entry.bI,dw.Entry.iW,uY.from_,kS.to,x2.aI,dw.Entry.Vec,dw.Entry.aM⟩:Entry),(0:Int)⟩:Row)].length)) 112 then
     sG n x1 x2 x3 x4 x5 m ((IntKind.wrap .i64 (x7+(1:Int)),(jE,(x9++[(⟨(⟨dw.Entry.ID,IntKind.wrap .i64 (x7+(1:Int)),dw.Entry.bI,dw.Entry.iW,uY.from_,kS.to,x2.aI,dw.Entry.Vec,dw.Entry.aM⟩:Entry),(0:Int)⟩:Row)],IntKind.wrap .i64 (x10+(1:Int))))))
    else
     none
   else
    sG n x1 x2 x3 x4 x5 m ((x7,(jE,(x9,IntKind.wrap .i64 (x10+(1:Int))))))
 else
  some ((x7,(x8,x9))):=by kernel_rfl
theorem an8 (n:Nat) (x1:Book) (x2:Event) (x3:List Row) (x4:List bS) (x5:Entry):uR n (x1,(x2,(x3,(x4,x5))))=
 (Ef n ((x1,x2.ID))).bind fun (r6:Int)=>
 (sG n x1 x2 x3 x4 x5 n ((r6,(x1.Rows,([],(0:Int)))))).bind fun (lU:Int×(List Row)×List Row)=>
 bif x5.ID !=(0:Int) then
  (Ar n ((x1.ak,(⟨x5.ID,IntKind.wrap .i64 (lU.1+(1:Int)),x5.bI,x5.iW,x5.From,x5.To,x5.jv,x5.Vec,x5.aM⟩:Entry)))).bind fun (r25:Int)=>
  bif r25 !=(0:Int) then
   some ((⟨x1,r25⟩:bn))
  else
   bif bJ (lU.2.2.length+([(⟨(⟨x5.ID,IntKind.wrap .i64 (lU.1+(1:Int)),x5.bI,x5.iW,x5.From,x5.To,x5.jv,x5.Vec,x5.aM⟩:Entry),(0:Int)⟩:Row)].length)) 112 then
    bif decide ((IntKind.wrap .i64 ((((lU.2.1.length:Nat):Int))+((((lU.2.2++[(⟨(⟨x5.ID,IntKind.wrap .i64 (lU.1+(1:Int)),x5.bI,x5.iW,x5.From,x5.To,x5.jv,x5.Vec,x5.aM⟩:Entry),(0:Int)⟩:Row)]).length:Nat):Int))))> (65536:Int)) then
     some ((⟨x1,(2:Int)⟩:bn))
    else
     bif bJ (((0:Nat))+x1.bO.length) 8 then
      bif bJ ((([]++x1.bO).length)+([x2.Day].length)) 8 then
       bif bJ (((0:Nat))+lU.2.1.length) 112 then
        bif bJ ((([]++lU.2.1).length)+((lU.2.2++[(⟨(⟨x5.ID,IntKind.wrap .i64 (lU.1+(1:Int)),x5.bI,x5.iW,x5.From,x5.To,x5.jv,x5.Vec,x5.aM⟩:Entry),(0:Int)⟩:Row)]).length)) 112 then
         some ((⟨(⟨x1.ak,x2.aI,x2.Day,([]++x1.bO)++[x2.Day],([]++lU.2.1)++(lU.2.2++[(⟨(⟨x5.ID,IntKind.wrap .i64 (lU.1+(1:Int)),x5.bI,x5.iW,x5.From,x5.To,x5.jv,x5.Vec,x5.aM⟩:Entry),(0:Int)⟩:Row)])⟩:Book),(0:Int)⟩:bn))
        else
         none
       else
        none
      else
       none
     else
      none
   else
    none
 else
  bif decide ((IntKind.wrap .i64 ((((lU.2.1.length:Nat):Int))+(((lU.2.2.length:Nat):Int))))> (65536:Int)) then
   some ((⟨x1,(2:Int)⟩:bn))
  else
   bif bJ (((0:Nat))+x1.bO.length) 8 then
    bif bJ ((([]++x1.bO).length)+([x2.Day].length)) 8 then
     bif bJ (((0:Nat))+lU.2.1.length) 112 then
      bif bJ ((([]++lU.2.1).length)+lU.2.2.length) 112 then
       some ((⟨(⟨x1.ak,x2.aI,x2.Day,([]++x1.bO)++[x2.Day],([]++lU.2.1)++lU.2.2⟩:Book),(0:Int)⟩:bn))
      else
       none
     else
      none
    else
     none
   else
    none:=by kernel_rfl
theorem an9 (n:Nat) (x1:Book) (x2:Event):Eh n (x1,x2)=
 (Eb n ((x1,x2.ID))).bind fun (r3:Bool)=>
 bif r3 then
  some ((⟨x1,(6:Int)⟩:bn))
 else
  (Ar n ((x1.ak,(⟨x2.ID,(1:Int),x2.bI,x2.Day,x2.Until,(1048577:Int),x2.aI,x2.Vec,x2.aM⟩:Entry)))).bind fun (r4:Int)=>
  bif r4 !=(0:Int) then
   some ((⟨x1,r4⟩:bn))
  else
   (uR n ((x1,(x2,([],([],(⟨x2.ID,(1:Int),x2.bI,x2.Day,x2.Until,(1048577:Int),x2.aI,x2.Vec,x2.aM⟩:Entry))))))).bind fun (r5:bn)=>
   some r5:=by kernel_rfl
noncomputable def JD (n:Nat) (x1:Book) (x2:Int) (x3:Int) (m:Nat) (p:Int×List Row):Option (Int×List Row):=
 dA (R:=R) 8 (aJ ((aT Tryz.f163.body [1,1,0,1,0,0,1,0,0,1,0,1,1,0,0,0]).getD .skip)) (⟨[(1,TV.int IntKind.i64 x2),(2,TV.aK [TV.int IntKind.i64 x1.ak.gq,TV.int IntKind.i64 x1.ak.gY,TV.aj (T:=R.T) Cp.sh (Ty.st 7) x1.ak.Defs,TV.int IntKind.i64 x1.aI,TV.int IntKind.i64 x1.Day,TV.aj (T:=R.T) Cp.sh (Ty.int IntKind.i64) x1.bO,TV.aj (T:=R.T) Cp.sh (Ty.st 11) x1.Rows] 0),(5,TV.vw 42 (Ty.st 11)),(6,TV.int IntKind.i64 x3)],[]⟩:MS R.T) (aU Av.loops 8).sh (aU Av.loops 8).outs (fun st k=>bA E R n true (IE n) aZ Av ((aT Tryz.f163.body [1,1,0,1,0,0,1,0,0,1,0,1,1,0,0,0]).getD .skip) st k) m p
noncomputable def AO (n:Nat) (x1:Book) (x2:Int) (m:Nat) (p:(PUnit×Int)×List Row):Option (PUnit×List Row):=
 dA (R:=R) 3 (aJ ((aT Tryz.f163.body [1,1,0,1,0,0]).getD .skip)) (⟨[(1,TV.int IntKind.i64 x2),(2,TV.aK [TV.int IntKind.i64 x1.ak.gq,TV.int IntKind.i64 x1.ak.gY,TV.aj (T:=R.T) Cp.sh (Ty.st 7) x1.ak.Defs,TV.int IntKind.i64 x1.aI,TV.int IntKind.i64 x1.Day,TV.aj (T:=R.T) Cp.sh (Ty.int IntKind.i64) x1.bO,TV.aj (T:=R.T) Cp.sh (Ty.st 11) x1.Rows] 0)],[]⟩:MS R.T) (aU Av.loops 3).sh (aU Av.loops 3).outs (fun st k=>bA E R n true (IE n) aZ Av ((aT Tryz.f163.body [1,1,0,1,0,0]).getD .skip) st k) m p
theorem acS (n:Nat) (x1:Book) (x2:Int) (x3:Int) (m:Nat) (x8:Int) (x9:List Row):JD n x1 x2 x3 (m+1) (x8,x9)=
 bif decide (x8> (0:Int)) then
  bif decide (0<=(IntKind.wrap .i64 (x8-(1:Int)))/\(IntKind.wrap .i64 (x8-(1:Int)))< ((x9.length:Nat):Int)) then
   (aB x9 (IntKind.wrap .i64 (x8-(1:Int)))).bind fun (bW:Row)=>
   (aB x1.Rows x3).bind fun (dw:Row)=>
   bif decide (bW.Entry.From>dw.Entry.From) then
    bif decide (0<=(IntKind.wrap .i64 (x8-(1:Int)))/\(IntKind.wrap .i64 (x8-(1:Int)))< ((x9.length:Nat):Int)) then
     (aB x9 (IntKind.wrap .i64 (x8-(1:Int)))).bind fun (gM:Row)=>
     bif decide (0<=x8/\x8< ((x9.length:Nat):Int)) then
      (aB x9 x8).bind fun (eG:Row)=>
      JD n x1 x2 x3 m ((IntKind.wrap .i64 (x8-(1:Int)),aW x9 x8 gM))
     else
      none
    else
     none
   else
    some ((x8,x9))
  else
   none
 else
  some ((x8,x9)):=by kernel_rfl
theorem acT (n:Nat) (x1:Book) (x2:Int) (m:Nat) (x3:Int) (x4:List Row):AO n x1 x2 (m+1) (((),x3),x4)=
 bif decide (x3< (((x1.Rows.length:Nat):Int))) then
  (aB x1.Rows x3).bind fun (r5:Row)=>
  (iQ (r5.Entry.ID==x2) (aB x1.Rows x3) ((⟨(⟨(0:Int),(0:Int),(0:Int),(0:Int),(0:Int),(0:Int),(0:Int),[],[]⟩:Entry),(0:Int)⟩:Row))).bind fun (r6:Row)=>
  bif bif r5.Entry.ID==x2 then r6.dI==(0:Int) else false then
   (aB x1.Rows x3).bind fun (r7:Row)=>
   bif bJ (x4.length+([r7].length)) 112 then
    (JD n x1 x2 x3 n ((((x4.length:Nat):Int),x4++[r7]))).bind fun (iJ:Int×List Row)=>
    (aB x1.Rows x3).bind fun (jD:Row)=>
    bif decide (0<=iJ.1/\iJ.1< ((iJ.2.length:Nat):Int)) then
     (aB iJ.2 iJ.1).bind fun (r16:Row)=>
     AO n x1 x2 m ((((),IntKind.wrap .i64 (x3+(1:Int))),aW iJ.2 iJ.1 jD))
    else
     none
   else
    none
  else
   AO n x1 x2 m ((((),IntKind.wrap .i64 (x3+(1:Int))),x4))
 else
  some (((),x4)):=by kernel_rfl
theorem aoa (n:Nat) (x1:Book) (x2:Int):wF n (x1,x2)=
 (AO n x1 x2 n ((((),(0:Int)),[]))).bind fun (oU:PUnit×List Row)=>
 some oU.2:=by kernel_rfl
theorem aob (n:Nat) (x1:List Row):uS n x1=
 (aB x1 (IntKind.wrap .i64 ((((x1.length:Nat):Int))-(1:Int)))).bind fun (r2:Row)=>
 some r2.Entry.To:=by kernel_rfl
noncomputable def AP (n:Nat) (x1:Book) (x2:Event) (x3:List Row) (r4:Row) (m:Nat) (p:(List bS)×Int):Option (List bS):=
 dA (R:=R) 6 (aJ ((aT Tryz.f164.body [1,1,1,1,0,1,0,0]).getD .skip)) (⟨[(2,TV.aj (T:=R.T) Cp.sh (Ty.st 11) x3),(3,TV.aK [TV.int IntKind.i64 x1.ak.gq,TV.int IntKind.i64 x1.ak.gY,TV.aj (T:=R.T) Cp.sh (Ty.st 7) x1.ak.Defs,TV.int IntKind.i64 x1.aI,TV.int IntKind.i64 x1.Day,TV.aj (T:=R.T) Cp.sh (Ty.int IntKind.i64) x1.bO,TV.aj (T:=R.T) Cp.sh (Ty.st 11) x1.Rows] 0),(4,TV.ref 4 0),(6,TV.ref 6 0),(7,TV.int IntKind.i64 (imax x2.From r4.Entry.From))],[(4,Ob.ro (Ob.cells [TV.int IntKind.i64 x2.Kind,TV.int IntKind.i64 x2.aI,TV.int IntKind.i64 x2.Day,TV.int IntKind.i64 x2.ID,TV.int IntKind.i64 x2.bI,TV.int IntKind.i64 x2.Until,TV.int IntKind.i64 x2.From,TV.aj (T:=R.T) Cp.sh (Ty.int IntKind.i64) x2.Vec,TV.aj (T:=R.T) Cp.sh (Ty.st 9) x2.aM,TV.int IntKind.u8 x2.aL.b0,TV.int IntKind.u8 x2.aL.b1,TV.int IntKind.u8 x2.aL.b2,TV.int IntKind.u8 x2.aL.b3,TV.int IntKind.u8 x2.aL.b4,TV.int IntKind.u8 x2.aL.b5,TV.int IntKind.u8 x2.aL.b6,TV.int IntKind.u8 x2.aL.b7,TV.int IntKind.u8 x2.aL.b8,TV.int IntKind.u8 x2.aL.b9,TV.int IntKind.u8 x2.aL.b10,TV.int IntKind.u8 x2.aL.b11,TV.int IntKind.u8 x2.aL.b12,TV.int IntKind.u8 x2.aL.b13,TV.int IntKind.u8 x2.aL.b14,TV.int IntKind.u8 x2.aL.b15])),(6,Ob.ro (Ob.cells [TV.int IntKind.i64 (0:Int),TV.int IntKind.i64 (0:Int),TV.dX,TV.int IntKind.i64 (0:Int),TV.int IntKind.i64 (0:Int),TV.dX,TV.dX,TV.int IntKind.i64 (0:Int)]))]⟩:MS R.T) (aU Ox.loops 6).sh (aU Ox.loops 6).outs (fun st k=>bA E R n false (Ow n) aZ Ox ((aT Tryz.f164.body [1,1,1,1,0,1,0,0]).getD .skip) st k) m p
theorem acU (n:Nat) (x1:Book) (x2:Event) (x3:List Row) (r4:Row) (m:Nat) (x6:List bS) (x7:Int):AP n x1 x2 x3 r4 (m+1) (x6,x7)=
 bif decide (x7< (((x3.length:Nat):Int))) then
  (aB x3 x7).bind fun (r8:Row)=>
  bif bJ (x6.length+([(⟨r8.Entry.From,rM r8.Entry.To (imax (imax x2.From r4.Entry.From) r8.Entry.From)⟩:bS)].length)) 16 then
   AP n x1 x2 x3 r4 m ((x6++[(⟨r8.Entry.From,rM r8.Entry.To (imax (imax x2.From r4.Entry.From) r8.Entry.From)⟩:bS)],IntKind.wrap .i64 (x7+(1:Int))))
  else
   none
 else
  some x6:=by kernel_rfl
theorem aoc (n:Nat) (x1:Book) (x2:Event) (x3:List Row):wG n (x1,(x2,x3))=
 (aB x3 (0:Int)).bind fun (r4:Row)=>
 (iQ (!(decide (x2.From< (0:Int)))) (uS n x3) (0:Int)).bind fun (r5:Int)=>
 bif bif decide (x2.From< (0:Int)) then true else decide ((imax x2.From r4.Entry.From)>=r5) then
  some ((⟨x1,(9:Int)⟩:bn))
 else
  (AP n x1 x2 x3 r4 n (([],(0:Int)))).bind fun (r9:List bS)=>
  (aB x3 (0:Int)).bind fun (bW:Row)=>
  (uS n x3).bind fun (dw:Int)=>
  (uR n ((x1,(x2,(x3,(r9,(⟨bW.Entry.ID,bW.Entry.fI,bW.Entry.bI,bW.Entry.iW,imax x2.From r4.Entry.From,dw,x2.aI,x2.Vec,x2.aM⟩:Entry))))))).bind fun (gM:bn)=>
  some gM:=by kernel_rfl
noncomputable def AQ (n:Nat) (x1:Book) (x2:Event) (x3:List Row) (m:Nat) (p:(List bS)×Int):Option (List bS):=
 dA (R:=R) 5 (aJ ((aT Tryz.f165.body [1,1,1,0,1,0,0]).getD .skip)) (⟨[(2,TV.aj (T:=R.T) Cp.sh (Ty.st 11) x3),(3,TV.aK [TV.int IntKind.i64 x1.ak.gq,TV.int IntKind.i64 x1.ak.gY,TV.aj (T:=R.T) Cp.sh (Ty.st 7) x1.ak.Defs,TV.int IntKind.i64 x1.aI,TV.int IntKind.i64 x1.Day,TV.aj (T:=R.T) Cp.sh (Ty.int IntKind.i64) x1.bO,TV.aj (T:=R.T) Cp.sh (Ty.st 11) x1.Rows] 0),(4,TV.ref 4 0),(6,TV.ref 6 0)],[(4,Ob.ro (Ob.cells [TV.int IntKind.i64 x2.Kind,TV.int IntKind.i64 x2.aI,TV.int IntKind.i64 x2.Day,TV.int IntKind.i64 x2.ID,TV.int IntKind.i64 x2.bI,TV.int IntKind.i64 x2.Until,TV.int IntKind.i64 x2.From,TV.aj (T:=R.T) Cp.sh (Ty.int IntKind.i64) x2.Vec,TV.aj (T:=R.T) Cp.sh (Ty.st 9) x2.aM,TV.int IntKind.u8 x2.aL.b0,TV.int IntKind.u8 x2.aL.b1,TV.int IntKind.u8 x2.aL.b2,TV.int IntKind.u8 x2.aL.b3,TV.int IntKind.u8 x2.aL.b4,TV.int IntKind.u8 x2.aL.b5,TV.int IntKind.u8 x2.aL.b6,TV.int IntKind.u8 x2.aL.b7,TV.int IntKind.u8 x2.aL.b8,TV.int IntKind.u8 x2.aL.b9,TV.int IntKind.u8 x2.aL.b10,TV.int IntKind.u8 x2.aL.b11,TV.int IntKind.u8 x2.aL.b12,TV.int IntKind.u8 x2.aL.b13,TV.int IntKind.u8 x2.aL.b14,TV.int IntKind.u8 x2.aL.b15])),(6,Ob.ro (Ob.cells [TV.int IntKind.i64 (0:Int),TV.int IntKind.i64 (0:Int),TV.dX,TV.int IntKind.i64 (0:Int),TV.int IntKind.i64 (0:Int),TV.dX,TV.dX,TV.int IntKind.i64 (0:Int)]))]⟩:MS R.T) (aU OA.loops 5).sh (aU OA.loops 5).outs (fun st k=>bA E R n false (Oz n) aZ OA ((aT Tryz.f165.body [1,1,1,0,1,0,0]).getD .skip) st k) m p
theorem acV (n:Nat) (x1:Book) (x2:Event) (x3:List Row) (m:Nat) (x5:List bS) (x6:Int):AQ n x1 x2 x3 (m+1) (x5,x6)=
 bif decide (x6< (((x3.length:Nat):Int))) then
  (aB x3 x6).bind fun (r7:Row)=>
  bif bJ (x5.length+([(⟨r7.Entry.From,rM r7.Entry.To (imax x2.From r7.Entry.From)⟩:bS)].length)) 16 then
   AQ n x1 x2 x3 m ((x5++[(⟨r7.Entry.From,rM r7.Entry.To (imax x2.From r7.Entry.From)⟩:bS)],IntKind.wrap .i64 (x6+(1:Int))))
  else
   none
 else
  some x5:=by kernel_rfl
theorem aod (n:Nat) (x1:Book) (x2:Event) (x3:List Row):wH n (x1,(x2,x3))=
 bif !(decide (x2.From< (0:Int))) then
  (uS n x3).bind fun (r4:Int)=>
  bif decide (x2.From>=r4) then
   some ((⟨x1,(9:Int)⟩:bn))
  else
   (AQ n x1 x2 x3 n (([],(0:Int)))).bind fun (r8:List bS)=>
   (uR n ((x1,(x2,(x3,(r8,(⟨(0:Int),(0:Int),(0:Int),(0:Int),(0:Int),(0:Int),(0:Int),[],[]⟩:Entry))))))).bind fun (r9:bn)=>
   some r9
 else
  some ((⟨x1,(9:Int)⟩:bn)):=by kernel_rfl
noncomputable def yY (n:Nat) (x1:Book) (x2:Event) (x3:List Row) (r4:Row) (m:Nat) (p:(List bS)×Int):Option (List bS):=
 dA (R:=R) 8 (aJ ((aT Tryz.f166.body [1,1,1,1,1,0,1,0,0]).getD .skip)) (⟨[(2,TV.aj (T:=R.T) Cp.sh (Ty.st 11) x3),(3,TV.aK [TV.int IntKind.i64 x1.ak.gq,TV.int IntKind.i64 x1.ak.gY,TV.aj (T:=R.T) Cp.sh (Ty.st 7) x1.ak.Defs,TV.int IntKind.i64 x1.aI,TV.int IntKind.i64 x1.Day,TV.aj (T:=R.T) Cp.sh (Ty.int IntKind.i64) x1.bO,TV.aj (T:=R.T) Cp.sh (Ty.st 11) x1.Rows] 0),(4,TV.ref 4 0),(6,TV.ref 6 0),(7,TV.int IntKind.i64 r4.Entry.From)],[(4,Ob.ro (Ob.cells [TV.int IntKind.i64 x2.Kind,TV.int IntKind.i64 x2.aI,TV.int IntKind.i64 x2.Day,TV.int IntKind.i64 x2.ID,TV.int IntKind.i64 x2.bI,TV.int IntKind.i64 x2.Until,TV.int IntKind.i64 x2.From,TV.aj (T:=R.T) Cp.sh (Ty.int IntKind.i64) x2.Vec,TV.aj (T:=R.T) Cp.sh (Ty.st 9) x2.aM,TV.int IntKind.u8 x2.aL.b0,TV.int IntKind.u8 x2.aL.b1,TV.int IntKind.u8 x2.aL.b2,TV.int IntKind.u8 x2.aL.b3,TV.int IntKind.u8 x2.aL.b4,TV.int IntKind.u8 x2.aL.b5,TV.int IntKind.u8 x2.aL.b6,TV.int IntKind.u8 x2.aL.b7,TV.int IntKind.u8 x2.aL.b8,TV.int IntKind.u8 x2.aL.b9,TV.int IntKind.u8 x2.aL.b10,TV.int IntKind.u8 x2.aL.b11,TV.int IntKind.u8 x2.aL.b12,TV.int IntKind.u8 x2.aL.b13,TV.int IntKind.u8 x2.aL.b14,TV.int IntKind.u8 x2.aL.b15])),(6,Ob.ro (Ob.cells [TV.int IntKind.i64 (0:Int),TV.int IntKind.i64 (0:Int),TV.dX,TV.int IntKind.i64 (0:Int),TV.int IntKind.i64 (0:Int),TV.dX,TV.dX,TV.int IntKind.i64 (0:Int)]))]⟩:MS R.T) (aU OD.loops 8).sh (aU OD.loops 8).outs (fun st k=>bA E R n false (OC n) aZ OD ((aT Tryz.f166.body [1,1,1,1,1,0,1,0,0]).getD .skip) st k) m p
theorem acW (n:Nat) (x1:Book) (x2:Event) (x3:List Row) (r4:Row) (m:Nat) (x6:List bS) (x7:Int):yY n x1 x2 x3 r4 (m+1) (x6,x7)=
 bif decide (x7< (((x3.length:Nat):Int))) then
  (aB x3 x7).bind fun (r8:Row)=>
  bif bif x7==(0:Int) then decide (x2.Until<r4.Entry.From) else false then
   bif bJ (x6.length+([(⟨x2.Until,r8.Entry.To⟩:bS)].length)) 16 then
    yY n x1 x2 x3 r4 m ((x6++[(⟨x2.Until,r8.Entry.To⟩:bS)],IntKind.wrap .i64 (x7+(1:Int))))
   else
    none
  else
   bif bJ (x6.length+([(⟨imax r8.Entry.From (rM x2.Until r8.Entry.To),r8.Entry.To⟩:bS)].length)) 16 then
    yY n x1 x2 x3 r4 m ((x6++[(⟨imax r8.Entry.From (rM x2.Until r8.Entry.To),r8.Entry.To⟩:bS)],IntKind.wrap .i64 (x7+(1:Int))))
   else
    none
 else
  some x6:=by kernel_rfl
theorem aoe (n:Nat) (x1:Book) (x2:Event) (x3:List Row):wI n (x1,(x2,x3))=
 (aB x3 (0:Int)).bind fun (r4:Row)=>
 bif bif decide (r4.Entry.From<=x2.Day) then true else r4.Entry.From==x2.Until then
  some ((⟨x1,(4:Int)⟩:bn))
 else
  bif !(decide (x2.Until<x2.Day)) then
   (uS n x3).bind fun (r5:Int)=>
   bif decide (x2.Until>=r5) then
    some ((⟨x1,(9:Int)⟩:bn))
   else
    (yY n x1 x2 x3 r4 n (([],(0:Int)))).bind fun (r9:List bS)=>
    (uR n ((x1,(x2,(x3,(r9,(⟨(0:Int),(0:Int),(0:Int),(0:Int),(0:Int),(0:Int),(0:Int),[],[]⟩:Entry))))))).bind fun (bW:bn)=>
    some bW
  else
   some ((⟨x1,(9:Int)⟩:bn)):=by kernel_rfl
theorem aof (n:Nat) (x1:Book) (x2:Event):Aw n (x1,x2)=
 bif bif bif bif x2.aI !=(IntKind.wrap .i64 (x1.aI+(1:Int))) then true else decide (x2.aI> (1073741824:Int)) then true else decide (x2.Day<x1.Day) then true else decide (x2.Day> (1048576:Int)) then
  some ((⟨x1,(9:Int)⟩:bn))
 else
  bif x2.Kind==(1:Int) then
   (Eh n ((x1,x2))).bind fun (r3:bn)=>
   some r3
  else
   bif x2.Kind==(5:Int) then
    (uR n ((x1,(x2,([],([],(⟨(0:Int),(0:Int),(0:Int),(0:Int),(0:Int),(0:Int),(0:Int),[],[]⟩:Entry))))))).bind fun (r4:bn)=>
    some r4
   else
    bif x2.Kind==(2:Int) then
     (wF n ((x1,x2.ID))).bind fun (r5:List Row)=>
     bif (((r5.length:Nat):Int))==(0:Int) then
      some ((⟨x1,(5:Int)⟩:bn))
     else
      bif x2.Kind==(2:Int) then
       (wG n ((x1,(x2,r5)))).bind fun (r6:bn)=>
       some r6
      else
       bif x2.Kind==(3:Int) then
        (wH n ((x1,(x2,r5)))).bind fun (r7:bn)=>
        some r7
       else
        (wI n ((x1,(x2,r5)))).bind fun (r8:bn)=>
        some r8
    else
     bif x2.Kind==(3:Int) then
      (wF n ((x1,x2.ID))).bind fun (r9:List Row)=>
      bif (((r9.length:Nat):Int))==(0:Int) then
       some ((⟨x1,(5:Int)⟩:bn))
      else
       bif x2.Kind==(2:Int) then
        (wG n ((x1,(x2,r9)))).bind fun (bW:bn)=>
        some bW
       else
        bif x2.Kind==(3:Int) then
         (wH n ((x1,(x2,r9)))).bind fun (dw:bn)=>
         some dw
        else
         (wI n ((x1,(x2,r9)))).bind fun (gM:bn)=>
         some gM
     else
      bif x2.Kind==(4:Int) then
       (wF n ((x1,x2.ID))).bind fun (eG:List Row)=>
       bif (((eG.length:Nat):Int))==(0:Int) then
        some ((⟨x1,(5:Int)⟩:bn))
       else
        bif x2.Kind==(2:Int) then
         (wG n ((x1,(x2,eG)))).bind fun (iJ:bn)=>
         some iJ
        else
         bif x2.Kind==(3:Int) then
          (wH n ((x1,(x2,eG)))).bind fun (jD:bn)=>
          some jD
         else
          (wI n ((x1,(x2,eG)))).bind fun (r16:bn)=>
          some r16
      else
       some ((⟨x1,(1:Int)⟩:bn)):=by kernel_rfl
noncomputable def EC (n:Nat) (x2:List Event) (m:Nat) (p:Int×eF×bn):Option ((PUnit×eF×bn)⊕(PUnit×eF)):=
 dA (R:=R) 3 (aJ ((aT Tryz.f59.body [1,1,0,1,0,0]).getD .skip)) (⟨[(1,TV.aj (T:=R.T) Cp.sh (Ty.st 14) x2),(4,TV.ref 4 0),(5,TV.ref 5 0)],[]⟩:MS R.T) (aU OI.loops 3).sh (aU OI.loops 3).outs (fun st k=>bA E R n false (OH n) aZ OI ((aT Tryz.f59.body [1,1,0,1,0,0]).getD .skip) st k) m p
theorem U7 (n:Nat) (x2:List Event) (m:Nat) (x4:Int) (x5:eF) (x6:bn):EC n x2 (m+1) (x4,(x5,x6))=
 bif bif decide (x4< (((x2.length:Nat):Int))) then x6.E==(0:Int) else false then
  (aB x2 x4).bind fun (r7:Event)=>
  (Aw n ((x6.B,r7))).bind fun (r8:bn)=>
  bif r8.E !=(0:Int) then
   some (.inr (((),(⟨x6.B,x4,r8.E⟩:eF))))
  else
   EC n x2 m ((IntKind.wrap .i64 (x4+(1:Int)),(x5,r8)))
 else
  some (.inl (((),(x5,x6)))):=by kernel_rfl
theorem aog (n:Nat) (x1:ak) (x2:List Event):Ei n (x1,x2)=
 (yJ n x1).bind fun (r3:bn)=>
 (EC n x2 n (((0:Int),((⟨(⟨(⟨(0:Int),(0:Int),[]⟩:ak),(0:Int),(0:Int),[],[]⟩:Book),(0:Int),(0:Int)⟩:eF),r3)))).bind fun (r9:(PUnit×eF×bn)⊕(PUnit×eF))=>
 Sum.elim (fun (yV:PUnit×eF×bn)=>
  bif yV.2.2.E !=(0:Int) then
   some ((⟨(⟨(⟨(0:Int),(0:Int),[]⟩:ak),(0:Int),(0:Int),[],[]⟩:Book),(0:Int),yV.2.2.E⟩:eF))
  else
   some ((⟨yV.2.2.B,((x2.length:Nat):Int),(0:Int)⟩:eF)))
  (fun (PK:PUnit×eF)=>
   some PK.2) r9:=by kernel_rfl
theorem aoh (n:Nat) (x1:ak) (x2:List Event):qV n (x1,x2)=
 (Ak n ((x2,(25:Int)))).bind fun (r3:Bool)=>
 (iQ (!(!r3)) (Am n ((x1,(6:Int)))) false).bind fun (r4:Bool)=>
 bif bif !r3 then true else !r4 then
  some (((⟨(⟨(0:Int),(0:Int),[]⟩:ak),(0:Int),(0:Int),[],[]⟩:Book),false))
 else
  (Ei n ((x1,x2))).bind fun (r5:eF)=>
  some ((r5.B,r5.E==(0:Int))):=by kernel_rfl
theorem aoi (n:Nat) (x1:Book) (x2:Int):Ay n (x1,x2)=
 bif x2==(0:Int) then
  some (0:Int)
 else
  (aB x1.bO (IntKind.wrap .i64 (x2-(1:Int)))).bind fun (r3:Int)=>
  some r3:=by kernel_rfl
theorem aoj (n:Nat) (x1:Book) (x2:Row):Az n (x1,x2)=
 bif decide (x2.dI> (0:Int)) then
  (Ay n ((x1,IntKind.wrap .i64 (x2.dI-(1:Int))))).bind fun (r3:Int)=>
  some (decide (x2.Entry.From<=r3))
 else
  (Ay n ((x1,x1.aI))).bind fun (r4:Int)=>
  some (decide (x2.Entry.From<=r4)):=by kernel_rfl
theorem aok (n:Nat) (x1:Row) (x2:Int) (x3:Int) (x4:List Def) (x5:Int) (x6:Int) (x7:List Int) (x8:List Row):Ej n (x1,(x2,(x3,(x4,(x5,(x6,(x7,x8)))))))=
 (Az n (((⟨(⟨x2,x3,x4⟩:ak),x5,x6,x7,x8⟩:Book),x1))).bind fun (r9:Bool)=>
 some r9:=by kernel_rfl
noncomputable def ED (n:Nat) (x1:List Row) (x2:Int) (x3:Int) (x4:List Def) (x5:Int) (x6:Int) (x7:List Int) (x8:List Row) (m:Nat) (p:(List Row)×(List Row)×Int):Option ((List Row)×List Row):=
 dA (R:=R) 2 (aJ ((aT Tryz.f81.body [1,0,1,0,0]).getD .skip)) (⟨[(1,TV.fn 82 [] ([TV.aK [TV.int IntKind.i64 x2,TV.int IntKind.i64 x3,TV.aj (T:=R.T) Cp.sh (Ty.st 7) x4,TV.int IntKind.i64 x5,TV.int IntKind.i64 x6,TV.aj (T:=R.T) Cp.sh (Ty.int IntKind.i64) x7,TV.aj (T:=R.T) Cp.sh (Ty.st 11) x8] 0])),(8,TV.aj (T:=R.T) Cp.sh (Ty.st 11) x1),(9,TV.int IntKind.i64 (((x1.length:Nat):Int)))],[]⟩:MS R.T) (aU OT.loops 2).sh (aU OT.loops 2).outs (fun st k=>bA E R n false (OQ n) aZ OT ((aT Tryz.f81.body [1,0,1,0,0]).getD .skip) st k) m p
theorem acX (n:Nat) (x1:List Row) (x2:Int) (x3:Int) (x4:List Def) (x5:Int) (x6:Int) (x7:List Int) (x8:List Row) (m:Nat) (x9:List Row) (x10:List Row) (bD:Int):ED n x1 x2 x3 x4 x5 x6 x7 x8 (m+1) (x9,(x10,bD))=
 bif decide (bD< (((x1.length:Nat):Int))) then
  (aB x1 bD).bind fun (gM:Row)=>
  (Ej n ((gM,(x2,(x3,(x4,(x5,(x6,(x7,x8))))))))).bind fun (eG:Bool)=>
  bif eG then
   bif bJ (x9.length+([gM].length)) 112 then
    ED n x1 x2 x3 x4 x5 x6 x7 x8 m ((x9++[gM],(x10,IntKind.wrap .i64 (bD+(1:Int)))))
   else
    none
  else
   bif bJ (x10.length+([gM].length)) 112 then
    ED n x1 x2 x3 x4 x5 x6 x7 x8 m ((x9,(x10++[gM],IntKind.wrap .i64 (bD+(1:Int)))))
   else
    none
 else
  some ((x9,x10)):=by kernel_rfl
theorem acY (n:Nat) (x1:List Row) (x2:Int) (x3:Int) (x4:List Def) (x5:Int) (x6:Int) (x7:List Int) (x8:List Row):I7 n (x1,((),(x2,(x3,(x4,(x5,(x6,(x7,x8))))))))=
 (ED n x1 x2 x3 x4 x5 x6 x7 x8 n (([],([],(0:Int))))).bind fun (iJ:(List Row)×List Row)=>
 some ((iJ.1,iJ.2)):=by kernel_rfl
theorem aol (n:Nat) (x1:Row):I9 n x1=
 some (x1.dI==(0:Int)):=by kernel_rfl
noncomputable def EF (n:Nat) (x1:List Row) (m:Nat) (p:(List Row)×(List Row)×Int):Option ((List Row)×List Row):=
 dA (R:=R) 2 (aJ ((aT Tryz.f81.body [1,0,1,0,0]).getD .skip)) (⟨[(1,TV.fn 84 [] []),(8,TV.aj (T:=R.T) Cp.sh (Ty.st 11) x1),(9,TV.int IntKind.i64 (((x1.length:Nat):Int)))],[]⟩:MS R.T) (aU OY.loops 2).sh (aU OY.loops 2).outs (fun st k=>bA E R n false (OX n) aZ OY ((aT Tryz.f81.body [1,0,1,0,0]).getD .skip) st k) m p
theorem acZ (n:Nat) (x1:List Row) (m:Nat) (x2:List Row) (x3:List Row) (x4:Int):EF n x1 (m+1) (x2,(x3,x4))=
 bif decide (x4< (((x1.length:Nat):Int))) then
  (aB x1 x4).bind fun (r5:Row)=>
  (I9 n r5).bind fun (r6:Bool)=>
  bif r6 then
   bif bJ (x2.length+([r5].length)) 112 then
    EF n x1 m ((x2++[r5],(x3,IntKind.wrap .i64 (x4+(1:Int)))))
   else
    none
  else
   bif bJ (x3.length+([r5].length)) 112 then
    EF n x1 m ((x2,(x3++[r5],IntKind.wrap .i64 (x4+(1:Int)))))
   else
    none
 else
  some ((x2,x3)):=by kernel_rfl
theorem ac0 (n:Nat) (x1:List Row):Jb n (x1,((),()))=
 (EF n x1 n (([],([],(0:Int))))).bind fun (r7:(List Row)×List Row)=>
 some ((r7.1,r7.2)):=by kernel_rfl
theorem ac1 (n:Nat) (x1:Book):qp n x1=
 (I7 n ((x1.Rows,((),(x1.ak.gq,(x1.ak.gY,(x1.ak.Defs,(x1.aI,(x1.Day,(x1.bO,x1.Rows)))))))))).bind fun (r2:(List Row)×List Row)=>
 (Jb n ((r2.2,((),())))).bind fun (r3:(List Row)×List Row)=>
 some ((r2.1,r3.1)):=by kernel_rfl
noncomputable def AU (n:Nat) (m:Nat) (p:Int×List Int):Option (Int×List Int):=
 dA (R:=R) 5 (aJ ((aT Tryz.f93.body [1,1,1,1,0,0,0]).getD .skip)) (⟨[],[]⟩:MS R.T) (aU O5.loops 5).sh (aU O5.loops 5).outs (fun st k=>bA E R n false (O4 n) aZ O5 ((aT Tryz.f93.body [1,1,1,1,0,0,0]).getD .skip) st k) m p
theorem aom (n:Nat) (m:Nat) (x2:Int) (x3:List Int):AU n (m+1) (x2,x3)=
 bif decide (x2>=(128:Int)) then
  bif !((128:Int)==(0:Int)) then
   bif bJ (x3.length+([IntKind.wrap .u8 ((IntKind.wrap .u8 (Int.tmod x2 (128:Int)))+(128:Int))].length)) 1 then
    bif !((128:Int)==(0:Int)) then
     AU n m ((IntKind.wrap .u64 (Int.tdiv x2 (128:Int)),x3++[IntKind.wrap .u8 ((IntKind.wrap .u8 (Int.tmod x2 (128:Int)))+(128:Int))]))
    else
     none
   else
    none
  else
   none
 else
  some ((x2,x3)):=by kernel_rfl
theorem aon (n:Nat) (x1:Int):uT n x1=
 bif decide (x1< (0:Int)) then
  (AU n n ((IntKind.wrap .u64 ((IntKind.wrap .u64 ((IntKind.wrap .u64 (IntKind.wrap .i64 ((-1:Int)-x1)))*(2:Int)))+(1:Int)),[]))).bind fun (r4:Int×List Int)=>
  bif bJ (r4.2.length+([IntKind.wrap .u8 r4.1].length)) 1 then
   some (r4.2++[IntKind.wrap .u8 r4.1])
  else
   none
 else
  (AU n n ((IntKind.wrap .u64 ((IntKind.wrap .u64 x1)*(2:Int)),[]))).bind fun (r5:Int×List Int)=>
  bif bJ (r5.2.length+([IntKind.wrap .u8 r5.1].length)) 1 then
   some (r5.2++[IntKind.wrap .u8 r5.1])
  else
   none:=by kernel_rfl
noncomputable def JE (n:Nat) (x1:List Int) (m:Nat) (p:(List Int)×Int):Option (List Int):=
 dA (R:=R) 3 (aJ ((aT Tryz.f73.body [1,1,0,1,0,0]).getD .skip)) (⟨[(0,TV.aj (T:=R.T) Cp.sh (Ty.int IntKind.i64) x1)],[]⟩:MS R.T) (aU O7.loops 3).sh (aU O7.loops 3).outs (fun st k=>bA E R n false (O6 n) aZ O7 ((aT Tryz.f73.body [1,1,0,1,0,0]).getD .skip) st k) m p
theorem ac2 (n:Nat) (x1:List Int) (m:Nat) (x3:List Int) (x4:Int):JE n x1 (m+1) (x3,x4)=
 bif decide (x4< (((x1.length:Nat):Int))) then
  (aB x1 x4).bind fun (r5:Int)=>
  (uT n r5).bind fun (r6:List Int)=>
  bif bJ (x3.length+r6.length) 1 then
   JE n x1 m ((x3++r6,IntKind.wrap .i64 (x4+(1:Int))))
  else
   none
 else
  some x3:=by kernel_rfl
theorem aoo (n:Nat) (x1:List Int):AA n x1=
 (uT n (((x1.length:Nat):Int))).bind fun (r2:List Int)=>
 (JE n x1 n ((r2,(0:Int)))).bind fun (r7:List Int)=>
 some r7:=by kernel_rfl
theorem aop (n:Nat) (x1:List UInt8):En n x1=
 (uT n (((x1.length:Nat):Int))).bind fun (r2:List Int)=>
 bif bJ (r2.length+((List.map (fun b:UInt8=>((b.toNat:Nat):Int)) x1).length)) 1 then
  some (r2++(List.map (fun b:UInt8=>((b.toNat:Nat):Int)) x1))
 else
  none:=by kernel_rfl
noncomputable def JF (n:Nat) (x1:List (List UInt8)) (m:Nat) (p:(List Int)×Int):Option (List Int):=
 dA (R:=R) 3 (aJ ((aT Tryz.f137.body [1,1,0,1,0,0]).getD .skip)) (⟨[(0,TV.aj (T:=R.T) Cp.sh Ty.str x1)],[]⟩:MS R.T) (aU Pb.loops 3).sh (aU Pb.loops 3).outs (fun st k=>bA E R n false (O9 n) aZ Pb ((aT Tryz.f137.body [1,1,0,1,0,0]).getD .skip) st k) m p
theorem ac3 (n:Nat) (x1:List (List UInt8)) (m:Nat) (x3:List Int) (x4:Int):JF n x1 (m+1) (x3,x4)=
 bif decide (x4< (((x1.length:Nat):Int))) then
  (aB x1 x4).bind fun (r5:List UInt8)=>
  (En n r5).bind fun (r6:List Int)=>
  bif bJ (x3.length+r6.length) 1 then
   JF n x1 m ((x3++r6,IntKind.wrap .i64 (x4+(1:Int))))
  else
   none
 else
  some x3:=by kernel_rfl
theorem aoq (n:Nat) (x1:List (List UInt8)):Eo n x1=
 (uT n (((x1.length:Nat):Int))).bind fun (r2:List Int)=>
 (JF n x1 n ((r2,(0:Int)))).bind fun (r7:List Int)=>
 some r7:=by kernel_rfl
noncomputable def JG (n:Nat) (x1:Entry) (m:Nat) (p:(List Int)×(List (List UInt8))×Int):Option ((List Int)×List (List UInt8)):=
 dA (R:=R) 6 (aJ ((aT Tryz.f94.body [1,1,1,1,1,0,1,0,0]).getD .skip)) (⟨[(1,TV.ref 1 0)],[(1,Ob.ro (Ob.cells [TV.int IntKind.i64 x1.ID,TV.int IntKind.i64 x1.fI,TV.int IntKind.i64 x1.bI,TV.int IntKind.i64 x1.iW,TV.int IntKind.i64 x1.From,TV.int IntKind.i64 x1.To,TV.int IntKind.i64 x1.jv,TV.aj (T:=R.T) Cp.sh (Ty.int IntKind.i64) x1.Vec,TV.aj (T:=R.T) Cp.sh (Ty.st 9) x1.aM]))]⟩:MS R.T) (aU Pf.loops 6).sh (aU Pf.loops 6).outs (fun st k=>bA E R n false (Pe n) aZ Pf ((aT Tryz.f94.body [1,1,1,1,1,0,1,0,0]).getD .skip) st k) m p
theorem ac4 (n:Nat) (x1:Entry) (m:Nat) (x2:List Int) (x3:List (List UInt8)) (x4:Int):JG n x1 (m+1) (x2,(x3,x4))=
 bif decide (x4< (((x1.aM.length:Nat):Int))) then
  (aB x1.aM x4).bind fun (r5:Attr)=>
  (aB x1.aM x4).bind fun (r6:Attr)=>
  bif bJ (x2.length+([r5.Kind,r6.N].length)) 8 then
   (aB x1.aM x4).bind fun (r7:Attr)=>
   (aB x1.aM x4).bind fun (r8:Attr)=>
   bif bJ (x3.length+([r7.Name,r8.S].length)) 16 then
    JG n x1 m ((x2++[r5.Kind,r6.N],(x3++[r7.Name,r8.S],IntKind.wrap .i64 (x4+(1:Int)))))
   else
    none
  else
   none
 else
  some ((x2,x3)):=by kernel_rfl
theorem aor (n:Nat) (x1:Entry):AB n x1=
 bif bJ (([x1.ID,x1.fI,x1.bI,x1.iW,x1.From,x1.To,x1.jv,((x1.Vec.length:Nat):Int)].length)+x1.Vec.length) 8 then
  bif bJ ((([x1.ID,x1.fI,x1.bI,x1.iW,x1.From,x1.To,x1.jv,((x1.Vec.length:Nat):Int)]++x1.Vec).length)+([((x1.aM.length:Nat):Int)].length)) 8 then
   (JG n x1 n ((([x1.ID,x1.fI,x1.bI,x1.iW,x1.From,x1.To,x1.jv,((x1.Vec.length:Nat):Int)]++x1.Vec)++[((x1.aM.length:Nat):Int)],([],(0:Int))))).bind fun (r9:(List Int)×List (List UInt8))=>
   (AA n r9.1).bind fun (bW:List Int)=>
   bif bJ (((0:Nat))+bW.length) 1 then
    (Eo n r9.2).bind fun (dw:List Int)=>
    bif bJ ((([]++bW).length)+dw.length) 1 then
     some (([]++bW)++dw)
    else
     none
   else
    none
  else
   none
 else
  none:=by kernel_rfl
theorem ac5 (n:Nat) (x1:Entry) (x2:Entry):yK n (x1,x2)=
 (AB n x1).bind fun (r3:List Int)=>
 (AB n x2).bind fun (r4:List Int)=>
 some ((List.map (fun n:Int=>UInt8.ofNat n.toNat) r3)==(List.map (fun n:Int=>UInt8.ofNat n.toNat) r4)):=by kernel_rfl
noncomputable def AV (n:Nat) (x1:List Row) (x2:Entry) (m:Nat) (p:Int):Option (PUnit⊕Bool):=
 dA (R:=R) 2 (aJ ((aT Tryz.f55.body [1,0,1,0,0]).getD .skip)) (⟨[(0,TV.aj (T:=R.T) Cp.sh (Ty.st 11) x1),(3,TV.ref 3 0)],[(3,Ob.ro (Ob.cells [TV.int IntKind.i64 x2.ID,TV.int IntKind.i64 x2.fI,TV.int IntKind.i64 x2.bI,TV.int IntKind.i64 x2.iW,TV.int IntKind.i64 x2.From,TV.int IntKind.i64 x2.To,TV.int IntKind.i64 x2.jv,TV.aj (T:=R.T) Cp.sh (Ty.int IntKind.i64) x2.Vec,TV.aj (T:=R.T) Cp.sh (Ty.st 9) x2.aM]))]⟩:MS R.T) (aU Pk.loops 2).sh (aU Pk.loops 2).outs (fun st k=>bA E R n false (Pj n) aZ Pk ((aT Tryz.f55.body [1,0,1,0,0]).getD .skip) st k) m p
theorem ac6 (n:Nat) (x1:List Row) (x2:Entry) (m:Nat) (x3:Int):AV n x1 x2 (m+1) x3=
 bif decide (x3< (((x1.length:Nat):Int))) then
  (aB x1 x3).bind fun (r4:Row)=>
  bif r4.Entry.ID==x2.ID then
   (aB x1 x3).bind fun (r5:Row)=>
   bif r5.Entry.fI==x2.fI then
    (aB x1 x3).bind fun (r6:Row)=>
    (yK n ((r6.Entry,x2))).bind fun (r7:Bool)=>
    some (.inr r7)
   else
    AV n x1 x2 m (IntKind.wrap .i64 (x3+(1:Int)))
  else
   AV n x1 x2 m (IntKind.wrap .i64 (x3+(1:Int)))
 else
  some (.inl (())):=by kernel_rfl
theorem aos (n:Nat) (x1:List Row) (x2:Entry):nC n (x1,x2)=
 (AV n x1 x2 n (0:Int)).bind fun (r8:PUnit⊕Bool)=>
 Sum.elim (fun (q9:PUnit)=>
  some false)
  (fun (yV:Bool)=>
   some yV) r8:=by kernel_rfl
theorem aot (n:Nat) (x1:Int):cmp_isNaN_int n x1=
 some (x1 !=x1):=by kernel_rfl
theorem aou (n:Nat) (x1:Int) (x2:Int):cmp_Compare_int n (x1,x2)=
 (cmp_isNaN_int n x1).bind fun (r3:Bool)=>
 (cmp_isNaN_int n x2).bind fun (r4:Bool)=>
 bif r3 then
  bif r4 then
   some (0:Int)
  else
   some (-1:Int)
 else
  bif r4 then
   some (1:Int)
  else
   bif decide (x1<x2) then
    some (-1:Int)
   else
    bif decide (x1>x2) then
     some (1:Int)
    else
     some (0:Int):=by kernel_rfl
theorem aov (n:Nat) (x1:Entry) (x2:Entry):tO n (x1,x2)=
 (cmp_Compare_int n ((x1.ID,x2.ID))).bind fun (r3:Int)=>
 some r3:=by kernel_rfl
noncomputable def JH (n:Nat) (x1:Int) (x2:Int) (x4:Int) (m:Nat) (p:Int×List Entry):Option (PUnit×List Entry):=
 dA (R:=R) 4 (aJ ((aT Tryz.f189.body [1,0,0,1,0,0,1,0,0]).getD .skip)) (⟨[(0,TV.vw 1000000 (Ty.st 10)),(1,TV.int IntKind.i64 x1),(2,TV.int IntKind.i64 x2),(3,TV.fn 110 [] []),(8,TV.int IntKind.i64 x4)],[]⟩:MS R.T) (aU AJ.loops 4).sh (aU AJ.loops 4).outs (fun st k=>bA E R n false (kM n) aZ AJ ((aT Tryz.f189.body [1,0,0,1,0,0,1,0,0]).getD .skip) st k) m p
noncomputable def JI (n:Nat) (x1:Int) (x2:Int) (m:Nat) (p:Int×List Entry):Option (PUnit×List Entry):=
 dA (R:=R) 1 (aJ ((aT Tryz.f189.body [1,0,0]).getD .skip)) (⟨[(0,TV.vw 1000000 (Ty.st 10)),(1,TV.int IntKind.i64 x1),(2,TV.int IntKind.i64 x2),(3,TV.fn 110 [] [])],[]⟩:MS R.T) (aU AJ.loops 1).sh (aU AJ.loops 1).outs (fun st k=>bA E R n false (kM n) aZ AJ ((aT Tryz.f189.body [1,0,0]).getD .skip) st k) m p
theorem aow (n:Nat) (x1:Int) (x2:Int) (x4:Int) (m:Nat) (x6:Int) (x7:List Entry):JH n x1 x2 x4 (m+1) (x6,x7)=
 bif decide (x6>x1) then
  bif decide (0<=x6/\x6< ((x7.length:Nat):Int)) then
   (aB x7 x6).bind fun (r8:Entry)=>
   bif decide (0<=(IntKind.wrap .i64 (x6-(1:Int)))/\(IntKind.wrap .i64 (x6-(1:Int)))< ((x7.length:Nat):Int)) then
    (aB x7 (IntKind.wrap .i64 (x6-(1:Int)))).bind fun (r9:Entry)=>
    (tO n ((r8,r9))).bind fun (bW:Int)=>
    bif decide (bW< (0:Int)) then
     bif decide (0<=(IntKind.wrap .i64 (x6-(1:Int)))/\(IntKind.wrap .i64 (x6-(1:Int)))< ((x7.length:Nat):Int)) then
      (aB x7 (IntKind.wrap .i64 (x6-(1:Int)))).bind fun (dw:Entry)=>
      bif decide (0<=x6/\x6< ((x7.length:Nat):Int)) then
       (aB x7 x6).bind fun (gM:Entry)=>
       bif decide (0<=x6/\x6< ((x7.length:Nat):Int)) then
        (aB x7 x6).bind fun (eG:Entry)=>
        bif decide (0<=(IntKind.wrap .i64 (x6-(1:Int)))/\(IntKind.wrap .i64 (x6-(1:Int)))< (((aW x7 x6 dw).length:Nat):Int)) then
         (aB (aW x7 x6 dw) (IntKind.wrap .i64 (x6-(1:Int)))).bind fun (iJ:Entry)=>
         JH n x1 x2 x4 m ((IntKind.wrap .i64 (x6-(1:Int)),aW (aW x7 x6 dw) (IntKind.wrap .i64 (x6-(1:Int))) gM))
        else
         none
       else
        none
      else
       none
     else
      none
    else
     some (((),x7))
   else
    none
  else
   none
 else
  some (((),x7)):=by kernel_rfl
theorem aox (n:Nat) (x1:Int) (x2:Int) (m:Nat) (x4:Int) (x5:List Entry):JI n x1 x2 (m+1) (x4,x5)=
 bif decide (x4<x2) then
  (JH n x1 x2 x4 n ((x4,x5))).bind fun (jD:PUnit×List Entry)=>
  JI n x1 x2 m ((IntKind.wrap .i64 (x4+(1:Int)),jD.2))
 else
  some (((),x5)):=by kernel_rfl
theorem aoy (n:Nat) (x1:Int) (x2:Int) (x3:List Entry):uU n (((),(x1,(x2,((),()))))) (x3)=
 (JI n x1 x2 n ((IntKind.wrap .i64 (x1+(1:Int)),x3))).bind fun (r16:PUnit×List Entry)=>
 some (((),r16.2)):=by kernel_rfl
noncomputable def JJ (n:Nat) (x1:Int) (x2:Int) (x3:Int) (m:Nat) (p:Int×List Entry):Option (PUnit×List Entry):=
 dA (R:=R) 1 (aJ ((aT Tryz.f219.body [1,0,0]).getD .skip)) (⟨[(0,TV.vw 1000000 (Ty.st 10)),(1,TV.int IntKind.i64 x1),(2,TV.int IntKind.i64 x2),(3,TV.int IntKind.i64 x3)],[]⟩:MS R.T) (aU Pt.loops 1).sh (aU Pt.loops 1).outs (fun st k=>bA E R n false (kM n) (Pq n) Pt ((aT Tryz.f219.body [1,0,0]).getD .skip) st k) m p
theorem aoz (n:Nat) (x1:Int) (x2:Int) (x3:Int) (m:Nat) (x5:Int) (x6:List Entry):JJ n x1 x2 x3 (m+1) (x5,x6)=
 bif decide (x5<x3) then
  bif decide (0<=(IntKind.wrap .i64 (x2+x5))/\(IntKind.wrap .i64 (x2+x5))< ((x6.length:Nat):Int)) then
   (aB x6 (IntKind.wrap .i64 (x2+x5))).bind fun (r7:Entry)=>
   bif decide (0<=(IntKind.wrap .i64 (x1+x5))/\(IntKind.wrap .i64 (x1+x5))< ((x6.length:Nat):Int)) then
    (aB x6 (IntKind.wrap .i64 (x1+x5))).bind fun (r8:Entry)=>
    bif decide (0<=(IntKind.wrap .i64 (x1+x5))/\(IntKind.wrap .i64 (x1+x5))< ((x6.length:Nat):Int)) then
     (aB x6 (IntKind.wrap .i64 (x1+x5))).bind fun (r9:Entry)=>
     bif decide (0<=(IntKind.wrap .i64 (x2+x5))/\(IntKind.wrap .i64 (x2+x5))< (((aW x6 (IntKind.wrap .i64 (x1+x5)) r7).length:Nat):Int)) then
      (aB (aW x6 (IntKind.wrap .i64 (x1+x5)) r7) (IntKind.wrap .i64 (x2+x5))).bind fun (bW:Entry)=>
      JJ n x1 x2 x3 m ((IntKind.wrap .i64 (x5+(1:Int)),aW (aW x6 (IntKind.wrap .i64 (x1+x5)) r7) (IntKind.wrap .i64 (x2+x5)) r8))
     else
      none
    else
     none
   else
    none
  else
   none
 else
  some (((),x6)):=by kernel_rfl
theorem aoA (n:Nat) (x1:Int) (x2:Int) (x3:Int) (x4:List Entry):tQ n (((),(x1,(x2,(x3,((),())))))) (x4)=
 (JJ n x1 x2 x3 n (((0:Int),x4))).bind fun (dw:PUnit×List Entry)=>
 some (((),dw.2)):=by kernel_rfl
noncomputable def EG (n:Nat) (x2:Int) (m:Nat) (p:(Int×Int)×List Entry):Option (Int×List Entry):=
 dA (R:=R) 2 (aJ ((aT Tryz.f211.body [1,1,0,0,0]).getD .skip)) (⟨[(0,TV.vw 1000000 (Ty.st 10)),(2,TV.int IntKind.i64 x2),(4,TV.fn 110 [] [])],[]⟩:MS R.T) (aU Pw.loops 2).sh (aU Pw.loops 2).outs (fun st k=>bA E R n false (kM n) (Pv n) Pw ((aT Tryz.f211.body [1,1,0,0,0]).getD .skip) st k) m p
theorem aoB (n:Nat) (x2:Int) (m:Nat) (x5:Int) (x6:Int) (x7:List Entry):EG n x2 (m+1) ((x5,x6),x7)=
 bif x5 !=x6 then
  bif decide (x5>x6) then
   (tQ n (((),(IntKind.wrap .i64 (x2-x5),(x2,(x6,((),())))))) x7).bind fun (r8:PUnit×List Entry)=>
   EG n x2 m (((IntKind.wrap .i64 (x5-x6),x6),r8.2))
  else
   (tQ n (((),(IntKind.wrap .i64 (x2-x5),(IntKind.wrap .i64 ((IntKind.wrap .i64 (x2+x6))-x5),(x5,((),())))))) x7).bind fun (r9:PUnit×List Entry)=>
   EG n x2 m (((x5,IntKind.wrap .i64 (x6-x5)),r9.2))
 else
  some ((x5,x7)):=by kernel_rfl
theorem aoC (n:Nat) (x1:Int) (x2:Int) (x3:Int) (x4:List Entry):uV n (((),(x1,(x2,(x3,((),())))))) (x4)=
 (EG n x2 n (((IntKind.wrap .i64 (x2-x1),IntKind.wrap .i64 (x3-x2)),x4))).bind fun (bW:Int×List Entry)=>
 (tQ n (((),(IntKind.wrap .i64 (x2-bW.1),(x2,(bW.1,((),())))))) bW.2).bind fun (dw:PUnit×List Entry)=>
 some (((),dw.2)):=by kernel_rfl
noncomputable def EH (n:Nat) (g:Nat) (x1:Int) (x4:List Entry) (m:Nat) (p:Int×Int):Option (Int):=
 dA (R:=R) 3 (aJ ((aT Tryz.f190.body [0,1,0,1,1,0,0,0]).getD .skip)) (⟨[(0,TV.vw 1000000 (Ty.st 10)),(1,TV.int IntKind.i64 x1),(4,TV.fn 110 [] [])],[(1000000,Ob.ro (Ob.arr (Ty.st 10) x4))]⟩:MS R.T) (aU nD.loops 3).sh (aU nD.loops 3).outs (fun st k=>bA E R n false (kM n) (qg 190 ⟨mU,lT,nV,jw n g⟩ (wJ n)) nD ((aT Tryz.f190.body [0,1,0,1,1,0,0,0]).getD .skip) st k) m p
noncomputable def JK (n:Nat) (g:Nat) (bW:Int) (m:Nat) (p:Int×List Entry):Option (PUnit×List Entry):=
 dA (R:=R) 9 (aJ ((aT Tryz.f190.body [0,1,0,1,1,1,0,1,0,0]).getD .skip)) (⟨[(0,TV.vw 1000000 (Ty.st 10)),(10,TV.int IntKind.i64 bW)],[]⟩:MS R.T) (aU nD.loops 9).sh (aU nD.loops 9).outs (fun st k=>bA E R n false (kM n) (qg 190 ⟨mU,lT,nV,jw n g⟩ (wJ n)) nD ((aT Tryz.f190.body [0,1,0,1,1,1,0,1,0,0]).getD .skip) st k) m p
noncomputable def EI (n:Nat) (g:Nat) (x2:Int) (x4:List Entry) (m:Nat) (p:Int×Int):Option (Int):=
 dA (R:=R) 15 (aJ ((aT Tryz.f190.body [1,0,1,0,1,1,0,0,0]).getD .skip)) (⟨[(0,TV.vw 1000000 (Ty.st 10)),(2,TV.int IntKind.i64 x2),(4,TV.fn 110 [] [])],[(1000000,Ob.ro (Ob.arr (Ty.st 10) x4))]⟩:MS R.T) (aU nD.loops 15).sh (aU nD.loops 15).outs (fun st k=>bA E R n false (kM n) (qg 190 ⟨mU,lT,nV,jw n g⟩ (wJ n)) nD ((aT Tryz.f190.body [1,0,1,0,1,1,0,0,0]).getD .skip) st k) m p
noncomputable def JL (n:Nat) (g:Nat) (kS:Int) (m:Nat) (p:Int×List Entry):Option (PUnit×List Entry):=
 dA (R:=R) 21 (aJ ((aT Tryz.f190.body [1,0,1,0,1,1,1,0,1,0,0]).getD .skip)) (⟨[(0,TV.vw 1000000 (Ty.st 10)),(14,TV.int IntKind.i64 kS)],[]⟩:MS R.T) (aU nD.loops 21).sh (aU nD.loops 21).outs (fun st k=>bA E R n false (kM n) (qg 190 ⟨mU,lT,nV,jw n g⟩ (wJ n)) nD ((aT Tryz.f190.body [1,0,1,0,1,1,1,0,1,0,0]).getD .skip) st k) m p
noncomputable def AX (n:Nat) (g:Nat) (x1:Int) (x2:Int) (x3:Int) (x4:List Entry) (m:Nat) (p:Int×Int):Option (Int):=
 dA (R:=R) 33 (aJ ((aT Tryz.f190.body [1,1,1,1,1,1,1,0,0,0]).getD .skip)) (⟨[(0,TV.vw 1000000 (Ty.st 10)),(1,TV.int IntKind.i64 x1),(2,TV.int IntKind.i64 x2),(3,TV.int IntKind.i64 x3),(4,TV.fn 110 [] []),(18,TV.int IntKind.i64 (IntKind.wrap .i64 (aD IntKind.u64 (IntKind.wrap .u64 (IntKind.wrap .i64 (x1+x3))) (1:Int)))),(19,TV.int IntKind.i64 (IntKind.wrap .i64 ((IntKind.wrap .i64 (aD IntKind.u64 (IntKind.wrap .u64 (IntKind.wrap .i64 (x1+x3))) (1:Int)))+x2))),(22,TV.int IntKind.i64 (IntKind.wrap .i64 ((IntKind.wrap .i64 ((IntKind.wrap .i64 (aD IntKind.u64 (IntKind.wrap .u64 (IntKind.wrap .i64 (x1+x3))) (1:Int)))+x2))-(1:Int))))],[(1000000,Ob.ro (Ob.arr (Ty.st 10) x4))]⟩:MS R.T) (aU nD.loops 33).sh (aU nD.loops 33).outs (fun st k=>bA E R n false (kM n) (qg 190 ⟨mU,lT,nV,jw n g⟩ (wJ n)) nD ((aT Tryz.f190.body [1,1,1,1,1,1,1,0,0,0]).getD .skip) st k) m p
theorem aoD (n:Nat) (g:Nat) (x1:Int) (x4:List Entry) (m:Nat) (x5:Int) (x6:Int):EH n g x1 x4 (m+1) (x5,x6)=
 bif decide (x5<x6) then
  bif decide ((0:Int)<=(1:Int)) then
   bif decide (0<=(IntKind.wrap .i64 (aD IntKind.u64 (IntKind.wrap .u64 (IntKind.wrap .i64 (x5+x6))) (1:Int)))/\(IntKind.wrap .i64 (aD IntKind.u64 (IntKind.wrap .u64 (IntKind.wrap .i64 (x5+x6))) (1:Int)))< ((x4.length:Nat):Int)) then
    (aB x4 (IntKind.wrap .i64 (aD IntKind.u64 (IntKind.wrap .u64 (IntKind.wrap .i64 (x5+x6))) (1:Int)))).bind fun (r7:Entry)=>
    bif decide (0<=x1/\x1< ((x4.length:Nat):Int)) then
     (aB x4 x1).bind fun (r8:Entry)=>
     (tO n ((r7,r8))).bind fun (r9:Int)=>
     bif decide (r9< (0:Int)) then
      EH n g x1 x4 m ((IntKind.wrap .i64 ((IntKind.wrap .i64 (aD IntKind.u64 (IntKind.wrap .u64 (IntKind.wrap .i64 (x5+x6))) (1:Int)))+(1:Int)),x6))
     else
      EH n g x1 x4 m ((x5,IntKind.wrap .i64 (aD IntKind.u64 (IntKind.wrap .u64 (IntKind.wrap .i64 (x5+x6))) (1:Int))))
    else
     none
   else
    none
  else
   none
 else
  some x5:=by kernel_rfl
theorem aoE (n:Nat) (g:Nat) (bW:Int) (m:Nat) (bD:Int) (eH:List Entry):JK n g bW (m+1) (bD,eH)=
 bif decide (bD< (IntKind.wrap .i64 (bW-(1:Int)))) then
  bif decide (0<=(IntKind.wrap .i64 (bD+(1:Int)))/\(IntKind.wrap .i64 (bD+(1:Int)))< ((eH.length:Nat):Int)) then
   (aB eH (IntKind.wrap .i64 (bD+(1:Int)))).bind fun (eG:Entry)=>
   bif decide (0<=bD/\bD< ((eH.length:Nat):Int)) then
    (aB eH bD).bind fun (iJ:Entry)=>
    bif decide (0<=bD/\bD< ((eH.length:Nat):Int)) then
     (aB eH bD).bind fun (jD:Entry)=>
     bif decide (0<=(IntKind.wrap .i64 (bD+(1:Int)))/\(IntKind.wrap .i64 (bD+(1:Int)))< (((aW eH bD eG).length:Nat):Int)) then
      (aB (aW eH bD eG) (IntKind.wrap .i64 (bD+(1:Int)))).bind fun (r16:Entry)=>
      JK n g bW m ((IntKind.wrap .i64 (bD+(1:Int)),aW (aW eH bD eG) (IntKind.wrap .i64 (bD+(1:Int))) iJ))
     else
      none
    else
     none
   else
    none
  else
   none
 else
  some (((),eH)):=by kernel_rfl
theorem aoF (n:Nat) (g:Nat) (x2:Int) (x4:List Entry) (m:Nat) (x18:Int) (jF:Int):EI n g x2 x4 (m+1) (x18,jF)=
 bif decide (x18<jF) then
  bif decide ((0:Int)<=(1:Int)) then
   bif decide (0<=x2/\x2< ((x4.length:Nat):Int)) then
    (aB x4 x2).bind fun (AL:Entry)=>
    bif decide (0<=(IntKind.wrap .i64 (aD IntKind.u64 (IntKind.wrap .u64 (IntKind.wrap .i64 (x18+jF))) (1:Int)))/\(IntKind.wrap .i64 (aD IntKind.u64 (IntKind.wrap .u64 (IntKind.wrap .i64 (x18+jF))) (1:Int)))< ((x4.length:Nat):Int)) then
     (aB x4 (IntKind.wrap .i64 (aD IntKind.u64 (IntKind.wrap .u64 (IntKind.wrap .i64 (x18+jF))) (1:Int)))).bind fun (wN:Entry)=>
     (tO n ((AL,wN))).bind fun (uY:Int)=>
     bif !(decide (uY< (0:Int))) then
      EI n g x2 x4 m ((IntKind.wrap .i64 ((IntKind.wrap .i64 (aD IntKind.u64 (IntKind.wrap .u64 (IntKind.wrap .i64 (x18+jF))) (1:Int)))+(1:Int)),jF))
     else
      EI n g x2 x4 m ((x18,IntKind.wrap .i64 (aD IntKind.u64 (IntKind.wrap .u64 (IntKind.wrap .i64 (x18+jF))) (1:Int))))
    else
     none
   else
    none
  else
   none
 else
  some x18:=by kernel_rfl
theorem aoG (n:Nat) (g:Nat) (kS:Int) (m:Nat) (x24:Int) (x25:List Entry):JL n g kS (m+1) (x24,x25)=
 bif decide (x24>kS) then
  bif decide (0<=(IntKind.wrap .i64 (x24-(1:Int)))/\(IntKind.wrap .i64 (x24-(1:Int)))< ((x25.length:Nat):Int)) then
   (aB x25 (IntKind.wrap .i64 (x24-(1:Int)))).bind fun (qW:Entry)=>
   bif decide (0<=x24/\x24< ((x25.length:Nat):Int)) then
    (aB x25 x24).bind fun (jG:Entry)=>
    bif decide (0<=x24/\x24< ((x25.length:Nat):Int)) then
     (aB x25 x24).bind fun (r28:Entry)=>
     bif decide (0<=(IntKind.wrap .i64 (x24-(1:Int)))/\(IntKind.wrap .i64 (x24-(1:Int)))< (((aW x25 x24 qW).length:Nat):Int)) then
      (aB (aW x25 x24 qW) (IntKind.wrap .i64 (x24-(1:Int)))).bind fun (PL:Entry)=>
      JL n g kS m ((IntKind.wrap .i64 (x24-(1:Int)),aW (aW x25 x24 qW) (IntKind.wrap .i64 (x24-(1:Int))) jG))
     else
      none
    else
     none
   else
    none
  else
   none
 else
  some (((),x25)):=by kernel_rfl
theorem aoH (n:Nat) (g:Nat) (x1:Int) (x2:Int) (x3:Int) (x4:List Entry) (m:Nat) (x31:Int) (x32:Int):AX n g x1 x2 x3 x4 (m+1) (x31,x32)=
 bif decide (x31<x32) then
  bif decide ((0:Int)<=(1:Int)) then
   bif decide (0<=(IntKind.wrap .i64 ((IntKind.wrap .i64 ((IntKind.wrap .i64 ((IntKind.wrap .i64 (aD IntKind.u64 (IntKind.wrap .u64 (IntKind.wrap .i64 (x1+x3))) (1:Int)))+x2))-(1:Int)))-(IntKind.wrap .i64 (aD IntKind.u64 (IntKind.wrap .u64 (IntKind.wrap .i64 (x31+x32))) (1:Int)))))/\(IntKind.wrap .i64 ((IntKind.wrap .i64 ((IntKind.wrap .i64 ((IntKind.wrap .i64 (aD IntKind.u64 (IntKind.wrap .u64 (IntKind.wrap .i64 (x1+x3))) (1:Int)))+x2))-(1:Int)))-(IntKind.wrap .i64 (aD IntKind.u64 (IntKind.wrap .u64 (IntKind.wrap .i64 (x31+x32))) (1:Int)))))< ((x4.length:Nat):Int)) then
    (aB x4 (IntKind.wrap .i64 ((IntKind.wrap .i64 ((IntKind.wrap .i64 ((IntKind.wrap .i64 (aD IntKind.u64 (IntKind.wrap .u64 (IntKind.wrap .i64 (x1+x3))) (1:Int)))+x2))-(1:Int)))-(IntKind.wrap .i64 (aD IntKind.u64 (IntKind.wrap .u64 (IntKind.wrap .i64 (x31+x32))) (1:Int)))))).bind fun (AY:Entry)=>
    bif decide (0<=(IntKind.wrap .i64 (aD IntKind.u64 (IntKind.wrap .u64 (IntKind.wrap .i64 (x31+x32))) (1:Int)))/\(IntKind.wrap .i64 (aD IntKind.u64 (IntKind.wrap .u64 (IntKind.wrap .i64 (x31+x32))) (1:Int)))< ((x4.length:Nat):Int)) then
     (aB x4 (IntKind.wrap .i64 (aD IntKind.u64 (IntKind.wrap .u64 (IntKind.wrap .i64 (x31+x32))) (1:Int)))).bind fun (JM:Entry)=>
     (tO n ((AY,JM))).bind fun (JN:Int)=>
     bif !(decide (JN< (0:Int))) then
      AX n g x1 x2 x3 x4 m ((IntKind.wrap .i64 ((IntKind.wrap .i64 (aD IntKind.u64 (IntKind.wrap .u64 (IntKind.wrap .i64 (x31+x32))) (1:Int)))+(1:Int)),x32))
     else
      AX n g x1 x2 x3 x4 m ((x31,IntKind.wrap .i64 (aD IntKind.u64 (IntKind.wrap .u64 (IntKind.wrap .i64 (x31+x32))) (1:Int))))
    else
     none
   else
    none
  else
   none
 else
  some x31:=by kernel_rfl
theorem aoI (n g:Nat) (x1:Int) (x2:Int) (x3:Int) (x4:List Entry):jw n (g+1) (((),(x1,(x2,(x3,((),())))))) (x4)=
 bif (IntKind.wrap .i64 (x2-x1))==(1:Int) then
  (EH n g x1 x4 n ((x2,x3))).bind fun (bW:Int)=>
  (JK n g bW n ((x1,x4))).bind fun (oU:PUnit×List Entry)=>
  some (((),oU.2))
 else
  bif (IntKind.wrap .i64 (x3-x2))==(1:Int) then
   (EI n g x2 x4 n ((x1,x2))).bind fun (kS:Int)=>
   (JL n g kS n ((x2,x4))).bind fun (AZ:PUnit×List Entry)=>
   some (((),AZ.2))
  else
   bif decide ((0:Int)<=(1:Int)) then
    bif decide (x2> (IntKind.wrap .i64 (aD IntKind.u64 (IntKind.wrap .u64 (IntKind.wrap .i64 (x1+x3))) (1:Int)))) then
     (AX n g x1 x2 x3 x4 n ((IntKind.wrap .i64 ((IntKind.wrap .i64 ((IntKind.wrap .i64 (aD IntKind.u64 (IntKind.wrap .u64 (IntKind.wrap .i64 (x1+x3))) (1:Int)))+x2))-x3),IntKind.wrap .i64 (aD IntKind.u64 (IntKind.wrap .u64 (IntKind.wrap .i64 (x1+x3))) (1:Int))))).bind fun (eO:Int)=>
     bif bif decide (eO<x2) then decide (x2< (IntKind.wrap .i64 ((IntKind.wrap .i64 ((IntKind.wrap .i64 (aD IntKind.u64 (IntKind.wrap .u64 (IntKind.wrap .i64 (x1+x3))) (1:Int)))+x2))-eO))) else false then
      (uV n (((),(eO,(x2,(IntKind.wrap .i64 ((IntKind.wrap .i64 ((IntKind.wrap .i64 (aD IntKind.u64 (IntKind.wrap .u64 (IntKind.wrap .i64 (x1+x3))) (1:Int)))+x2))-eO),((),())))))) x4).bind fun (wO:PUnit×List Entry)=>
      bif bif decide (x1<eO) then decide (eO< (IntKind.wrap .i64 (aD IntKind.u64 (IntKind.wrap .u64 (IntKind.wrap .i64 (x1+x3))) (1:Int)))) else false then
       (jw n g (((),(x1,(eO,(IntKind.wrap .i64 (aD IntKind.u64 (IntKind.wrap .u64 (IntKind.wrap .i64 (x1+x3))) (1:Int)),((),())))))) wO.2).bind fun (A8:PUnit×List Entry)=>
       bif bif decide ((IntKind.wrap .i64 (aD IntKind.u64 (IntKind.wrap .u64 (IntKind.wrap .i64 (x1+x3))) (1:Int)))< (IntKind.wrap .i64 ((IntKind.wrap .i64 ((IntKind.wrap .i64 (aD IntKind.u64 (IntKind.wrap .u64 (IntKind.wrap .i64 (x1+x3))) (1:Int)))+x2))-eO))) then decide ((IntKind.wrap .i64 ((IntKind.wrap .i64 ((IntKind.wrap .i64 (aD IntKind.u64 (IntKind.wrap .u64 (IntKind.wrap .i64 (x1+x3))) (1:Int)))+x2))-eO))<x3) else false then
        (jw n g (((),(IntKind.wrap .i64 (aD IntKind.u64 (IntKind.wrap .u64 (IntKind.wrap .i64 (x1+x3))) (1:Int)),(IntKind.wrap .i64 ((IntKind.wrap .i64 ((IntKind.wrap .i64 (aD IntKind.u64 (IntKind.wrap .u64 (IntKind.wrap .i64 (x1+x3))) (1:Int)))+x2))-eO),(x3,((),())))))) A8.2).bind fun (bX:PUnit×List Entry)=>
        some (((),bX.2))
       else
        some (((),A8.2))
      else
       bif bif decide ((IntKind.wrap .i64 (aD IntKind.u64 (IntKind.wrap .u64 (IntKind.wrap .i64 (x1+x3))) (1:Int)))< (IntKind.wrap .i64 ((IntKind.wrap .i64 ((IntKind.wrap .i64 (aD IntKind.u64 (IntKind.wrap .u64 (IntKind.wrap .i64 (x1+x3))) (1:Int)))+x2))-eO))) then decide ((IntKind.wrap .i64 ((IntKind.wrap .i64 ((IntKind.wrap .i64 (aD IntKind.u64 (IntKind.wrap .u64 (IntKind.wrap .i64 (x1+x3))) (1:Int)))+x2))-eO))<x3) else false then
        (jw n g (((),(IntKind.wrap .i64 (aD IntKind.u64 (IntKind.wrap .u64 (IntKind.wrap .i64 (x1+x3))) (1:Int)),(IntKind.wrap .i64 ((IntKind.wrap .i64 ((IntKind.wrap .i64 (aD IntKind.u64 (IntKind.wrap .u64 (IntKind.wrap .i64 (x1+x3))) (1:Int)))+x2))-eO),(x3,((),())))))) wO.2).bind fun (qX:PUnit×List Entry)=>
        some (((),qX.2))
       else
        some (((),wO.2))
     else
      bif bif decide (x1<eO) then decide (eO< (IntKind.wrap .i64 (aD IntKind.u64 (IntKind.wrap .u64 (IntKind.wrap .i64 (x1+x3))) (1:Int)))) else false then
       (jw n g (((),(x1,(eO,(IntKind.wrap .i64 (aD IntKind.u64 (IntKind.wrap .u64 (IntKind.wrap .i64 (x1+x3))) (1:Int)),((),())))))) x4).bind fun (yZ:PUnit×List Entry)=>
       bif bif decide ((IntKind.wrap .i64 (aD IntKind.u64 (IntKind.wrap .u64 (IntKind.wrap .i64 (x1+x3))) (1:Int)))< (IntKind.wrap .i64 ((IntKind.wrap .i64 ((IntKind.wrap .i64 (aD IntKind.u64 (IntKind.wrap .u64 (IntKind.wrap .i64 (x1+x3))) (1:Int)))+x2))-eO))) then decide ((IntKind.wrap .i64 ((IntKind.wrap .i64 ((IntKind.wrap .i64 (aD IntKind.u64 (IntKind.wrap .u64 (IntKind.wrap .i64 (x1+x3))) (1:Int)))+x2))-eO))<x3) else false then
        (jw n g (((),(IntKind.wrap .i64 (aD IntKind.u64 (IntKind.wrap .u64 (IntKind.wrap .i64 (x1+x3))) (1:Int)),(IntKind.wrap .i64 ((IntKind.wrap .i64 ((IntKind.wrap .i64 (aD IntKind.u64 (IntKind.wrap .u64 (IntKind.wrap .i64 (x1+x3))) (1:Int)))+x2))-eO),(x3,((),())))))) yZ.2).bind fun (JO:PUnit×List Entry)=>
        some (((),JO.2))
       else
        some (((),yZ.2))
      else
       bif bif decide ((IntKind.wrap .i64 (aD IntKind.u64 (IntKind.wrap .u64 (IntKind.wrap .i64 (x1+x3))) (1:Int)))< (IntKind.wrap .i64 ((IntKind.wrap .i64 ((IntKind.wrap .i64 (aD IntKind.u64 (IntKind.wrap .u64 (IntKind.wrap .i64 (x1+x3))) (1:Int)))+x2))-eO))) then decide ((IntKind.wrap .i64 ((IntKind.wrap .i64 ((IntKind.wrap .i64 (aD IntKind.u64 (IntKind.wrap .u64 (IntKind.wrap .i64 (x1+x3))) (1:Int)))+x2))-eO))<x3) else false then
        (jw n g (((),(IntKind.wrap .i64 (aD IntKind.u64 (IntKind.wrap .u64 (IntKind.wrap .i64 (x1+x3))) (1:Int)),(IntKind.wrap .i64 ((IntKind.wrap .i64 ((IntKind.wrap .i64 (aD IntKind.u64 (IntKind.wrap .u64 (IntKind.wrap .i64 (x1+x3))) (1:Int)))+x2))-eO),(x3,((),())))))) x4).bind fun (JQ:PUnit×List Entry)=>
        some (((),JQ.2))
       else
        some (((),x4))
    else
     (AX n g x1 x2 x3 x4 n ((x1,x2))).bind fun (eu:Int)=>
     bif bif decide (eu<x2) then decide (x2< (IntKind.wrap .i64 ((IntKind.wrap .i64 ((IntKind.wrap .i64 (aD IntKind.u64 (IntKind.wrap .u64 (IntKind.wrap .i64 (x1+x3))) (1:Int)))+x2))-eu))) else false then
      (uV n (((),(eu,(x2,(IntKind.wrap .i64 ((IntKind.wrap .i64 ((IntKind.wrap .i64 (aD IntKind.u64 (IntKind.wrap .u64 (IntKind.wrap .i64 (x1+x3))) (1:Int)))+x2))-eu),((),())))))) x4).bind fun (wP:PUnit×List Entry)=>
      bif bif decide (x1<eu) then decide (eu< (IntKind.wrap .i64 (aD IntKind.u64 (IntKind.wrap .u64 (IntKind.wrap .i64 (x1+x3))) (1:Int)))) else false then
       (jw n g (((),(x1,(eu,(IntKind.wrap .i64 (aD IntKind.u64 (IntKind.wrap .u64 (IntKind.wrap .i64 (x1+x3))) (1:Int)),((),())))))) wP.2).bind fun (A9:PUnit×List Entry)=>
       bif bif decide ((IntKind.wrap .i64 (aD IntKind.u64 (IntKind.wrap .u64 (IntKind.wrap .i64 (x1+x3))) (1:Int)))< (IntKind.wrap .i64 ((IntKind.wrap .i64 ((IntKind.wrap .i64 (aD IntKind.u64 (IntKind.wrap .u64 (IntKind.wrap .i64 (x1+x3))) (1:Int)))+x2))-eu))) then decide ((IntKind.wrap .i64 ((IntKind.wrap .i64 ((IntKind.wrap .i64 (aD IntKind.u64 (IntKind.wrap .u64 (IntKind.wrap .i64 (x1+x3))) (1:Int)))+x2))-eu))<x3) else false then
        (jw n g (((),(IntKind.wrap .i64 (aD IntKind.u64 (IntKind.wrap .u64 (IntKind.wrap .i64 (x1+x3))) (1:Int)),(IntKind.wrap .i64 ((IntKind.wrap .i64 ((IntKind.wrap .i64 (aD IntKind.u64 (IntKind.wrap .u64 (IntKind.wrap .i64 (x1+x3))) (1:Int)))+x2))-eu),(x3,((),())))))) A9.2).bind fun (JR:PUnit×List Entry)=>
        some (((),JR.2))
       else
        some (((),A9.2))
      else
       bif bif decide ((IntKind.wrap .i64 (aD IntKind.u64 (IntKind.wrap .u64 (IntKind.wrap .i64 (x1+x3))) (1:Int)))< (IntKind.wrap .i64 ((IntKind.wrap .i64 ((IntKind.wrap .i64 (aD IntKind.u64 (IntKind.wrap .u64 (IntKind.wrap .i64 (x1+x3))) (1:Int)))+x2))-eu))) then decide ((IntKind.wrap .i64 ((IntKind.wrap .i64 ((IntKind.wrap .i64 (aD IntKind.u64 (IntKind.wrap .u64 (IntKind.wrap .i64 (x1+x3))) (1:Int)))+x2))-eu))<x3) else false then
        (jw n g (((),(IntKind.wrap .i64 (aD IntKind.u64 (IntKind.wrap .u64 (IntKind.wrap .i64 (x1+x3))) (1:Int)),(IntKind.wrap .i64 ((IntKind.wrap .i64 ((IntKind.wrap .i64 (aD IntKind.u64 (IntKind.wrap .u64 (IntKind.wrap .i64 (x1+x3))) (1:Int)))+x2))-eu),(x3,((),())))))) wP.2).bind fun (JU:PUnit×List Entry)=>
        some (((),JU.2))
       else
        some (((),wP.2))
     else
      bif bif decide (x1<eu) then decide (eu< (IntKind.wrap .i64 (aD IntKind.u64 (IntKind.wrap .u64 (IntKind.wrap .i64 (x1+x3))) (1:Int)))) else false then
       (jw n g (((),(x1,(eu,(IntKind.wrap .i64 (aD IntKind.u64 (IntKind.wrap .u64 (IntKind.wrap .i64 (x1+x3))) (1:Int)),((),())))))) x4).bind fun (Ba:PUnit×List Entry)=>
       bif bif decide ((IntKind.wrap .i64 (aD IntKind.u64 (IntKind.wrap .u64 (IntKind.wrap .i64 (x1+x3))) (1:Int)))< (IntKind.wrap .i64 ((IntKind.wrap .i64 ((IntKind.wrap .i64 (aD IntKind.u64 (IntKind.wrap .u64 (IntKind.wrap .i64 (x1+x3))) (1:Int)))+x2))-eu))) then decide ((IntKind.wrap .i64 ((IntKind.wrap .i64 ((IntKind.wrap .i64 (aD IntKind.u64 (IntKind.wrap .u64 (IntKind.wrap .i64 (x1+x3))) (1:Int)))+x2))-eu))<x3) else false then
        (jw n g (((),(IntKind.wrap .i64 (aD IntKind.u64 (IntKind.wrap .u64 (IntKind.wrap .i64 (x1+x3))) (1:Int)),(IntKind.wrap .i64 ((IntKind.wrap .i64 ((IntKind.wrap .i64 (aD IntKind.u64 (IntKind.wrap .u64 (IntKind.wrap .i64 (x1+x3))) (1:Int)))+x2))-eu),(x3,((),())))))) Ba.2).bind fun (JV:PUnit×List Entry)=>
        some (((),JV.2))
       else
        some (((),Ba.2))
      else
       bif bif decide ((IntKind.wrap .i64 (aD IntKind.u64 (IntKind.wrap .u64 (IntKind.wrap .i64 (x1+x3))) (1:Int)))< (IntKind.wrap .i64 ((IntKind.wrap .i64 ((IntKind.wrap .i64 (aD IntKind.u64 (IntKind.wrap .u64 (IntKind.wrap .i64 (x1+x3))) (1:Int)))+x2))-eu))) then decide ((IntKind.wrap .i64 ((IntKind.wrap .i64 ((IntKind.wrap .i64 (aD IntKind.u64 (IntKind.wrap .u64 (IntKind.wrap .i64 (x1+x3))) (1:Int)))+x2))-eu))<x3) else false then
        (jw n g (((),(IntKind.wrap .i64 (aD IntKind.u64 (IntKind.wrap .u64 (IntKind.wrap .i64 (x1+x3))) (1:Int)),(IntKind.wrap .i64 ((IntKind.wrap .i64 ((IntKind.wrap .i64 (aD IntKind.u64 (IntKind.wrap .u64 (IntKind.wrap .i64 (x1+x3))) (1:Int)))+x2))-eu),(x3,((),())))))) x4).bind fun (bY:PUnit×List Entry)=>
        some (((),bY.2))
       else
        some (((),x4))
   else
    none:=by kernel_rfl
noncomputable def JW (n:Nat) (x1:Int) (m:Nat) (p:(Int×Int)×List Entry):Option (Int×List Entry):=
 dA (R:=R) 2 (aJ ((aT Tryz.f158.body [1,1,0,0,0]).getD .skip)) (⟨[(0,TV.vw 1000000 (Ty.st 10)),(1,TV.int IntKind.i64 x1),(2,TV.fn 110 [] []),(6,TV.int IntKind.i64 (20:Int))],[]⟩:MS R.T) (aU uW.loops 2).sh (aU uW.loops 2).outs (fun st k=>bA E R n false (kM n) (Et n) uW ((aT Tryz.f158.body [1,1,0,0,0]).getD .skip) st k) m p
noncomputable def JX (n:Nat) (x1:Int) (x9:Int) (m:Nat) (p:(Int×Int)×List Entry):Option (Int×List Entry):=
 dA (R:=R) 9 (aJ ((aT Tryz.f158.body [1,1,1,1,0,0,1,0,1,0,0,0]).getD .skip)) (⟨[(0,TV.vw 1000000 (Ty.st 10)),(1,TV.int IntKind.i64 x1),(2,TV.fn 110 [] []),(6,TV.int IntKind.i64 x9)],[]⟩:MS R.T) (aU uW.loops 9).sh (aU uW.loops 9).outs (fun st k=>bA E R n false (kM n) (Et n) uW ((aT Tryz.f158.body [1,1,1,1,0,0,1,0,1,0,0,0]).getD .skip) st k) m p
noncomputable def EJ (n:Nat) (x1:Int) (m:Nat) (p:Int×List Entry):Option (PUnit×List Entry):=
 dA (R:=R) 7 (aJ ((aT Tryz.f158.body [1,1,1,1,0,0]).getD .skip)) (⟨[(0,TV.vw 1000000 (Ty.st 10)),(1,TV.int IntKind.i64 x1),(2,TV.fn 110 [] [])],[]⟩:MS R.T) (aU uW.loops 7).sh (aU uW.loops 7).outs (fun st k=>bA E R n false (kM n) (Et n) uW ((aT Tryz.f158.body [1,1,1,1,0,0]).getD .skip) st k) m p
theorem aoJ (n:Nat) (x1:Int) (m:Nat) (x3:Int) (x4:Int) (x5:List Entry):JW n x1 (m+1) ((x3,x4),x5)=
 bif decide (x4<=x1) then
  (uU n (((),(x3,(x4,((),()))))) x5).bind fun (r6:PUnit×List Entry)=>
  JW n x1 m (((x4,IntKind.wrap .i64 (x4+(20:Int))),r6.2))
 else
  some ((x3,x5)):=by kernel_rfl
theorem aoK (n:Nat) (x1:Int) (x9:Int) (m:Nat) (bD:Int) (eH:Int) (Bb:List Entry):JX n x1 x9 (m+1) ((bD,eH),Bb)=
 bif decide (eH<=x1) then
  (wK n (((),(bD,(IntKind.wrap .i64 (bD+x9),(eH,((),())))))) Bb).bind fun (iJ:PUnit×List Entry)=>
  JX n x1 x9 m (((eH,IntKind.wrap .i64 (eH+(IntKind.wrap .i64 ((2:Int)*x9)))),iJ.2))
 else
  some ((bD,Bb)):=by kernel_rfl
theorem aoL (n:Nat) (x1:Int) (m:Nat) (x9:Int) (x10:List Entry):EJ n x1 (m+1) (x9,x10)=
 bif decide (x9<x1) then
  (JX n x1 x9 n ((((0:Int),IntKind.wrap .i64 ((2:Int)*x9)),x10))).bind fun (jD:Int×List Entry)=>
  bif decide ((IntKind.wrap .i64 (jD.1+x9))<x1) then
   (wK n (((),(jD.1,(IntKind.wrap .i64 (jD.1+x9),(x1,((),())))))) jD.2).bind fun (r16:PUnit×List Entry)=>
   EJ n x1 m ((IntKind.wrap .i64 (x9*(2:Int)),r16.2))
  else
   EJ n x1 m ((IntKind.wrap .i64 (x9*(2:Int)),jD.2))
 else
  some (((),x10)):=by kernel_rfl
theorem aoM (n:Nat) (x1:Int) (x2:List Entry):yM n (((),(x1,((),())))) (x2)=
 (JW n x1 n ((((0:Int),(20:Int)),x2))).bind fun (r7:Int×List Entry)=>
 (uU n (((),(r7.1,(x1,((),()))))) r7.2).bind fun (r8:PUnit×List Entry)=>
 (EJ n x1 n (((20:Int),r8.2))).bind fun (oU:PUnit×List Entry)=>
 some (((),oU.2)):=by kernel_rfl
theorem aoN (n:Nat) (x1:List Entry):yN n (((),((),()))) (x1)=
 (yM n (((),(((x1.length:Nat):Int),((),())))) x1).bind fun (r2:PUnit×List Entry)=>
 some (((),r2.2)):=by kernel_rfl
noncomputable def EK (n:Nat) (x1:Book) (x2:Snapshot) (m:Nat) (p:(PUnit×Int)×List Entry):Option (PUnit×List Entry):=
 dA (R:=R) 3 (aJ ((aT Tryz.f56.body [1,1,0,1,0,0]).getD .skip)) (⟨[(3,TV.ref 3 0),(10,TV.aj (T:=R.T) Cp.sh (Ty.st 11) x1.Rows),(11,TV.int IntKind.i64 (((x1.Rows.length:Nat):Int)))],[(3,Ob.ro (Ob.cells [TV.int IntKind.i64 x2.Day,TV.int IntKind.i64 x2.aI]))]⟩:MS R.T) (aU Px.loops 3).sh (aU Px.loops 3).outs (fun st k=>bA E R n true (kM n) (wL n) Px ((aT Tryz.f56.body [1,1,0,1,0,0]).getD .skip) st k) m p
theorem ac8 (n:Nat) (x1:Book) (x2:Snapshot) (m:Nat) (x3:Int) (x4:List Entry):EK n x1 x2 (m+1) (((),x3),x4)=
 bif decide (x3< (((x1.Rows.length:Nat):Int))) then
  (aB x1.Rows x3).bind fun (r5:Row)=>
  bif bif bif bif decide (r5.Entry.From<=x2.Day) then decide (x2.Day<r5.Entry.To) else false then decide (r5.Entry.jv<=x2.aI) else false then bif r5.dI==(0:Int) then true else decide (r5.dI>x2.aI) else false then
   bif bJ (x4.length+([r5.Entry].length)) 104 then
    EK n x1 x2 m ((((),IntKind.wrap .i64 (x3+(1:Int))),x4++[r5.Entry]))
   else
    none
  else
   EK n x1 x2 m ((((),IntKind.wrap .i64 (x3+(1:Int))),x4))
 else
  some (((),x4)):=by kernel_rfl
theorem aoO (n:Nat) (x1:Book) (x2:Snapshot):Ey n (x1,x2)=
 (EK n x1 x2 n ((((),(0:Int)),[]))).bind fun (r6:PUnit×List Entry)=>
 (yN n (((),((),()))) r6.2).bind fun (r7:PUnit×List Entry)=>
 some r7.2:=by kernel_rfl
noncomputable def JY (n:Nat) (x1:List Row) (x2:List Row) (m:Nat) (p:Int):Option (PUnit⊕Bool):=
 dA (R:=R) 4 (aJ ((aT Tryz.f36.body [1,1,0,1,0,0]).getD .skip)) (⟨[(0,TV.aj (T:=R.T) Cp.sh (Ty.st 11) x1),(1,TV.aj (T:=R.T) Cp.sh (Ty.st 11) x2)],[]⟩:MS R.T) (aU Pz.loops 4).sh (aU Pz.loops 4).outs (fun st k=>bA E R n false (Py n) (wL n) Pz ((aT Tryz.f36.body [1,1,0,1,0,0]).getD .skip) st k) m p
theorem ac9 (n:Nat) (x1:List Row) (x2:List Row) (m:Nat) (x3:Int):JY n x1 x2 (m+1) x3=
 bif decide (x3< (((x1.length:Nat):Int))) then
  (aB x1 x3).bind fun (r4:Row)=>
  (aB x2 x3).bind fun (r5:Row)=>
  bif !(r4.dI !=r5.dI) then
   (aB x1 x3).bind fun (r6:Row)=>
   (aB x2 x3).bind fun (r7:Row)=>
   (yK n ((r6.Entry,r7.Entry))).bind fun (r8:Bool)=>
   bif !r8 then
    some (.inr false)
   else
    JY n x1 x2 m (IntKind.wrap .i64 (x3+(1:Int)))
  else
   some (.inr false)
 else
  some (.inl (())):=by kernel_rfl
theorem aoP (n:Nat) (x1:List Row) (x2:List Row):sF n (x1,x2)=
 bif (((x1.length:Nat):Int)) !=(((x2.length:Nat):Int)) then
  some false
 else
  (JY n x1 x2 n (0:Int)).bind fun (r9:PUnit⊕Bool)=>
  Sum.elim (fun (yV:PUnit)=>
   some true)
   (fun (PK:Bool)=>
    some PK) r9:=by kernel_rfl
noncomputable def EL (n:Nat) (x1:ak) (x2:List Event) (x3:Int) (x4:Snapshot) (x5:List Int) (r6:Book×Bool) (r8:(List Row)×List Row) (m:Nat) (p:Int):Option (PUnit⊕Bool):=
 dA (R:=R) 6 (aJ ((aT Tryz.f9.body [1,1,1,1,0,1,0,0]).getD .skip)) (⟨[(1,TV.aj (T:=R.T) Cp.sh (Ty.st 14) x2),(2,TV.int IntKind.u8 x3),(4,TV.aj (T:=R.T) Cp.sh (Ty.int IntKind.i64) x5),(5,TV.ref 5 0),(8,TV.ref 8 0),(11,TV.ref 11 0),(13,TV.aj (T:=R.T) Cp.sh (Ty.st 11) r8.1),(14,TV.aj (T:=R.T) Cp.sh (Ty.st 11) r8.2)],[(5,Ob.ro (Ob.cells [TV.int IntKind.i64 x1.gq,TV.int IntKind.i64 x1.gY,TV.aj (T:=R.T) Cp.sh (Ty.st 7) x1.Defs])),(8,Ob.ro (Ob.cells [TV.int IntKind.i64 x4.Day,TV.int IntKind.i64 x4.aI])),(11,Ob.ro (Ob.cells [TV.int IntKind.i64 r6.1.ak.gq,TV.int IntKind.i64 r6.1.ak.gY,TV.aj (T:=R.T) Cp.sh (Ty.st 7) r6.1.ak.Defs,TV.int IntKind.i64 r6.1.aI,TV.int IntKind.i64 r6.1.Day,TV.aj (T:=R.T) Cp.sh (Ty.int IntKind.i64) r6.1.bO,TV.aj (T:=R.T) Cp.sh (Ty.st 11) r6.1.Rows]))]⟩:MS R.T) (aU uX.loops 6).sh (aU uX.loops 6).outs (fun st k=>bA E R n true (Jz n) (wL n) uX ((aT Tryz.f9.body [1,1,1,1,0,1,0,0]).getD .skip) st k) m p
noncomputable def EM (n:Nat) (x1:ak) (x2:List Event) (x4:Snapshot) (x5:List Int) (r6:Book×Bool) (r8:(List Row)×List Row) (jE:(List Row)×List Row) (m:Nat) (p:Int):Option (PUnit⊕Bool):=
 dA (R:=R) 15 (aJ ((aT Tryz.f9.body [1,1,1,1,1,1,1,0,1,0,0]).getD .skip)) (⟨[(1,TV.aj (T:=R.T) Cp.sh (Ty.st 14) x2),(4,TV.aj (T:=R.T) Cp.sh (Ty.int IntKind.i64) x5),(5,TV.ref 5 0),(8,TV.ref 8 0),(11,TV.ref 11 0),(13,TV.aj (T:=R.T) Cp.sh (Ty.st 11) r8.1),(14,TV.aj (T:=R.T) Cp.sh (Ty.st 11) r8.2),(20,TV.aj (T:=R.T) Cp.sh (Ty.st 11) jE.1)],[(5,Ob.ro (Ob.cells [TV.int IntKind.i64 x1.gq,TV.int IntKind.i64 x1.gY,TV.aj (T:=R.T) Cp.sh (Ty.st 7) x1.Defs])),(8,Ob.ro (Ob.cells [TV.int IntKind.i64 x4.Day,TV.int IntKind.i64 x4.aI])),(11,Ob.ro (Ob.cells [TV.int IntKind.i64 r6.1.ak.gq,TV.int IntKind.i64 r6.1.ak.gY,TV.aj (T:=R.T) Cp.sh (Ty.st 7) r6.1.ak.Defs,TV.int IntKind.i64 r6.1.aI,TV.int IntKind.i64 r6.1.Day,TV.aj (T:=R.T) Cp.sh (Ty.int IntKind.i64) r6.1.bO,TV.aj (T:=R.T) Cp.sh (Ty.st 11) r6.1.Rows]))]⟩:MS R.T) (aU uX.loops 15).sh (aU uX.loops 15).outs (fun st k=>bA E R n true (Jz n) (wL n) uX ((aT Tryz.f9.body [1,1,1,1,1,1,1,0,1,0,0]).getD .skip) st k) m p
noncomputable def EN (n:Nat) (x1:ak) (x2:List Event) (x5:List Int) (r6:Book×Bool) (r8:(List Row)×List Row) (jG:List Entry) (m:Nat) (p:Int):Option (PUnit⊕Bool):=
 dA (R:=R) 22 (aJ ((aT Tryz.f9.body [1,1,1,1,1,1,1,1,0,1,0,1,1,0,0]).getD .skip)) (⟨[(1,TV.aj (T:=R.T) Cp.sh (Ty.st 14) x2),(4,TV.aj (T:=R.T) Cp.sh (Ty.int IntKind.i64) x5),(5,TV.ref 5 0),(11,TV.ref 11 0),(13,TV.aj (T:=R.T) Cp.sh (Ty.st 11) r8.1),(14,TV.aj (T:=R.T) Cp.sh (Ty.st 11) r8.2),(23,TV.aj (T:=R.T) Cp.sh (Ty.st 10) jG)],[(5,Ob.ro (Ob.cells [TV.int IntKind.i64 x1.gq,TV.int IntKind.i64 x1.gY,TV.aj (T:=R.T) Cp.sh (Ty.st 7) x1.Defs])),(11,Ob.ro (Ob.cells [TV.int IntKind.i64 r6.1.ak.gq,TV.int IntKind.i64 r6.1.ak.gY,TV.aj (T:=R.T) Cp.sh (Ty.st 7) r6.1.ak.Defs,TV.int IntKind.i64 r6.1.aI,TV.int IntKind.i64 r6.1.Day,TV.aj (T:=R.T) Cp.sh (Ty.int IntKind.i64) r6.1.bO,TV.aj (T:=R.T) Cp.sh (Ty.st 11) r6.1.Rows]))]⟩:MS R.T) (aU uX.loops 22).sh (aU uX.loops 22).outs (fun st k=>bA E R n true (Jz n) (wL n) uX ((aT Tryz.f9.body [1,1,1,1,1,1,1,1,0,1,0,1,1,0,0]).getD .skip) st k) m p
theorem ada (n:Nat) (x1:ak) (x2:List Event) (x3:Int) (x4:Snapshot) (x5:List Int) (r6:Book×Bool) (r8:(List Row)×List Row) (m:Nat) (x9:Int):EL n x1 x2 x3 x4 x5 r6 r8 (m+1) x9=
 bif decide (x9< (((r6.1.Rows.length:Nat):Int))) then
  (aB r6.1.Rows x9).bind fun (bW:Row)=>
  (nC n ((r8.1,bW.Entry))).bind fun (dw:Bool)=>
  (aB r6.1.Rows x9).bind fun (gM:Row)=>
  (nC n ((r8.2,gM.Entry))).bind fun (eG:Bool)=>
  (iQ (bif !(bif dw then eG else false) then bif !dw then !eG else false else false) (aB r6.1.Rows x9) ((⟨(⟨(0:Int),(0:Int),(0:Int),(0:Int),(0:Int),(0:Int),(0:Int),[],[]⟩:Entry),(0:Int)⟩:Row))).bind fun (iJ:Row)=>
  bif bif bif dw then eG else false then true else bif bif !dw then !eG else false then iJ.dI==(0:Int) else false then
   some (.inr false)
  else
   EL n x1 x2 x3 x4 x5 r6 r8 m (IntKind.wrap .i64 (x9+(1:Int)))
 else
  some (.inl (())):=by kernel_rfl
theorem adb (n:Nat) (x1:ak) (x2:List Event) (x4:Snapshot) (x5:List Int) (r6:Book×Bool) (r8:(List Row)×List Row) (jE:(List Row)×List Row) (m:Nat) (x20:Int):EM n x1 x2 x4 x5 r6 r8 jE (m+1) x20=
 bif decide (x20< (((jE.1.length:Nat):Int))) then
  (aB jE.1 x20).bind fun (wN:Row)=>
  (nC n ((r8.1,wN.Entry))).bind fun (uY:Bool)=>
  bif !uY then
   some (.inr false)
  else
   EM n x1 x2 x4 x5 r6 r8 jE m (IntKind.wrap .i64 (x20+(1:Int)))
 else
  some (.inl (())):=by kernel_rfl
theorem ade (n:Nat) (x1:ak) (x2:List Event) (x5:List Int) (r6:Book×Bool) (r8:(List Row)×List Row) (jG:List Entry) (m:Nat) (x28:Int):EN n x1 x2 x5 r6 r8 jG (m+1) x28=
 bif decide (x28< (((jG.length:Nat):Int))) then
  (aB jG x28).bind fun (PL:Entry)=>
  (nC n ((r8.2,PL))).bind fun (AZ:Bool)=>
  (iQ (!AZ) (aB jG x28) ((⟨(0:Int),(0:Int),(0:Int),(0:Int),(0:Int),(0:Int),(0:Int),[],[]⟩:Entry))).bind fun (r31:Entry)=>
  (iQ (!AZ) (nC n ((r8.1,r31))) false).bind fun (r32:Bool)=>
  bif bif AZ then true else !r32 then
   some (.inr false)
  else
   EN n x1 x2 x5 r6 r8 jG m (IntKind.wrap .i64 (x28+(1:Int)))
 else
  some (.inl (())):=by kernel_rfl
theorem aoR (n:Nat) (x1:ak) (x2:List Event) (x3:Int) (x4:Snapshot) (x5:List Int):PG n (x1,(x2,(x3,(x4,x5))))=
 (qV n ((x1,x2))).bind fun (r6:Book×Bool)=>
 bif bif !r6.2 then true else decide ((((x5.length:Nat):Int))> (40:Int)) then
  (gZ n (())).bind fun (r7:Bool)=>
  some r7
 else
  (qp n r6.1).bind fun (r8:(List Row)×List Row)=>
  (EL n x1 x2 x3 x4 x5 r6 r8 n (0:Int)).bind fun (jD:PUnit⊕Bool)=>
  Sum.elim (fun (q16:PUnit)=>
   bif !((IntKind.wrap .i64 ((((x2.length:Nat):Int))+(1:Int)))==(0:Int)) then
    bif kF (Int.tmod (IntKind.wrap .i64 x3) (IntKind.wrap .i64 ((((x2.length:Nat):Int))+(1:Int)))) x2.length then
     (qV n ((x1,List.take (Int.toNat (Int.tmod (IntKind.wrap .i64 x3) (IntKind.wrap .i64 ((((x2.length:Nat):Int))+(1:Int))))) x2))).bind fun (wM:Book×Bool)=>
     (qp n wM.1).bind fun (jE:(List Row)×List Row)=>
     (EM n x1 x2 x4 x5 r6 r8 jE n (0:Int)).bind fun (kS:PUnit⊕Bool)=>
     Sum.elim (fun (q24:PUnit)=>
      bif decide (x4.aI>=(1:Int)) then
       bif decide (x4.aI<=r6.1.aI) then
        (aB r6.1.bO (IntKind.wrap .i64 (x4.aI-(1:Int)))).bind fun (qW:Int)=>
        bif decide (x4.Day<=qW) then
         (Ey n ((r6.1,x4))).bind fun (jG:List Entry)=>
         (EN n x1 x2 x5 r6 r8 jG n (0:Int)).bind fun (AY:PUnit⊕Bool)=>
         Sum.elim (fun (q34:PUnit)=>
          bif !((((x2.length:Nat):Int))==(0:Int)) then
           (aB x2 (IntKind.wrap .i64 ((((x2.length:Nat):Int))-(1:Int)))).bind fun (eO:Event)=>
           bif !(eO.Kind !=(1:Int)) then
            (aB x2 (IntKind.wrap .i64 ((((x2.length:Nat):Int))-(1:Int)))).bind fun (wO:Event)=>
            bif decide (wO.Until<=r6.1.Day) then
             (gZ n (())).bind fun (A8:Bool)=>
             some A8
            else
             bif bJ x2.length 120 then
              bif decide (0<=(IntKind.wrap .i64 ((((x2.length:Nat):Int))-(1:Int)))/\(IntKind.wrap .i64 ((((x2.length:Nat):Int))-(1:Int)))< ((x2.length:Nat):Int)) then
               (aB x2 (IntKind.wrap .i64 ((((x2.length:Nat):Int))-(1:Int)))).bind fun (bX:Event)=>
               bif decide (0<=(IntKind.wrap .i64 (((((aW x2 (IntKind.wrap .i64 ((((x2.length:Nat):Int))-(1:Int))) ((⟨bX.Kind,bX.aI,bX.Day,bX.ID,bX.bI,bX.Until,bX.From,x5,bX.aM,bX.aL⟩:Event))).length:Nat):Int))-(1:Int)))/\(IntKind.wrap .i64 (((((aW x2 (IntKind.wrap .i64 ((((x2.length:Nat):Int))-(1:Int))) ((⟨bX.Kind,bX.aI,bX.Day,bX.ID,bX.bI,bX.Until,bX.From,x5,bX.aM,bX.aL⟩:Event))).length:Nat):Int))-(1:Int)))< (((aW x2 (IntKind.wrap .i64 ((((x2.length:Nat):Int))-(1:Int))) ((⟨bX.Kind,bX.aI,bX.Day,bX.ID,bX.bI,bX.Until,bX.From,x5,bX.aM,bX.aL⟩:Event))).length:Nat):Int)) then
                (aB (aW x2 (IntKind.wrap .i64 ((((x2.length:Nat):Int))-(1:Int))) ((⟨bX.Kind,bX.aI,bX.Day,bX.ID,bX.bI,bX.Until,bX.From,x5,bX.aM,bX.aL⟩:Event))) (IntKind.wrap .i64 (((((aW x2 (IntKind.wrap .i64 ((((x2.length:Nat):Int))-(1:Int))) ((⟨bX.Kind,bX.aI,bX.Day,bX.ID,bX.bI,bX.Until,bX.From,x5,bX.aM,bX.aL⟩:Event))).length:Nat):Int))-(1:Int)))).bind fun (qX:Event)=>
                (qV n ((x1,aW (aW x2 (IntKind.wrap .i64 ((((x2.length:Nat):Int))-(1:Int))) ((⟨bX.Kind,bX.aI,bX.Day,bX.ID,bX.bI,bX.Until,bX.From,x5,bX.aM,bX.aL⟩:Event))) (IntKind.wrap .i64 (((((aW x2 (IntKind.wrap .i64 ((((x2.length:Nat):Int))-(1:Int))) ((⟨bX.Kind,bX.aI,bX.Day,bX.ID,bX.bI,bX.Until,bX.From,x5,bX.aM,bX.aL⟩:Event))).length:Nat):Int))-(1:Int))) ((⟨qX.Kind,qX.aI,qX.Day,qX.ID,qX.bI,qX.Until,qX.From,qX.Vec,[],qX.aL⟩:Event))))).bind fun (yZ:Book×Bool)=>
                bif !yZ.2 then
                 (gZ n (())).bind fun (JO:Bool)=>
                 some JO
                else
                 (qp n yZ.1).bind fun (JQ:(List Row)×List Row)=>
                 (gZ n (())).bind fun (eu:Bool)=>
                 (iQ eu (sF n ((JQ.1,r8.1))) false).bind fun (wP:Bool)=>
                 some (bif eu then wP else false)
               else
                none
              else
               none
             else
              none
           else
            (gZ n (())).bind fun (A9:Bool)=>
            some A9
          else
           (gZ n (())).bind fun (JR:Bool)=>
           some JR)
          (fun (q35:Bool)=>
           some q35) AY
        else
         bif !((((x2.length:Nat):Int))==(0:Int)) then
          (aB x2 (IntKind.wrap .i64 ((((x2.length:Nat):Int))-(1:Int)))).bind fun (JU:Event)=>
          bif !(JU.Kind !=(1:Int)) then
           (aB x2 (IntKind.wrap .i64 ((((x2.length:Nat):Int))-(1:Int)))).bind fun (Ba:Event)=>
           bif decide (Ba.Until<=r6.1.Day) then
            (gZ n (())).bind fun (JV:Bool)=>
            some JV
           else
            bif bJ x2.length 120 then
             bif decide (0<=(IntKind.wrap .i64 ((((x2.length:Nat):Int))-(1:Int)))/\(IntKind.wrap .i64 ((((x2.length:Nat):Int))-(1:Int)))< ((x2.length:Nat):Int)) then
              (aB x2 (IntKind.wrap .i64 ((((x2.length:Nat):Int))-(1:Int)))).bind fun (bY:Event)=>
              bif decide (0<=(IntKind.wrap .i64 (((((aW x2 (IntKind.wrap .i64 ((((x2.length:Nat):Int))-(1:Int))) ((⟨bY.Kind,bY.aI,bY.Day,bY.ID,bY.bI,bY.Until,bY.From,x5,bY.aM,bY.aL⟩:Event))).length:Nat):Int))-(1:Int)))/\(IntKind.wrap .i64 (((((aW x2 (IntKind.wrap .i64 ((((x2.length:Nat):Int))-(1:Int))) ((⟨bY.Kind,bY.aI,bY.Day,bY.ID,bY.bI,bY.Until,bY.From,x5,bY.aM,bY.aL⟩:Event))).length:Nat):Int))-(1:Int)))< (((aW x2 (IntKind.wrap .i64 ((((x2.length:Nat):Int))-(1:Int))) ((⟨bY.Kind,bY.aI,bY.Day,bY.ID,bY.bI,bY.Until,bY.From,x5,bY.aM,bY.aL⟩:Event))).length:Nat):Int)) then
               (aB (aW x2 (IntKind.wrap .i64 ((((x2.length:Nat):Int))-(1:Int))) ((⟨bY.Kind,bY.aI,bY.Day,bY.ID,bY.bI,bY.Until,bY.From,x5,bY.aM,bY.aL⟩:Event))) (IntKind.wrap .i64 (((((aW x2 (IntKind.wrap .i64 ((((x2.length:Nat):Int))-(1:Int))) ((⟨bY.Kind,bY.aI,bY.Day,bY.ID,bY.bI,bY.Until,bY.From,x5,bY.aM,bY.aL⟩:Event))).length:Nat):Int))-(1:Int)))).bind fun (wQ:Event)=>
               (qV n ((x1,aW (aW x2 (IntKind.wrap .i64 ((((x2.length:Nat):Int))-(1:Int))) ((⟨bY.Kind,bY.aI,bY.Day,bY.ID,bY.bI,bY.Until,bY.From,x5,bY.aM,bY.aL⟩:Event))) (IntKind.wrap .i64 (((((aW x2 (IntKind.wrap .i64 ((((x2.length:Nat):Int))-(1:Int))) ((⟨bY.Kind,bY.aI,bY.Day,bY.ID,bY.bI,bY.Until,bY.From,x5,bY.aM,bY.aL⟩:Event))).length:Nat):Int))-(1:Int))) ((⟨wQ.Kind,wQ.aI,wQ.Day,wQ.ID,wQ.bI,wQ.Until,wQ.From,wQ.Vec,[],wQ.aL⟩:Event))))).bind fun (r53:Book×Bool)=>
               bif !r53.2 then
                (gZ n (())).bind fun (r54:Bool)=>
                some r54
               else
                (qp n r53.1).bind fun (r55:(List Row)×List Row)=>
                (gZ n (())).bind fun (r56:Bool)=>
                (iQ r56 (sF n ((r55.1,r8.1))) false).bind fun (r57:Bool)=>
                some (bif r56 then r57 else false)
              else
               none
             else
              none
            else
             none
          else
           (gZ n (())).bind fun (r58:Bool)=>
           some r58
         else
          (gZ n (())).bind fun (r59:Bool)=>
          some r59
       else
        bif !((((x2.length:Nat):Int))==(0:Int)) then
         (aB x2 (IntKind.wrap .i64 ((((x2.length:Nat):Int))-(1:Int)))).bind fun (r60:Event)=>
         bif !(r60.Kind !=(1:Int)) then
          (aB x2 (IntKind.wrap .i64 ((((x2.length:Nat):Int))-(1:Int)))).bind fun (r61:Event)=>
          bif decide (r61.Until<=r6.1.Day) then
           (gZ n (())).bind fun (r62:Bool)=>
           some r62
          else
           bif bJ x2.length 120 then
            bif decide (0<=(IntKind.wrap .i64 ((((x2.length:Nat):Int))-(1:Int)))/\(IntKind.wrap .i64 ((((x2.length:Nat):Int))-(1:Int)))< ((x2.length:Nat):Int)) then
             (aB x2 (IntKind.wrap .i64 ((((x2.length:Nat):Int))-(1:Int)))).bind fun (dz:Event)=>
             bif decide (0<=(IntKind.wrap .i64 (((((aW x2 (IntKind.wrap .i64 ((((x2.length:Nat):Int))-(1:Int))) ((⟨dz.Kind,dz.aI,dz.Day,dz.ID,dz.bI,dz.Until,dz.From,x5,dz.aM,dz.aL⟩:Event))).length:Nat):Int))-(1:Int)))/\(IntKind.wrap .i64 (((((aW x2 (IntKind.wrap .i64 ((((x2.length:Nat):Int))-(1:Int))) ((⟨dz.Kind,dz.aI,dz.Day,dz.ID,dz.bI,dz.Until,dz.From,x5,dz.aM,dz.aL⟩:Event))).length:Nat):Int))-(1:Int)))< (((aW x2 (IntKind.wrap .i64 ((((x2.length:Nat):Int))-(1:Int))) ((⟨dz.Kind,dz.aI,dz.Day,dz.ID,dz.bI,dz.Until,dz.From,x5,dz.aM,dz.aL⟩:Event))).length:Nat):Int)) then
              (aB (aW x2 (IntKind.wrap .i64 ((((x2.length:Nat):Int))-(1:Int))) ((⟨dz.Kind,dz.aI,dz.Day,dz.ID,dz.bI,dz.Until,dz.From,x5,dz.aM,dz.aL⟩:Event))) (IntKind.wrap .i64 (((((aW x2 (IntKind.wrap .i64 ((((x2.length:Nat):Int))-(1:Int))) ((⟨dz.Kind,dz.aI,dz.Day,dz.ID,dz.bI,dz.Until,dz.From,x5,dz.aM,dz.aL⟩:Event))).length:Nat):Int))-(1:Int)))).bind fun (r64:Event)=>
              (qV n ((x1,aW (aW x2 (IntKind.wrap .i64 ((((x2.length:Nat):Int))-(1:Int))) ((⟨dz.Kind,dz.aI,dz.Day,dz.ID,dz.bI,dz.Until,dz.From,x5,dz.aM,dz.aL⟩:Event))) (IntKind.wrap .i64 (((((aW x2 (IntKind.wrap .i64 ((((x2.length:Nat):Int))-(1:Int))) ((⟨dz.Kind,dz.aI,dz.Day,dz.ID,dz.bI,dz.Until,dz.From,x5,dz.aM,dz.aL⟩:Event))).length:Nat):Int))-(1:Int))) ((⟨r64.Kind,r64.aI,r64.Day,r64.ID,r64.bI,r64.Until,r64.From,r64.Vec,[],r64.aL⟩:Event))))).bind fun (r65:Book×Bool)=>
              bif !r65.2 then
               (gZ n (())).bind fun (r66:Bool)=>
               some r66
              else
               (qp n r65.1).bind fun (r67:(List Row)×List Row)=>
               (gZ n (())).bind fun (r68:Bool)=>
               (iQ r68 (sF n ((r67.1,r8.1))) false).bind fun (r69:Bool)=>
               some (bif r68 then r69 else false)
             else
              none
            else
             none
           else
            none
         else
          (gZ n (())).bind fun (r70:Bool)=>
          some r70
        else
         (gZ n (())).bind fun (r71:Bool)=>
         some r71
      else
       bif !((((x2.length:Nat):Int))==(0:Int)) then
        (aB x2 (IntKind.wrap .i64 ((((x2.length:Nat):Int))-(1:Int)))).bind fun (U8:Event)=>
        bif !(U8.Kind !=(1:Int)) then
         (aB x2 (IntKind.wrap .i64 ((((x2.length:Nat):Int))-(1:Int)))).bind fun (U9:Event)=>
         bif decide (U9.Until<=r6.1.Day) then
          (gZ n (())).bind fun (Va:Bool)=>
          some Va
         else
          bif bJ x2.length 120 then
           bif decide (0<=(IntKind.wrap .i64 ((((x2.length:Nat):Int))-(1:Int)))/\(IntKind.wrap .i64 ((((x2.length:Nat):Int))-(1:Int)))< ((x2.length:Nat):Int)) then
            (aB x2 (IntKind.wrap .i64 ((((x2.length:Nat):Int))-(1:Int)))).bind fun (aO:Event)=>
            bif decide (0<=(IntKind.wrap .i64 (((((aW x2 (IntKind.wrap .i64 ((((x2.length:Nat):Int))-(1:Int))) ((⟨aO.Kind,aO.aI,aO.Day,aO.ID,aO.bI,aO.Until,aO.From,x5,aO.aM,aO.aL⟩:Event))).length:Nat):Int))-(1:Int)))/\(IntKind.wrap .i64 (((((aW x2 (IntKind.wrap .i64 ((((x2.length:Nat):Int))-(1:Int))) ((⟨aO.Kind,aO.aI,aO.Day,aO.ID,aO.bI,aO.Until,aO.From,x5,aO.aM,aO.aL⟩:Event))).length:Nat):Int))-(1:Int)))< (((aW x2 (IntKind.wrap .i64 ((((x2.length:Nat):Int))-(1:Int))) ((⟨aO.Kind,aO.aI,aO.Day,aO.ID,aO.bI,aO.Until,aO.From,x5,aO.aM,aO.aL⟩:Event))).length:Nat):Int)) then
             (aB (aW x2 (IntKind.wrap .i64 ((((x2.length:Nat):Int))-(1:Int))) ((⟨aO.Kind,aO.aI,aO.Day,aO.ID,aO.bI,aO.Until,aO.From,x5,aO.aM,aO.aL⟩:Event))) (IntKind.wrap .i64 (((((aW x2 (IntKind.wrap .i64 ((((x2.length:Nat):Int))-(1:Int))) ((⟨aO.Kind,aO.aI,aO.Day,aO.ID,aO.bI,aO.Until,aO.From,x5,aO.aM,aO.aL⟩:Event))).length:Nat):Int))-(1:Int)))).bind fun (l7:Event)=>
             (qV n ((x1,aW (aW x2 (IntKind.wrap .i64 ((((x2.length:Nat):Int))-(1:Int))) ((⟨aO.Kind,aO.aI,aO.Day,aO.ID,aO.bI,aO.Until,aO.From,x5,aO.aM,aO.aL⟩:Event))) (IntKind.wrap .i64 (((((aW x2 (IntKind.wrap .i64 ((((x2.length:Nat):Int))-(1:Int))) ((⟨aO.Kind,aO.aI,aO.Day,aO.ID,aO.bI,aO.Until,aO.From,x5,aO.aM,aO.aL⟩:Event))).length:Nat):Int))-(1:Int))) ((⟨l7.Kind,l7.aI,l7.Day,l7.ID,l7.bI,l7.Until,l7.From,l7.Vec,[],l7.aL⟩:Event))))).bind fun (JZ:Book×Bool)=>
             bif !JZ.2 then
              (gZ n (())).bind fun (Vb:Bool)=>
              some Vb
             else
              (qp n JZ.1).bind fun (Vd:(List Row)×List Row)=>
              (gZ n (())).bind fun (J2:Bool)=>
              (iQ J2 (sF n ((Vd.1,r8.1))) false).bind fun (Ve:Bool)=>
              some (bif J2 then Ve else false)
            else
             none
           else
            none
          else
           none
        else
         (gZ n (())).bind fun (Vf:Bool)=>
         some Vf
       else
        (gZ n (())).bind fun (Vg:Bool)=>
        some Vg)
      (fun (q25:Bool)=>
       some q25) kS
    else
     none
   else
    none)
   (fun (q17:Bool)=>
    some q17) jD:=by kernel_rfl
attribute [irreducible] yO tT yP yQ JA yR yS yT yU JB yX JC tV EA EB sG JD AO AP AQ yY EC ED EF AU JE JF JG AV JH JI JJ EG EH JK EI JL AX JW JX EJ EK JY EL EM EN
end Sh
