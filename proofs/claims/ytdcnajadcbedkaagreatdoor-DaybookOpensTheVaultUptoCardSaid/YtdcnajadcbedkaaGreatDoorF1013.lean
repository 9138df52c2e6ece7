import Derived.KernelRfl
import Derived.Test.YtdcnajadcbedkaaGreatDoorF1005
import Derived.Test.YtdcnajadcbedkaaGreatDoorProg
set_option linter.all false
open Go Go.Proofs aQ
namespace Sh
set_option maxRecDepth 100000
structure au where
 b0:Int
 b1:Int
 b2:Int
 b3:Int
 b4:Int
 b5:Int
 b6:Int
 b7:Int
 b8:Int
 b9:Int
 b10:Int
 b11:Int
 b12:Int
 b13:Int
 b14:Int
 b15:Int
 deriving DecidableEq
def au.c (x:au):List V:=[.int .u8 x.b0,.int .u8 x.b1,.int .u8 x.b2,.int .u8 x.b3,.int .u8 x.b4,.int .u8 x.b5,.int .u8 x.b6,.int .u8 x.b7,.int .u8 x.b8,.int .u8 x.b9,.int .u8 x.b10,.int .u8 x.b11,.int .u8 x.b12,.int .u8 x.b13,.int .u8 x.b14,.int .u8 x.b15]
def au.v (x:au):V:=.agg x.c
theorem au.cells (x:au):((au.v x).cells)=x.c:=rfl
theorem au.nr (x:au):fE x.v=true:=rfl
theorem au.len (x:au):x.c.length=16:=rfl
theorem au.one (x:au):dx x.c=true:=rfl
theorem au.pc (x:au):aR x.v=true:=by simp[au.v,au.c,aR,bY,lV,nI,nJ,nK,nL,iv]
attribute [go_sem] au.nr au.cells au.len au.one au.pc
structure Seal where
 b0:Int
 b1:Int
 b2:Int
 b3:Int
 b4:Int
 b5:Int
 b6:Int
 b7:Int
 b8:Int
 b9:Int
 b10:Int
 b11:Int
 b12:Int
 b13:Int
 b14:Int
 b15:Int
 deriving DecidableEq
def Seal.c (x:Seal):List V:=[.int .u8 x.b0,.int .u8 x.b1,.int .u8 x.b2,.int .u8 x.b3,.int .u8 x.b4,.int .u8 x.b5,.int .u8 x.b6,.int .u8 x.b7,.int .u8 x.b8,.int .u8 x.b9,.int .u8 x.b10,.int .u8 x.b11,.int .u8 x.b12,.int .u8 x.b13,.int .u8 x.b14,.int .u8 x.b15]
def Seal.v (x:Seal):V:=.agg x.c
theorem Seal.cells (x:Seal):((Seal.v x).cells)=x.c:=rfl
theorem Seal.nr (x:Seal):fE x.v=true:=rfl
theorem Seal.len (x:Seal):x.c.length=16:=rfl
theorem Seal.one (x:Seal):dx x.c=true:=rfl
theorem Seal.pc (x:Seal):aR x.v=true:=by simp[Seal.v,Seal.c,aR,bY,lV,nI,nJ,nK,nL,iv]
attribute [go_sem] Seal.nr Seal.cells Seal.len Seal.one Seal.pc
structure Mark where
 jP:au
 jZ:au
 Count:Int
 deriving DecidableEq
def Mark.c (x:Mark):List V:=[.int .u8 x.jP.b0,.int .u8 x.jP.b1,.int .u8 x.jP.b2,.int .u8 x.jP.b3,.int .u8 x.jP.b4,.int .u8 x.jP.b5,.int .u8 x.jP.b6,.int .u8 x.jP.b7,.int .u8 x.jP.b8,.int .u8 x.jP.b9,.int .u8 x.jP.b10,.int .u8 x.jP.b11,.int .u8 x.jP.b12,.int .u8 x.jP.b13,.int .u8 x.jP.b14,.int .u8 x.jP.b15,.int .u8 x.jZ.b0,.int .u8 x.jZ.b1,.int .u8 x.jZ.b2,.int .u8 x.jZ.b3,.int .u8 x.jZ.b4,.int .u8 x.jZ.b5,.int .u8 x.jZ.b6,.int .u8 x.jZ.b7,.int .u8 x.jZ.b8,.int .u8 x.jZ.b9,.int .u8 x.jZ.b10,.int .u8 x.jZ.b11,.int .u8 x.jZ.b12,.int .u8 x.jZ.b13,.int .u8 x.jZ.b14,.int .u8 x.jZ.b15,.int .i64 x.Count]
def Mark.v (x:Mark):V:=.agg x.c
theorem Mark.cells (x:Mark):((Mark.v x).cells)=x.c:=rfl
theorem Mark.nr (x:Mark):fE x.v=true:=rfl
theorem Mark.len (x:Mark):x.c.length=33:=rfl
theorem Mark.one (x:Mark):dx x.c=true:=rfl
theorem Mark.pc (x:Mark):aR x.v=true:=by simp[Mark.v,Mark.c,aR,bY,lV,nI,nJ,nK,nL,iv,au.pc]
attribute [go_sem] Mark.nr Mark.cells Mark.len Mark.one Mark.pc
structure Root where
 Tw:Int
 bN:Int
 Day:Int
 Floor:Int
 eY:au
 aM:au
 Marks:List Mark
 Gone:au
 Tx:Int
 eT:au
 Nl:Int
 Bd:Int
 Seal:Seal
 deriving DecidableEq
def Root.c (x:Root):List V:=[.int .i64 x.Tw,.int .i64 x.bN,.int .i64 x.Day,.int .i64 x.Floor,.int .u8 x.eY.b0,.int .u8 x.eY.b1,.int .u8 x.eY.b2,.int .u8 x.eY.b3,.int .u8 x.eY.b4,.int .u8 x.eY.b5,.int .u8 x.eY.b6,.int .u8 x.eY.b7,.int .u8 x.eY.b8,.int .u8 x.eY.b9,.int .u8 x.eY.b10,.int .u8 x.eY.b11,.int .u8 x.eY.b12,.int .u8 x.eY.b13,.int .u8 x.eY.b14,.int .u8 x.eY.b15,.int .u8 x.aM.b0,.int .u8 x.aM.b1,.int .u8 x.aM.b2,.int .u8 x.aM.b3,.int .u8 x.aM.b4,.int .u8 x.aM.b5,.int .u8 x.aM.b6,.int .u8 x.aM.b7,.int .u8 x.aM.b8,.int .u8 x.aM.b9,.int .u8 x.aM.b10,.int .u8 x.aM.b11,.int .u8 x.aM.b12,.int .u8 x.aM.b13,.int .u8 x.aM.b14,.int .u8 x.aM.b15,lv Mark.v x.Marks,.int .u8 x.Gone.b0,.int .u8 x.Gone.b1,.int .u8 x.Gone.b2,.int .u8 x.Gone.b3,.int .u8 x.Gone.b4,.int .u8 x.Gone.b5,.int .u8 x.Gone.b6,.int .u8 x.Gone.b7,.int .u8 x.Gone.b8,.int .u8 x.Gone.b9,.int .u8 x.Gone.b10,.int .u8 x.Gone.b11,.int .u8 x.Gone.b12,.int .u8 x.Gone.b13,.int .u8 x.Gone.b14,.int .u8 x.Gone.b15,.int .i64 x.Tx,.int .u8 x.eT.b0,.int .u8 x.eT.b1,.int .u8 x.eT.b2,.int .u8 x.eT.b3,.int .u8 x.eT.b4,.int .u8 x.eT.b5,.int .u8 x.eT.b6,.int .u8 x.eT.b7,.int .u8 x.eT.b8,.int .u8 x.eT.b9,.int .u8 x.eT.b10,.int .u8 x.eT.b11,.int .u8 x.eT.b12,.int .u8 x.eT.b13,.int .u8 x.eT.b14,.int .u8 x.eT.b15,.int .i64 x.Nl,.int .i64 x.Bd,.int .u8 x.Seal.b0,.int .u8 x.Seal.b1,.int .u8 x.Seal.b2,.int .u8 x.Seal.b3,.int .u8 x.Seal.b4,.int .u8 x.Seal.b5,.int .u8 x.Seal.b6,.int .u8 x.Seal.b7,.int .u8 x.Seal.b8,.int .u8 x.Seal.b9,.int .u8 x.Seal.b10,.int .u8 x.Seal.b11,.int .u8 x.Seal.b12,.int .u8 x.Seal.b13,.int .u8 x.Seal.b14,.int .u8 x.Seal.b15]
def Root.v (x:Root):V:=.agg x.c
theorem Root.cells (x:Root):((Root.v x).cells)=x.c:=rfl
theorem Root.nr (x:Root):fE x.v=true:=rfl
theorem Root.len (x:Root):x.c.length=88:=rfl
theorem Root.one (x:Root):dx x.c=true:=rfl
theorem Root.pc (x:Root):aR x.v=true:=by simp[Root.v,Root.c,aR,bY,lV,nI,nJ,nK,nL,iv,au.pc,Mark.pc,Seal.pc]
attribute [go_sem] Root.nr Root.cells Root.len Root.one Root.pc
structure Key where
 Tz:Int
 Bd:Int
 TA:List UInt8
 From:Int
 To:Int
 deriving DecidableEq
def Key.c (x:Key):List V:=[.int .i64 x.Tz,.int .i64 x.Bd,.str x.TA,.int .i64 x.From,.int .i64 x.To]
def Key.v (x:Key):V:=.agg x.c
theorem Key.cells (x:Key):((Key.v x).cells)=x.c:=rfl
theorem Key.nr (x:Key):fE x.v=true:=rfl
theorem Key.len (x:Key):x.c.length=5:=rfl
theorem Key.one (x:Key):dx x.c=true:=rfl
theorem Key.pc (x:Key):aR x.v=true:=by simp[Key.v,Key.c,aR,bY,lV,nI,nJ,nK,nL,iv]
attribute [go_sem] Key.nr Key.cells Key.len Key.one Key.pc
structure kW where
 R:Root
 E:Int
 deriving DecidableEq
def kW.c (x:kW):List V:=[.int .i64 x.R.Tw,.int .i64 x.R.bN,.int .i64 x.R.Day,.int .i64 x.R.Floor,.int .u8 x.R.eY.b0,.int .u8 x.R.eY.b1,.int .u8 x.R.eY.b2,.int .u8 x.R.eY.b3,.int .u8 x.R.eY.b4,.int .u8 x.R.eY.b5,.int .u8 x.R.eY.b6,.int .u8 x.R.eY.b7,.int .u8 x.R.eY.b8,.int .u8 x.R.eY.b9,.int .u8 x.R.eY.b10,.int .u8 x.R.eY.b11,.int .u8 x.R.eY.b12,.int .u8 x.R.eY.b13,.int .u8 x.R.eY.b14,.int .u8 x.R.eY.b15,.int .u8 x.R.aM.b0,.int .u8 x.R.aM.b1,.int .u8 x.R.aM.b2,.int .u8 x.R.aM.b3,.int .u8 x.R.aM.b4,.int .u8 x.R.aM.b5,.int .u8 x.R.aM.b6,.int .u8 x.R.aM.b7,.int .u8 x.R.aM.b8,.int .u8 x.R.aM.b9,.int .u8 x.R.aM.b10,.int .u8 x.R.aM.b11,.int .u8 x.R.aM.b12,.int .u8 x.R.aM.b13,.int .u8 x.R.aM.b14,.int .u8 x.R.aM.b15,lv Mark.v x.R.Marks,.int .u8 x.R.Gone.b0,.int .u8 x.R.Gone.b1,.int .u8 x.R.Gone.b2,.int .u8 x.R.Gone.b3,.int .u8 x.R.Gone.b4,.int .u8 x.R.Gone.b5,.int .u8 x.R.Gone.b6,.int .u8 x.R.Gone.b7,.int .u8 x.R.Gone.b8,.int .u8 x.R.Gone.b9,.int .u8 x.R.Gone.b10,.int .u8 x.R.Gone.b11,.int .u8 x.R.Gone.b12,.int .u8 x.R.Gone.b13,.int .u8 x.R.Gone.b14,.int .u8 x.R.Gone.b15,.int .i64 x.R.Tx,.int .u8 x.R.eT.b0,.int .u8 x.R.eT.b1,.int .u8 x.R.eT.b2,.int .u8 x.R.eT.b3,.int .u8 x.R.eT.b4,.int .u8 x.R.eT.b5,.int .u8 x.R.eT.b6,.int .u8 x.R.eT.b7,.int .u8 x.R.eT.b8,.int .u8 x.R.eT.b9,.int .u8 x.R.eT.b10,.int .u8 x.R.eT.b11,.int .u8 x.R.eT.b12,.int .u8 x.R.eT.b13,.int .u8 x.R.eT.b14,.int .u8 x.R.eT.b15,.int .i64 x.R.Nl,.int .i64 x.R.Bd,.int .u8 x.R.Seal.b0,.int .u8 x.R.Seal.b1,.int .u8 x.R.Seal.b2,.int .u8 x.R.Seal.b3,.int .u8 x.R.Seal.b4,.int .u8 x.R.Seal.b5,.int .u8 x.R.Seal.b6,.int .u8 x.R.Seal.b7,.int .u8 x.R.Seal.b8,.int .u8 x.R.Seal.b9,.int .u8 x.R.Seal.b10,.int .u8 x.R.Seal.b11,.int .u8 x.R.Seal.b12,.int .u8 x.R.Seal.b13,.int .u8 x.R.Seal.b14,.int .u8 x.R.Seal.b15,.int .i64 x.E]
def kW.v (x:kW):V:=.agg x.c
theorem kW.cells (x:kW):((kW.v x).cells)=x.c:=rfl
theorem kW.nr (x:kW):fE x.v=true:=rfl
theorem kW.len (x:kW):x.c.length=89:=rfl
theorem kW.one (x:kW):dx x.c=true:=rfl
theorem kW.pc (x:kW):aR x.v=true:=by simp[kW.v,kW.c,aR,bY,lV,nI,nJ,nK,nL,iv,au.pc,Mark.pc,Root.pc,Seal.pc]
attribute [go_sem] kW.nr kW.cells kW.len kW.one kW.pc
structure kX where
 akf:List Root
 deriving DecidableEq
def kX.c (x:kX):List V:=[lv Root.v x.akf]
def kX.v (x:kX):V:=.agg x.c
theorem kX.cells (x:kX):((kX.v x).cells)=x.c:=rfl
theorem kX.nr (x:kX):fE x.v=true:=rfl
theorem kX.len (x:kX):x.c.length=1:=rfl
theorem kX.one (x:kX):dx x.c=true:=rfl
theorem kX.pc (x:kX):aR x.v=true:=by simp[kX.v,kX.c,aR,bY,lV,nI,nJ,nK,nL,iv,au.pc,Mark.pc,Root.pc,Seal.pc]
attribute [go_sem] kX.nr kX.cells kX.len kX.one kX.pc
structure Def where
 Name:List UInt8
 Kind:Int
 Lo:Int
 Hi:Int
 Words:List (List UInt8)
 deriving DecidableEq
def Def.c (x:Def):List V:=[.str x.Name,.int .i64 x.Kind,.int .i64 x.Lo,.int .i64 x.Hi,lv V.str x.Words]
def Def.v (x:Def):V:=.agg x.c
theorem Def.cells (x:Def):((Def.v x).cells)=x.c:=rfl
theorem Def.nr (x:Def):fE x.v=true:=rfl
theorem Def.len (x:Def):x.c.length=5:=rfl
theorem Def.one (x:Def):dx x.c=true:=rfl
theorem Def.pc (x:Def):aR x.v=true:=by simp[Def.v,Def.c,aR,bY,lV,nI,nJ,nK,nL,iv]
attribute [go_sem] Def.nr Def.cells Def.len Def.one Def.pc
structure aM where
 j3:Int
 lY:Int
 Defs:List Def
 deriving DecidableEq
def aM.c (x:aM):List V:=[.int .i64 x.j3,.int .i64 x.lY,lv Def.v x.Defs]
def aM.v (x:aM):V:=.agg x.c
theorem aM.cells (x:aM):((aM.v x).cells)=x.c:=rfl
theorem aM.nr (x:aM):fE x.v=true:=rfl
theorem aM.len (x:aM):x.c.length=3:=rfl
theorem aM.one (x:aM):dx x.c=true:=rfl
theorem aM.pc (x:aM):aR x.v=true:=by simp[aM.v,aM.c,aR,bY,lV,nI,nJ,nK,nL,iv,Def.pc]
attribute [go_sem] aM.nr aM.cells aM.len aM.one aM.pc
structure Attr where
 Name:List UInt8
 Kind:Int
 N:Int
 S:List UInt8
 deriving DecidableEq
def Attr.c (x:Attr):List V:=[.str x.Name,.int .i64 x.Kind,.int .i64 x.N,.str x.S]
def Attr.v (x:Attr):V:=.agg x.c
theorem Attr.cells (x:Attr):((Attr.v x).cells)=x.c:=rfl
theorem Attr.nr (x:Attr):fE x.v=true:=rfl
theorem Attr.len (x:Attr):x.c.length=4:=rfl
theorem Attr.one (x:Attr):dx x.c=true:=rfl
theorem Attr.pc (x:Attr):aR x.v=true:=by simp[Attr.v,Attr.c,aR,bY,lV,nI,nJ,nK,nL,iv]
attribute [go_sem] Attr.nr Attr.cells Attr.len Attr.one Attr.pc
structure Entry where
 ID:Int
 iT:Int
 fM:Int
 iF:Int
 From:Int
 To:Int
 jo:Int
 Vec:List Int
 aX:List Attr
 deriving DecidableEq
def Entry.c (x:Entry):List V:=[.int .i64 x.ID,.int .i64 x.iT,.int .i64 x.fM,.int .i64 x.iF,.int .i64 x.From,.int .i64 x.To,.int .i64 x.jo,lv iv x.Vec,lv Attr.v x.aX]
def Entry.v (x:Entry):V:=.agg x.c
theorem Entry.cells (x:Entry):((Entry.v x).cells)=x.c:=rfl
theorem Entry.nr (x:Entry):fE x.v=true:=rfl
theorem Entry.len (x:Entry):x.c.length=9:=rfl
theorem Entry.one (x:Entry):dx x.c=true:=rfl
theorem Entry.pc (x:Entry):aR x.v=true:=by simp[Entry.v,Entry.c,aR,bY,lV,nI,nJ,nK,nL,iv,Attr.pc]
attribute [go_sem] Entry.nr Entry.cells Entry.len Entry.one Entry.pc
structure Row where
 Entry:Entry
 gN:Int
 deriving DecidableEq
def Row.c (x:Row):List V:=[.int .i64 x.Entry.ID,.int .i64 x.Entry.iT,.int .i64 x.Entry.fM,.int .i64 x.Entry.iF,.int .i64 x.Entry.From,.int .i64 x.Entry.To,.int .i64 x.Entry.jo,lv iv x.Entry.Vec,lv Attr.v x.Entry.aX,.int .i64 x.gN]
def Row.v (x:Row):V:=.agg x.c
theorem Row.cells (x:Row):((Row.v x).cells)=x.c:=rfl
theorem Row.nr (x:Row):fE x.v=true:=rfl
theorem Row.len (x:Row):x.c.length=10:=rfl
theorem Row.one (x:Row):dx x.c=true:=rfl
theorem Row.pc (x:Row):aR x.v=true:=by simp[Row.v,Row.c,aR,bY,lV,nI,nJ,nK,nL,iv,Attr.pc,Entry.pc]
attribute [go_sem] Row.nr Row.cells Row.len Row.one Row.pc
structure Book where
 aM:aM
 bN:Int
 Day:Int
 gy:List Int
 Rows:List Row
 deriving DecidableEq
def Book.c (x:Book):List V:=[.int .i64 x.aM.j3,.int .i64 x.aM.lY,lv Def.v x.aM.Defs,.int .i64 x.bN,.int .i64 x.Day,lv iv x.gy,lv Row.v x.Rows]
def Book.v (x:Book):V:=.agg x.c
theorem Book.cells (x:Book):((Book.v x).cells)=x.c:=rfl
theorem Book.nr (x:Book):fE x.v=true:=rfl
theorem Book.len (x:Book):x.c.length=7:=rfl
theorem Book.one (x:Book):dx x.c=true:=rfl
theorem Book.pc (x:Book):aR x.v=true:=by simp[Book.v,Book.c,aR,bY,lV,nI,nJ,nK,nL,iv,Attr.pc,Def.pc,Entry.pc,Row.pc,aM.pc]
attribute [go_sem] Book.nr Book.cells Book.len Book.one Book.pc
structure iG where
 At:Int
 Path:List au
 E:Int
 deriving DecidableEq
def iG.c (x:iG):List V:=[.int .i64 x.At,lv au.v x.Path,.int .i64 x.E]
def iG.v (x:iG):V:=.agg x.c
theorem iG.cells (x:iG):((iG.v x).cells)=x.c:=rfl
theorem iG.nr (x:iG):fE x.v=true:=rfl
theorem iG.len (x:iG):x.c.length=3:=rfl
theorem iG.one (x:iG):dx x.c=true:=rfl
theorem iG.pc (x:iG):aR x.v=true:=by simp[iG.v,iG.c,aR,bY,lV,nI,nJ,nK,nL,iv,au.pc]
attribute [go_sem] iG.nr iG.cells iG.len iG.one iG.pc
structure Event where
 Kind:Int
 bN:Int
 Day:Int
 ID:Int
 fM:Int
 Until:Int
 From:Int
 Vec:List Int
 aX:List Attr
 bE:au
 deriving DecidableEq
def Event.c (x:Event):List V:=[.int .i64 x.Kind,.int .i64 x.bN,.int .i64 x.Day,.int .i64 x.ID,.int .i64 x.fM,.int .i64 x.Until,.int .i64 x.From,lv iv x.Vec,lv Attr.v x.aX,.int .u8 x.bE.b0,.int .u8 x.bE.b1,.int .u8 x.bE.b2,.int .u8 x.bE.b3,.int .u8 x.bE.b4,.int .u8 x.bE.b5,.int .u8 x.bE.b6,.int .u8 x.bE.b7,.int .u8 x.bE.b8,.int .u8 x.bE.b9,.int .u8 x.bE.b10,.int .u8 x.bE.b11,.int .u8 x.bE.b12,.int .u8 x.bE.b13,.int .u8 x.bE.b14,.int .u8 x.bE.b15]
def Event.v (x:Event):V:=.agg x.c
theorem Event.cells (x:Event):((Event.v x).cells)=x.c:=rfl
theorem Event.nr (x:Event):fE x.v=true:=rfl
theorem Event.len (x:Event):x.c.length=25:=rfl
theorem Event.one (x:Event):dx x.c=true:=rfl
theorem Event.pc (x:Event):aR x.v=true:=by simp[Event.v,Event.c,aR,bY,lV,nI,nJ,nK,nL,iv,Attr.pc,au.pc]
attribute [go_sem] Event.nr Event.cells Event.len Event.one Event.pc
structure Snapshot where
 Day:Int
 bN:Int
 deriving DecidableEq
def Snapshot.c (x:Snapshot):List V:=[.int .i64 x.Day,.int .i64 x.bN]
def Snapshot.v (x:Snapshot):V:=.agg x.c
theorem Snapshot.cells (x:Snapshot):((Snapshot.v x).cells)=x.c:=rfl
theorem Snapshot.nr (x:Snapshot):fE x.v=true:=rfl
theorem Snapshot.len (x:Snapshot):x.c.length=2:=rfl
theorem Snapshot.one (x:Snapshot):dx x.c=true:=rfl
theorem Snapshot.pc (x:Snapshot):aR x.v=true:=by simp[Snapshot.v,Snapshot.c,aR,bY,lV,nI,nJ,nK,nL,iv]
attribute [go_sem] Snapshot.nr Snapshot.cells Snapshot.len Snapshot.one Snapshot.pc
structure gU where
 B:Book
 N:Int
 E:Int
 deriving DecidableEq
def gU.c (x:gU):List V:=[.int .i64 x.B.aM.j3,.int .i64 x.B.aM.lY,lv Def.v x.B.aM.Defs,.int .i64 x.B.bN,.int .i64 x.B.Day,lv iv x.B.gy,lv Row.v x.B.Rows,.int .i64 x.N,.int .i64 x.E]
def gU.v (x:gU):V:=.agg x.c
theorem gU.cells (x:gU):((gU.v x).cells)=x.c:=rfl
theorem gU.nr (x:gU):fE x.v=true:=rfl
theorem gU.len (x:gU):x.c.length=9:=rfl
theorem gU.one (x:gU):dx x.c=true:=rfl
theorem gU.pc (x:gU):aR x.v=true:=by simp[gU.v,gU.c,aR,bY,lV,nI,nJ,nK,nL,iv,Attr.pc,Book.pc,Def.pc,Entry.pc,Row.pc,aM.pc]
attribute [go_sem] gU.nr gU.cells gU.len gU.one gU.pc
structure jQ where
 L:List au
 E:Int
 deriving DecidableEq
def jQ.c (x:jQ):List V:=[lv au.v x.L,.int .i64 x.E]
def jQ.v (x:jQ):V:=.agg x.c
theorem jQ.cells (x:jQ):((jQ.v x).cells)=x.c:=rfl
theorem jQ.nr (x:jQ):fE x.v=true:=rfl
theorem jQ.len (x:jQ):x.c.length=2:=rfl
theorem jQ.one (x:jQ):dx x.c=true:=rfl
theorem jQ.pc (x:jQ):aR x.v=true:=by simp[jQ.v,jQ.c,aR,bY,lV,nI,nJ,nK,nL,iv,au.pc]
attribute [go_sem] jQ.nr jQ.cells jQ.len jQ.one jQ.pc
structure cB where
 B:Book
 E:Int
 deriving DecidableEq
def cB.c (x:cB):List V:=[.int .i64 x.B.aM.j3,.int .i64 x.B.aM.lY,lv Def.v x.B.aM.Defs,.int .i64 x.B.bN,.int .i64 x.B.Day,lv iv x.B.gy,lv Row.v x.B.Rows,.int .i64 x.E]
def cB.v (x:cB):V:=.agg x.c
theorem cB.cells (x:cB):((cB.v x).cells)=x.c:=rfl
theorem cB.nr (x:cB):fE x.v=true:=rfl
theorem cB.len (x:cB):x.c.length=8:=rfl
theorem cB.one (x:cB):dx x.c=true:=rfl
theorem cB.pc (x:cB):aR x.v=true:=by simp[cB.v,cB.c,aR,bY,lV,nI,nJ,nK,nL,iv,Attr.pc,Book.pc,Def.pc,Entry.pc,Row.pc,aM.pc]
attribute [go_sem] cB.nr cB.cells cB.len cB.one cB.pc
structure kY where
 K:Key
 E:Int
 deriving DecidableEq
def kY.c (x:kY):List V:=[.int .i64 x.K.Tz,.int .i64 x.K.Bd,.str x.K.TA,.int .i64 x.K.From,.int .i64 x.K.To,.int .i64 x.E]
def kY.v (x:kY):V:=.agg x.c
theorem kY.cells (x:kY):((kY.v x).cells)=x.c:=rfl
theorem kY.nr (x:kY):fE x.v=true:=rfl
theorem kY.len (x:kY):x.c.length=6:=rfl
theorem kY.one (x:kY):dx x.c=true:=rfl
theorem kY.pc (x:kY):aR x.v=true:=by simp[kY.v,kY.c,aR,bY,lV,nI,nJ,nK,nL,iv,Key.pc]
attribute [go_sem] kY.nr kY.cells kY.len kY.one kY.pc
structure kZ where
 l:List au
 short:Bool
 deriving DecidableEq
def kZ.c (x:kZ):List V:=[lv au.v x.l,.bool x.short]
def kZ.v (x:kZ):V:=.agg x.c
theorem kZ.cells (x:kZ):((kZ.v x).cells)=x.c:=rfl
theorem kZ.nr (x:kZ):fE x.v=true:=rfl
theorem kZ.len (x:kZ):x.c.length=2:=rfl
theorem kZ.one (x:kZ):dx x.c=true:=rfl
theorem kZ.pc (x:kZ):aR x.v=true:=by simp[kZ.v,kZ.c,aR,bY,lV,nI,nJ,nK,nL,iv,au.pc]
attribute [go_sem] kZ.nr kZ.cells kZ.len kZ.one kZ.pc
structure kD where
 D:au
 Ok:Bool
 deriving DecidableEq
def kD.c (x:kD):List V:=[.int .u8 x.D.b0,.int .u8 x.D.b1,.int .u8 x.D.b2,.int .u8 x.D.b3,.int .u8 x.D.b4,.int .u8 x.D.b5,.int .u8 x.D.b6,.int .u8 x.D.b7,.int .u8 x.D.b8,.int .u8 x.D.b9,.int .u8 x.D.b10,.int .u8 x.D.b11,.int .u8 x.D.b12,.int .u8 x.D.b13,.int .u8 x.D.b14,.int .u8 x.D.b15,.bool x.Ok]
def kD.v (x:kD):V:=.agg x.c
theorem kD.cells (x:kD):((kD.v x).cells)=x.c:=rfl
theorem kD.nr (x:kD):fE x.v=true:=rfl
theorem kD.len (x:kD):x.c.length=17:=rfl
theorem kD.one (x:kD):dx x.c=true:=rfl
theorem kD.pc (x:kD):aR x.v=true:=by simp[kD.v,kD.c,aR,bY,lV,nI,nJ,nK,nL,iv,au.pc]
attribute [go_sem] kD.nr kD.cells kD.len kD.one kD.pc
structure dX where
 from_:Int
 to:Int
 deriving DecidableEq
def dX.c (x:dX):List V:=[.int .i64 x.from_,.int .i64 x.to]
def dX.v (x:dX):V:=.agg x.c
theorem dX.cells (x:dX):((dX.v x).cells)=x.c:=rfl
theorem dX.nr (x:dX):fE x.v=true:=rfl
theorem dX.len (x:dX):x.c.length=2:=rfl
theorem dX.one (x:dX):dx x.c=true:=rfl
theorem dX.pc (x:dX):aR x.v=true:=by simp[dX.v,dX.c,aR,bY,lV,nI,nJ,nK,nL,iv]
attribute [go_sem] dX.nr dX.cells dX.len dX.one dX.pc
@[go_sem] theorem aFH:dM Tryz.prog 4=some 1:=av
@[go_sem] theorem aFI:dM Tryz.prog 23=some 16:=av
@[go_sem] theorem akg:Tryz.prog.underlying 24=some (.slice 112):=av
@[go_sem] theorem aFJ:wR Tryz.prog 61=true:=av
@[go_sem] theorem aFK:dM Tryz.prog 65=some 1:=av
@[go_sem] theorem aFL:jU Tryz.prog 65=some false:=av
@[go_sem] theorem aFM:wR Tryz.prog 65=true:=av
@[go_sem] theorem aFN:wR Tryz.prog 94=true:=av
@[go_sem] theorem aFO:wR Tryz.prog 116=true:=av
@[go_sem] theorem aFP:x9 Tryz.prog 202 0=some (0,65):=av
@[go_sem] theorem aFQ:x9 Tryz.prog 202 1=some (1,4):=av
@[go_sem] theorem au.akh:∀x:au,gT Tryz.prog 23 x.c 0=some (au.v x):=fun x=>av
@[go_sem] theorem Mark.akh:∀x:Mark,gT Tryz.prog 23 x.c 0=some (au.v x.jP):=fun x=>av
@[go_sem] theorem kD.akh:∀x:kD,gT Tryz.prog 23 x.c 0=some (au.v x.D):=fun x=>av
end Sh
