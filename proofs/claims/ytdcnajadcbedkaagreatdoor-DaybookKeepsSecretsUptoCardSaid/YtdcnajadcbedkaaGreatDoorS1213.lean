/- Part of the proof of a law. -/
import Derived.KernelRfl
import Derived.Test.YtdcnajadcbedkaaGreatDoorProg
import Derived.Test.YtdcnajadcbedkaaGreatDoorS1206
set_option linter.all false
open Go Go.Proofs Aq
namespace Sh
set_option maxRecDepth 100000
structure bK where
 b0:Int
 b1:Int
 b2:Int
 b3:Int
 b4:Int
 b5:Int
 b6:Int
 b7:Int
 b8:Int
 b9:Int
 b10:Int
 b11:Int
 b12:Int
 b13:Int
 b14:Int
 b15:Int
 deriving DecidableEq
def bK.c (x:bK):List V:=[.int .u8 x.b0,.int .u8 x.b1,.int .u8 x.b2,.int .u8 x.b3,.int .u8 x.b4,.int .u8 x.b5,.int .u8 x.b6,.int .u8 x.b7,.int .u8 x.b8,.int .u8 x.b9,.int .u8 x.b10,.int .u8 x.b11,.int .u8 x.b12,.int .u8 x.b13,.int .u8 x.b14,.int .u8 x.b15]
def bK.v (x:bK):V:=.agg x.c
theorem bK.cells (x:bK):((bK.v x).cells)=x.c:=rfl
theorem bK.nr (x:bK):dJ x.v=true:=rfl
theorem bK.len (x:bK):x.c.length=16:=rfl
theorem bK.one (x:bK):bC x.c=true:=rfl
theorem bK.pc (x:bK):aF x.v=true:=by simp[bK.v,bK.c,aF,aX,jm,jR,jS,jT,jU,iv]
attribute [go_sem] bK.nr bK.cells bK.len bK.one bK.pc
structure Seal where
 b0:Int
 b1:Int
 b2:Int
 b3:Int
 b4:Int
 b5:Int
 b6:Int
 b7:Int
 b8:Int
 b9:Int
 b10:Int
 b11:Int
 b12:Int
 b13:Int
 b14:Int
 b15:Int
 deriving DecidableEq
def Seal.c (x:Seal):List V:=[.int .u8 x.b0,.int .u8 x.b1,.int .u8 x.b2,.int .u8 x.b3,.int .u8 x.b4,.int .u8 x.b5,.int .u8 x.b6,.int .u8 x.b7,.int .u8 x.b8,.int .u8 x.b9,.int .u8 x.b10,.int .u8 x.b11,.int .u8 x.b12,.int .u8 x.b13,.int .u8 x.b14,.int .u8 x.b15]
def Seal.v (x:Seal):V:=.agg x.c
theorem Seal.cells (x:Seal):((Seal.v x).cells)=x.c:=rfl
theorem Seal.nr (x:Seal):dJ x.v=true:=rfl
theorem Seal.len (x:Seal):x.c.length=16:=rfl
theorem Seal.one (x:Seal):bC x.c=true:=rfl
theorem Seal.pc (x:Seal):aF x.v=true:=by simp[Seal.v,Seal.c,aF,aX,jm,jR,jS,jT,jU,iv]
attribute [go_sem] Seal.nr Seal.cells Seal.len Seal.one Seal.pc
structure Mark where
 gW:bK
 gX:bK
 Count:Int
 deriving DecidableEq
def Mark.c (x:Mark):List V:=[.int .u8 x.gW.b0,.int .u8 x.gW.b1,.int .u8 x.gW.b2,.int .u8 x.gW.b3,.int .u8 x.gW.b4,.int .u8 x.gW.b5,.int .u8 x.gW.b6,.int .u8 x.gW.b7,.int .u8 x.gW.b8,.int .u8 x.gW.b9,.int .u8 x.gW.b10,.int .u8 x.gW.b11,.int .u8 x.gW.b12,.int .u8 x.gW.b13,.int .u8 x.gW.b14,.int .u8 x.gW.b15,.int .u8 x.gX.b0,.int .u8 x.gX.b1,.int .u8 x.gX.b2,.int .u8 x.gX.b3,.int .u8 x.gX.b4,.int .u8 x.gX.b5,.int .u8 x.gX.b6,.int .u8 x.gX.b7,.int .u8 x.gX.b8,.int .u8 x.gX.b9,.int .u8 x.gX.b10,.int .u8 x.gX.b11,.int .u8 x.gX.b12,.int .u8 x.gX.b13,.int .u8 x.gX.b14,.int .u8 x.gX.b15,.int .i64 x.Count]
def Mark.v (x:Mark):V:=.agg x.c
theorem Mark.cells (x:Mark):((Mark.v x).cells)=x.c:=rfl
theorem Mark.nr (x:Mark):dJ x.v=true:=rfl
theorem Mark.len (x:Mark):x.c.length=33:=rfl
theorem Mark.one (x:Mark):bC x.c=true:=rfl
theorem Mark.pc (x:Mark):aF x.v=true:=by simp[Mark.v,Mark.c,aF,aX,jm,jR,jS,jT,jU,iv,bK.pc]
attribute [go_sem] Mark.nr Mark.cells Mark.len Mark.one Mark.pc
structure Root where
 MF:Int
 aI:Int
 Day:Int
 Floor:Int
 dh:bK
 ak:bK
 Marks:List Mark
 Gone:bK
 MG:Int
 dn:bK
 MH:Int
 wo:Int
 Seal:Seal
 deriving DecidableEq
def Root.c (x:Root):List V:=[.int .i64 x.MF,.int .i64 x.aI,.int .i64 x.Day,.int .i64 x.Floor,.int .u8 x.dh.b0,.int .u8 x.dh.b1,.int .u8 x.dh.b2,.int .u8 x.dh.b3,.int .u8 x.dh.b4,.int .u8 x.dh.b5,.int .u8 x.dh.b6,.int .u8 x.dh.b7,.int .u8 x.dh.b8,.int .u8 x.dh.b9,.int .u8 x.dh.b10,.int .u8 x.dh.b11,.int .u8 x.dh.b12,.int .u8 x.dh.b13,.int .u8 x.dh.b14,.int .u8 x.dh.b15,.int .u8 x.ak.b0,.int .u8 x.ak.b1,.int .u8 x.ak.b2,.int .u8 x.ak.b3,.int .u8 x.ak.b4,.int .u8 x.ak.b5,.int .u8 x.ak.b6,.int .u8 x.ak.b7,.int .u8 x.ak.b8,.int .u8 x.ak.b9,.int .u8 x.ak.b10,.int .u8 x.ak.b11,.int .u8 x.ak.b12,.int .u8 x.ak.b13,.int .u8 x.ak.b14,.int .u8 x.ak.b15,lv Mark.v x.Marks,.int .u8 x.Gone.b0,.int .u8 x.Gone.b1,.int .u8 x.Gone.b2,.int .u8 x.Gone.b3,.int .u8 x.Gone.b4,.int .u8 x.Gone.b5,.int .u8 x.Gone.b6,.int .u8 x.Gone.b7,.int .u8 x.Gone.b8,.int .u8 x.Gone.b9,.int .u8 x.Gone.b10,.int .u8 x.Gone.b11,.int .u8 x.Gone.b12,.int .u8 x.Gone.b13,.int .u8 x.Gone.b14,.int .u8 x.Gone.b15,.int .i64 x.MG,.int .u8 x.dn.b0,.int .u8 x.dn.b1,.int .u8 x.dn.b2,.int .u8 x.dn.b3,.int .u8 x.dn.b4,.int .u8 x.dn.b5,.int .u8 x.dn.b6,.int .u8 x.dn.b7,.int .u8 x.dn.b8,.int .u8 x.dn.b9,.int .u8 x.dn.b10,.int .u8 x.dn.b11,.int .u8 x.dn.b12,.int .u8 x.dn.b13,.int .u8 x.dn.b14,.int .u8 x.dn.b15,.int .i64 x.MH,.int .i64 x.wo,.int .u8 x.Seal.b0,.int .u8 x.Seal.b1,.int .u8 x.Seal.b2,.int .u8 x.Seal.b3,.int .u8 x.Seal.b4,.int .u8 x.Seal.b5,.int .u8 x.Seal.b6,.int .u8 x.Seal.b7,.int .u8 x.Seal.b8,.int .u8 x.Seal.b9,.int .u8 x.Seal.b10,.int .u8 x.Seal.b11,.int .u8 x.Seal.b12,.int .u8 x.Seal.b13,.int .u8 x.Seal.b14,.int .u8 x.Seal.b15]
def Root.v (x:Root):V:=.agg x.c
theorem Root.cells (x:Root):((Root.v x).cells)=x.c:=rfl
theorem Root.nr (x:Root):dJ x.v=true:=rfl
theorem Root.len (x:Root):x.c.length=88:=rfl
theorem Root.one (x:Root):bC x.c=true:=rfl
theorem Root.pc (x:Root):aF x.v=true:=by simp[Root.v,Root.c,aF,aX,jm,jR,jS,jT,jU,iv,bK.pc,Mark.pc,Seal.pc]
attribute [go_sem] Root.nr Root.cells Root.len Root.one Root.pc
structure Key where
 MI:Int
 wo:Int
 MJ:List UInt8
 From:Int
 To:Int
 deriving DecidableEq
def Key.c (x:Key):List V:=[.int .i64 x.MI,.int .i64 x.wo,.str x.MJ,.int .i64 x.From,.int .i64 x.To]
def Key.v (x:Key):V:=.agg x.c
theorem Key.cells (x:Key):((Key.v x).cells)=x.c:=rfl
theorem Key.nr (x:Key):dJ x.v=true:=rfl
theorem Key.len (x:Key):x.c.length=5:=rfl
theorem Key.one (x:Key):bC x.c=true:=rfl
theorem Key.pc (x:Key):aF x.v=true:=by simp[Key.v,Key.c,aF,aX,jm,jR,jS,jT,jU,iv]
attribute [go_sem] Key.nr Key.cells Key.len Key.one Key.pc
structure iU where
 R:Root
 E:Int
 deriving DecidableEq
def iU.c (x:iU):List V:=[.int .i64 x.R.MF,.int .i64 x.R.aI,.int .i64 x.R.Day,.int .i64 x.R.Floor,.int .u8 x.R.dh.b0,.int .u8 x.R.dh.b1,.int .u8 x.R.dh.b2,.int .u8 x.R.dh.b3,.int .u8 x.R.dh.b4,.int .u8 x.R.dh.b5,.int .u8 x.R.dh.b6,.int .u8 x.R.dh.b7,.int .u8 x.R.dh.b8,.int .u8 x.R.dh.b9,.int .u8 x.R.dh.b10,.int .u8 x.R.dh.b11,.int .u8 x.R.dh.b12,.int .u8 x.R.dh.b13,.int .u8 x.R.dh.b14,.int .u8 x.R.dh.b15,.int .u8 x.R.ak.b0,.int .u8 x.R.ak.b1,.int .u8 x.R.ak.b2,.int .u8 x.R.ak.b3,.int .u8 x.R.ak.b4,.int .u8 x.R.ak.b5,.int .u8 x.R.ak.b6,.int .u8 x.R.ak.b7,.int .u8 x.R.ak.b8,.int .u8 x.R.ak.b9,.int .u8 x.R.ak.b10,.int .u8 x.R.ak.b11,.int .u8 x.R.ak.b12,.int .u8 x.R.ak.b13,.int .u8 x.R.ak.b14,.int .u8 x.R.ak.b15,lv Mark.v x.R.Marks,.int .u8 x.R.Gone.b0,.int .u8 x.R.Gone.b1,.int .u8 x.R.Gone.b2,.int .u8 x.R.Gone.b3,.int .u8 x.R.Gone.b4,.int .u8 x.R.Gone.b5,.int .u8 x.R.Gone.b6,.int .u8 x.R.Gone.b7,.int .u8 x.R.Gone.b8,.int .u8 x.R.Gone.b9,.int .u8 x.R.Gone.b10,.int .u8 x.R.Gone.b11,.int .u8 x.R.Gone.b12,.int .u8 x.R.Gone.b13,.int .u8 x.R.Gone.b14,.int .u8 x.R.Gone.b15,.int .i64 x.R.MG,.int .u8 x.R.dn.b0,.int .u8 x.R.dn.b1,.int .u8 x.R.dn.b2,.int .u8 x.R.dn.b3,.int .u8 x.R.dn.b4,.int .u8 x.R.dn.b5,.int .u8 x.R.dn.b6,.int .u8 x.R.dn.b7,.int .u8 x.R.dn.b8,.int .u8 x.R.dn.b9,.int .u8 x.R.dn.b10,.int .u8 x.R.dn.b11,.int .u8 x.R.dn.b12,.int .u8 x.R.dn.b13,.int .u8 x.R.dn.b14,.int .u8 x.R.dn.b15,.int .i64 x.R.MH,.int .i64 x.R.wo,.int .u8 x.R.Seal.b0,.int .u8 x.R.Seal.b1,.int .u8 x.R.Seal.b2,.int .u8 x.R.Seal.b3,.int .u8 x.R.Seal.b4,.int .u8 x.R.Seal.b5,.int .u8 x.R.Seal.b6,.int .u8 x.R.Seal.b7,.int .u8 x.R.Seal.b8,.int .u8 x.R.Seal.b9,.int .u8 x.R.Seal.b10,.int .u8 x.R.Seal.b11,.int .u8 x.R.Seal.b12,.int .u8 x.R.Seal.b13,.int .u8 x.R.Seal.b14,.int .u8 x.R.Seal.b15,.int .i64 x.E]
def iU.v (x:iU):V:=.agg x.c
theorem iU.cells (x:iU):((iU.v x).cells)=x.c:=rfl
theorem iU.nr (x:iU):dJ x.v=true:=rfl
theorem iU.len (x:iU):x.c.length=89:=rfl
theorem iU.one (x:iU):bC x.c=true:=rfl
theorem iU.pc (x:iU):aF x.v=true:=by simp[iU.v,iU.c,aF,aX,jm,jR,jS,jT,jU,iv,bK.pc,Mark.pc,Root.pc,Seal.pc]
attribute [go_sem] iU.nr iU.cells iU.len iU.one iU.pc
structure iV where
 aaG:List Root
 deriving DecidableEq
def iV.c (x:iV):List V:=[lv Root.v x.aaG]
def iV.v (x:iV):V:=.agg x.c
theorem iV.cells (x:iV):((iV.v x).cells)=x.c:=rfl
theorem iV.nr (x:iV):dJ x.v=true:=rfl
theorem iV.len (x:iV):x.c.length=1:=rfl
theorem iV.one (x:iV):bC x.c=true:=rfl
theorem iV.pc (x:iV):aF x.v=true:=by simp[iV.v,iV.c,aF,aX,jm,jR,jS,jT,jU,iv,bK.pc,Mark.pc,Root.pc,Seal.pc]
attribute [go_sem] iV.nr iV.cells iV.len iV.one iV.pc
structure Def where
 Name:List UInt8
 Kind:Int
 Lo:Int
 Hi:Int
 Words:List (List UInt8)
 deriving DecidableEq
def Def.c (x:Def):List V:=[.str x.Name,.int .i64 x.Kind,.int .i64 x.Lo,.int .i64 x.Hi,lv V.str x.Words]
def Def.v (x:Def):V:=.agg x.c
theorem Def.cells (x:Def):((Def.v x).cells)=x.c:=rfl
theorem Def.nr (x:Def):dJ x.v=true:=rfl
theorem Def.len (x:Def):x.c.length=5:=rfl
theorem Def.one (x:Def):bC x.c=true:=rfl
theorem Def.pc (x:Def):aF x.v=true:=by simp[Def.v,Def.c,aF,aX,jm,jR,jS,jT,jU,iv]
attribute [go_sem] Def.nr Def.cells Def.len Def.one Def.pc
structure ak where
 gq:Int
 gY:Int
 Defs:List Def
 deriving DecidableEq
def ak.c (x:ak):List V:=[.int .i64 x.gq,.int .i64 x.gY,lv Def.v x.Defs]
def ak.v (x:ak):V:=.agg x.c
theorem ak.cells (x:ak):((ak.v x).cells)=x.c:=rfl
theorem ak.nr (x:ak):dJ x.v=true:=rfl
theorem ak.len (x:ak):x.c.length=3:=rfl
theorem ak.one (x:ak):bC x.c=true:=rfl
theorem ak.pc (x:ak):aF x.v=true:=by simp[ak.v,ak.c,aF,aX,jm,jR,jS,jT,jU,iv,Def.pc]
attribute [go_sem] ak.nr ak.cells ak.len ak.one ak.pc
structure Attr where
 Name:List UInt8
 Kind:Int
 N:Int
 S:List UInt8
 deriving DecidableEq
def Attr.c (x:Attr):List V:=[.str x.Name,.int .i64 x.Kind,.int .i64 x.N,.str x.S]
def Attr.v (x:Attr):V:=.agg x.c
theorem Attr.cells (x:Attr):((Attr.v x).cells)=x.c:=rfl
theorem Attr.nr (x:Attr):dJ x.v=true:=rfl
theorem Attr.len (x:Attr):x.c.length=4:=rfl
theorem Attr.one (x:Attr):bC x.c=true:=rfl
theorem Attr.pc (x:Attr):aF x.v=true:=by simp[Attr.v,Attr.c,aF,aX,jm,jR,jS,jT,jU,iv]
attribute [go_sem] Attr.nr Attr.cells Attr.len Attr.one Attr.pc
structure Entry where
 ID:Int
 fI:Int
 bI:Int
 iW:Int
 From:Int
 To:Int
 jv:Int
 Vec:List Int
 aM:List Attr
 deriving DecidableEq
def Entry.c (x:Entry):List V:=[.int .i64 x.ID,.int .i64 x.fI,.int .i64 x.bI,.int .i64 x.iW,.int .i64 x.From,.int .i64 x.To,.int .i64 x.jv,lv iv x.Vec,lv Attr.v x.aM]
def Entry.v (x:Entry):V:=.agg x.c
theorem Entry.cells (x:Entry):((Entry.v x).cells)=x.c:=rfl
theorem Entry.nr (x:Entry):dJ x.v=true:=rfl
theorem Entry.len (x:Entry):x.c.length=9:=rfl
theorem Entry.one (x:Entry):bC x.c=true:=rfl
theorem Entry.pc (x:Entry):aF x.v=true:=by simp[Entry.v,Entry.c,aF,aX,jm,jR,jS,jT,jU,iv,Attr.pc]
attribute [go_sem] Entry.nr Entry.cells Entry.len Entry.one Entry.pc
structure Row where
 Entry:Entry
 dI:Int
 deriving DecidableEq
def Row.c (x:Row):List V:=[.int .i64 x.Entry.ID,.int .i64 x.Entry.fI,.int .i64 x.Entry.bI,.int .i64 x.Entry.iW,.int .i64 x.Entry.From,.int .i64 x.Entry.To,.int .i64 x.Entry.jv,lv iv x.Entry.Vec,lv Attr.v x.Entry.aM,.int .i64 x.dI]
def Row.v (x:Row):V:=.agg x.c
theorem Row.cells (x:Row):((Row.v x).cells)=x.c:=rfl
theorem Row.nr (x:Row):dJ x.v=true:=rfl
theorem Row.len (x:Row):x.c.length=10:=rfl
theorem Row.one (x:Row):bC x.c=true:=rfl
theorem Row.pc (x:Row):aF x.v=true:=by simp[Row.v,Row.c,aF,aX,jm,jR,jS,jT,jU,iv,Attr.pc,Entry.pc]
attribute [go_sem] Row.nr Row.cells Row.len Row.one Row.pc
structure Book where
 ak:ak
 aI:Int
 Day:Int
 bO:List Int
 Rows:List Row
 deriving DecidableEq
def Book.c (x:Book):List V:=[.int .i64 x.ak.gq,.int .i64 x.ak.gY,lv Def.v x.ak.Defs,.int .i64 x.aI,.int .i64 x.Day,lv iv x.bO,lv Row.v x.Rows]
def Book.v (x:Book):V:=.agg x.c
theorem Book.cells (x:Book):((Book.v x).cells)=x.c:=rfl
theorem Book.nr (x:Book):dJ x.v=true:=rfl
theorem Book.len (x:Book):x.c.length=7:=rfl
theorem Book.one (x:Book):bC x.c=true:=rfl
theorem Book.pc (x:Book):aF x.v=true:=by simp[Book.v,Book.c,aF,aX,jm,jR,jS,jT,jU,iv,Attr.pc,Def.pc,Entry.pc,Row.pc,ak.pc]
attribute [go_sem] Book.nr Book.cells Book.len Book.one Book.pc
structure iX where
 At:Int
 Path:List bK
 E:Int
 deriving DecidableEq
def iX.c (x:iX):List V:=[.int .i64 x.At,lv bK.v x.Path,.int .i64 x.E]
def iX.v (x:iX):V:=.agg x.c
theorem iX.cells (x:iX):((iX.v x).cells)=x.c:=rfl
theorem iX.nr (x:iX):dJ x.v=true:=rfl
theorem iX.len (x:iX):x.c.length=3:=rfl
theorem iX.one (x:iX):bC x.c=true:=rfl
theorem iX.pc (x:iX):aF x.v=true:=by simp[iX.v,iX.c,aF,aX,jm,jR,jS,jT,jU,iv,bK.pc]
attribute [go_sem] iX.nr iX.cells iX.len iX.one iX.pc
structure Event where
 Kind:Int
 aI:Int
 Day:Int
 ID:Int
 bI:Int
 Until:Int
 From:Int
 Vec:List Int
 aM:List Attr
 aL:bK
 deriving DecidableEq
def Event.c (x:Event):List V:=[.int .i64 x.Kind,.int .i64 x.aI,.int .i64 x.Day,.int .i64 x.ID,.int .i64 x.bI,.int .i64 x.Until,.int .i64 x.From,lv iv x.Vec,lv Attr.v x.aM,.int .u8 x.aL.b0,.int .u8 x.aL.b1,.int .u8 x.aL.b2,.int .u8 x.aL.b3,.int .u8 x.aL.b4,.int .u8 x.aL.b5,.int .u8 x.aL.b6,.int .u8 x.aL.b7,.int .u8 x.aL.b8,.int .u8 x.aL.b9,.int .u8 x.aL.b10,.int .u8 x.aL.b11,.int .u8 x.aL.b12,.int .u8 x.aL.b13,.int .u8 x.aL.b14,.int .u8 x.aL.b15]
def Event.v (x:Event):V:=.agg x.c
theorem Event.cells (x:Event):((Event.v x).cells)=x.c:=rfl
theorem Event.nr (x:Event):dJ x.v=true:=rfl
theorem Event.len (x:Event):x.c.length=25:=rfl
theorem Event.one (x:Event):bC x.c=true:=rfl
theorem Event.pc (x:Event):aF x.v=true:=by simp[Event.v,Event.c,aF,aX,jm,jR,jS,jT,jU,iv,Attr.pc,bK.pc]
attribute [go_sem] Event.nr Event.cells Event.len Event.one Event.pc
structure Snapshot where
 Day:Int
 aI:Int
 deriving DecidableEq
def Snapshot.c (x:Snapshot):List V:=[.int .i64 x.Day,.int .i64 x.aI]
def Snapshot.v (x:Snapshot):V:=.agg x.c
theorem Snapshot.cells (x:Snapshot):((Snapshot.v x).cells)=x.c:=rfl
theorem Snapshot.nr (x:Snapshot):dJ x.v=true:=rfl
theorem Snapshot.len (x:Snapshot):x.c.length=2:=rfl
theorem Snapshot.one (x:Snapshot):bC x.c=true:=rfl
theorem Snapshot.pc (x:Snapshot):aF x.v=true:=by simp[Snapshot.v,Snapshot.c,aF,aX,jm,jR,jS,jT,jU,iv]
attribute [go_sem] Snapshot.nr Snapshot.cells Snapshot.len Snapshot.one Snapshot.pc
structure eF where
 B:Book
 N:Int
 E:Int
 deriving DecidableEq
def eF.c (x:eF):List V:=[.int .i64 x.B.ak.gq,.int .i64 x.B.ak.gY,lv Def.v x.B.ak.Defs,.int .i64 x.B.aI,.int .i64 x.B.Day,lv iv x.B.bO,lv Row.v x.B.Rows,.int .i64 x.N,.int .i64 x.E]
def eF.v (x:eF):V:=.agg x.c
theorem eF.cells (x:eF):((eF.v x).cells)=x.c:=rfl
theorem eF.nr (x:eF):dJ x.v=true:=rfl
theorem eF.len (x:eF):x.c.length=9:=rfl
theorem eF.one (x:eF):bC x.c=true:=rfl
theorem eF.pc (x:eF):aF x.v=true:=by simp[eF.v,eF.c,aF,aX,jm,jR,jS,jT,jU,iv,Attr.pc,Book.pc,Def.pc,Entry.pc,Row.pc,ak.pc]
attribute [go_sem] eF.nr eF.cells eF.len eF.one eF.pc
structure iY where
 L:List bK
 E:Int
 deriving DecidableEq
def iY.c (x:iY):List V:=[lv bK.v x.L,.int .i64 x.E]
def iY.v (x:iY):V:=.agg x.c
theorem iY.cells (x:iY):((iY.v x).cells)=x.c:=rfl
theorem iY.nr (x:iY):dJ x.v=true:=rfl
theorem iY.len (x:iY):x.c.length=2:=rfl
theorem iY.one (x:iY):bC x.c=true:=rfl
theorem iY.pc (x:iY):aF x.v=true:=by simp[iY.v,iY.c,aF,aX,jm,jR,jS,jT,jU,iv,bK.pc]
attribute [go_sem] iY.nr iY.cells iY.len iY.one iY.pc
structure bn where
 B:Book
 E:Int
 deriving DecidableEq
def bn.c (x:bn):List V:=[.int .i64 x.B.ak.gq,.int .i64 x.B.ak.gY,lv Def.v x.B.ak.Defs,.int .i64 x.B.aI,.int .i64 x.B.Day,lv iv x.B.bO,lv Row.v x.B.Rows,.int .i64 x.E]
def bn.v (x:bn):V:=.agg x.c
theorem bn.cells (x:bn):((bn.v x).cells)=x.c:=rfl
theorem bn.nr (x:bn):dJ x.v=true:=rfl
theorem bn.len (x:bn):x.c.length=8:=rfl
theorem bn.one (x:bn):bC x.c=true:=rfl
theorem bn.pc (x:bn):aF x.v=true:=by simp[bn.v,bn.c,aF,aX,jm,jR,jS,jT,jU,iv,Attr.pc,Book.pc,Def.pc,Entry.pc,Row.pc,ak.pc]
attribute [go_sem] bn.nr bn.cells bn.len bn.one bn.pc
structure iZ where
 K:Key
 E:Int
 deriving DecidableEq
def iZ.c (x:iZ):List V:=[.int .i64 x.K.MI,.int .i64 x.K.wo,.str x.K.MJ,.int .i64 x.K.From,.int .i64 x.K.To,.int .i64 x.E]
def iZ.v (x:iZ):V:=.agg x.c
theorem iZ.cells (x:iZ):((iZ.v x).cells)=x.c:=rfl
theorem iZ.nr (x:iZ):dJ x.v=true:=rfl
theorem iZ.len (x:iZ):x.c.length=6:=rfl
theorem iZ.one (x:iZ):bC x.c=true:=rfl
theorem iZ.pc (x:iZ):aF x.v=true:=by simp[iZ.v,iZ.c,aF,aX,jm,jR,jS,jT,jU,iv,Key.pc]
attribute [go_sem] iZ.nr iZ.cells iZ.len iZ.one iZ.pc
structure jc where
 l:List bK
 short:Bool
 deriving DecidableEq
def jc.c (x:jc):List V:=[lv bK.v x.l,.bool x.short]
def jc.v (x:jc):V:=.agg x.c
theorem jc.cells (x:jc):((jc.v x).cells)=x.c:=rfl
theorem jc.nr (x:jc):dJ x.v=true:=rfl
theorem jc.len (x:jc):x.c.length=2:=rfl
theorem jc.one (x:jc):bC x.c=true:=rfl
theorem jc.pc (x:jc):aF x.v=true:=by simp[jc.v,jc.c,aF,aX,jm,jR,jS,jT,jU,iv,bK.pc]
attribute [go_sem] jc.nr jc.cells jc.len jc.one jc.pc
structure jd where
 D:bK
 Ok:Bool
 deriving DecidableEq
def jd.c (x:jd):List V:=[.int .u8 x.D.b0,.int .u8 x.D.b1,.int .u8 x.D.b2,.int .u8 x.D.b3,.int .u8 x.D.b4,.int .u8 x.D.b5,.int .u8 x.D.b6,.int .u8 x.D.b7,.int .u8 x.D.b8,.int .u8 x.D.b9,.int .u8 x.D.b10,.int .u8 x.D.b11,.int .u8 x.D.b12,.int .u8 x.D.b13,.int .u8 x.D.b14,.int .u8 x.D.b15,.bool x.Ok]
def jd.v (x:jd):V:=.agg x.c
theorem jd.cells (x:jd):((jd.v x).cells)=x.c:=rfl
theorem jd.nr (x:jd):dJ x.v=true:=rfl
theorem jd.len (x:jd):x.c.length=17:=rfl
theorem jd.one (x:jd):bC x.c=true:=rfl
theorem jd.pc (x:jd):aF x.v=true:=by simp[jd.v,jd.c,aF,aX,jm,jR,jS,jT,jU,iv,bK.pc]
attribute [go_sem] jd.nr jd.cells jd.len jd.one jd.pc
structure bS where
 from_:Int
 to:Int
 deriving DecidableEq
def bS.c (x:bS):List V:=[.int .i64 x.from_,.int .i64 x.to]
def bS.v (x:bS):V:=.agg x.c
theorem bS.cells (x:bS):((bS.v x).cells)=x.c:=rfl
theorem bS.nr (x:bS):dJ x.v=true:=rfl
theorem bS.len (x:bS):x.c.length=2:=rfl
theorem bS.one (x:bS):bC x.c=true:=rfl
theorem bS.pc (x:bS):aF x.v=true:=by simp[bS.v,bS.c,aF,aX,jm,jR,jS,jT,jU,iv]
attribute [go_sem] bS.nr bS.cells bS.len bS.one bS.pc
@[go_sem] theorem TR:Tryz.prog.underlying 24=some (.slice 112):=by kernel_rfl
end Sh
