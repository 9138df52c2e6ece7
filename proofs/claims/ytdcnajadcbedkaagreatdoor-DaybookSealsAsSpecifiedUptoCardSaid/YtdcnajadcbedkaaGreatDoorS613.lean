/- Part of the proof of a law. -/
import Derived.KernelRfl
import Derived.Test.YtdcnajadcbedkaaGreatDoorProg
import Derived.Test.YtdcnajadcbedkaaGreatDoorS606
set_option linter.all false
set_option linter.unusedSimpArgs false
set_option linter.unusedSectionVars false
open Go Go.Proofs Aq
namespace Sh
set_option maxRecDepth 100000
structure aI where
 b0:Int
 b1:Int
 b2:Int
 b3:Int
 b4:Int
 b5:Int
 b6:Int
 b7:Int
 b8:Int
 b9:Int
 b10:Int
 b11:Int
 b12:Int
 b13:Int
 b14:Int
 b15:Int
 deriving DecidableEq
def aI.c (x:aI):List V:=[.int .u8 x.b0,.int .u8 x.b1,.int .u8 x.b2,.int .u8 x.b3,.int .u8 x.b4,.int .u8 x.b5,.int .u8 x.b6,.int .u8 x.b7,.int .u8 x.b8,.int .u8 x.b9,.int .u8 x.b10,.int .u8 x.b11,.int .u8 x.b12,.int .u8 x.b13,.int .u8 x.b14,.int .u8 x.b15]
def aI.v (x:aI):V:=.agg x.c
theorem aI.cells (x:aI):((aI.v x).cells)=x.c:=rfl
theorem aI.nr (x:aI):dx x.v=true:=rfl
theorem aI.len (x:aI):x.c.length=16:=rfl
theorem aI.one (x:aI):bg x.c=true:=rfl
theorem aI.pc (x:aI):aF x.v=true:=by simp[aI.v,aI.c,aF,aQ,iK,ji,jk,jl,jm,iv]
attribute [go_sem] aI.nr aI.cells aI.len aI.one aI.pc
structure Seal where
 b0:Int
 b1:Int
 b2:Int
 b3:Int
 b4:Int
 b5:Int
 b6:Int
 b7:Int
 b8:Int
 b9:Int
 b10:Int
 b11:Int
 b12:Int
 b13:Int
 b14:Int
 b15:Int
 deriving DecidableEq
def Seal.c (x:Seal):List V:=[.int .u8 x.b0,.int .u8 x.b1,.int .u8 x.b2,.int .u8 x.b3,.int .u8 x.b4,.int .u8 x.b5,.int .u8 x.b6,.int .u8 x.b7,.int .u8 x.b8,.int .u8 x.b9,.int .u8 x.b10,.int .u8 x.b11,.int .u8 x.b12,.int .u8 x.b13,.int .u8 x.b14,.int .u8 x.b15]
def Seal.v (x:Seal):V:=.agg x.c
theorem Seal.cells (x:Seal):((Seal.v x).cells)=x.c:=rfl
theorem Seal.nr (x:Seal):dx x.v=true:=rfl
theorem Seal.len (x:Seal):x.c.length=16:=rfl
theorem Seal.one (x:Seal):bg x.c=true:=rfl
theorem Seal.pc (x:Seal):aF x.v=true:=by simp[Seal.v,Seal.c,aF,aQ,iK,ji,jk,jl,jm,iv]
attribute [go_sem] Seal.nr Seal.cells Seal.len Seal.one Seal.pc
structure Mark where
 aO:aI
 aT:aI
 Count:Int
 deriving DecidableEq
def Mark.c (x:Mark):List V:=[.int .u8 x.aO.b0,.int .u8 x.aO.b1,.int .u8 x.aO.b2,.int .u8 x.aO.b3,.int .u8 x.aO.b4,.int .u8 x.aO.b5,.int .u8 x.aO.b6,.int .u8 x.aO.b7,.int .u8 x.aO.b8,.int .u8 x.aO.b9,.int .u8 x.aO.b10,.int .u8 x.aO.b11,.int .u8 x.aO.b12,.int .u8 x.aO.b13,.int .u8 x.aO.b14,.int .u8 x.aO.b15,.int .u8 x.aT.b0,.int .u8 x.aT.b1,.int .u8 x.aT.b2,.int .u8 x.aT.b3,.int .u8 x.aT.b4,.int .u8 x.aT.b5,.int .u8 x.aT.b6,.int .u8 x.aT.b7,.int .u8 x.aT.b8,.int .u8 x.aT.b9,.int .u8 x.aT.b10,.int .u8 x.aT.b11,.int .u8 x.aT.b12,.int .u8 x.aT.b13,.int .u8 x.aT.b14,.int .u8 x.aT.b15,.int .i64 x.Count]
def Mark.v (x:Mark):V:=.agg x.c
theorem Mark.cells (x:Mark):((Mark.v x).cells)=x.c:=rfl
theorem Mark.nr (x:Mark):dx x.v=true:=rfl
theorem Mark.len (x:Mark):x.c.length=33:=rfl
theorem Mark.one (x:Mark):bg x.c=true:=rfl
theorem Mark.pc (x:Mark):aF x.v=true:=by simp[Mark.v,Mark.c,aF,aQ,iK,ji,jk,jl,jm,iv,aI.pc]
attribute [go_sem] Mark.nr Mark.cells Mark.len Mark.one Mark.pc
structure Root where
 bN:Int
 aZ:Int
 Day:Int
 Floor:Int
 au:aI
 ak:aI
 Marks:List Mark
 Gone:aI
 fK:Int
 ay:aI
 fM:Int
 bP:Int
 Seal:Seal
 deriving DecidableEq
def Root.c (x:Root):List V:=[.int .i64 x.bN,.int .i64 x.aZ,.int .i64 x.Day,.int .i64 x.Floor,.int .u8 x.au.b0,.int .u8 x.au.b1,.int .u8 x.au.b2,.int .u8 x.au.b3,.int .u8 x.au.b4,.int .u8 x.au.b5,.int .u8 x.au.b6,.int .u8 x.au.b7,.int .u8 x.au.b8,.int .u8 x.au.b9,.int .u8 x.au.b10,.int .u8 x.au.b11,.int .u8 x.au.b12,.int .u8 x.au.b13,.int .u8 x.au.b14,.int .u8 x.au.b15,.int .u8 x.ak.b0,.int .u8 x.ak.b1,.int .u8 x.ak.b2,.int .u8 x.ak.b3,.int .u8 x.ak.b4,.int .u8 x.ak.b5,.int .u8 x.ak.b6,.int .u8 x.ak.b7,.int .u8 x.ak.b8,.int .u8 x.ak.b9,.int .u8 x.ak.b10,.int .u8 x.ak.b11,.int .u8 x.ak.b12,.int .u8 x.ak.b13,.int .u8 x.ak.b14,.int .u8 x.ak.b15,lv Mark.v x.Marks,.int .u8 x.Gone.b0,.int .u8 x.Gone.b1,.int .u8 x.Gone.b2,.int .u8 x.Gone.b3,.int .u8 x.Gone.b4,.int .u8 x.Gone.b5,.int .u8 x.Gone.b6,.int .u8 x.Gone.b7,.int .u8 x.Gone.b8,.int .u8 x.Gone.b9,.int .u8 x.Gone.b10,.int .u8 x.Gone.b11,.int .u8 x.Gone.b12,.int .u8 x.Gone.b13,.int .u8 x.Gone.b14,.int .u8 x.Gone.b15,.int .i64 x.fK,.int .u8 x.ay.b0,.int .u8 x.ay.b1,.int .u8 x.ay.b2,.int .u8 x.ay.b3,.int .u8 x.ay.b4,.int .u8 x.ay.b5,.int .u8 x.ay.b6,.int .u8 x.ay.b7,.int .u8 x.ay.b8,.int .u8 x.ay.b9,.int .u8 x.ay.b10,.int .u8 x.ay.b11,.int .u8 x.ay.b12,.int .u8 x.ay.b13,.int .u8 x.ay.b14,.int .u8 x.ay.b15,.int .i64 x.fM,.int .i64 x.bP,.int .u8 x.Seal.b0,.int .u8 x.Seal.b1,.int .u8 x.Seal.b2,.int .u8 x.Seal.b3,.int .u8 x.Seal.b4,.int .u8 x.Seal.b5,.int .u8 x.Seal.b6,.int .u8 x.Seal.b7,.int .u8 x.Seal.b8,.int .u8 x.Seal.b9,.int .u8 x.Seal.b10,.int .u8 x.Seal.b11,.int .u8 x.Seal.b12,.int .u8 x.Seal.b13,.int .u8 x.Seal.b14,.int .u8 x.Seal.b15]
def Root.v (x:Root):V:=.agg x.c
theorem Root.cells (x:Root):((Root.v x).cells)=x.c:=rfl
theorem Root.nr (x:Root):dx x.v=true:=rfl
theorem Root.len (x:Root):x.c.length=88:=rfl
theorem Root.one (x:Root):bg x.c=true:=rfl
theorem Root.pc (x:Root):aF x.v=true:=by simp[Root.v,Root.c,aF,aQ,iK,ji,jk,jl,jm,iv,aI.pc,Mark.pc,Seal.pc]
attribute [go_sem] Root.nr Root.cells Root.len Root.one Root.pc
structure Key where
 dL:Int
 bP:Int
 fq:List UInt8
 From:Int
 To:Int
 deriving DecidableEq
def Key.c (x:Key):List V:=[.int .i64 x.dL,.int .i64 x.bP,.str x.fq,.int .i64 x.From,.int .i64 x.To]
def Key.v (x:Key):V:=.agg x.c
theorem Key.cells (x:Key):((Key.v x).cells)=x.c:=rfl
theorem Key.nr (x:Key):dx x.v=true:=rfl
theorem Key.len (x:Key):x.c.length=5:=rfl
theorem Key.one (x:Key):bg x.c=true:=rfl
theorem Key.pc (x:Key):aF x.v=true:=by simp[Key.v,Key.c,aF,aQ,iK,ji,jk,jl,jm,iv]
attribute [go_sem] Key.nr Key.cells Key.len Key.one Key.pc
structure dW where
 R:Root
 E:Int
 deriving DecidableEq
def dW.c (x:dW):List V:=[.int .i64 x.R.bN,.int .i64 x.R.aZ,.int .i64 x.R.Day,.int .i64 x.R.Floor,.int .u8 x.R.au.b0,.int .u8 x.R.au.b1,.int .u8 x.R.au.b2,.int .u8 x.R.au.b3,.int .u8 x.R.au.b4,.int .u8 x.R.au.b5,.int .u8 x.R.au.b6,.int .u8 x.R.au.b7,.int .u8 x.R.au.b8,.int .u8 x.R.au.b9,.int .u8 x.R.au.b10,.int .u8 x.R.au.b11,.int .u8 x.R.au.b12,.int .u8 x.R.au.b13,.int .u8 x.R.au.b14,.int .u8 x.R.au.b15,.int .u8 x.R.ak.b0,.int .u8 x.R.ak.b1,.int .u8 x.R.ak.b2,.int .u8 x.R.ak.b3,.int .u8 x.R.ak.b4,.int .u8 x.R.ak.b5,.int .u8 x.R.ak.b6,.int .u8 x.R.ak.b7,.int .u8 x.R.ak.b8,.int .u8 x.R.ak.b9,.int .u8 x.R.ak.b10,.int .u8 x.R.ak.b11,.int .u8 x.R.ak.b12,.int .u8 x.R.ak.b13,.int .u8 x.R.ak.b14,.int .u8 x.R.ak.b15,lv Mark.v x.R.Marks,.int .u8 x.R.Gone.b0,.int .u8 x.R.Gone.b1,.int .u8 x.R.Gone.b2,.int .u8 x.R.Gone.b3,.int .u8 x.R.Gone.b4,.int .u8 x.R.Gone.b5,.int .u8 x.R.Gone.b6,.int .u8 x.R.Gone.b7,.int .u8 x.R.Gone.b8,.int .u8 x.R.Gone.b9,.int .u8 x.R.Gone.b10,.int .u8 x.R.Gone.b11,.int .u8 x.R.Gone.b12,.int .u8 x.R.Gone.b13,.int .u8 x.R.Gone.b14,.int .u8 x.R.Gone.b15,.int .i64 x.R.fK,.int .u8 x.R.ay.b0,.int .u8 x.R.ay.b1,.int .u8 x.R.ay.b2,.int .u8 x.R.ay.b3,.int .u8 x.R.ay.b4,.int .u8 x.R.ay.b5,.int .u8 x.R.ay.b6,.int .u8 x.R.ay.b7,.int .u8 x.R.ay.b8,.int .u8 x.R.ay.b9,.int .u8 x.R.ay.b10,.int .u8 x.R.ay.b11,.int .u8 x.R.ay.b12,.int .u8 x.R.ay.b13,.int .u8 x.R.ay.b14,.int .u8 x.R.ay.b15,.int .i64 x.R.fM,.int .i64 x.R.bP,.int .u8 x.R.Seal.b0,.int .u8 x.R.Seal.b1,.int .u8 x.R.Seal.b2,.int .u8 x.R.Seal.b3,.int .u8 x.R.Seal.b4,.int .u8 x.R.Seal.b5,.int .u8 x.R.Seal.b6,.int .u8 x.R.Seal.b7,.int .u8 x.R.Seal.b8,.int .u8 x.R.Seal.b9,.int .u8 x.R.Seal.b10,.int .u8 x.R.Seal.b11,.int .u8 x.R.Seal.b12,.int .u8 x.R.Seal.b13,.int .u8 x.R.Seal.b14,.int .u8 x.R.Seal.b15,.int .i64 x.E]
def dW.v (x:dW):V:=.agg x.c
theorem dW.cells (x:dW):((dW.v x).cells)=x.c:=rfl
theorem dW.nr (x:dW):dx x.v=true:=rfl
theorem dW.len (x:dW):x.c.length=89:=rfl
theorem dW.one (x:dW):bg x.c=true:=rfl
theorem dW.pc (x:dW):aF x.v=true:=by simp[dW.v,dW.c,aF,aQ,iK,ji,jk,jl,jm,iv,aI.pc,Mark.pc,Root.pc,Seal.pc]
attribute [go_sem] dW.nr dW.cells dW.len dW.one dW.pc
structure gX where
 YR:List Root
 deriving DecidableEq
def gX.c (x:gX):List V:=[lv Root.v x.YR]
def gX.v (x:gX):V:=.agg x.c
theorem gX.cells (x:gX):((gX.v x).cells)=x.c:=rfl
theorem gX.nr (x:gX):dx x.v=true:=rfl
theorem gX.len (x:gX):x.c.length=1:=rfl
theorem gX.one (x:gX):bg x.c=true:=rfl
theorem gX.pc (x:gX):aF x.v=true:=by simp[gX.v,gX.c,aF,aQ,iK,ji,jk,jl,jm,iv,aI.pc,Mark.pc,Root.pc,Seal.pc]
attribute [go_sem] gX.nr gX.cells gX.len gX.one gX.pc
structure Def where
 Name:List UInt8
 Kind:Int
 Lo:Int
 Hi:Int
 Words:List (List UInt8)
 deriving DecidableEq
def Def.c (x:Def):List V:=[.str x.Name,.int .i64 x.Kind,.int .i64 x.Lo,.int .i64 x.Hi,lv V.str x.Words]
def Def.v (x:Def):V:=.agg x.c
theorem Def.cells (x:Def):((Def.v x).cells)=x.c:=rfl
theorem Def.nr (x:Def):dx x.v=true:=rfl
theorem Def.len (x:Def):x.c.length=5:=rfl
theorem Def.one (x:Def):bg x.c=true:=rfl
theorem Def.pc (x:Def):aF x.v=true:=by simp[Def.v,Def.c,aF,aQ,iK,ji,jk,jl,jm,iv]
attribute [go_sem] Def.nr Def.cells Def.len Def.one Def.pc
structure ak where
 vY:Int
 vZ:Int
 Defs:List Def
 deriving DecidableEq
def ak.c (x:ak):List V:=[.int .i64 x.vY,.int .i64 x.vZ,lv Def.v x.Defs]
def ak.v (x:ak):V:=.agg x.c
theorem ak.cells (x:ak):((ak.v x).cells)=x.c:=rfl
theorem ak.nr (x:ak):dx x.v=true:=rfl
theorem ak.len (x:ak):x.c.length=3:=rfl
theorem ak.one (x:ak):bg x.c=true:=rfl
theorem ak.pc (x:ak):aF x.v=true:=by simp[ak.v,ak.c,aF,aQ,iK,ji,jk,jl,jm,iv,Def.pc]
attribute [go_sem] ak.nr ak.cells ak.len ak.one ak.pc
structure Attr where
 Name:List UInt8
 Kind:Int
 N:Int
 S:List UInt8
 deriving DecidableEq
def Attr.c (x:Attr):List V:=[.str x.Name,.int .i64 x.Kind,.int .i64 x.N,.str x.S]
def Attr.v (x:Attr):V:=.agg x.c
theorem Attr.cells (x:Attr):((Attr.v x).cells)=x.c:=rfl
theorem Attr.nr (x:Attr):dx x.v=true:=rfl
theorem Attr.len (x:Attr):x.c.length=4:=rfl
theorem Attr.one (x:Attr):bg x.c=true:=rfl
theorem Attr.pc (x:Attr):aF x.v=true:=by simp[Attr.v,Attr.c,aF,aQ,iK,ji,jk,jl,jm,iv]
attribute [go_sem] Attr.nr Attr.cells Attr.len Attr.one Attr.pc
structure Entry where
 ID:Int
 Kg:Int
 xQ:Int
 Kh:Int
 From:Int
 To:Int
 Ki:Int
 Vec:List Int
 xR:List Attr
 deriving DecidableEq
def Entry.c (x:Entry):List V:=[.int .i64 x.ID,.int .i64 x.Kg,.int .i64 x.xQ,.int .i64 x.Kh,.int .i64 x.From,.int .i64 x.To,.int .i64 x.Ki,lv iv x.Vec,lv Attr.v x.xR]
def Entry.v (x:Entry):V:=.agg x.c
theorem Entry.cells (x:Entry):((Entry.v x).cells)=x.c:=rfl
theorem Entry.nr (x:Entry):dx x.v=true:=rfl
theorem Entry.len (x:Entry):x.c.length=9:=rfl
theorem Entry.one (x:Entry):bg x.c=true:=rfl
theorem Entry.pc (x:Entry):aF x.v=true:=by simp[Entry.v,Entry.c,aF,aQ,iK,ji,jk,jl,jm,iv,Attr.pc]
attribute [go_sem] Entry.nr Entry.cells Entry.len Entry.one Entry.pc
structure Row where
 Entry:Entry
 YS:Int
 deriving DecidableEq
def Row.c (x:Row):List V:=[.int .i64 x.Entry.ID,.int .i64 x.Entry.Kg,.int .i64 x.Entry.xQ,.int .i64 x.Entry.Kh,.int .i64 x.Entry.From,.int .i64 x.Entry.To,.int .i64 x.Entry.Ki,lv iv x.Entry.Vec,lv Attr.v x.Entry.xR,.int .i64 x.YS]
def Row.v (x:Row):V:=.agg x.c
theorem Row.cells (x:Row):((Row.v x).cells)=x.c:=rfl
theorem Row.nr (x:Row):dx x.v=true:=rfl
theorem Row.len (x:Row):x.c.length=10:=rfl
theorem Row.one (x:Row):bg x.c=true:=rfl
theorem Row.pc (x:Row):aF x.v=true:=by simp[Row.v,Row.c,aF,aQ,iK,ji,jk,jl,jm,iv,Attr.pc,Entry.pc]
attribute [go_sem] Row.nr Row.cells Row.len Row.one Row.pc
structure Book where
 ak:ak
 aZ:Int
 Day:Int
 AP:List Int
 Rows:List Row
 deriving DecidableEq
def Book.c (x:Book):List V:=[.int .i64 x.ak.vY,.int .i64 x.ak.vZ,lv Def.v x.ak.Defs,.int .i64 x.aZ,.int .i64 x.Day,lv iv x.AP,lv Row.v x.Rows]
def Book.v (x:Book):V:=.agg x.c
theorem Book.cells (x:Book):((Book.v x).cells)=x.c:=rfl
theorem Book.nr (x:Book):dx x.v=true:=rfl
theorem Book.len (x:Book):x.c.length=7:=rfl
theorem Book.one (x:Book):bg x.c=true:=rfl
theorem Book.pc (x:Book):aF x.v=true:=by simp[Book.v,Book.c,aF,aQ,iK,ji,jk,jl,jm,iv,Attr.pc,Def.pc,Entry.pc,Row.pc,ak.pc]
attribute [go_sem] Book.nr Book.cells Book.len Book.one Book.pc
structure gY where
 At:Int
 Path:List aI
 E:Int
 deriving DecidableEq
def gY.c (x:gY):List V:=[.int .i64 x.At,lv aI.v x.Path,.int .i64 x.E]
def gY.v (x:gY):V:=.agg x.c
theorem gY.cells (x:gY):((gY.v x).cells)=x.c:=rfl
theorem gY.nr (x:gY):dx x.v=true:=rfl
theorem gY.len (x:gY):x.c.length=3:=rfl
theorem gY.one (x:gY):bg x.c=true:=rfl
theorem gY.pc (x:gY):aF x.v=true:=by simp[gY.v,gY.c,aF,aQ,iK,ji,jk,jl,jm,iv,aI.pc]
attribute [go_sem] gY.nr gY.cells gY.len gY.one gY.pc
structure Event where
 Kind:Int
 aZ:Int
 Day:Int
 ID:Int
 xQ:Int
 Until:Int
 From:Int
 Vec:List Int
 xR:List Attr
 fV:aI
 deriving DecidableEq
def Event.c (x:Event):List V:=[.int .i64 x.Kind,.int .i64 x.aZ,.int .i64 x.Day,.int .i64 x.ID,.int .i64 x.xQ,.int .i64 x.Until,.int .i64 x.From,lv iv x.Vec,lv Attr.v x.xR,.int .u8 x.fV.b0,.int .u8 x.fV.b1,.int .u8 x.fV.b2,.int .u8 x.fV.b3,.int .u8 x.fV.b4,.int .u8 x.fV.b5,.int .u8 x.fV.b6,.int .u8 x.fV.b7,.int .u8 x.fV.b8,.int .u8 x.fV.b9,.int .u8 x.fV.b10,.int .u8 x.fV.b11,.int .u8 x.fV.b12,.int .u8 x.fV.b13,.int .u8 x.fV.b14,.int .u8 x.fV.b15]
def Event.v (x:Event):V:=.agg x.c
theorem Event.cells (x:Event):((Event.v x).cells)=x.c:=rfl
theorem Event.nr (x:Event):dx x.v=true:=rfl
theorem Event.len (x:Event):x.c.length=25:=rfl
theorem Event.one (x:Event):bg x.c=true:=rfl
theorem Event.pc (x:Event):aF x.v=true:=by simp[Event.v,Event.c,aF,aQ,iK,ji,jk,jl,jm,iv,Attr.pc,aI.pc]
attribute [go_sem] Event.nr Event.cells Event.len Event.one Event.pc
structure Snapshot where
 Day:Int
 aZ:Int
 deriving DecidableEq
def Snapshot.c (x:Snapshot):List V:=[.int .i64 x.Day,.int .i64 x.aZ]
def Snapshot.v (x:Snapshot):V:=.agg x.c
theorem Snapshot.cells (x:Snapshot):((Snapshot.v x).cells)=x.c:=rfl
theorem Snapshot.nr (x:Snapshot):dx x.v=true:=rfl
theorem Snapshot.len (x:Snapshot):x.c.length=2:=rfl
theorem Snapshot.one (x:Snapshot):bg x.c=true:=rfl
theorem Snapshot.pc (x:Snapshot):aF x.v=true:=by simp[Snapshot.v,Snapshot.c,aF,aQ,iK,ji,jk,jl,jm,iv]
attribute [go_sem] Snapshot.nr Snapshot.cells Snapshot.len Snapshot.one Snapshot.pc
structure gZ where
 B:Book
 N:Int
 E:Int
 deriving DecidableEq
def gZ.c (x:gZ):List V:=[.int .i64 x.B.ak.vY,.int .i64 x.B.ak.vZ,lv Def.v x.B.ak.Defs,.int .i64 x.B.aZ,.int .i64 x.B.Day,lv iv x.B.AP,lv Row.v x.B.Rows,.int .i64 x.N,.int .i64 x.E]
def gZ.v (x:gZ):V:=.agg x.c
theorem gZ.cells (x:gZ):((gZ.v x).cells)=x.c:=rfl
theorem gZ.nr (x:gZ):dx x.v=true:=rfl
theorem gZ.len (x:gZ):x.c.length=9:=rfl
theorem gZ.one (x:gZ):bg x.c=true:=rfl
theorem gZ.pc (x:gZ):aF x.v=true:=by simp[gZ.v,gZ.c,aF,aQ,iK,ji,jk,jl,jm,iv,Attr.pc,Book.pc,Def.pc,Entry.pc,Row.pc,ak.pc]
attribute [go_sem] gZ.nr gZ.cells gZ.len gZ.one gZ.pc
structure ig where
 L:List aI
 E:Int
 deriving DecidableEq
def ig.c (x:ig):List V:=[lv aI.v x.L,.int .i64 x.E]
def ig.v (x:ig):V:=.agg x.c
theorem ig.cells (x:ig):((ig.v x).cells)=x.c:=rfl
theorem ig.nr (x:ig):dx x.v=true:=rfl
theorem ig.len (x:ig):x.c.length=2:=rfl
theorem ig.one (x:ig):bg x.c=true:=rfl
theorem ig.pc (x:ig):aF x.v=true:=by simp[ig.v,ig.c,aF,aQ,iK,ji,jk,jl,jm,iv,aI.pc]
attribute [go_sem] ig.nr ig.cells ig.len ig.one ig.pc
structure iq where
 B:Book
 E:Int
 deriving DecidableEq
def iq.c (x:iq):List V:=[.int .i64 x.B.ak.vY,.int .i64 x.B.ak.vZ,lv Def.v x.B.ak.Defs,.int .i64 x.B.aZ,.int .i64 x.B.Day,lv iv x.B.AP,lv Row.v x.B.Rows,.int .i64 x.E]
def iq.v (x:iq):V:=.agg x.c
theorem iq.cells (x:iq):((iq.v x).cells)=x.c:=rfl
theorem iq.nr (x:iq):dx x.v=true:=rfl
theorem iq.len (x:iq):x.c.length=8:=rfl
theorem iq.one (x:iq):bg x.c=true:=rfl
theorem iq.pc (x:iq):aF x.v=true:=by simp[iq.v,iq.c,aF,aQ,iK,ji,jk,jl,jm,iv,Attr.pc,Book.pc,Def.pc,Entry.pc,Row.pc,ak.pc]
attribute [go_sem] iq.nr iq.cells iq.len iq.one iq.pc
structure dR where
 K:Key
 E:Int
 deriving DecidableEq
def dR.c (x:dR):List V:=[.int .i64 x.K.dL,.int .i64 x.K.bP,.str x.K.fq,.int .i64 x.K.From,.int .i64 x.K.To,.int .i64 x.E]
def dR.v (x:dR):V:=.agg x.c
theorem dR.cells (x:dR):((dR.v x).cells)=x.c:=rfl
theorem dR.nr (x:dR):dx x.v=true:=rfl
theorem dR.len (x:dR):x.c.length=6:=rfl
theorem dR.one (x:dR):bg x.c=true:=rfl
theorem dR.pc (x:dR):aF x.v=true:=by simp[dR.v,dR.c,aF,aQ,iK,ji,jk,jl,jm,iv,Key.pc]
attribute [go_sem] dR.nr dR.cells dR.len dR.one dR.pc
structure iw where
 l:List aI
 short:Bool
 deriving DecidableEq
def iw.c (x:iw):List V:=[lv aI.v x.l,.bool x.short]
def iw.v (x:iw):V:=.agg x.c
theorem iw.cells (x:iw):((iw.v x).cells)=x.c:=rfl
theorem iw.nr (x:iw):dx x.v=true:=rfl
theorem iw.len (x:iw):x.c.length=2:=rfl
theorem iw.one (x:iw):bg x.c=true:=rfl
theorem iw.pc (x:iw):aF x.v=true:=by simp[iw.v,iw.c,aF,aQ,iK,ji,jk,jl,jm,iv,aI.pc]
attribute [go_sem] iw.nr iw.cells iw.len iw.one iw.pc
structure gI where
 D:aI
 Ok:Bool
 deriving DecidableEq
def gI.c (x:gI):List V:=[.int .u8 x.D.b0,.int .u8 x.D.b1,.int .u8 x.D.b2,.int .u8 x.D.b3,.int .u8 x.D.b4,.int .u8 x.D.b5,.int .u8 x.D.b6,.int .u8 x.D.b7,.int .u8 x.D.b8,.int .u8 x.D.b9,.int .u8 x.D.b10,.int .u8 x.D.b11,.int .u8 x.D.b12,.int .u8 x.D.b13,.int .u8 x.D.b14,.int .u8 x.D.b15,.bool x.Ok]
def gI.v (x:gI):V:=.agg x.c
theorem gI.cells (x:gI):((gI.v x).cells)=x.c:=rfl
theorem gI.nr (x:gI):dx x.v=true:=rfl
theorem gI.len (x:gI):x.c.length=17:=rfl
theorem gI.one (x:gI):bg x.c=true:=rfl
theorem gI.pc (x:gI):aF x.v=true:=by simp[gI.v,gI.c,aF,aQ,iK,ji,jk,jl,jm,iv,aI.pc]
attribute [go_sem] gI.nr gI.cells gI.len gI.one gI.pc
structure iy where
 from_:Int
 to:Int
 deriving DecidableEq
def iy.c (x:iy):List V:=[.int .i64 x.from_,.int .i64 x.to]
def iy.v (x:iy):V:=.agg x.c
theorem iy.cells (x:iy):((iy.v x).cells)=x.c:=rfl
theorem iy.nr (x:iy):dx x.v=true:=rfl
theorem iy.len (x:iy):x.c.length=2:=rfl
theorem iy.one (x:iy):bg x.c=true:=rfl
theorem iy.pc (x:iy):aF x.v=true:=by simp[iy.v,iy.c,aF,aQ,iK,ji,jk,jl,jm,iv]
attribute [go_sem] iy.nr iy.cells iy.len iy.one iy.pc
@[go_sem] theorem aoN:l7 Tryz.prog 24=true:=by kernel_rfl
@[go_sem] theorem Ra:Tryz.prog.underlying 24=some (.slice 112):=by kernel_rfl
@[go_sem] theorem aoO:lV Tryz.prog 27 4=some (4,23):=by kernel_rfl
@[go_sem] theorem aoP:lV Tryz.prog 27 5=some (20,23):=by kernel_rfl
@[go_sem] theorem aoQ:lV Tryz.prog 27 6=some (36,24):=by kernel_rfl
@[go_sem] theorem aoR:lV Tryz.prog 27 7=some (37,23):=by kernel_rfl
@[go_sem] theorem aoS:lV Tryz.prog 27 9=some (54,23):=by kernel_rfl
@[go_sem] theorem aoT:l7 Tryz.prog 61=true:=by kernel_rfl
@[go_sem] theorem aoU:l7 Tryz.prog 65=true:=by kernel_rfl
@[go_sem] theorem aoV:l7 Tryz.prog 94=true:=by kernel_rfl
@[go_sem] theorem aoW:lV Tryz.prog 112 0=some (0,23):=by kernel_rfl
@[go_sem] theorem aoX:lV Tryz.prog 112 1=some (16,23):=by kernel_rfl
@[go_sem] theorem aoY:l7 Tryz.prog 116=true:=by kernel_rfl
@[go_sem] theorem aI.YT:∀x:aI,dM Tryz.prog 23 x.c 0=some (aI.v x):=fun x=>by kernel_rfl
@[go_sem] theorem Mark.aoZ:∀x:Mark,dM Tryz.prog 112 x.c 0=some (Mark.v x):=fun x=>by kernel_rfl
@[go_sem] theorem Mark.YT:∀x:Mark,dM Tryz.prog 23 x.c 0=some (aI.v x.aO):=fun x=>by kernel_rfl
@[go_sem] theorem Mark.ao0:∀x:Mark,dM Tryz.prog 23 x.c 16=some (aI.v x.aT):=fun x=>by kernel_rfl
@[go_sem] theorem Root.aij:∀x:Root,dM Tryz.prog 23 x.c 4=some (aI.v x.au):=fun x=>by kernel_rfl
@[go_sem] theorem Root.aik:∀x:Root,dM Tryz.prog 23 x.c 20=some (aI.v x.ak):=fun x=>by kernel_rfl
@[go_sem] theorem Root.ail:∀x:Root,dM Tryz.prog 24 x.c 36=some (lv Mark.v x.Marks):=fun x=>by kernel_rfl
@[go_sem] theorem Root.ain:∀x:Root,dM Tryz.prog 23 x.c 37=some (aI.v x.Gone):=fun x=>by kernel_rfl
@[go_sem] theorem Root.aio:∀x:Root,dM Tryz.prog 23 x.c 54=some (aI.v x.ay):=fun x=>by kernel_rfl
@[go_sem] theorem dW.aij:∀x:dW,dM Tryz.prog 23 x.c 4=some (aI.v x.R.au):=fun x=>by kernel_rfl
@[go_sem] theorem dW.aik:∀x:dW,dM Tryz.prog 23 x.c 20=some (aI.v x.R.ak):=fun x=>by kernel_rfl
@[go_sem] theorem dW.ail:∀x:dW,dM Tryz.prog 24 x.c 36=some (lv Mark.v x.R.Marks):=fun x=>by kernel_rfl
@[go_sem] theorem dW.ain:∀x:dW,dM Tryz.prog 23 x.c 37=some (aI.v x.R.Gone):=fun x=>by kernel_rfl
@[go_sem] theorem dW.aio:∀x:dW,dM Tryz.prog 23 x.c 54=some (aI.v x.R.ay):=fun x=>by kernel_rfl
@[go_sem] theorem gI.YT:∀x:gI,dM Tryz.prog 23 x.c 0=some (aI.v x.D):=fun x=>by kernel_rfl
end Sh
