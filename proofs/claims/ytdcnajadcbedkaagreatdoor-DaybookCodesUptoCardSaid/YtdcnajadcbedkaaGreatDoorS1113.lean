/- Part of the proof of a law. -/
import Derived.KernelRfl
import Derived.Test.YtdcnajadcbedkaaGreatDoorProg
import Derived.Test.YtdcnajadcbedkaaGreatDoorS1106
set_option linter.all false
set_option linter.unusedSimpArgs false
set_option linter.unusedSectionVars false
open Go Go.Proofs Aq
namespace Sh
set_option maxRecDepth 100000
structure aA where
 b0:Int
 b1:Int
 b2:Int
 b3:Int
 b4:Int
 b5:Int
 b6:Int
 b7:Int
 b8:Int
 b9:Int
 b10:Int
 b11:Int
 b12:Int
 b13:Int
 b14:Int
 b15:Int
 deriving DecidableEq
def aA.c (x:aA):List V:=[.int .u8 x.b0,.int .u8 x.b1,.int .u8 x.b2,.int .u8 x.b3,.int .u8 x.b4,.int .u8 x.b5,.int .u8 x.b6,.int .u8 x.b7,.int .u8 x.b8,.int .u8 x.b9,.int .u8 x.b10,.int .u8 x.b11,.int .u8 x.b12,.int .u8 x.b13,.int .u8 x.b14,.int .u8 x.b15]
def aA.v (x:aA):V:=.agg x.c
theorem aA.cells (x:aA):((aA.v x).cells)=x.c:=rfl
theorem aA.nr (x:aA):cu x.v=true:=rfl
theorem aA.len (x:aA):x.c.length=16:=rfl
theorem aA.one (x:aA):bf x.c=true:=rfl
theorem aA.pc (x:aA):aF x.v=true:=by simp[aA.v,aA.c,aF,aR,iW,jr,jv,jw,jy,iv]
attribute [go_sem] aA.nr aA.cells aA.len aA.one aA.pc
structure Seal where
 b0:Int
 b1:Int
 b2:Int
 b3:Int
 b4:Int
 b5:Int
 b6:Int
 b7:Int
 b8:Int
 b9:Int
 b10:Int
 b11:Int
 b12:Int
 b13:Int
 b14:Int
 b15:Int
 deriving DecidableEq
def Seal.c (x:Seal):List V:=[.int .u8 x.b0,.int .u8 x.b1,.int .u8 x.b2,.int .u8 x.b3,.int .u8 x.b4,.int .u8 x.b5,.int .u8 x.b6,.int .u8 x.b7,.int .u8 x.b8,.int .u8 x.b9,.int .u8 x.b10,.int .u8 x.b11,.int .u8 x.b12,.int .u8 x.b13,.int .u8 x.b14,.int .u8 x.b15]
def Seal.v (x:Seal):V:=.agg x.c
theorem Seal.cells (x:Seal):((Seal.v x).cells)=x.c:=rfl
theorem Seal.nr (x:Seal):cu x.v=true:=rfl
theorem Seal.len (x:Seal):x.c.length=16:=rfl
theorem Seal.one (x:Seal):bf x.c=true:=rfl
theorem Seal.pc (x:Seal):aF x.v=true:=by simp[Seal.v,Seal.c,aF,aR,iW,jr,jv,jw,jy,iv]
attribute [go_sem] Seal.nr Seal.cells Seal.len Seal.one Seal.pc
structure Mark where
 bA:aA
 bn:aA
 Count:Int
 deriving DecidableEq
def Mark.c (x:Mark):List V:=[.int .u8 x.bA.b0,.int .u8 x.bA.b1,.int .u8 x.bA.b2,.int .u8 x.bA.b3,.int .u8 x.bA.b4,.int .u8 x.bA.b5,.int .u8 x.bA.b6,.int .u8 x.bA.b7,.int .u8 x.bA.b8,.int .u8 x.bA.b9,.int .u8 x.bA.b10,.int .u8 x.bA.b11,.int .u8 x.bA.b12,.int .u8 x.bA.b13,.int .u8 x.bA.b14,.int .u8 x.bA.b15,.int .u8 x.bn.b0,.int .u8 x.bn.b1,.int .u8 x.bn.b2,.int .u8 x.bn.b3,.int .u8 x.bn.b4,.int .u8 x.bn.b5,.int .u8 x.bn.b6,.int .u8 x.bn.b7,.int .u8 x.bn.b8,.int .u8 x.bn.b9,.int .u8 x.bn.b10,.int .u8 x.bn.b11,.int .u8 x.bn.b12,.int .u8 x.bn.b13,.int .u8 x.bn.b14,.int .u8 x.bn.b15,.int .i64 x.Count]
def Mark.v (x:Mark):V:=.agg x.c
theorem Mark.cells (x:Mark):((Mark.v x).cells)=x.c:=rfl
theorem Mark.nr (x:Mark):cu x.v=true:=rfl
theorem Mark.len (x:Mark):x.c.length=33:=rfl
theorem Mark.one (x:Mark):bf x.c=true:=rfl
theorem Mark.pc (x:Mark):aF x.v=true:=by simp[Mark.v,Mark.c,aF,aR,iW,jr,jv,jw,jy,iv,aA.pc]
attribute [go_sem] Mark.nr Mark.cells Mark.len Mark.one Mark.pc
structure Root where
 jR:Int
 fC:Int
 Day:Int
 Floor:Int
 au:aA
 ak:aA
 Marks:List Mark
 Gone:aA
 jS:Int
 ay:aA
 jT:Int
 iQ:Int
 Seal:Seal
 deriving DecidableEq
def Root.c (x:Root):List V:=[.int .i64 x.jR,.int .i64 x.fC,.int .i64 x.Day,.int .i64 x.Floor,.int .u8 x.au.b0,.int .u8 x.au.b1,.int .u8 x.au.b2,.int .u8 x.au.b3,.int .u8 x.au.b4,.int .u8 x.au.b5,.int .u8 x.au.b6,.int .u8 x.au.b7,.int .u8 x.au.b8,.int .u8 x.au.b9,.int .u8 x.au.b10,.int .u8 x.au.b11,.int .u8 x.au.b12,.int .u8 x.au.b13,.int .u8 x.au.b14,.int .u8 x.au.b15,.int .u8 x.ak.b0,.int .u8 x.ak.b1,.int .u8 x.ak.b2,.int .u8 x.ak.b3,.int .u8 x.ak.b4,.int .u8 x.ak.b5,.int .u8 x.ak.b6,.int .u8 x.ak.b7,.int .u8 x.ak.b8,.int .u8 x.ak.b9,.int .u8 x.ak.b10,.int .u8 x.ak.b11,.int .u8 x.ak.b12,.int .u8 x.ak.b13,.int .u8 x.ak.b14,.int .u8 x.ak.b15,lv Mark.v x.Marks,.int .u8 x.Gone.b0,.int .u8 x.Gone.b1,.int .u8 x.Gone.b2,.int .u8 x.Gone.b3,.int .u8 x.Gone.b4,.int .u8 x.Gone.b5,.int .u8 x.Gone.b6,.int .u8 x.Gone.b7,.int .u8 x.Gone.b8,.int .u8 x.Gone.b9,.int .u8 x.Gone.b10,.int .u8 x.Gone.b11,.int .u8 x.Gone.b12,.int .u8 x.Gone.b13,.int .u8 x.Gone.b14,.int .u8 x.Gone.b15,.int .i64 x.jS,.int .u8 x.ay.b0,.int .u8 x.ay.b1,.int .u8 x.ay.b2,.int .u8 x.ay.b3,.int .u8 x.ay.b4,.int .u8 x.ay.b5,.int .u8 x.ay.b6,.int .u8 x.ay.b7,.int .u8 x.ay.b8,.int .u8 x.ay.b9,.int .u8 x.ay.b10,.int .u8 x.ay.b11,.int .u8 x.ay.b12,.int .u8 x.ay.b13,.int .u8 x.ay.b14,.int .u8 x.ay.b15,.int .i64 x.jT,.int .i64 x.iQ,.int .u8 x.Seal.b0,.int .u8 x.Seal.b1,.int .u8 x.Seal.b2,.int .u8 x.Seal.b3,.int .u8 x.Seal.b4,.int .u8 x.Seal.b5,.int .u8 x.Seal.b6,.int .u8 x.Seal.b7,.int .u8 x.Seal.b8,.int .u8 x.Seal.b9,.int .u8 x.Seal.b10,.int .u8 x.Seal.b11,.int .u8 x.Seal.b12,.int .u8 x.Seal.b13,.int .u8 x.Seal.b14,.int .u8 x.Seal.b15]
def Root.v (x:Root):V:=.agg x.c
theorem Root.cells (x:Root):((Root.v x).cells)=x.c:=rfl
theorem Root.nr (x:Root):cu x.v=true:=rfl
theorem Root.len (x:Root):x.c.length=88:=rfl
theorem Root.one (x:Root):bf x.c=true:=rfl
theorem Root.pc (x:Root):aF x.v=true:=by simp[Root.v,Root.c,aF,aR,iW,jr,jv,jw,jy,iv,aA.pc,Mark.pc,Seal.pc]
attribute [go_sem] Root.nr Root.cells Root.len Root.one Root.pc
structure Key where
 JI:Int
 iQ:Int
 JJ:List UInt8
 From:Int
 To:Int
 deriving DecidableEq
def Key.c (x:Key):List V:=[.int .i64 x.JI,.int .i64 x.iQ,.str x.JJ,.int .i64 x.From,.int .i64 x.To]
def Key.v (x:Key):V:=.agg x.c
theorem Key.cells (x:Key):((Key.v x).cells)=x.c:=rfl
theorem Key.nr (x:Key):cu x.v=true:=rfl
theorem Key.len (x:Key):x.c.length=5:=rfl
theorem Key.one (x:Key):bf x.c=true:=rfl
theorem Key.pc (x:Key):aF x.v=true:=by simp[Key.v,Key.c,aF,aR,iW,jr,jv,jw,jy,iv]
attribute [go_sem] Key.nr Key.cells Key.len Key.one Key.pc
structure dR where
 R:Root
 E:Int
 deriving DecidableEq
def dR.c (x:dR):List V:=[.int .i64 x.R.jR,.int .i64 x.R.fC,.int .i64 x.R.Day,.int .i64 x.R.Floor,.int .u8 x.R.au.b0,.int .u8 x.R.au.b1,.int .u8 x.R.au.b2,.int .u8 x.R.au.b3,.int .u8 x.R.au.b4,.int .u8 x.R.au.b5,.int .u8 x.R.au.b6,.int .u8 x.R.au.b7,.int .u8 x.R.au.b8,.int .u8 x.R.au.b9,.int .u8 x.R.au.b10,.int .u8 x.R.au.b11,.int .u8 x.R.au.b12,.int .u8 x.R.au.b13,.int .u8 x.R.au.b14,.int .u8 x.R.au.b15,.int .u8 x.R.ak.b0,.int .u8 x.R.ak.b1,.int .u8 x.R.ak.b2,.int .u8 x.R.ak.b3,.int .u8 x.R.ak.b4,.int .u8 x.R.ak.b5,.int .u8 x.R.ak.b6,.int .u8 x.R.ak.b7,.int .u8 x.R.ak.b8,.int .u8 x.R.ak.b9,.int .u8 x.R.ak.b10,.int .u8 x.R.ak.b11,.int .u8 x.R.ak.b12,.int .u8 x.R.ak.b13,.int .u8 x.R.ak.b14,.int .u8 x.R.ak.b15,lv Mark.v x.R.Marks,.int .u8 x.R.Gone.b0,.int .u8 x.R.Gone.b1,.int .u8 x.R.Gone.b2,.int .u8 x.R.Gone.b3,.int .u8 x.R.Gone.b4,.int .u8 x.R.Gone.b5,.int .u8 x.R.Gone.b6,.int .u8 x.R.Gone.b7,.int .u8 x.R.Gone.b8,.int .u8 x.R.Gone.b9,.int .u8 x.R.Gone.b10,.int .u8 x.R.Gone.b11,.int .u8 x.R.Gone.b12,.int .u8 x.R.Gone.b13,.int .u8 x.R.Gone.b14,.int .u8 x.R.Gone.b15,.int .i64 x.R.jS,.int .u8 x.R.ay.b0,.int .u8 x.R.ay.b1,.int .u8 x.R.ay.b2,.int .u8 x.R.ay.b3,.int .u8 x.R.ay.b4,.int .u8 x.R.ay.b5,.int .u8 x.R.ay.b6,.int .u8 x.R.ay.b7,.int .u8 x.R.ay.b8,.int .u8 x.R.ay.b9,.int .u8 x.R.ay.b10,.int .u8 x.R.ay.b11,.int .u8 x.R.ay.b12,.int .u8 x.R.ay.b13,.int .u8 x.R.ay.b14,.int .u8 x.R.ay.b15,.int .i64 x.R.jT,.int .i64 x.R.iQ,.int .u8 x.R.Seal.b0,.int .u8 x.R.Seal.b1,.int .u8 x.R.Seal.b2,.int .u8 x.R.Seal.b3,.int .u8 x.R.Seal.b4,.int .u8 x.R.Seal.b5,.int .u8 x.R.Seal.b6,.int .u8 x.R.Seal.b7,.int .u8 x.R.Seal.b8,.int .u8 x.R.Seal.b9,.int .u8 x.R.Seal.b10,.int .u8 x.R.Seal.b11,.int .u8 x.R.Seal.b12,.int .u8 x.R.Seal.b13,.int .u8 x.R.Seal.b14,.int .u8 x.R.Seal.b15,.int .i64 x.E]
def dR.v (x:dR):V:=.agg x.c
theorem dR.cells (x:dR):((dR.v x).cells)=x.c:=rfl
theorem dR.nr (x:dR):cu x.v=true:=rfl
theorem dR.len (x:dR):x.c.length=89:=rfl
theorem dR.one (x:dR):bf x.c=true:=rfl
theorem dR.pc (x:dR):aF x.v=true:=by simp[dR.v,dR.c,aF,aR,iW,jr,jv,jw,jy,iv,aA.pc,Mark.pc,Root.pc,Seal.pc]
attribute [go_sem] dR.nr dR.cells dR.len dR.one dR.pc
structure iD where
 Xd:List Root
 deriving DecidableEq
def iD.c (x:iD):List V:=[lv Root.v x.Xd]
def iD.v (x:iD):V:=.agg x.c
theorem iD.cells (x:iD):((iD.v x).cells)=x.c:=rfl
theorem iD.nr (x:iD):cu x.v=true:=rfl
theorem iD.len (x:iD):x.c.length=1:=rfl
theorem iD.one (x:iD):bf x.c=true:=rfl
theorem iD.pc (x:iD):aF x.v=true:=by simp[iD.v,iD.c,aF,aR,iW,jr,jv,jw,jy,iv,aA.pc,Mark.pc,Root.pc,Seal.pc]
attribute [go_sem] iD.nr iD.cells iD.len iD.one iD.pc
structure Def where
 Name:List UInt8
 Kind:Int
 Lo:Int
 Hi:Int
 Words:List (List UInt8)
 deriving DecidableEq
def Def.c (x:Def):List V:=[.str x.Name,.int .i64 x.Kind,.int .i64 x.Lo,.int .i64 x.Hi,lv V.str x.Words]
def Def.v (x:Def):V:=.agg x.c
theorem Def.cells (x:Def):((Def.v x).cells)=x.c:=rfl
theorem Def.nr (x:Def):cu x.v=true:=rfl
theorem Def.len (x:Def):x.c.length=5:=rfl
theorem Def.one (x:Def):bf x.c=true:=rfl
theorem Def.pc (x:Def):aF x.v=true:=by simp[Def.v,Def.c,aF,aR,iW,jr,jv,jw,jy,iv]
attribute [go_sem] Def.nr Def.cells Def.len Def.one Def.pc
structure ak where
 wZ:Int
 w9:Int
 Defs:List Def
 deriving DecidableEq
def ak.c (x:ak):List V:=[.int .i64 x.wZ,.int .i64 x.w9,lv Def.v x.Defs]
def ak.v (x:ak):V:=.agg x.c
theorem ak.cells (x:ak):((ak.v x).cells)=x.c:=rfl
theorem ak.nr (x:ak):cu x.v=true:=rfl
theorem ak.len (x:ak):x.c.length=3:=rfl
theorem ak.one (x:ak):bf x.c=true:=rfl
theorem ak.pc (x:ak):aF x.v=true:=by simp[ak.v,ak.c,aF,aR,iW,jr,jv,jw,jy,iv,Def.pc]
attribute [go_sem] ak.nr ak.cells ak.len ak.one ak.pc
structure Attr where
 Name:List UInt8
 Kind:Int
 N:Int
 S:List UInt8
 deriving DecidableEq
def Attr.c (x:Attr):List V:=[.str x.Name,.int .i64 x.Kind,.int .i64 x.N,.str x.S]
def Attr.v (x:Attr):V:=.agg x.c
theorem Attr.cells (x:Attr):((Attr.v x).cells)=x.c:=rfl
theorem Attr.nr (x:Attr):cu x.v=true:=rfl
theorem Attr.len (x:Attr):x.c.length=4:=rfl
theorem Attr.one (x:Attr):bf x.c=true:=rfl
theorem Attr.pc (x:Attr):aF x.v=true:=by simp[Attr.v,Attr.c,aF,aR,iW,jr,jv,jw,jy,iv]
attribute [go_sem] Attr.nr Attr.cells Attr.len Attr.one Attr.pc
structure Entry where
 ID:Int
 JK:Int
 yH:Int
 JL:Int
 From:Int
 To:Int
 JM:Int
 Vec:List Int
 yI:List Attr
 deriving DecidableEq
def Entry.c (x:Entry):List V:=[.int .i64 x.ID,.int .i64 x.JK,.int .i64 x.yH,.int .i64 x.JL,.int .i64 x.From,.int .i64 x.To,.int .i64 x.JM,lv iv x.Vec,lv Attr.v x.yI]
def Entry.v (x:Entry):V:=.agg x.c
theorem Entry.cells (x:Entry):((Entry.v x).cells)=x.c:=rfl
theorem Entry.nr (x:Entry):cu x.v=true:=rfl
theorem Entry.len (x:Entry):x.c.length=9:=rfl
theorem Entry.one (x:Entry):bf x.c=true:=rfl
theorem Entry.pc (x:Entry):aF x.v=true:=by simp[Entry.v,Entry.c,aF,aR,iW,jr,jv,jw,jy,iv,Attr.pc]
attribute [go_sem] Entry.nr Entry.cells Entry.len Entry.one Entry.pc
structure Row where
 Entry:Entry
 Xe:Int
 deriving DecidableEq
def Row.c (x:Row):List V:=[.int .i64 x.Entry.ID,.int .i64 x.Entry.JK,.int .i64 x.Entry.yH,.int .i64 x.Entry.JL,.int .i64 x.Entry.From,.int .i64 x.Entry.To,.int .i64 x.Entry.JM,lv iv x.Entry.Vec,lv Attr.v x.Entry.yI,.int .i64 x.Xe]
def Row.v (x:Row):V:=.agg x.c
theorem Row.cells (x:Row):((Row.v x).cells)=x.c:=rfl
theorem Row.nr (x:Row):cu x.v=true:=rfl
theorem Row.len (x:Row):x.c.length=10:=rfl
theorem Row.one (x:Row):bf x.c=true:=rfl
theorem Row.pc (x:Row):aF x.v=true:=by simp[Row.v,Row.c,aF,aR,iW,jr,jv,jw,jy,iv,Attr.pc,Entry.pc]
attribute [go_sem] Row.nr Row.cells Row.len Row.one Row.pc
structure Book where
 ak:ak
 fC:Int
 Day:Int
 BP:List Int
 Rows:List Row
 deriving DecidableEq
def Book.c (x:Book):List V:=[.int .i64 x.ak.wZ,.int .i64 x.ak.w9,lv Def.v x.ak.Defs,.int .i64 x.fC,.int .i64 x.Day,lv iv x.BP,lv Row.v x.Rows]
def Book.v (x:Book):V:=.agg x.c
theorem Book.cells (x:Book):((Book.v x).cells)=x.c:=rfl
theorem Book.nr (x:Book):cu x.v=true:=rfl
theorem Book.len (x:Book):x.c.length=7:=rfl
theorem Book.one (x:Book):bf x.c=true:=rfl
theorem Book.pc (x:Book):aF x.v=true:=by simp[Book.v,Book.c,aF,aR,iW,jr,jv,jw,jy,iv,Attr.pc,Def.pc,Entry.pc,Row.pc,ak.pc]
attribute [go_sem] Book.nr Book.cells Book.len Book.one Book.pc
structure iF where
 At:Int
 Path:List aA
 E:Int
 deriving DecidableEq
def iF.c (x:iF):List V:=[.int .i64 x.At,lv aA.v x.Path,.int .i64 x.E]
def iF.v (x:iF):V:=.agg x.c
theorem iF.cells (x:iF):((iF.v x).cells)=x.c:=rfl
theorem iF.nr (x:iF):cu x.v=true:=rfl
theorem iF.len (x:iF):x.c.length=3:=rfl
theorem iF.one (x:iF):bf x.c=true:=rfl
theorem iF.pc (x:iF):aF x.v=true:=by simp[iF.v,iF.c,aF,aR,iW,jr,jv,jw,jy,iv,aA.pc]
attribute [go_sem] iF.nr iF.cells iF.len iF.one iF.pc
structure Event where
 Kind:Int
 fC:Int
 Day:Int
 ID:Int
 yH:Int
 Until:Int
 From:Int
 Vec:List Int
 yI:List Attr
 gG:aA
 deriving DecidableEq
def Event.c (x:Event):List V:=[.int .i64 x.Kind,.int .i64 x.fC,.int .i64 x.Day,.int .i64 x.ID,.int .i64 x.yH,.int .i64 x.Until,.int .i64 x.From,lv iv x.Vec,lv Attr.v x.yI,.int .u8 x.gG.b0,.int .u8 x.gG.b1,.int .u8 x.gG.b2,.int .u8 x.gG.b3,.int .u8 x.gG.b4,.int .u8 x.gG.b5,.int .u8 x.gG.b6,.int .u8 x.gG.b7,.int .u8 x.gG.b8,.int .u8 x.gG.b9,.int .u8 x.gG.b10,.int .u8 x.gG.b11,.int .u8 x.gG.b12,.int .u8 x.gG.b13,.int .u8 x.gG.b14,.int .u8 x.gG.b15]
def Event.v (x:Event):V:=.agg x.c
theorem Event.cells (x:Event):((Event.v x).cells)=x.c:=rfl
theorem Event.nr (x:Event):cu x.v=true:=rfl
theorem Event.len (x:Event):x.c.length=25:=rfl
theorem Event.one (x:Event):bf x.c=true:=rfl
theorem Event.pc (x:Event):aF x.v=true:=by simp[Event.v,Event.c,aF,aR,iW,jr,jv,jw,jy,iv,Attr.pc,aA.pc]
attribute [go_sem] Event.nr Event.cells Event.len Event.one Event.pc
structure Snapshot where
 Day:Int
 fC:Int
 deriving DecidableEq
def Snapshot.c (x:Snapshot):List V:=[.int .i64 x.Day,.int .i64 x.fC]
def Snapshot.v (x:Snapshot):V:=.agg x.c
theorem Snapshot.cells (x:Snapshot):((Snapshot.v x).cells)=x.c:=rfl
theorem Snapshot.nr (x:Snapshot):cu x.v=true:=rfl
theorem Snapshot.len (x:Snapshot):x.c.length=2:=rfl
theorem Snapshot.one (x:Snapshot):bf x.c=true:=rfl
theorem Snapshot.pc (x:Snapshot):aF x.v=true:=by simp[Snapshot.v,Snapshot.c,aF,aR,iW,jr,jv,jw,jy,iv]
attribute [go_sem] Snapshot.nr Snapshot.cells Snapshot.len Snapshot.one Snapshot.pc
structure iG where
 B:Book
 N:Int
 E:Int
 deriving DecidableEq
def iG.c (x:iG):List V:=[.int .i64 x.B.ak.wZ,.int .i64 x.B.ak.w9,lv Def.v x.B.ak.Defs,.int .i64 x.B.fC,.int .i64 x.B.Day,lv iv x.B.BP,lv Row.v x.B.Rows,.int .i64 x.N,.int .i64 x.E]
def iG.v (x:iG):V:=.agg x.c
theorem iG.cells (x:iG):((iG.v x).cells)=x.c:=rfl
theorem iG.nr (x:iG):cu x.v=true:=rfl
theorem iG.len (x:iG):x.c.length=9:=rfl
theorem iG.one (x:iG):bf x.c=true:=rfl
theorem iG.pc (x:iG):aF x.v=true:=by simp[iG.v,iG.c,aF,aR,iW,jr,jv,jw,jy,iv,Attr.pc,Book.pc,Def.pc,Entry.pc,Row.pc,ak.pc]
attribute [go_sem] iG.nr iG.cells iG.len iG.one iG.pc
structure iH where
 L:List aA
 E:Int
 deriving DecidableEq
def iH.c (x:iH):List V:=[lv aA.v x.L,.int .i64 x.E]
def iH.v (x:iH):V:=.agg x.c
theorem iH.cells (x:iH):((iH.v x).cells)=x.c:=rfl
theorem iH.nr (x:iH):cu x.v=true:=rfl
theorem iH.len (x:iH):x.c.length=2:=rfl
theorem iH.one (x:iH):bf x.c=true:=rfl
theorem iH.pc (x:iH):aF x.v=true:=by simp[iH.v,iH.c,aF,aR,iW,jr,jv,jw,jy,iv,aA.pc]
attribute [go_sem] iH.nr iH.cells iH.len iH.one iH.pc
structure iI where
 B:Book
 E:Int
 deriving DecidableEq
def iI.c (x:iI):List V:=[.int .i64 x.B.ak.wZ,.int .i64 x.B.ak.w9,lv Def.v x.B.ak.Defs,.int .i64 x.B.fC,.int .i64 x.B.Day,lv iv x.B.BP,lv Row.v x.B.Rows,.int .i64 x.E]
def iI.v (x:iI):V:=.agg x.c
theorem iI.cells (x:iI):((iI.v x).cells)=x.c:=rfl
theorem iI.nr (x:iI):cu x.v=true:=rfl
theorem iI.len (x:iI):x.c.length=8:=rfl
theorem iI.one (x:iI):bf x.c=true:=rfl
theorem iI.pc (x:iI):aF x.v=true:=by simp[iI.v,iI.c,aF,aR,iW,jr,jv,jw,jy,iv,Attr.pc,Book.pc,Def.pc,Entry.pc,Row.pc,ak.pc]
attribute [go_sem] iI.nr iI.cells iI.len iI.one iI.pc
structure iJ where
 K:Key
 E:Int
 deriving DecidableEq
def iJ.c (x:iJ):List V:=[.int .i64 x.K.JI,.int .i64 x.K.iQ,.str x.K.JJ,.int .i64 x.K.From,.int .i64 x.K.To,.int .i64 x.E]
def iJ.v (x:iJ):V:=.agg x.c
theorem iJ.cells (x:iJ):((iJ.v x).cells)=x.c:=rfl
theorem iJ.nr (x:iJ):cu x.v=true:=rfl
theorem iJ.len (x:iJ):x.c.length=6:=rfl
theorem iJ.one (x:iJ):bf x.c=true:=rfl
theorem iJ.pc (x:iJ):aF x.v=true:=by simp[iJ.v,iJ.c,aF,aR,iW,jr,jv,jw,jy,iv,Key.pc]
attribute [go_sem] iJ.nr iJ.cells iJ.len iJ.one iJ.pc
structure iK where
 l:List aA
 short:Bool
 deriving DecidableEq
def iK.c (x:iK):List V:=[lv aA.v x.l,.bool x.short]
def iK.v (x:iK):V:=.agg x.c
theorem iK.cells (x:iK):((iK.v x).cells)=x.c:=rfl
theorem iK.nr (x:iK):cu x.v=true:=rfl
theorem iK.len (x:iK):x.c.length=2:=rfl
theorem iK.one (x:iK):bf x.c=true:=rfl
theorem iK.pc (x:iK):aF x.v=true:=by simp[iK.v,iK.c,aF,aR,iW,jr,jv,jw,jy,iv,aA.pc]
attribute [go_sem] iK.nr iK.cells iK.len iK.one iK.pc
structure gT where
 D:aA
 Ok:Bool
 deriving DecidableEq
def gT.c (x:gT):List V:=[.int .u8 x.D.b0,.int .u8 x.D.b1,.int .u8 x.D.b2,.int .u8 x.D.b3,.int .u8 x.D.b4,.int .u8 x.D.b5,.int .u8 x.D.b6,.int .u8 x.D.b7,.int .u8 x.D.b8,.int .u8 x.D.b9,.int .u8 x.D.b10,.int .u8 x.D.b11,.int .u8 x.D.b12,.int .u8 x.D.b13,.int .u8 x.D.b14,.int .u8 x.D.b15,.bool x.Ok]
def gT.v (x:gT):V:=.agg x.c
theorem gT.cells (x:gT):((gT.v x).cells)=x.c:=rfl
theorem gT.nr (x:gT):cu x.v=true:=rfl
theorem gT.len (x:gT):x.c.length=17:=rfl
theorem gT.one (x:gT):bf x.c=true:=rfl
theorem gT.pc (x:gT):aF x.v=true:=by simp[gT.v,gT.c,aF,aR,iW,jr,jv,jw,jy,iv,aA.pc]
attribute [go_sem] gT.nr gT.cells gT.len gT.one gT.pc
structure iL where
 from_:Int
 to:Int
 deriving DecidableEq
def iL.c (x:iL):List V:=[.int .i64 x.from_,.int .i64 x.to]
def iL.v (x:iL):V:=.agg x.c
theorem iL.cells (x:iL):((iL.v x).cells)=x.c:=rfl
theorem iL.nr (x:iL):cu x.v=true:=rfl
theorem iL.len (x:iL):x.c.length=2:=rfl
theorem iL.one (x:iL):bf x.c=true:=rfl
theorem iL.pc (x:iL):aF x.v=true:=by simp[iL.v,iL.c,aF,aR,iW,jr,jv,jw,jy,iv]
attribute [go_sem] iL.nr iL.cells iL.len iL.one iL.pc
@[go_sem] theorem alm:mK Tryz.prog 24=true:=by kernel_rfl
@[go_sem] theorem PS:Tryz.prog.underlying 24=some (.slice 112):=by kernel_rfl
@[go_sem] theorem aln:mo Tryz.prog 27 4=some (4,23):=by kernel_rfl
@[go_sem] theorem alo:mo Tryz.prog 27 5=some (20,23):=by kernel_rfl
@[go_sem] theorem alp:mo Tryz.prog 27 6=some (36,24):=by kernel_rfl
@[go_sem] theorem alq:mo Tryz.prog 27 7=some (37,23):=by kernel_rfl
@[go_sem] theorem alr:mo Tryz.prog 27 9=some (54,23):=by kernel_rfl
@[go_sem] theorem als:mK Tryz.prog 61=true:=by kernel_rfl
@[go_sem] theorem alu:mK Tryz.prog 65=true:=by kernel_rfl
@[go_sem] theorem alv:mK Tryz.prog 94=true:=by kernel_rfl
@[go_sem] theorem agp:Tryz.prog.underlying 94=some (.slice 5):=by kernel_rfl
@[go_sem] theorem alx:mo Tryz.prog 112 0=some (0,23):=by kernel_rfl
@[go_sem] theorem aly:mo Tryz.prog 112 1=some (16,23):=by kernel_rfl
@[go_sem] theorem alz:mK Tryz.prog 116=true:=by kernel_rfl
@[go_sem] theorem aA.Xf:∀x:aA,dI Tryz.prog 23 x.c 0=some (aA.v x):=fun x=>by kernel_rfl
@[go_sem] theorem Mark.alA:∀x:Mark,dI Tryz.prog 112 x.c 0=some (Mark.v x):=fun x=>by kernel_rfl
@[go_sem] theorem Mark.Xf:∀x:Mark,dI Tryz.prog 23 x.c 0=some (aA.v x.bA):=fun x=>by kernel_rfl
@[go_sem] theorem Mark.alB:∀x:Mark,dI Tryz.prog 23 x.c 16=some (aA.v x.bn):=fun x=>by kernel_rfl
@[go_sem] theorem Root.agq:∀x:Root,dI Tryz.prog 23 x.c 4=some (aA.v x.au):=fun x=>by kernel_rfl
@[go_sem] theorem Root.agr:∀x:Root,dI Tryz.prog 23 x.c 20=some (aA.v x.ak):=fun x=>by kernel_rfl
@[go_sem] theorem Root.ags:∀x:Root,dI Tryz.prog 24 x.c 36=some (lv Mark.v x.Marks):=fun x=>by kernel_rfl
@[go_sem] theorem Root.agt:∀x:Root,dI Tryz.prog 23 x.c 37=some (aA.v x.Gone):=fun x=>by kernel_rfl
@[go_sem] theorem Root.agu:∀x:Root,dI Tryz.prog 23 x.c 54=some (aA.v x.ay):=fun x=>by kernel_rfl
@[go_sem] theorem dR.agq:∀x:dR,dI Tryz.prog 23 x.c 4=some (aA.v x.R.au):=fun x=>by kernel_rfl
@[go_sem] theorem dR.agr:∀x:dR,dI Tryz.prog 23 x.c 20=some (aA.v x.R.ak):=fun x=>by kernel_rfl
@[go_sem] theorem dR.ags:∀x:dR,dI Tryz.prog 24 x.c 36=some (lv Mark.v x.R.Marks):=fun x=>by kernel_rfl
@[go_sem] theorem dR.agt:∀x:dR,dI Tryz.prog 23 x.c 37=some (aA.v x.R.Gone):=fun x=>by kernel_rfl
@[go_sem] theorem dR.agu:∀x:dR,dI Tryz.prog 23 x.c 54=some (aA.v x.R.ay):=fun x=>by kernel_rfl
@[go_sem] theorem gT.Xf:∀x:gT,dI Tryz.prog 23 x.c 0=some (aA.v x.D):=fun x=>by kernel_rfl
end Sh
