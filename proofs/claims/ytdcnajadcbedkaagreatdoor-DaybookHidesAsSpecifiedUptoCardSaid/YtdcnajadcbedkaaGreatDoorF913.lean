import Derived.KernelRfl
import Derived.Test.YtdcnajadcbedkaaGreatDoorF905
import Derived.Test.YtdcnajadcbedkaaGreatDoorProg
set_option linter.all false
open Go Go.Proofs aR
namespace Sh
set_option maxRecDepth 100000
structure au where
 b0:Int
 b1:Int
 b2:Int
 b3:Int
 b4:Int
 b5:Int
 b6:Int
 b7:Int
 b8:Int
 b9:Int
 b10:Int
 b11:Int
 b12:Int
 b13:Int
 b14:Int
 b15:Int
 deriving DecidableEq
def au.c (x:au):List V:=[.int .u8 x.b0,.int .u8 x.b1,.int .u8 x.b2,.int .u8 x.b3,.int .u8 x.b4,.int .u8 x.b5,.int .u8 x.b6,.int .u8 x.b7,.int .u8 x.b8,.int .u8 x.b9,.int .u8 x.b10,.int .u8 x.b11,.int .u8 x.b12,.int .u8 x.b13,.int .u8 x.b14,.int .u8 x.b15]
def au.v (x:au):V:=.agg x.c
theorem au.cells (x:au):((au.v x).cells)=x.c:=rfl
theorem au.nr (x:au):fI x.v=true:=rfl
theorem au.len (x:au):x.c.length=16:=rfl
theorem au.one (x:au):dA x.c=true:=rfl
theorem au.pc (x:au):aQ x.v=true:=by simp[au.v,au.c,aQ,cu,lU,nH,nI,nJ,nK,iv]
attribute [go_sem] au.nr au.cells au.len au.one au.pc
structure Seal where
 b0:Int
 b1:Int
 b2:Int
 b3:Int
 b4:Int
 b5:Int
 b6:Int
 b7:Int
 b8:Int
 b9:Int
 b10:Int
 b11:Int
 b12:Int
 b13:Int
 b14:Int
 b15:Int
 deriving DecidableEq
def Seal.c (x:Seal):List V:=[.int .u8 x.b0,.int .u8 x.b1,.int .u8 x.b2,.int .u8 x.b3,.int .u8 x.b4,.int .u8 x.b5,.int .u8 x.b6,.int .u8 x.b7,.int .u8 x.b8,.int .u8 x.b9,.int .u8 x.b10,.int .u8 x.b11,.int .u8 x.b12,.int .u8 x.b13,.int .u8 x.b14,.int .u8 x.b15]
def Seal.v (x:Seal):V:=.agg x.c
theorem Seal.cells (x:Seal):((Seal.v x).cells)=x.c:=rfl
theorem Seal.nr (x:Seal):fI x.v=true:=rfl
theorem Seal.len (x:Seal):x.c.length=16:=rfl
theorem Seal.one (x:Seal):dA x.c=true:=rfl
theorem Seal.pc (x:Seal):aQ x.v=true:=by simp[Seal.v,Seal.c,aQ,cu,lU,nH,nI,nJ,nK,iv]
attribute [go_sem] Seal.nr Seal.cells Seal.len Seal.one Seal.pc
structure Mark where
 jS:au
 j3:au
 Count:Int
 deriving DecidableEq
def Mark.c (x:Mark):List V:=[.int .u8 x.jS.b0,.int .u8 x.jS.b1,.int .u8 x.jS.b2,.int .u8 x.jS.b3,.int .u8 x.jS.b4,.int .u8 x.jS.b5,.int .u8 x.jS.b6,.int .u8 x.jS.b7,.int .u8 x.jS.b8,.int .u8 x.jS.b9,.int .u8 x.jS.b10,.int .u8 x.jS.b11,.int .u8 x.jS.b12,.int .u8 x.jS.b13,.int .u8 x.jS.b14,.int .u8 x.jS.b15,.int .u8 x.j3.b0,.int .u8 x.j3.b1,.int .u8 x.j3.b2,.int .u8 x.j3.b3,.int .u8 x.j3.b4,.int .u8 x.j3.b5,.int .u8 x.j3.b6,.int .u8 x.j3.b7,.int .u8 x.j3.b8,.int .u8 x.j3.b9,.int .u8 x.j3.b10,.int .u8 x.j3.b11,.int .u8 x.j3.b12,.int .u8 x.j3.b13,.int .u8 x.j3.b14,.int .u8 x.j3.b15,.int .i64 x.Count]
def Mark.v (x:Mark):V:=.agg x.c
theorem Mark.cells (x:Mark):((Mark.v x).cells)=x.c:=rfl
theorem Mark.nr (x:Mark):fI x.v=true:=rfl
theorem Mark.len (x:Mark):x.c.length=33:=rfl
theorem Mark.one (x:Mark):dA x.c=true:=rfl
theorem Mark.pc (x:Mark):aQ x.v=true:=by simp[Mark.v,Mark.c,aQ,cu,lU,nH,nI,nJ,nK,iv,au.pc]
attribute [go_sem] Mark.nr Mark.cells Mark.len Mark.one Mark.pc
structure Root where
 TN:Int
 bS:Int
 Day:Int
 Floor:Int
 fq:au
 aM:au
 Marks:List Mark
 Gone:au
 TP:Int
 eO:au
 FY:Int
 Bo:Int
 Seal:Seal
 deriving DecidableEq
def Root.c (x:Root):List V:=[.int .i64 x.TN,.int .i64 x.bS,.int .i64 x.Day,.int .i64 x.Floor,.int .u8 x.fq.b0,.int .u8 x.fq.b1,.int .u8 x.fq.b2,.int .u8 x.fq.b3,.int .u8 x.fq.b4,.int .u8 x.fq.b5,.int .u8 x.fq.b6,.int .u8 x.fq.b7,.int .u8 x.fq.b8,.int .u8 x.fq.b9,.int .u8 x.fq.b10,.int .u8 x.fq.b11,.int .u8 x.fq.b12,.int .u8 x.fq.b13,.int .u8 x.fq.b14,.int .u8 x.fq.b15,.int .u8 x.aM.b0,.int .u8 x.aM.b1,.int .u8 x.aM.b2,.int .u8 x.aM.b3,.int .u8 x.aM.b4,.int .u8 x.aM.b5,.int .u8 x.aM.b6,.int .u8 x.aM.b7,.int .u8 x.aM.b8,.int .u8 x.aM.b9,.int .u8 x.aM.b10,.int .u8 x.aM.b11,.int .u8 x.aM.b12,.int .u8 x.aM.b13,.int .u8 x.aM.b14,.int .u8 x.aM.b15,lv Mark.v x.Marks,.int .u8 x.Gone.b0,.int .u8 x.Gone.b1,.int .u8 x.Gone.b2,.int .u8 x.Gone.b3,.int .u8 x.Gone.b4,.int .u8 x.Gone.b5,.int .u8 x.Gone.b6,.int .u8 x.Gone.b7,.int .u8 x.Gone.b8,.int .u8 x.Gone.b9,.int .u8 x.Gone.b10,.int .u8 x.Gone.b11,.int .u8 x.Gone.b12,.int .u8 x.Gone.b13,.int .u8 x.Gone.b14,.int .u8 x.Gone.b15,.int .i64 x.TP,.int .u8 x.eO.b0,.int .u8 x.eO.b1,.int .u8 x.eO.b2,.int .u8 x.eO.b3,.int .u8 x.eO.b4,.int .u8 x.eO.b5,.int .u8 x.eO.b6,.int .u8 x.eO.b7,.int .u8 x.eO.b8,.int .u8 x.eO.b9,.int .u8 x.eO.b10,.int .u8 x.eO.b11,.int .u8 x.eO.b12,.int .u8 x.eO.b13,.int .u8 x.eO.b14,.int .u8 x.eO.b15,.int .i64 x.FY,.int .i64 x.Bo,.int .u8 x.Seal.b0,.int .u8 x.Seal.b1,.int .u8 x.Seal.b2,.int .u8 x.Seal.b3,.int .u8 x.Seal.b4,.int .u8 x.Seal.b5,.int .u8 x.Seal.b6,.int .u8 x.Seal.b7,.int .u8 x.Seal.b8,.int .u8 x.Seal.b9,.int .u8 x.Seal.b10,.int .u8 x.Seal.b11,.int .u8 x.Seal.b12,.int .u8 x.Seal.b13,.int .u8 x.Seal.b14,.int .u8 x.Seal.b15]
def Root.v (x:Root):V:=.agg x.c
theorem Root.cells (x:Root):((Root.v x).cells)=x.c:=rfl
theorem Root.nr (x:Root):fI x.v=true:=rfl
theorem Root.len (x:Root):x.c.length=88:=rfl
theorem Root.one (x:Root):dA x.c=true:=rfl
theorem Root.pc (x:Root):aQ x.v=true:=by simp[Root.v,Root.c,aQ,cu,lU,nH,nI,nJ,nK,iv,au.pc,Mark.pc,Seal.pc]
attribute [go_sem] Root.nr Root.cells Root.len Root.one Root.pc
structure Key where
 TQ:Int
 Bo:Int
 TR:List UInt8
 From:Int
 To:Int
 deriving DecidableEq
def Key.c (x:Key):List V:=[.int .i64 x.TQ,.int .i64 x.Bo,.str x.TR,.int .i64 x.From,.int .i64 x.To]
def Key.v (x:Key):V:=.agg x.c
theorem Key.cells (x:Key):((Key.v x).cells)=x.c:=rfl
theorem Key.nr (x:Key):fI x.v=true:=rfl
theorem Key.len (x:Key):x.c.length=5:=rfl
theorem Key.one (x:Key):dA x.c=true:=rfl
theorem Key.pc (x:Key):aQ x.v=true:=by simp[Key.v,Key.c,aQ,cu,lU,nH,nI,nJ,nK,iv]
attribute [go_sem] Key.nr Key.cells Key.len Key.one Key.pc
structure kT where
 R:Root
 E:Int
 deriving DecidableEq
def kT.c (x:kT):List V:=[.int .i64 x.R.TN,.int .i64 x.R.bS,.int .i64 x.R.Day,.int .i64 x.R.Floor,.int .u8 x.R.fq.b0,.int .u8 x.R.fq.b1,.int .u8 x.R.fq.b2,.int .u8 x.R.fq.b3,.int .u8 x.R.fq.b4,.int .u8 x.R.fq.b5,.int .u8 x.R.fq.b6,.int .u8 x.R.fq.b7,.int .u8 x.R.fq.b8,.int .u8 x.R.fq.b9,.int .u8 x.R.fq.b10,.int .u8 x.R.fq.b11,.int .u8 x.R.fq.b12,.int .u8 x.R.fq.b13,.int .u8 x.R.fq.b14,.int .u8 x.R.fq.b15,.int .u8 x.R.aM.b0,.int .u8 x.R.aM.b1,.int .u8 x.R.aM.b2,.int .u8 x.R.aM.b3,.int .u8 x.R.aM.b4,.int .u8 x.R.aM.b5,.int .u8 x.R.aM.b6,.int .u8 x.R.aM.b7,.int .u8 x.R.aM.b8,.int .u8 x.R.aM.b9,.int .u8 x.R.aM.b10,.int .u8 x.R.aM.b11,.int .u8 x.R.aM.b12,.int .u8 x.R.aM.b13,.int .u8 x.R.aM.b14,.int .u8 x.R.aM.b15,lv Mark.v x.R.Marks,.int .u8 x.R.Gone.b0,.int .u8 x.R.Gone.b1,.int .u8 x.R.Gone.b2,.int .u8 x.R.Gone.b3,.int .u8 x.R.Gone.b4,.int .u8 x.R.Gone.b5,.int .u8 x.R.Gone.b6,.int .u8 x.R.Gone.b7,.int .u8 x.R.Gone.b8,.int .u8 x.R.Gone.b9,.int .u8 x.R.Gone.b10,.int .u8 x.R.Gone.b11,.int .u8 x.R.Gone.b12,.int .u8 x.R.Gone.b13,.int .u8 x.R.Gone.b14,.int .u8 x.R.Gone.b15,.int .i64 x.R.TP,.int .u8 x.R.eO.b0,.int .u8 x.R.eO.b1,.int .u8 x.R.eO.b2,.int .u8 x.R.eO.b3,.int .u8 x.R.eO.b4,.int .u8 x.R.eO.b5,.int .u8 x.R.eO.b6,.int .u8 x.R.eO.b7,.int .u8 x.R.eO.b8,.int .u8 x.R.eO.b9,.int .u8 x.R.eO.b10,.int .u8 x.R.eO.b11,.int .u8 x.R.eO.b12,.int .u8 x.R.eO.b13,.int .u8 x.R.eO.b14,.int .u8 x.R.eO.b15,.int .i64 x.R.FY,.int .i64 x.R.Bo,.int .u8 x.R.Seal.b0,.int .u8 x.R.Seal.b1,.int .u8 x.R.Seal.b2,.int .u8 x.R.Seal.b3,.int .u8 x.R.Seal.b4,.int .u8 x.R.Seal.b5,.int .u8 x.R.Seal.b6,.int .u8 x.R.Seal.b7,.int .u8 x.R.Seal.b8,.int .u8 x.R.Seal.b9,.int .u8 x.R.Seal.b10,.int .u8 x.R.Seal.b11,.int .u8 x.R.Seal.b12,.int .u8 x.R.Seal.b13,.int .u8 x.R.Seal.b14,.int .u8 x.R.Seal.b15,.int .i64 x.E]
def kT.v (x:kT):V:=.agg x.c
theorem kT.cells (x:kT):((kT.v x).cells)=x.c:=rfl
theorem kT.nr (x:kT):fI x.v=true:=rfl
theorem kT.len (x:kT):x.c.length=89:=rfl
theorem kT.one (x:kT):dA x.c=true:=rfl
theorem kT.pc (x:kT):aQ x.v=true:=by simp[kT.v,kT.c,aQ,cu,lU,nH,nI,nJ,nK,iv,au.pc,Mark.pc,Root.pc,Seal.pc]
attribute [go_sem] kT.nr kT.cells kT.len kT.one kT.pc
structure kU where
 ak3:List Root
 deriving DecidableEq
def kU.c (x:kU):List V:=[lv Root.v x.ak3]
def kU.v (x:kU):V:=.agg x.c
theorem kU.cells (x:kU):((kU.v x).cells)=x.c:=rfl
theorem kU.nr (x:kU):fI x.v=true:=rfl
theorem kU.len (x:kU):x.c.length=1:=rfl
theorem kU.one (x:kU):dA x.c=true:=rfl
theorem kU.pc (x:kU):aQ x.v=true:=by simp[kU.v,kU.c,aQ,cu,lU,nH,nI,nJ,nK,iv,au.pc,Mark.pc,Root.pc,Seal.pc]
attribute [go_sem] kU.nr kU.cells kU.len kU.one kU.pc
structure Def where
 Name:List UInt8
 Kind:Int
 Lo:Int
 Hi:Int
 Words:List (List UInt8)
 deriving DecidableEq
def Def.c (x:Def):List V:=[.str x.Name,.int .i64 x.Kind,.int .i64 x.Lo,.int .i64 x.Hi,lv V.str x.Words]
def Def.v (x:Def):V:=.agg x.c
theorem Def.cells (x:Def):((Def.v x).cells)=x.c:=rfl
theorem Def.nr (x:Def):fI x.v=true:=rfl
theorem Def.len (x:Def):x.c.length=5:=rfl
theorem Def.one (x:Def):dA x.c=true:=rfl
theorem Def.pc (x:Def):aQ x.v=true:=by simp[Def.v,Def.c,aQ,cu,lU,nH,nI,nJ,nK,iv]
attribute [go_sem] Def.nr Def.cells Def.len Def.one Def.pc
structure aM where
 j4:Int
 lY:Int
 Defs:List Def
 deriving DecidableEq
def aM.c (x:aM):List V:=[.int .i64 x.j4,.int .i64 x.lY,lv Def.v x.Defs]
def aM.v (x:aM):V:=.agg x.c
theorem aM.cells (x:aM):((aM.v x).cells)=x.c:=rfl
theorem aM.nr (x:aM):fI x.v=true:=rfl
theorem aM.len (x:aM):x.c.length=3:=rfl
theorem aM.one (x:aM):dA x.c=true:=rfl
theorem aM.pc (x:aM):aQ x.v=true:=by simp[aM.v,aM.c,aQ,cu,lU,nH,nI,nJ,nK,iv,Def.pc]
attribute [go_sem] aM.nr aM.cells aM.len aM.one aM.pc
structure Attr where
 Name:List UInt8
 Kind:Int
 N:Int
 S:List UInt8
 deriving DecidableEq
def Attr.c (x:Attr):List V:=[.str x.Name,.int .i64 x.Kind,.int .i64 x.N,.str x.S]
def Attr.v (x:Attr):V:=.agg x.c
theorem Attr.cells (x:Attr):((Attr.v x).cells)=x.c:=rfl
theorem Attr.nr (x:Attr):fI x.v=true:=rfl
theorem Attr.len (x:Attr):x.c.length=4:=rfl
theorem Attr.one (x:Attr):dA x.c=true:=rfl
theorem Attr.pc (x:Attr):aQ x.v=true:=by simp[Attr.v,Attr.c,aQ,cu,lU,nH,nI,nJ,nK,iv]
attribute [go_sem] Attr.nr Attr.cells Attr.len Attr.one Attr.pc
structure Entry where
 ID:Int
 jv:Int
 gD:Int
 iX:Int
 From:Int
 To:Int
 j5:Int
 Vec:List Int
 aW:List Attr
 deriving DecidableEq
def Entry.c (x:Entry):List V:=[.int .i64 x.ID,.int .i64 x.jv,.int .i64 x.gD,.int .i64 x.iX,.int .i64 x.From,.int .i64 x.To,.int .i64 x.j5,lv iv x.Vec,lv Attr.v x.aW]
def Entry.v (x:Entry):V:=.agg x.c
theorem Entry.cells (x:Entry):((Entry.v x).cells)=x.c:=rfl
theorem Entry.nr (x:Entry):fI x.v=true:=rfl
theorem Entry.len (x:Entry):x.c.length=9:=rfl
theorem Entry.one (x:Entry):dA x.c=true:=rfl
theorem Entry.pc (x:Entry):aQ x.v=true:=by simp[Entry.v,Entry.c,aQ,cu,lU,nH,nI,nJ,nK,iv,Attr.pc]
attribute [go_sem] Entry.nr Entry.cells Entry.len Entry.one Entry.pc
structure Row where
 Entry:Entry
 gu:Int
 deriving DecidableEq
def Row.c (x:Row):List V:=[.int .i64 x.Entry.ID,.int .i64 x.Entry.jv,.int .i64 x.Entry.gD,.int .i64 x.Entry.iX,.int .i64 x.Entry.From,.int .i64 x.Entry.To,.int .i64 x.Entry.j5,lv iv x.Entry.Vec,lv Attr.v x.Entry.aW,.int .i64 x.gu]
def Row.v (x:Row):V:=.agg x.c
theorem Row.cells (x:Row):((Row.v x).cells)=x.c:=rfl
theorem Row.nr (x:Row):fI x.v=true:=rfl
theorem Row.len (x:Row):x.c.length=10:=rfl
theorem Row.one (x:Row):dA x.c=true:=rfl
theorem Row.pc (x:Row):aQ x.v=true:=by simp[Row.v,Row.c,aQ,cu,lU,nH,nI,nJ,nK,iv,Attr.pc,Entry.pc]
attribute [go_sem] Row.nr Row.cells Row.len Row.one Row.pc
structure Book where
 aM:aM
 bS:Int
 Day:Int
 gy:List Int
 Rows:List Row
 deriving DecidableEq
def Book.c (x:Book):List V:=[.int .i64 x.aM.j4,.int .i64 x.aM.lY,lv Def.v x.aM.Defs,.int .i64 x.bS,.int .i64 x.Day,lv iv x.gy,lv Row.v x.Rows]
def Book.v (x:Book):V:=.agg x.c
theorem Book.cells (x:Book):((Book.v x).cells)=x.c:=rfl
theorem Book.nr (x:Book):fI x.v=true:=rfl
theorem Book.len (x:Book):x.c.length=7:=rfl
theorem Book.one (x:Book):dA x.c=true:=rfl
theorem Book.pc (x:Book):aQ x.v=true:=by simp[Book.v,Book.c,aQ,cu,lU,nH,nI,nJ,nK,iv,Attr.pc,Def.pc,Entry.pc,Row.pc,aM.pc]
attribute [go_sem] Book.nr Book.cells Book.len Book.one Book.pc
structure iA where
 At:Int
 Path:List au
 E:Int
 deriving DecidableEq
def iA.c (x:iA):List V:=[.int .i64 x.At,lv au.v x.Path,.int .i64 x.E]
def iA.v (x:iA):V:=.agg x.c
theorem iA.cells (x:iA):((iA.v x).cells)=x.c:=rfl
theorem iA.nr (x:iA):fI x.v=true:=rfl
theorem iA.len (x:iA):x.c.length=3:=rfl
theorem iA.one (x:iA):dA x.c=true:=rfl
theorem iA.pc (x:iA):aQ x.v=true:=by simp[iA.v,iA.c,aQ,cu,lU,nH,nI,nJ,nK,iv,au.pc]
attribute [go_sem] iA.nr iA.cells iA.len iA.one iA.pc
structure Event where
 Kind:Int
 bS:Int
 Day:Int
 ID:Int
 gD:Int
 Until:Int
 From:Int
 Vec:List Int
 aW:List Attr
 bL:au
 deriving DecidableEq
def Event.c (x:Event):List V:=[.int .i64 x.Kind,.int .i64 x.bS,.int .i64 x.Day,.int .i64 x.ID,.int .i64 x.gD,.int .i64 x.Until,.int .i64 x.From,lv iv x.Vec,lv Attr.v x.aW,.int .u8 x.bL.b0,.int .u8 x.bL.b1,.int .u8 x.bL.b2,.int .u8 x.bL.b3,.int .u8 x.bL.b4,.int .u8 x.bL.b5,.int .u8 x.bL.b6,.int .u8 x.bL.b7,.int .u8 x.bL.b8,.int .u8 x.bL.b9,.int .u8 x.bL.b10,.int .u8 x.bL.b11,.int .u8 x.bL.b12,.int .u8 x.bL.b13,.int .u8 x.bL.b14,.int .u8 x.bL.b15]
def Event.v (x:Event):V:=.agg x.c
theorem Event.cells (x:Event):((Event.v x).cells)=x.c:=rfl
theorem Event.nr (x:Event):fI x.v=true:=rfl
theorem Event.len (x:Event):x.c.length=25:=rfl
theorem Event.one (x:Event):dA x.c=true:=rfl
theorem Event.pc (x:Event):aQ x.v=true:=by simp[Event.v,Event.c,aQ,cu,lU,nH,nI,nJ,nK,iv,Attr.pc,au.pc]
attribute [go_sem] Event.nr Event.cells Event.len Event.one Event.pc
structure Snapshot where
 Day:Int
 bS:Int
 deriving DecidableEq
def Snapshot.c (x:Snapshot):List V:=[.int .i64 x.Day,.int .i64 x.bS]
def Snapshot.v (x:Snapshot):V:=.agg x.c
theorem Snapshot.cells (x:Snapshot):((Snapshot.v x).cells)=x.c:=rfl
theorem Snapshot.nr (x:Snapshot):fI x.v=true:=rfl
theorem Snapshot.len (x:Snapshot):x.c.length=2:=rfl
theorem Snapshot.one (x:Snapshot):dA x.c=true:=rfl
theorem Snapshot.pc (x:Snapshot):aQ x.v=true:=by simp[Snapshot.v,Snapshot.c,aQ,cu,lU,nH,nI,nJ,nK,iv]
attribute [go_sem] Snapshot.nr Snapshot.cells Snapshot.len Snapshot.one Snapshot.pc
structure gU where
 B:Book
 N:Int
 E:Int
 deriving DecidableEq
def gU.c (x:gU):List V:=[.int .i64 x.B.aM.j4,.int .i64 x.B.aM.lY,lv Def.v x.B.aM.Defs,.int .i64 x.B.bS,.int .i64 x.B.Day,lv iv x.B.gy,lv Row.v x.B.Rows,.int .i64 x.N,.int .i64 x.E]
def gU.v (x:gU):V:=.agg x.c
theorem gU.cells (x:gU):((gU.v x).cells)=x.c:=rfl
theorem gU.nr (x:gU):fI x.v=true:=rfl
theorem gU.len (x:gU):x.c.length=9:=rfl
theorem gU.one (x:gU):dA x.c=true:=rfl
theorem gU.pc (x:gU):aQ x.v=true:=by simp[gU.v,gU.c,aQ,cu,lU,nH,nI,nJ,nK,iv,Attr.pc,Book.pc,Def.pc,Entry.pc,Row.pc,aM.pc]
attribute [go_sem] gU.nr gU.cells gU.len gU.one gU.pc
structure jT where
 L:List au
 E:Int
 deriving DecidableEq
def jT.c (x:jT):List V:=[lv au.v x.L,.int .i64 x.E]
def jT.v (x:jT):V:=.agg x.c
theorem jT.cells (x:jT):((jT.v x).cells)=x.c:=rfl
theorem jT.nr (x:jT):fI x.v=true:=rfl
theorem jT.len (x:jT):x.c.length=2:=rfl
theorem jT.one (x:jT):dA x.c=true:=rfl
theorem jT.pc (x:jT):aQ x.v=true:=by simp[jT.v,jT.c,aQ,cu,lU,nH,nI,nJ,nK,iv,au.pc]
attribute [go_sem] jT.nr jT.cells jT.len jT.one jT.pc
structure cO where
 B:Book
 E:Int
 deriving DecidableEq
def cO.c (x:cO):List V:=[.int .i64 x.B.aM.j4,.int .i64 x.B.aM.lY,lv Def.v x.B.aM.Defs,.int .i64 x.B.bS,.int .i64 x.B.Day,lv iv x.B.gy,lv Row.v x.B.Rows,.int .i64 x.E]
def cO.v (x:cO):V:=.agg x.c
theorem cO.cells (x:cO):((cO.v x).cells)=x.c:=rfl
theorem cO.nr (x:cO):fI x.v=true:=rfl
theorem cO.len (x:cO):x.c.length=8:=rfl
theorem cO.one (x:cO):dA x.c=true:=rfl
theorem cO.pc (x:cO):aQ x.v=true:=by simp[cO.v,cO.c,aQ,cu,lU,nH,nI,nJ,nK,iv,Attr.pc,Book.pc,Def.pc,Entry.pc,Row.pc,aM.pc]
attribute [go_sem] cO.nr cO.cells cO.len cO.one cO.pc
structure kV where
 K:Key
 E:Int
 deriving DecidableEq
def kV.c (x:kV):List V:=[.int .i64 x.K.TQ,.int .i64 x.K.Bo,.str x.K.TR,.int .i64 x.K.From,.int .i64 x.K.To,.int .i64 x.E]
def kV.v (x:kV):V:=.agg x.c
theorem kV.cells (x:kV):((kV.v x).cells)=x.c:=rfl
theorem kV.nr (x:kV):fI x.v=true:=rfl
theorem kV.len (x:kV):x.c.length=6:=rfl
theorem kV.one (x:kV):dA x.c=true:=rfl
theorem kV.pc (x:kV):aQ x.v=true:=by simp[kV.v,kV.c,aQ,cu,lU,nH,nI,nJ,nK,iv,Key.pc]
attribute [go_sem] kV.nr kV.cells kV.len kV.one kV.pc
structure kW where
 l:List au
 short:Bool
 deriving DecidableEq
def kW.c (x:kW):List V:=[lv au.v x.l,.bool x.short]
def kW.v (x:kW):V:=.agg x.c
theorem kW.cells (x:kW):((kW.v x).cells)=x.c:=rfl
theorem kW.nr (x:kW):fI x.v=true:=rfl
theorem kW.len (x:kW):x.c.length=2:=rfl
theorem kW.one (x:kW):dA x.c=true:=rfl
theorem kW.pc (x:kW):aQ x.v=true:=by simp[kW.v,kW.c,aQ,cu,lU,nH,nI,nJ,nK,iv,au.pc]
attribute [go_sem] kW.nr kW.cells kW.len kW.one kW.pc
structure iY where
 D:au
 Ok:Bool
 deriving DecidableEq
def iY.c (x:iY):List V:=[.int .u8 x.D.b0,.int .u8 x.D.b1,.int .u8 x.D.b2,.int .u8 x.D.b3,.int .u8 x.D.b4,.int .u8 x.D.b5,.int .u8 x.D.b6,.int .u8 x.D.b7,.int .u8 x.D.b8,.int .u8 x.D.b9,.int .u8 x.D.b10,.int .u8 x.D.b11,.int .u8 x.D.b12,.int .u8 x.D.b13,.int .u8 x.D.b14,.int .u8 x.D.b15,.bool x.Ok]
def iY.v (x:iY):V:=.agg x.c
theorem iY.cells (x:iY):((iY.v x).cells)=x.c:=rfl
theorem iY.nr (x:iY):fI x.v=true:=rfl
theorem iY.len (x:iY):x.c.length=17:=rfl
theorem iY.one (x:iY):dA x.c=true:=rfl
theorem iY.pc (x:iY):aQ x.v=true:=by simp[iY.v,iY.c,aQ,cu,lU,nH,nI,nJ,nK,iv,au.pc]
attribute [go_sem] iY.nr iY.cells iY.len iY.one iY.pc
structure dX where
 from_:Int
 to:Int
 deriving DecidableEq
def dX.c (x:dX):List V:=[.int .i64 x.from_,.int .i64 x.to]
def dX.v (x:dX):V:=.agg x.c
theorem dX.cells (x:dX):((dX.v x).cells)=x.c:=rfl
theorem dX.nr (x:dX):fI x.v=true:=rfl
theorem dX.len (x:dX):x.c.length=2:=rfl
theorem dX.one (x:dX):dA x.c=true:=rfl
theorem dX.pc (x:dX):aQ x.v=true:=by simp[dX.v,dX.c,aQ,cu,lU,nH,nI,nJ,nK,iv]
attribute [go_sem] dX.nr dX.cells dX.len dX.one dX.pc
@[go_sem] theorem aGX:dO Tryz.prog 4=some 1:=av
@[go_sem] theorem aGY:dO Tryz.prog 23=some 16:=av
@[go_sem] theorem ak4:Tryz.prog.underlying 24=some (.slice 112):=av
@[go_sem] theorem aGZ:wV Tryz.prog 61=true:=av
@[go_sem] theorem aG0:dO Tryz.prog 65=some 1:=av
@[go_sem] theorem aG1:jX Tryz.prog 65=some false:=av
@[go_sem] theorem aG2:wV Tryz.prog 65=true:=av
@[go_sem] theorem aG3:wV Tryz.prog 94=true:=av
@[go_sem] theorem aG4:wV Tryz.prog 116=true:=av
@[go_sem] theorem aG5:x9 Tryz.prog 202 0=some (0,65):=av
@[go_sem] theorem aG6:x9 Tryz.prog 202 1=some (1,4):=av
@[go_sem] theorem au.ak5:∀x:au,gT Tryz.prog 23 x.c 0=some (au.v x):=fun x=>av
@[go_sem] theorem Mark.ak5:∀x:Mark,gT Tryz.prog 23 x.c 0=some (au.v x.jS):=fun x=>av
@[go_sem] theorem iY.ak5:∀x:iY,gT Tryz.prog 23 x.c 0=some (au.v x.D):=fun x=>av
end Sh
