/- Part of the proof of a law. -/
import Derived.KernelRfl
import Derived.Test.YtdcnajadcbedkaaGreatDoorProg
import Derived.Test.YtdcnajadcbedkaaGreatDoorS706
set_option linter.all false
set_option linter.unusedSimpArgs false
set_option linter.unusedSectionVars false
open Go Go.Proofs Aq
namespace Sh
set_option maxRecDepth 100000
structure aJ where
 b0:Int
 b1:Int
 b2:Int
 b3:Int
 b4:Int
 b5:Int
 b6:Int
 b7:Int
 b8:Int
 b9:Int
 b10:Int
 b11:Int
 b12:Int
 b13:Int
 b14:Int
 b15:Int
 deriving DecidableEq
def aJ.c (x:aJ):List V:=[.int .u8 x.b0,.int .u8 x.b1,.int .u8 x.b2,.int .u8 x.b3,.int .u8 x.b4,.int .u8 x.b5,.int .u8 x.b6,.int .u8 x.b7,.int .u8 x.b8,.int .u8 x.b9,.int .u8 x.b10,.int .u8 x.b11,.int .u8 x.b12,.int .u8 x.b13,.int .u8 x.b14,.int .u8 x.b15]
def aJ.v (x:aJ):V:=.agg x.c
theorem aJ.cells (x:aJ):((aJ.v x).cells)=x.c:=rfl
theorem aJ.nr (x:aJ):bV x.v=true:=rfl
theorem aJ.len (x:aJ):x.c.length=16:=rfl
theorem aJ.one (x:aJ):aW x.c=true:=rfl
theorem aJ.pc (x:aJ):aD x.v=true:=by simp[aJ.v,aJ.c,aD,aP,iI,je,jf,jg,jh,iv]
attribute [go_sem] aJ.nr aJ.cells aJ.len aJ.one aJ.pc
structure Seal where
 b0:Int
 b1:Int
 b2:Int
 b3:Int
 b4:Int
 b5:Int
 b6:Int
 b7:Int
 b8:Int
 b9:Int
 b10:Int
 b11:Int
 b12:Int
 b13:Int
 b14:Int
 b15:Int
 deriving DecidableEq
def Seal.c (x:Seal):List V:=[.int .u8 x.b0,.int .u8 x.b1,.int .u8 x.b2,.int .u8 x.b3,.int .u8 x.b4,.int .u8 x.b5,.int .u8 x.b6,.int .u8 x.b7,.int .u8 x.b8,.int .u8 x.b9,.int .u8 x.b10,.int .u8 x.b11,.int .u8 x.b12,.int .u8 x.b13,.int .u8 x.b14,.int .u8 x.b15]
def Seal.v (x:Seal):V:=.agg x.c
theorem Seal.cells (x:Seal):((Seal.v x).cells)=x.c:=rfl
theorem Seal.nr (x:Seal):bV x.v=true:=rfl
theorem Seal.len (x:Seal):x.c.length=16:=rfl
theorem Seal.one (x:Seal):aW x.c=true:=rfl
theorem Seal.pc (x:Seal):aD x.v=true:=by simp[Seal.v,Seal.c,aD,aP,iI,je,jf,jg,jh,iv]
attribute [go_sem] Seal.nr Seal.cells Seal.len Seal.one Seal.pc
structure Mark where
 bU:aJ
 fu:aJ
 Count:Int
 deriving DecidableEq
def Mark.c (x:Mark):List V:=[.int .u8 x.bU.b0,.int .u8 x.bU.b1,.int .u8 x.bU.b2,.int .u8 x.bU.b3,.int .u8 x.bU.b4,.int .u8 x.bU.b5,.int .u8 x.bU.b6,.int .u8 x.bU.b7,.int .u8 x.bU.b8,.int .u8 x.bU.b9,.int .u8 x.bU.b10,.int .u8 x.bU.b11,.int .u8 x.bU.b12,.int .u8 x.bU.b13,.int .u8 x.bU.b14,.int .u8 x.bU.b15,.int .u8 x.fu.b0,.int .u8 x.fu.b1,.int .u8 x.fu.b2,.int .u8 x.fu.b3,.int .u8 x.fu.b4,.int .u8 x.fu.b5,.int .u8 x.fu.b6,.int .u8 x.fu.b7,.int .u8 x.fu.b8,.int .u8 x.fu.b9,.int .u8 x.fu.b10,.int .u8 x.fu.b11,.int .u8 x.fu.b12,.int .u8 x.fu.b13,.int .u8 x.fu.b14,.int .u8 x.fu.b15,.int .i64 x.Count]
def Mark.v (x:Mark):V:=.agg x.c
theorem Mark.cells (x:Mark):((Mark.v x).cells)=x.c:=rfl
theorem Mark.nr (x:Mark):bV x.v=true:=rfl
theorem Mark.len (x:Mark):x.c.length=33:=rfl
theorem Mark.one (x:Mark):aW x.c=true:=rfl
theorem Mark.pc (x:Mark):aD x.v=true:=by simp[Mark.v,Mark.c,aD,aP,iI,je,jf,jg,jh,iv,aJ.pc]
attribute [go_sem] Mark.nr Mark.cells Mark.len Mark.one Mark.pc
structure Root where
 bN:Int
 aY:Int
 Day:Int
 Floor:Int
 ay:aJ
 ak:aJ
 Marks:List Mark
 Gone:aJ
 dS:Int
 aC:aJ
 dU:Int
 bJ:Int
 Seal:Seal
 deriving DecidableEq
def Root.c (x:Root):List V:=[.int .i64 x.bN,.int .i64 x.aY,.int .i64 x.Day,.int .i64 x.Floor,.int .u8 x.ay.b0,.int .u8 x.ay.b1,.int .u8 x.ay.b2,.int .u8 x.ay.b3,.int .u8 x.ay.b4,.int .u8 x.ay.b5,.int .u8 x.ay.b6,.int .u8 x.ay.b7,.int .u8 x.ay.b8,.int .u8 x.ay.b9,.int .u8 x.ay.b10,.int .u8 x.ay.b11,.int .u8 x.ay.b12,.int .u8 x.ay.b13,.int .u8 x.ay.b14,.int .u8 x.ay.b15,.int .u8 x.ak.b0,.int .u8 x.ak.b1,.int .u8 x.ak.b2,.int .u8 x.ak.b3,.int .u8 x.ak.b4,.int .u8 x.ak.b5,.int .u8 x.ak.b6,.int .u8 x.ak.b7,.int .u8 x.ak.b8,.int .u8 x.ak.b9,.int .u8 x.ak.b10,.int .u8 x.ak.b11,.int .u8 x.ak.b12,.int .u8 x.ak.b13,.int .u8 x.ak.b14,.int .u8 x.ak.b15,lv Mark.v x.Marks,.int .u8 x.Gone.b0,.int .u8 x.Gone.b1,.int .u8 x.Gone.b2,.int .u8 x.Gone.b3,.int .u8 x.Gone.b4,.int .u8 x.Gone.b5,.int .u8 x.Gone.b6,.int .u8 x.Gone.b7,.int .u8 x.Gone.b8,.int .u8 x.Gone.b9,.int .u8 x.Gone.b10,.int .u8 x.Gone.b11,.int .u8 x.Gone.b12,.int .u8 x.Gone.b13,.int .u8 x.Gone.b14,.int .u8 x.Gone.b15,.int .i64 x.dS,.int .u8 x.aC.b0,.int .u8 x.aC.b1,.int .u8 x.aC.b2,.int .u8 x.aC.b3,.int .u8 x.aC.b4,.int .u8 x.aC.b5,.int .u8 x.aC.b6,.int .u8 x.aC.b7,.int .u8 x.aC.b8,.int .u8 x.aC.b9,.int .u8 x.aC.b10,.int .u8 x.aC.b11,.int .u8 x.aC.b12,.int .u8 x.aC.b13,.int .u8 x.aC.b14,.int .u8 x.aC.b15,.int .i64 x.dU,.int .i64 x.bJ,.int .u8 x.Seal.b0,.int .u8 x.Seal.b1,.int .u8 x.Seal.b2,.int .u8 x.Seal.b3,.int .u8 x.Seal.b4,.int .u8 x.Seal.b5,.int .u8 x.Seal.b6,.int .u8 x.Seal.b7,.int .u8 x.Seal.b8,.int .u8 x.Seal.b9,.int .u8 x.Seal.b10,.int .u8 x.Seal.b11,.int .u8 x.Seal.b12,.int .u8 x.Seal.b13,.int .u8 x.Seal.b14,.int .u8 x.Seal.b15]
def Root.v (x:Root):V:=.agg x.c
theorem Root.cells (x:Root):((Root.v x).cells)=x.c:=rfl
theorem Root.nr (x:Root):bV x.v=true:=rfl
theorem Root.len (x:Root):x.c.length=88:=rfl
theorem Root.one (x:Root):aW x.c=true:=rfl
theorem Root.pc (x:Root):aD x.v=true:=by simp[Root.v,Root.c,aD,aP,iI,je,jf,jg,jh,iv,aJ.pc,Mark.pc,Seal.pc]
attribute [go_sem] Root.nr Root.cells Root.len Root.one Root.pc
structure Key where
 fQ:Int
 bJ:Int
 jB:List UInt8
 From:Int
 To:Int
 deriving DecidableEq
def Key.c (x:Key):List V:=[.int .i64 x.fQ,.int .i64 x.bJ,.str x.jB,.int .i64 x.From,.int .i64 x.To]
def Key.v (x:Key):V:=.agg x.c
theorem Key.cells (x:Key):((Key.v x).cells)=x.c:=rfl
theorem Key.nr (x:Key):bV x.v=true:=rfl
theorem Key.len (x:Key):x.c.length=5:=rfl
theorem Key.one (x:Key):aW x.c=true:=rfl
theorem Key.pc (x:Key):aD x.v=true:=by simp[Key.v,Key.c,aD,aP,iI,je,jf,jg,jh,iv]
attribute [go_sem] Key.nr Key.cells Key.len Key.one Key.pc
structure eG where
 R:Root
 E:Int
 deriving DecidableEq
def eG.c (x:eG):List V:=[.int .i64 x.R.bN,.int .i64 x.R.aY,.int .i64 x.R.Day,.int .i64 x.R.Floor,.int .u8 x.R.ay.b0,.int .u8 x.R.ay.b1,.int .u8 x.R.ay.b2,.int .u8 x.R.ay.b3,.int .u8 x.R.ay.b4,.int .u8 x.R.ay.b5,.int .u8 x.R.ay.b6,.int .u8 x.R.ay.b7,.int .u8 x.R.ay.b8,.int .u8 x.R.ay.b9,.int .u8 x.R.ay.b10,.int .u8 x.R.ay.b11,.int .u8 x.R.ay.b12,.int .u8 x.R.ay.b13,.int .u8 x.R.ay.b14,.int .u8 x.R.ay.b15,.int .u8 x.R.ak.b0,.int .u8 x.R.ak.b1,.int .u8 x.R.ak.b2,.int .u8 x.R.ak.b3,.int .u8 x.R.ak.b4,.int .u8 x.R.ak.b5,.int .u8 x.R.ak.b6,.int .u8 x.R.ak.b7,.int .u8 x.R.ak.b8,.int .u8 x.R.ak.b9,.int .u8 x.R.ak.b10,.int .u8 x.R.ak.b11,.int .u8 x.R.ak.b12,.int .u8 x.R.ak.b13,.int .u8 x.R.ak.b14,.int .u8 x.R.ak.b15,lv Mark.v x.R.Marks,.int .u8 x.R.Gone.b0,.int .u8 x.R.Gone.b1,.int .u8 x.R.Gone.b2,.int .u8 x.R.Gone.b3,.int .u8 x.R.Gone.b4,.int .u8 x.R.Gone.b5,.int .u8 x.R.Gone.b6,.int .u8 x.R.Gone.b7,.int .u8 x.R.Gone.b8,.int .u8 x.R.Gone.b9,.int .u8 x.R.Gone.b10,.int .u8 x.R.Gone.b11,.int .u8 x.R.Gone.b12,.int .u8 x.R.Gone.b13,.int .u8 x.R.Gone.b14,.int .u8 x.R.Gone.b15,.int .i64 x.R.dS,.int .u8 x.R.aC.b0,.int .u8 x.R.aC.b1,.int .u8 x.R.aC.b2,.int .u8 x.R.aC.b3,.int .u8 x.R.aC.b4,.int .u8 x.R.aC.b5,.int .u8 x.R.aC.b6,.int .u8 x.R.aC.b7,.int .u8 x.R.aC.b8,.int .u8 x.R.aC.b9,.int .u8 x.R.aC.b10,.int .u8 x.R.aC.b11,.int .u8 x.R.aC.b12,.int .u8 x.R.aC.b13,.int .u8 x.R.aC.b14,.int .u8 x.R.aC.b15,.int .i64 x.R.dU,.int .i64 x.R.bJ,.int .u8 x.R.Seal.b0,.int .u8 x.R.Seal.b1,.int .u8 x.R.Seal.b2,.int .u8 x.R.Seal.b3,.int .u8 x.R.Seal.b4,.int .u8 x.R.Seal.b5,.int .u8 x.R.Seal.b6,.int .u8 x.R.Seal.b7,.int .u8 x.R.Seal.b8,.int .u8 x.R.Seal.b9,.int .u8 x.R.Seal.b10,.int .u8 x.R.Seal.b11,.int .u8 x.R.Seal.b12,.int .u8 x.R.Seal.b13,.int .u8 x.R.Seal.b14,.int .u8 x.R.Seal.b15,.int .i64 x.E]
def eG.v (x:eG):V:=.agg x.c
theorem eG.cells (x:eG):((eG.v x).cells)=x.c:=rfl
theorem eG.nr (x:eG):bV x.v=true:=rfl
theorem eG.len (x:eG):x.c.length=89:=rfl
theorem eG.one (x:eG):aW x.c=true:=rfl
theorem eG.pc (x:eG):aD x.v=true:=by simp[eG.v,eG.c,aD,aP,iI,je,jf,jg,jh,iv,aJ.pc,Mark.pc,Root.pc,Seal.pc]
attribute [go_sem] eG.nr eG.cells eG.len eG.one eG.pc
structure cK where
 dV:List Root
 deriving DecidableEq
def cK.c (x:cK):List V:=[lv Root.v x.dV]
def cK.v (x:cK):V:=.agg x.c
theorem cK.cells (x:cK):((cK.v x).cells)=x.c:=rfl
theorem cK.nr (x:cK):bV x.v=true:=rfl
theorem cK.len (x:cK):x.c.length=1:=rfl
theorem cK.one (x:cK):aW x.c=true:=rfl
theorem cK.pc (x:cK):aD x.v=true:=by simp[cK.v,cK.c,aD,aP,iI,je,jf,jg,jh,iv,aJ.pc,Mark.pc,Root.pc,Seal.pc]
attribute [go_sem] cK.nr cK.cells cK.len cK.one cK.pc
structure Def where
 Name:List UInt8
 Kind:Int
 Lo:Int
 Hi:Int
 Words:List (List UInt8)
 deriving DecidableEq
def Def.c (x:Def):List V:=[.str x.Name,.int .i64 x.Kind,.int .i64 x.Lo,.int .i64 x.Hi,lv V.str x.Words]
def Def.v (x:Def):V:=.agg x.c
theorem Def.cells (x:Def):((Def.v x).cells)=x.c:=rfl
theorem Def.nr (x:Def):bV x.v=true:=rfl
theorem Def.len (x:Def):x.c.length=5:=rfl
theorem Def.one (x:Def):aW x.c=true:=rfl
theorem Def.pc (x:Def):aD x.v=true:=by simp[Def.v,Def.c,aD,aP,iI,je,jf,jg,jh,iv]
attribute [go_sem] Def.nr Def.cells Def.len Def.one Def.pc
structure ak where
 vO:Int
 vP:Int
 Defs:List Def
 deriving DecidableEq
def ak.c (x:ak):List V:=[.int .i64 x.vO,.int .i64 x.vP,lv Def.v x.Defs]
def ak.v (x:ak):V:=.agg x.c
theorem ak.cells (x:ak):((ak.v x).cells)=x.c:=rfl
theorem ak.nr (x:ak):bV x.v=true:=rfl
theorem ak.len (x:ak):x.c.length=3:=rfl
theorem ak.one (x:ak):aW x.c=true:=rfl
theorem ak.pc (x:ak):aD x.v=true:=by simp[ak.v,ak.c,aD,aP,iI,je,jf,jg,jh,iv,Def.pc]
attribute [go_sem] ak.nr ak.cells ak.len ak.one ak.pc
structure Attr where
 Name:List UInt8
 Kind:Int
 N:Int
 S:List UInt8
 deriving DecidableEq
def Attr.c (x:Attr):List V:=[.str x.Name,.int .i64 x.Kind,.int .i64 x.N,.str x.S]
def Attr.v (x:Attr):V:=.agg x.c
theorem Attr.cells (x:Attr):((Attr.v x).cells)=x.c:=rfl
theorem Attr.nr (x:Attr):bV x.v=true:=rfl
theorem Attr.len (x:Attr):x.c.length=4:=rfl
theorem Attr.one (x:Attr):aW x.c=true:=rfl
theorem Attr.pc (x:Attr):aD x.v=true:=by simp[Attr.v,Attr.c,aD,aP,iI,je,jf,jg,jh,iv]
attribute [go_sem] Attr.nr Attr.cells Attr.len Attr.one Attr.pc
structure Entry where
 ID:Int
 IQ:Int
 xK:Int
 IU:Int
 From:Int
 To:Int
 IW:Int
 Vec:List Int
 xL:List Attr
 deriving DecidableEq
def Entry.c (x:Entry):List V:=[.int .i64 x.ID,.int .i64 x.IQ,.int .i64 x.xK,.int .i64 x.IU,.int .i64 x.From,.int .i64 x.To,.int .i64 x.IW,lv iv x.Vec,lv Attr.v x.xL]
def Entry.v (x:Entry):V:=.agg x.c
theorem Entry.cells (x:Entry):((Entry.v x).cells)=x.c:=rfl
theorem Entry.nr (x:Entry):bV x.v=true:=rfl
theorem Entry.len (x:Entry):x.c.length=9:=rfl
theorem Entry.one (x:Entry):aW x.c=true:=rfl
theorem Entry.pc (x:Entry):aD x.v=true:=by simp[Entry.v,Entry.c,aD,aP,iI,je,jf,jg,jh,iv,Attr.pc]
attribute [go_sem] Entry.nr Entry.cells Entry.len Entry.one Entry.pc
structure Row where
 Entry:Entry
 Ws:Int
 deriving DecidableEq
def Row.c (x:Row):List V:=[.int .i64 x.Entry.ID,.int .i64 x.Entry.IQ,.int .i64 x.Entry.xK,.int .i64 x.Entry.IU,.int .i64 x.Entry.From,.int .i64 x.Entry.To,.int .i64 x.Entry.IW,lv iv x.Entry.Vec,lv Attr.v x.Entry.xL,.int .i64 x.Ws]
def Row.v (x:Row):V:=.agg x.c
theorem Row.cells (x:Row):((Row.v x).cells)=x.c:=rfl
theorem Row.nr (x:Row):bV x.v=true:=rfl
theorem Row.len (x:Row):x.c.length=10:=rfl
theorem Row.one (x:Row):aW x.c=true:=rfl
theorem Row.pc (x:Row):aD x.v=true:=by simp[Row.v,Row.c,aD,aP,iI,je,jf,jg,jh,iv,Attr.pc,Entry.pc]
attribute [go_sem] Row.nr Row.cells Row.len Row.one Row.pc
structure Book where
 ak:ak
 aY:Int
 Day:Int
 Av:List Int
 Rows:List Row
 deriving DecidableEq
def Book.c (x:Book):List V:=[.int .i64 x.ak.vO,.int .i64 x.ak.vP,lv Def.v x.ak.Defs,.int .i64 x.aY,.int .i64 x.Day,lv iv x.Av,lv Row.v x.Rows]
def Book.v (x:Book):V:=.agg x.c
theorem Book.cells (x:Book):((Book.v x).cells)=x.c:=rfl
theorem Book.nr (x:Book):bV x.v=true:=rfl
theorem Book.len (x:Book):x.c.length=7:=rfl
theorem Book.one (x:Book):aW x.c=true:=rfl
theorem Book.pc (x:Book):aD x.v=true:=by simp[Book.v,Book.c,aD,aP,iI,je,jf,jg,jh,iv,Attr.pc,Def.pc,Entry.pc,Row.pc,ak.pc]
attribute [go_sem] Book.nr Book.cells Book.len Book.one Book.pc
structure gW where
 At:Int
 Path:List aJ
 E:Int
 deriving DecidableEq
def gW.c (x:gW):List V:=[.int .i64 x.At,lv aJ.v x.Path,.int .i64 x.E]
def gW.v (x:gW):V:=.agg x.c
theorem gW.cells (x:gW):((gW.v x).cells)=x.c:=rfl
theorem gW.nr (x:gW):bV x.v=true:=rfl
theorem gW.len (x:gW):x.c.length=3:=rfl
theorem gW.one (x:gW):aW x.c=true:=rfl
theorem gW.pc (x:gW):aD x.v=true:=by simp[gW.v,gW.c,aD,aP,iI,je,jf,jg,jh,iv,aJ.pc]
attribute [go_sem] gW.nr gW.cells gW.len gW.one gW.pc
structure Event where
 Kind:Int
 aY:Int
 Day:Int
 ID:Int
 xK:Int
 Until:Int
 From:Int
 Vec:List Int
 xL:List Attr
 fT:aJ
 deriving DecidableEq
def Event.c (x:Event):List V:=[.int .i64 x.Kind,.int .i64 x.aY,.int .i64 x.Day,.int .i64 x.ID,.int .i64 x.xK,.int .i64 x.Until,.int .i64 x.From,lv iv x.Vec,lv Attr.v x.xL,.int .u8 x.fT.b0,.int .u8 x.fT.b1,.int .u8 x.fT.b2,.int .u8 x.fT.b3,.int .u8 x.fT.b4,.int .u8 x.fT.b5,.int .u8 x.fT.b6,.int .u8 x.fT.b7,.int .u8 x.fT.b8,.int .u8 x.fT.b9,.int .u8 x.fT.b10,.int .u8 x.fT.b11,.int .u8 x.fT.b12,.int .u8 x.fT.b13,.int .u8 x.fT.b14,.int .u8 x.fT.b15]
def Event.v (x:Event):V:=.agg x.c
theorem Event.cells (x:Event):((Event.v x).cells)=x.c:=rfl
theorem Event.nr (x:Event):bV x.v=true:=rfl
theorem Event.len (x:Event):x.c.length=25:=rfl
theorem Event.one (x:Event):aW x.c=true:=rfl
theorem Event.pc (x:Event):aD x.v=true:=by simp[Event.v,Event.c,aD,aP,iI,je,jf,jg,jh,iv,Attr.pc,aJ.pc]
attribute [go_sem] Event.nr Event.cells Event.len Event.one Event.pc
structure Snapshot where
 Day:Int
 aY:Int
 deriving DecidableEq
def Snapshot.c (x:Snapshot):List V:=[.int .i64 x.Day,.int .i64 x.aY]
def Snapshot.v (x:Snapshot):V:=.agg x.c
theorem Snapshot.cells (x:Snapshot):((Snapshot.v x).cells)=x.c:=rfl
theorem Snapshot.nr (x:Snapshot):bV x.v=true:=rfl
theorem Snapshot.len (x:Snapshot):x.c.length=2:=rfl
theorem Snapshot.one (x:Snapshot):aW x.c=true:=rfl
theorem Snapshot.pc (x:Snapshot):aD x.v=true:=by simp[Snapshot.v,Snapshot.c,aD,aP,iI,je,jf,jg,jh,iv]
attribute [go_sem] Snapshot.nr Snapshot.cells Snapshot.len Snapshot.one Snapshot.pc
structure gX where
 B:Book
 N:Int
 E:Int
 deriving DecidableEq
def gX.c (x:gX):List V:=[.int .i64 x.B.ak.vO,.int .i64 x.B.ak.vP,lv Def.v x.B.ak.Defs,.int .i64 x.B.aY,.int .i64 x.B.Day,lv iv x.B.Av,lv Row.v x.B.Rows,.int .i64 x.N,.int .i64 x.E]
def gX.v (x:gX):V:=.agg x.c
theorem gX.cells (x:gX):((gX.v x).cells)=x.c:=rfl
theorem gX.nr (x:gX):bV x.v=true:=rfl
theorem gX.len (x:gX):x.c.length=9:=rfl
theorem gX.one (x:gX):aW x.c=true:=rfl
theorem gX.pc (x:gX):aD x.v=true:=by simp[gX.v,gX.c,aD,aP,iI,je,jf,jg,jh,iv,Attr.pc,Book.pc,Def.pc,Entry.pc,Row.pc,ak.pc]
attribute [go_sem] gX.nr gX.cells gX.len gX.one gX.pc
structure gY where
 L:List aJ
 E:Int
 deriving DecidableEq
def gY.c (x:gY):List V:=[lv aJ.v x.L,.int .i64 x.E]
def gY.v (x:gY):V:=.agg x.c
theorem gY.cells (x:gY):((gY.v x).cells)=x.c:=rfl
theorem gY.nr (x:gY):bV x.v=true:=rfl
theorem gY.len (x:gY):x.c.length=2:=rfl
theorem gY.one (x:gY):aW x.c=true:=rfl
theorem gY.pc (x:gY):aD x.v=true:=by simp[gY.v,gY.c,aD,aP,iI,je,jf,jg,jh,iv,aJ.pc]
attribute [go_sem] gY.nr gY.cells gY.len gY.one gY.pc
structure gZ where
 B:Book
 E:Int
 deriving DecidableEq
def gZ.c (x:gZ):List V:=[.int .i64 x.B.ak.vO,.int .i64 x.B.ak.vP,lv Def.v x.B.ak.Defs,.int .i64 x.B.aY,.int .i64 x.B.Day,lv iv x.B.Av,lv Row.v x.B.Rows,.int .i64 x.E]
def gZ.v (x:gZ):V:=.agg x.c
theorem gZ.cells (x:gZ):((gZ.v x).cells)=x.c:=rfl
theorem gZ.nr (x:gZ):bV x.v=true:=rfl
theorem gZ.len (x:gZ):x.c.length=8:=rfl
theorem gZ.one (x:gZ):aW x.c=true:=rfl
theorem gZ.pc (x:gZ):aD x.v=true:=by simp[gZ.v,gZ.c,aD,aP,iI,je,jf,jg,jh,iv,Attr.pc,Book.pc,Def.pc,Entry.pc,Row.pc,ak.pc]
attribute [go_sem] gZ.nr gZ.cells gZ.len gZ.one gZ.pc
structure ig where
 K:Key
 E:Int
 deriving DecidableEq
def ig.c (x:ig):List V:=[.int .i64 x.K.fQ,.int .i64 x.K.bJ,.str x.K.jB,.int .i64 x.K.From,.int .i64 x.K.To,.int .i64 x.E]
def ig.v (x:ig):V:=.agg x.c
theorem ig.cells (x:ig):((ig.v x).cells)=x.c:=rfl
theorem ig.nr (x:ig):bV x.v=true:=rfl
theorem ig.len (x:ig):x.c.length=6:=rfl
theorem ig.one (x:ig):aW x.c=true:=rfl
theorem ig.pc (x:ig):aD x.v=true:=by simp[ig.v,ig.c,aD,aP,iI,je,jf,jg,jh,iv,Key.pc]
attribute [go_sem] ig.nr ig.cells ig.len ig.one ig.pc
structure iq where
 l:List aJ
 short:Bool
 deriving DecidableEq
def iq.c (x:iq):List V:=[lv aJ.v x.l,.bool x.short]
def iq.v (x:iq):V:=.agg x.c
theorem iq.cells (x:iq):((iq.v x).cells)=x.c:=rfl
theorem iq.nr (x:iq):bV x.v=true:=rfl
theorem iq.len (x:iq):x.c.length=2:=rfl
theorem iq.one (x:iq):aW x.c=true:=rfl
theorem iq.pc (x:iq):aD x.v=true:=by simp[iq.v,iq.c,aD,aP,iI,je,jf,jg,jh,iv,aJ.pc]
attribute [go_sem] iq.nr iq.cells iq.len iq.one iq.pc
structure gG where
 D:aJ
 Ok:Bool
 deriving DecidableEq
def gG.c (x:gG):List V:=[.int .u8 x.D.b0,.int .u8 x.D.b1,.int .u8 x.D.b2,.int .u8 x.D.b3,.int .u8 x.D.b4,.int .u8 x.D.b5,.int .u8 x.D.b6,.int .u8 x.D.b7,.int .u8 x.D.b8,.int .u8 x.D.b9,.int .u8 x.D.b10,.int .u8 x.D.b11,.int .u8 x.D.b12,.int .u8 x.D.b13,.int .u8 x.D.b14,.int .u8 x.D.b15,.bool x.Ok]
def gG.v (x:gG):V:=.agg x.c
theorem gG.cells (x:gG):((gG.v x).cells)=x.c:=rfl
theorem gG.nr (x:gG):bV x.v=true:=rfl
theorem gG.len (x:gG):x.c.length=17:=rfl
theorem gG.one (x:gG):aW x.c=true:=rfl
theorem gG.pc (x:gG):aD x.v=true:=by simp[gG.v,gG.c,aD,aP,iI,je,jf,jg,jh,iv,aJ.pc]
attribute [go_sem] gG.nr gG.cells gG.len gG.one gG.pc
structure iw where
 from_:Int
 to:Int
 deriving DecidableEq
def iw.c (x:iw):List V:=[.int .i64 x.from_,.int .i64 x.to]
def iw.v (x:iw):V:=.agg x.c
theorem iw.cells (x:iw):((iw.v x).cells)=x.c:=rfl
theorem iw.nr (x:iw):bV x.v=true:=rfl
theorem iw.len (x:iw):x.c.length=2:=rfl
theorem iw.one (x:iw):aW x.c=true:=rfl
theorem iw.pc (x:iw):aD x.v=true:=by simp[iw.v,iw.c,aD,aP,iI,je,jf,jg,jh,iv]
attribute [go_sem] iw.nr iw.cells iw.len iw.one iw.pc
@[go_sem] theorem alI:l5 Tryz.prog 24=true:=by kernel_rfl
@[go_sem] theorem OH:Tryz.prog.underlying 24=some (.slice 112):=by kernel_rfl
@[go_sem] theorem alJ:lU Tryz.prog 27 4=some (4,23):=by kernel_rfl
@[go_sem] theorem alK:lU Tryz.prog 27 5=some (20,23):=by kernel_rfl
@[go_sem] theorem alL:lU Tryz.prog 27 6=some (36,24):=by kernel_rfl
@[go_sem] theorem alM:lU Tryz.prog 27 7=some (37,23):=by kernel_rfl
@[go_sem] theorem alN:lU Tryz.prog 27 9=some (54,23):=by kernel_rfl
@[go_sem] theorem alO:l5 Tryz.prog 61=true:=by kernel_rfl
@[go_sem] theorem alP:l5 Tryz.prog 65=true:=by kernel_rfl
@[go_sem] theorem alQ:l5 Tryz.prog 94=true:=by kernel_rfl
@[go_sem] theorem alR:lU Tryz.prog 112 0=some (0,23):=by kernel_rfl
@[go_sem] theorem alS:lU Tryz.prog 112 1=some (16,23):=by kernel_rfl
@[go_sem] theorem alT:l5 Tryz.prog 116=true:=by kernel_rfl
@[go_sem] theorem aJ.Wt:∀x:aJ,dD Tryz.prog 23 x.c 0=some (aJ.v x):=fun x=>by kernel_rfl
@[go_sem] theorem Mark.alU:∀x:Mark,dD Tryz.prog 112 x.c 0=some (Mark.v x):=fun x=>by kernel_rfl
@[go_sem] theorem Mark.Wt:∀x:Mark,dD Tryz.prog 23 x.c 0=some (aJ.v x.bU):=fun x=>by kernel_rfl
@[go_sem] theorem Mark.alV:∀x:Mark,dD Tryz.prog 23 x.c 16=some (aJ.v x.fu):=fun x=>by kernel_rfl
@[go_sem] theorem Root.afF:∀x:Root,dD Tryz.prog 23 x.c 4=some (aJ.v x.ay):=fun x=>by kernel_rfl
@[go_sem] theorem Root.afG:∀x:Root,dD Tryz.prog 23 x.c 20=some (aJ.v x.ak):=fun x=>by kernel_rfl
@[go_sem] theorem Root.afH:∀x:Root,dD Tryz.prog 24 x.c 36=some (lv Mark.v x.Marks):=fun x=>by kernel_rfl
@[go_sem] theorem Root.afI:∀x:Root,dD Tryz.prog 23 x.c 37=some (aJ.v x.Gone):=fun x=>by kernel_rfl
@[go_sem] theorem Root.afJ:∀x:Root,dD Tryz.prog 23 x.c 54=some (aJ.v x.aC):=fun x=>by kernel_rfl
@[go_sem] theorem eG.afF:∀x:eG,dD Tryz.prog 23 x.c 4=some (aJ.v x.R.ay):=fun x=>by kernel_rfl
@[go_sem] theorem eG.afG:∀x:eG,dD Tryz.prog 23 x.c 20=some (aJ.v x.R.ak):=fun x=>by kernel_rfl
@[go_sem] theorem eG.afH:∀x:eG,dD Tryz.prog 24 x.c 36=some (lv Mark.v x.R.Marks):=fun x=>by kernel_rfl
@[go_sem] theorem eG.afI:∀x:eG,dD Tryz.prog 23 x.c 37=some (aJ.v x.R.Gone):=fun x=>by kernel_rfl
@[go_sem] theorem eG.afJ:∀x:eG,dD Tryz.prog 23 x.c 54=some (aJ.v x.R.aC):=fun x=>by kernel_rfl
@[go_sem] theorem gG.Wt:∀x:gG,dD Tryz.prog 23 x.c 0=some (aJ.v x.D):=fun x=>by kernel_rfl
end Sh
