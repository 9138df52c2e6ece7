/- Part of the proof of a law. -/
import Derived.KernelRfl
import Derived.Test.YtdcnajadcbedkaaGreatDoorProg
import Derived.Test.YtdcnajadcbedkaaGreatDoorS806
set_option linter.all false
set_option linter.unusedSimpArgs false
set_option linter.unusedSectionVars false
open Go Go.Proofs Aq
namespace Sh
set_option maxRecDepth 100000
structure aJ where
 b0:Int
 b1:Int
 b2:Int
 b3:Int
 b4:Int
 b5:Int
 b6:Int
 b7:Int
 b8:Int
 b9:Int
 b10:Int
 b11:Int
 b12:Int
 b13:Int
 b14:Int
 b15:Int
 deriving DecidableEq
def aJ.c (x:aJ):List V:=[.int .u8 x.b0,.int .u8 x.b1,.int .u8 x.b2,.int .u8 x.b3,.int .u8 x.b4,.int .u8 x.b5,.int .u8 x.b6,.int .u8 x.b7,.int .u8 x.b8,.int .u8 x.b9,.int .u8 x.b10,.int .u8 x.b11,.int .u8 x.b12,.int .u8 x.b13,.int .u8 x.b14,.int .u8 x.b15]
def aJ.v (x:aJ):V:=.agg x.c
theorem aJ.cells (x:aJ):((aJ.v x).cells)=x.c:=rfl
theorem aJ.nr (x:aJ):dn x.v=true:=rfl
theorem aJ.len (x:aJ):x.c.length=16:=rfl
theorem aJ.one (x:aJ):bf x.c=true:=rfl
theorem aJ.pc (x:aJ):aF x.v=true:=by simp[aJ.v,aJ.c,aF,aR,iG,je,jf,jg,jh,iv]
attribute [go_sem] aJ.nr aJ.cells aJ.len aJ.one aJ.pc
structure Seal where
 b0:Int
 b1:Int
 b2:Int
 b3:Int
 b4:Int
 b5:Int
 b6:Int
 b7:Int
 b8:Int
 b9:Int
 b10:Int
 b11:Int
 b12:Int
 b13:Int
 b14:Int
 b15:Int
 deriving DecidableEq
def Seal.c (x:Seal):List V:=[.int .u8 x.b0,.int .u8 x.b1,.int .u8 x.b2,.int .u8 x.b3,.int .u8 x.b4,.int .u8 x.b5,.int .u8 x.b6,.int .u8 x.b7,.int .u8 x.b8,.int .u8 x.b9,.int .u8 x.b10,.int .u8 x.b11,.int .u8 x.b12,.int .u8 x.b13,.int .u8 x.b14,.int .u8 x.b15]
def Seal.v (x:Seal):V:=.agg x.c
theorem Seal.cells (x:Seal):((Seal.v x).cells)=x.c:=rfl
theorem Seal.nr (x:Seal):dn x.v=true:=rfl
theorem Seal.len (x:Seal):x.c.length=16:=rfl
theorem Seal.one (x:Seal):bf x.c=true:=rfl
theorem Seal.pc (x:Seal):aF x.v=true:=by simp[Seal.v,Seal.c,aF,aR,iG,je,jf,jg,jh,iv]
attribute [go_sem] Seal.nr Seal.cells Seal.len Seal.one Seal.pc
structure Mark where
 aO:aJ
 aT:aJ
 Count:Int
 deriving DecidableEq
def Mark.c (x:Mark):List V:=[.int .u8 x.aO.b0,.int .u8 x.aO.b1,.int .u8 x.aO.b2,.int .u8 x.aO.b3,.int .u8 x.aO.b4,.int .u8 x.aO.b5,.int .u8 x.aO.b6,.int .u8 x.aO.b7,.int .u8 x.aO.b8,.int .u8 x.aO.b9,.int .u8 x.aO.b10,.int .u8 x.aO.b11,.int .u8 x.aO.b12,.int .u8 x.aO.b13,.int .u8 x.aO.b14,.int .u8 x.aO.b15,.int .u8 x.aT.b0,.int .u8 x.aT.b1,.int .u8 x.aT.b2,.int .u8 x.aT.b3,.int .u8 x.aT.b4,.int .u8 x.aT.b5,.int .u8 x.aT.b6,.int .u8 x.aT.b7,.int .u8 x.aT.b8,.int .u8 x.aT.b9,.int .u8 x.aT.b10,.int .u8 x.aT.b11,.int .u8 x.aT.b12,.int .u8 x.aT.b13,.int .u8 x.aT.b14,.int .u8 x.aT.b15,.int .i64 x.Count]
def Mark.v (x:Mark):V:=.agg x.c
theorem Mark.cells (x:Mark):((Mark.v x).cells)=x.c:=rfl
theorem Mark.nr (x:Mark):dn x.v=true:=rfl
theorem Mark.len (x:Mark):x.c.length=33:=rfl
theorem Mark.one (x:Mark):bf x.c=true:=rfl
theorem Mark.pc (x:Mark):aF x.v=true:=by simp[Mark.v,Mark.c,aF,aR,iG,je,jf,jg,jh,iv,aJ.pc]
attribute [go_sem] Mark.nr Mark.cells Mark.len Mark.one Mark.pc
structure Root where
 eT:Int
 cZ:Int
 Day:Int
 Floor:Int
 au:aJ
 ak:aJ
 Marks:List Mark
 Gone:aJ
 iN:Int
 ay:aJ
 iO:Int
 iJ:Int
 Seal:Seal
 deriving DecidableEq
def Root.c (x:Root):List V:=[.int .i64 x.eT,.int .i64 x.cZ,.int .i64 x.Day,.int .i64 x.Floor,.int .u8 x.au.b0,.int .u8 x.au.b1,.int .u8 x.au.b2,.int .u8 x.au.b3,.int .u8 x.au.b4,.int .u8 x.au.b5,.int .u8 x.au.b6,.int .u8 x.au.b7,.int .u8 x.au.b8,.int .u8 x.au.b9,.int .u8 x.au.b10,.int .u8 x.au.b11,.int .u8 x.au.b12,.int .u8 x.au.b13,.int .u8 x.au.b14,.int .u8 x.au.b15,.int .u8 x.ak.b0,.int .u8 x.ak.b1,.int .u8 x.ak.b2,.int .u8 x.ak.b3,.int .u8 x.ak.b4,.int .u8 x.ak.b5,.int .u8 x.ak.b6,.int .u8 x.ak.b7,.int .u8 x.ak.b8,.int .u8 x.ak.b9,.int .u8 x.ak.b10,.int .u8 x.ak.b11,.int .u8 x.ak.b12,.int .u8 x.ak.b13,.int .u8 x.ak.b14,.int .u8 x.ak.b15,lv Mark.v x.Marks,.int .u8 x.Gone.b0,.int .u8 x.Gone.b1,.int .u8 x.Gone.b2,.int .u8 x.Gone.b3,.int .u8 x.Gone.b4,.int .u8 x.Gone.b5,.int .u8 x.Gone.b6,.int .u8 x.Gone.b7,.int .u8 x.Gone.b8,.int .u8 x.Gone.b9,.int .u8 x.Gone.b10,.int .u8 x.Gone.b11,.int .u8 x.Gone.b12,.int .u8 x.Gone.b13,.int .u8 x.Gone.b14,.int .u8 x.Gone.b15,.int .i64 x.iN,.int .u8 x.ay.b0,.int .u8 x.ay.b1,.int .u8 x.ay.b2,.int .u8 x.ay.b3,.int .u8 x.ay.b4,.int .u8 x.ay.b5,.int .u8 x.ay.b6,.int .u8 x.ay.b7,.int .u8 x.ay.b8,.int .u8 x.ay.b9,.int .u8 x.ay.b10,.int .u8 x.ay.b11,.int .u8 x.ay.b12,.int .u8 x.ay.b13,.int .u8 x.ay.b14,.int .u8 x.ay.b15,.int .i64 x.iO,.int .i64 x.iJ,.int .u8 x.Seal.b0,.int .u8 x.Seal.b1,.int .u8 x.Seal.b2,.int .u8 x.Seal.b3,.int .u8 x.Seal.b4,.int .u8 x.Seal.b5,.int .u8 x.Seal.b6,.int .u8 x.Seal.b7,.int .u8 x.Seal.b8,.int .u8 x.Seal.b9,.int .u8 x.Seal.b10,.int .u8 x.Seal.b11,.int .u8 x.Seal.b12,.int .u8 x.Seal.b13,.int .u8 x.Seal.b14,.int .u8 x.Seal.b15]
def Root.v (x:Root):V:=.agg x.c
theorem Root.cells (x:Root):((Root.v x).cells)=x.c:=rfl
theorem Root.nr (x:Root):dn x.v=true:=rfl
theorem Root.len (x:Root):x.c.length=88:=rfl
theorem Root.one (x:Root):bf x.c=true:=rfl
theorem Root.pc (x:Root):aF x.v=true:=by simp[Root.v,Root.c,aF,aR,iG,je,jf,jg,jh,iv,aJ.pc,Mark.pc,Seal.pc]
attribute [go_sem] Root.nr Root.cells Root.len Root.one Root.pc
structure Key where
 Jm:Int
 iJ:Int
 Jo:List UInt8
 From:Int
 To:Int
 deriving DecidableEq
def Key.c (x:Key):List V:=[.int .i64 x.Jm,.int .i64 x.iJ,.str x.Jo,.int .i64 x.From,.int .i64 x.To]
def Key.v (x:Key):V:=.agg x.c
theorem Key.cells (x:Key):((Key.v x).cells)=x.c:=rfl
theorem Key.nr (x:Key):dn x.v=true:=rfl
theorem Key.len (x:Key):x.c.length=5:=rfl
theorem Key.one (x:Key):bf x.c=true:=rfl
theorem Key.pc (x:Key):aF x.v=true:=by simp[Key.v,Key.c,aF,aR,iG,je,jf,jg,jh,iv]
attribute [go_sem] Key.nr Key.cells Key.len Key.one Key.pc
structure dh where
 R:Root
 E:Int
 deriving DecidableEq
def dh.c (x:dh):List V:=[.int .i64 x.R.eT,.int .i64 x.R.cZ,.int .i64 x.R.Day,.int .i64 x.R.Floor,.int .u8 x.R.au.b0,.int .u8 x.R.au.b1,.int .u8 x.R.au.b2,.int .u8 x.R.au.b3,.int .u8 x.R.au.b4,.int .u8 x.R.au.b5,.int .u8 x.R.au.b6,.int .u8 x.R.au.b7,.int .u8 x.R.au.b8,.int .u8 x.R.au.b9,.int .u8 x.R.au.b10,.int .u8 x.R.au.b11,.int .u8 x.R.au.b12,.int .u8 x.R.au.b13,.int .u8 x.R.au.b14,.int .u8 x.R.au.b15,.int .u8 x.R.ak.b0,.int .u8 x.R.ak.b1,.int .u8 x.R.ak.b2,.int .u8 x.R.ak.b3,.int .u8 x.R.ak.b4,.int .u8 x.R.ak.b5,.int .u8 x.R.ak.b6,.int .u8 x.R.ak.b7,.int .u8 x.R.ak.b8,.int .u8 x.R.ak.b9,.int .u8 x.R.ak.b10,.int .u8 x.R.ak.b11,.int .u8 x.R.ak.b12,.int .u8 x.R.ak.b13,.int .u8 x.R.ak.b14,.int .u8 x.R.ak.b15,lv Mark.v x.R.Marks,.int .u8 x.R.Gone.b0,.int .u8 x.R.Gone.b1,.int .u8 x.R.Gone.b2,.int .u8 x.R.Gone.b3,.int .u8 x.R.Gone.b4,.int .u8 x.R.Gone.b5,.int .u8 x.R.Gone.b6,.int .u8 x.R.Gone.b7,.int .u8 x.R.Gone.b8,.int .u8 x.R.Gone.b9,.int .u8 x.R.Gone.b10,.int .u8 x.R.Gone.b11,.int .u8 x.R.Gone.b12,.int .u8 x.R.Gone.b13,.int .u8 x.R.Gone.b14,.int .u8 x.R.Gone.b15,.int .i64 x.R.iN,.int .u8 x.R.ay.b0,.int .u8 x.R.ay.b1,.int .u8 x.R.ay.b2,.int .u8 x.R.ay.b3,.int .u8 x.R.ay.b4,.int .u8 x.R.ay.b5,.int .u8 x.R.ay.b6,.int .u8 x.R.ay.b7,.int .u8 x.R.ay.b8,.int .u8 x.R.ay.b9,.int .u8 x.R.ay.b10,.int .u8 x.R.ay.b11,.int .u8 x.R.ay.b12,.int .u8 x.R.ay.b13,.int .u8 x.R.ay.b14,.int .u8 x.R.ay.b15,.int .i64 x.R.iO,.int .i64 x.R.iJ,.int .u8 x.R.Seal.b0,.int .u8 x.R.Seal.b1,.int .u8 x.R.Seal.b2,.int .u8 x.R.Seal.b3,.int .u8 x.R.Seal.b4,.int .u8 x.R.Seal.b5,.int .u8 x.R.Seal.b6,.int .u8 x.R.Seal.b7,.int .u8 x.R.Seal.b8,.int .u8 x.R.Seal.b9,.int .u8 x.R.Seal.b10,.int .u8 x.R.Seal.b11,.int .u8 x.R.Seal.b12,.int .u8 x.R.Seal.b13,.int .u8 x.R.Seal.b14,.int .u8 x.R.Seal.b15,.int .i64 x.E]
def dh.v (x:dh):V:=.agg x.c
theorem dh.cells (x:dh):((dh.v x).cells)=x.c:=rfl
theorem dh.nr (x:dh):dn x.v=true:=rfl
theorem dh.len (x:dh):x.c.length=89:=rfl
theorem dh.one (x:dh):bf x.c=true:=rfl
theorem dh.pc (x:dh):aF x.v=true:=by simp[dh.v,dh.c,aF,aR,iG,je,jf,jg,jh,iv,aJ.pc,Mark.pc,Root.pc,Seal.pc]
attribute [go_sem] dh.nr dh.cells dh.len dh.one dh.pc
structure dK where
 dY:List Root
 deriving DecidableEq
def dK.c (x:dK):List V:=[lv Root.v x.dY]
def dK.v (x:dK):V:=.agg x.c
theorem dK.cells (x:dK):((dK.v x).cells)=x.c:=rfl
theorem dK.nr (x:dK):dn x.v=true:=rfl
theorem dK.len (x:dK):x.c.length=1:=rfl
theorem dK.one (x:dK):bf x.c=true:=rfl
theorem dK.pc (x:dK):aF x.v=true:=by simp[dK.v,dK.c,aF,aR,iG,je,jf,jg,jh,iv,aJ.pc,Mark.pc,Root.pc,Seal.pc]
attribute [go_sem] dK.nr dK.cells dK.len dK.one dK.pc
structure Def where
 Name:List UInt8
 Kind:Int
 Lo:Int
 Hi:Int
 Words:List (List UInt8)
 deriving DecidableEq
def Def.c (x:Def):List V:=[.str x.Name,.int .i64 x.Kind,.int .i64 x.Lo,.int .i64 x.Hi,lv V.str x.Words]
def Def.v (x:Def):V:=.agg x.c
theorem Def.cells (x:Def):((Def.v x).cells)=x.c:=rfl
theorem Def.nr (x:Def):dn x.v=true:=rfl
theorem Def.len (x:Def):x.c.length=5:=rfl
theorem Def.one (x:Def):bf x.c=true:=rfl
theorem Def.pc (x:Def):aF x.v=true:=by simp[Def.v,Def.c,aF,aR,iG,je,jf,jg,jh,iv]
attribute [go_sem] Def.nr Def.cells Def.len Def.one Def.pc
structure ak where
 vJ:Int
 vK:Int
 Defs:List Def
 deriving DecidableEq
def ak.c (x:ak):List V:=[.int .i64 x.vJ,.int .i64 x.vK,lv Def.v x.Defs]
def ak.v (x:ak):V:=.agg x.c
theorem ak.cells (x:ak):((ak.v x).cells)=x.c:=rfl
theorem ak.nr (x:ak):dn x.v=true:=rfl
theorem ak.len (x:ak):x.c.length=3:=rfl
theorem ak.one (x:ak):bf x.c=true:=rfl
theorem ak.pc (x:ak):aF x.v=true:=by simp[ak.v,ak.c,aF,aR,iG,je,jf,jg,jh,iv,Def.pc]
attribute [go_sem] ak.nr ak.cells ak.len ak.one ak.pc
structure Attr where
 Name:List UInt8
 Kind:Int
 N:Int
 S:List UInt8
 deriving DecidableEq
def Attr.c (x:Attr):List V:=[.str x.Name,.int .i64 x.Kind,.int .i64 x.N,.str x.S]
def Attr.v (x:Attr):V:=.agg x.c
theorem Attr.cells (x:Attr):((Attr.v x).cells)=x.c:=rfl
theorem Attr.nr (x:Attr):dn x.v=true:=rfl
theorem Attr.len (x:Attr):x.c.length=4:=rfl
theorem Attr.one (x:Attr):bf x.c=true:=rfl
theorem Attr.pc (x:Attr):aF x.v=true:=by simp[Attr.v,Attr.c,aF,aR,iG,je,jf,jg,jh,iv]
attribute [go_sem] Attr.nr Attr.cells Attr.len Attr.one Attr.pc
structure Entry where
 ID:Int
 Jp:Int
 xu:Int
 Jq:Int
 From:Int
 To:Int
 Jr:Int
 Vec:List Int
 xw:List Attr
 deriving DecidableEq
def Entry.c (x:Entry):List V:=[.int .i64 x.ID,.int .i64 x.Jp,.int .i64 x.xu,.int .i64 x.Jq,.int .i64 x.From,.int .i64 x.To,.int .i64 x.Jr,lv iv x.Vec,lv Attr.v x.xw]
def Entry.v (x:Entry):V:=.agg x.c
theorem Entry.cells (x:Entry):((Entry.v x).cells)=x.c:=rfl
theorem Entry.nr (x:Entry):dn x.v=true:=rfl
theorem Entry.len (x:Entry):x.c.length=9:=rfl
theorem Entry.one (x:Entry):bf x.c=true:=rfl
theorem Entry.pc (x:Entry):aF x.v=true:=by simp[Entry.v,Entry.c,aF,aR,iG,je,jf,jg,jh,iv,Attr.pc]
attribute [go_sem] Entry.nr Entry.cells Entry.len Entry.one Entry.pc
structure Row where
 Entry:Entry
 YM:Int
 deriving DecidableEq
def Row.c (x:Row):List V:=[.int .i64 x.Entry.ID,.int .i64 x.Entry.Jp,.int .i64 x.Entry.xu,.int .i64 x.Entry.Jq,.int .i64 x.Entry.From,.int .i64 x.Entry.To,.int .i64 x.Entry.Jr,lv iv x.Entry.Vec,lv Attr.v x.Entry.xw,.int .i64 x.YM]
def Row.v (x:Row):V:=.agg x.c
theorem Row.cells (x:Row):((Row.v x).cells)=x.c:=rfl
theorem Row.nr (x:Row):dn x.v=true:=rfl
theorem Row.len (x:Row):x.c.length=10:=rfl
theorem Row.one (x:Row):bf x.c=true:=rfl
theorem Row.pc (x:Row):aF x.v=true:=by simp[Row.v,Row.c,aF,aR,iG,je,jf,jg,jh,iv,Attr.pc,Entry.pc]
attribute [go_sem] Row.nr Row.cells Row.len Row.one Row.pc
structure Book where
 ak:ak
 cZ:Int
 Day:Int
 zX:List Int
 Rows:List Row
 deriving DecidableEq
def Book.c (x:Book):List V:=[.int .i64 x.ak.vJ,.int .i64 x.ak.vK,lv Def.v x.ak.Defs,.int .i64 x.cZ,.int .i64 x.Day,lv iv x.zX,lv Row.v x.Rows]
def Book.v (x:Book):V:=.agg x.c
theorem Book.cells (x:Book):((Book.v x).cells)=x.c:=rfl
theorem Book.nr (x:Book):dn x.v=true:=rfl
theorem Book.len (x:Book):x.c.length=7:=rfl
theorem Book.one (x:Book):bf x.c=true:=rfl
theorem Book.pc (x:Book):aF x.v=true:=by simp[Book.v,Book.c,aF,aR,iG,je,jf,jg,jh,iv,Attr.pc,Def.pc,Entry.pc,Row.pc,ak.pc]
attribute [go_sem] Book.nr Book.cells Book.len Book.one Book.pc
structure gM where
 At:Int
 Path:List aJ
 E:Int
 deriving DecidableEq
def gM.c (x:gM):List V:=[.int .i64 x.At,lv aJ.v x.Path,.int .i64 x.E]
def gM.v (x:gM):V:=.agg x.c
theorem gM.cells (x:gM):((gM.v x).cells)=x.c:=rfl
theorem gM.nr (x:gM):dn x.v=true:=rfl
theorem gM.len (x:gM):x.c.length=3:=rfl
theorem gM.one (x:gM):bf x.c=true:=rfl
theorem gM.pc (x:gM):aF x.v=true:=by simp[gM.v,gM.c,aF,aR,iG,je,jf,jg,jh,iv,aJ.pc]
attribute [go_sem] gM.nr gM.cells gM.len gM.one gM.pc
structure Event where
 Kind:Int
 cZ:Int
 Day:Int
 ID:Int
 xu:Int
 Until:Int
 From:Int
 Vec:List Int
 xw:List Attr
 fM:aJ
 deriving DecidableEq
def Event.c (x:Event):List V:=[.int .i64 x.Kind,.int .i64 x.cZ,.int .i64 x.Day,.int .i64 x.ID,.int .i64 x.xu,.int .i64 x.Until,.int .i64 x.From,lv iv x.Vec,lv Attr.v x.xw,.int .u8 x.fM.b0,.int .u8 x.fM.b1,.int .u8 x.fM.b2,.int .u8 x.fM.b3,.int .u8 x.fM.b4,.int .u8 x.fM.b5,.int .u8 x.fM.b6,.int .u8 x.fM.b7,.int .u8 x.fM.b8,.int .u8 x.fM.b9,.int .u8 x.fM.b10,.int .u8 x.fM.b11,.int .u8 x.fM.b12,.int .u8 x.fM.b13,.int .u8 x.fM.b14,.int .u8 x.fM.b15]
def Event.v (x:Event):V:=.agg x.c
theorem Event.cells (x:Event):((Event.v x).cells)=x.c:=rfl
theorem Event.nr (x:Event):dn x.v=true:=rfl
theorem Event.len (x:Event):x.c.length=25:=rfl
theorem Event.one (x:Event):bf x.c=true:=rfl
theorem Event.pc (x:Event):aF x.v=true:=by simp[Event.v,Event.c,aF,aR,iG,je,jf,jg,jh,iv,Attr.pc,aJ.pc]
attribute [go_sem] Event.nr Event.cells Event.len Event.one Event.pc
structure Snapshot where
 Day:Int
 cZ:Int
 deriving DecidableEq
def Snapshot.c (x:Snapshot):List V:=[.int .i64 x.Day,.int .i64 x.cZ]
def Snapshot.v (x:Snapshot):V:=.agg x.c
theorem Snapshot.cells (x:Snapshot):((Snapshot.v x).cells)=x.c:=rfl
theorem Snapshot.nr (x:Snapshot):dn x.v=true:=rfl
theorem Snapshot.len (x:Snapshot):x.c.length=2:=rfl
theorem Snapshot.one (x:Snapshot):bf x.c=true:=rfl
theorem Snapshot.pc (x:Snapshot):aF x.v=true:=by simp[Snapshot.v,Snapshot.c,aF,aR,iG,je,jf,jg,jh,iv]
attribute [go_sem] Snapshot.nr Snapshot.cells Snapshot.len Snapshot.one Snapshot.pc
structure gN where
 B:Book
 N:Int
 E:Int
 deriving DecidableEq
def gN.c (x:gN):List V:=[.int .i64 x.B.ak.vJ,.int .i64 x.B.ak.vK,lv Def.v x.B.ak.Defs,.int .i64 x.B.cZ,.int .i64 x.B.Day,lv iv x.B.zX,lv Row.v x.B.Rows,.int .i64 x.N,.int .i64 x.E]
def gN.v (x:gN):V:=.agg x.c
theorem gN.cells (x:gN):((gN.v x).cells)=x.c:=rfl
theorem gN.nr (x:gN):dn x.v=true:=rfl
theorem gN.len (x:gN):x.c.length=9:=rfl
theorem gN.one (x:gN):bf x.c=true:=rfl
theorem gN.pc (x:gN):aF x.v=true:=by simp[gN.v,gN.c,aF,aR,iG,je,jf,jg,jh,iv,Attr.pc,Book.pc,Def.pc,Entry.pc,Row.pc,ak.pc]
attribute [go_sem] gN.nr gN.cells gN.len gN.one gN.pc
structure gP where
 L:List aJ
 E:Int
 deriving DecidableEq
def gP.c (x:gP):List V:=[lv aJ.v x.L,.int .i64 x.E]
def gP.v (x:gP):V:=.agg x.c
theorem gP.cells (x:gP):((gP.v x).cells)=x.c:=rfl
theorem gP.nr (x:gP):dn x.v=true:=rfl
theorem gP.len (x:gP):x.c.length=2:=rfl
theorem gP.one (x:gP):bf x.c=true:=rfl
theorem gP.pc (x:gP):aF x.v=true:=by simp[gP.v,gP.c,aF,aR,iG,je,jf,jg,jh,iv,aJ.pc]
attribute [go_sem] gP.nr gP.cells gP.len gP.one gP.pc
structure gQ where
 B:Book
 E:Int
 deriving DecidableEq
def gQ.c (x:gQ):List V:=[.int .i64 x.B.ak.vJ,.int .i64 x.B.ak.vK,lv Def.v x.B.ak.Defs,.int .i64 x.B.cZ,.int .i64 x.B.Day,lv iv x.B.zX,lv Row.v x.B.Rows,.int .i64 x.E]
def gQ.v (x:gQ):V:=.agg x.c
theorem gQ.cells (x:gQ):((gQ.v x).cells)=x.c:=rfl
theorem gQ.nr (x:gQ):dn x.v=true:=rfl
theorem gQ.len (x:gQ):x.c.length=8:=rfl
theorem gQ.one (x:gQ):bf x.c=true:=rfl
theorem gQ.pc (x:gQ):aF x.v=true:=by simp[gQ.v,gQ.c,aF,aR,iG,je,jf,jg,jh,iv,Attr.pc,Book.pc,Def.pc,Entry.pc,Row.pc,ak.pc]
attribute [go_sem] gQ.nr gQ.cells gQ.len gQ.one gQ.pc
structure gT where
 K:Key
 E:Int
 deriving DecidableEq
def gT.c (x:gT):List V:=[.int .i64 x.K.Jm,.int .i64 x.K.iJ,.str x.K.Jo,.int .i64 x.K.From,.int .i64 x.K.To,.int .i64 x.E]
def gT.v (x:gT):V:=.agg x.c
theorem gT.cells (x:gT):((gT.v x).cells)=x.c:=rfl
theorem gT.nr (x:gT):dn x.v=true:=rfl
theorem gT.len (x:gT):x.c.length=6:=rfl
theorem gT.one (x:gT):bf x.c=true:=rfl
theorem gT.pc (x:gT):aF x.v=true:=by simp[gT.v,gT.c,aF,aR,iG,je,jf,jg,jh,iv,Key.pc]
attribute [go_sem] gT.nr gT.cells gT.len gT.one gT.pc
structure gU where
 l:List aJ
 short:Bool
 deriving DecidableEq
def gU.c (x:gU):List V:=[lv aJ.v x.l,.bool x.short]
def gU.v (x:gU):V:=.agg x.c
theorem gU.cells (x:gU):((gU.v x).cells)=x.c:=rfl
theorem gU.nr (x:gU):dn x.v=true:=rfl
theorem gU.len (x:gU):x.c.length=2:=rfl
theorem gU.one (x:gU):bf x.c=true:=rfl
theorem gU.pc (x:gU):aF x.v=true:=by simp[gU.v,gU.c,aF,aR,iG,je,jf,jg,jh,iv,aJ.pc]
attribute [go_sem] gU.nr gU.cells gU.len gU.one gU.pc
structure gu where
 D:aJ
 Ok:Bool
 deriving DecidableEq
def gu.c (x:gu):List V:=[.int .u8 x.D.b0,.int .u8 x.D.b1,.int .u8 x.D.b2,.int .u8 x.D.b3,.int .u8 x.D.b4,.int .u8 x.D.b5,.int .u8 x.D.b6,.int .u8 x.D.b7,.int .u8 x.D.b8,.int .u8 x.D.b9,.int .u8 x.D.b10,.int .u8 x.D.b11,.int .u8 x.D.b12,.int .u8 x.D.b13,.int .u8 x.D.b14,.int .u8 x.D.b15,.bool x.Ok]
def gu.v (x:gu):V:=.agg x.c
theorem gu.cells (x:gu):((gu.v x).cells)=x.c:=rfl
theorem gu.nr (x:gu):dn x.v=true:=rfl
theorem gu.len (x:gu):x.c.length=17:=rfl
theorem gu.one (x:gu):bf x.c=true:=rfl
theorem gu.pc (x:gu):aF x.v=true:=by simp[gu.v,gu.c,aF,aR,iG,je,jf,jg,jh,iv,aJ.pc]
attribute [go_sem] gu.nr gu.cells gu.len gu.one gu.pc
structure gV where
 from_:Int
 to:Int
 deriving DecidableEq
def gV.c (x:gV):List V:=[.int .i64 x.from_,.int .i64 x.to]
def gV.v (x:gV):V:=.agg x.c
theorem gV.cells (x:gV):((gV.v x).cells)=x.c:=rfl
theorem gV.nr (x:gV):dn x.v=true:=rfl
theorem gV.len (x:gV):x.c.length=2:=rfl
theorem gV.one (x:gV):bf x.c=true:=rfl
theorem gV.pc (x:gV):aF x.v=true:=by simp[gV.v,gV.c,aF,aR,iG,je,jf,jg,jh,iv]
attribute [go_sem] gV.nr gV.cells gV.len gV.one gV.pc
@[go_sem] theorem aon:lV Tryz.prog 24=true:=by kernel_rfl
@[go_sem] theorem Qh:Tryz.prog.underlying 24=some (.slice 112):=by kernel_rfl
@[go_sem] theorem aoo:lK Tryz.prog 27 4=some (4,23):=by kernel_rfl
@[go_sem] theorem aop:lK Tryz.prog 27 5=some (20,23):=by kernel_rfl
@[go_sem] theorem aoq:lK Tryz.prog 27 6=some (36,24):=by kernel_rfl
@[go_sem] theorem aor:lK Tryz.prog 27 7=some (37,23):=by kernel_rfl
@[go_sem] theorem aos:lK Tryz.prog 27 9=some (54,23):=by kernel_rfl
@[go_sem] theorem aot:lV Tryz.prog 61=true:=by kernel_rfl
@[go_sem] theorem aou:lV Tryz.prog 65=true:=by kernel_rfl
@[go_sem] theorem aov:lV Tryz.prog 94=true:=by kernel_rfl
@[go_sem] theorem aow:lK Tryz.prog 112 0=some (0,23):=by kernel_rfl
@[go_sem] theorem aox:lK Tryz.prog 112 1=some (16,23):=by kernel_rfl
@[go_sem] theorem aoy:lV Tryz.prog 116=true:=by kernel_rfl
@[go_sem] theorem aJ.YN:∀x:aJ,dJ Tryz.prog 23 x.c 0=some (aJ.v x):=fun x=>by kernel_rfl
@[go_sem] theorem Mark.aoz:∀x:Mark,dJ Tryz.prog 112 x.c 0=some (Mark.v x):=fun x=>by kernel_rfl
@[go_sem] theorem Mark.YN:∀x:Mark,dJ Tryz.prog 23 x.c 0=some (aJ.v x.aO):=fun x=>by kernel_rfl
@[go_sem] theorem Mark.aoA:∀x:Mark,dJ Tryz.prog 23 x.c 16=some (aJ.v x.aT):=fun x=>by kernel_rfl
@[go_sem] theorem Root.aic:∀x:Root,dJ Tryz.prog 23 x.c 4=some (aJ.v x.au):=fun x=>by kernel_rfl
@[go_sem] theorem Root.aie:∀x:Root,dJ Tryz.prog 23 x.c 20=some (aJ.v x.ak):=fun x=>by kernel_rfl
@[go_sem] theorem Root.aif:∀x:Root,dJ Tryz.prog 24 x.c 36=some (lv Mark.v x.Marks):=fun x=>by kernel_rfl
@[go_sem] theorem Root.aii:∀x:Root,dJ Tryz.prog 23 x.c 37=some (aJ.v x.Gone):=fun x=>by kernel_rfl
@[go_sem] theorem Root.aij:∀x:Root,dJ Tryz.prog 23 x.c 54=some (aJ.v x.ay):=fun x=>by kernel_rfl
@[go_sem] theorem dh.aic:∀x:dh,dJ Tryz.prog 23 x.c 4=some (aJ.v x.R.au):=fun x=>by kernel_rfl
@[go_sem] theorem dh.aie:∀x:dh,dJ Tryz.prog 23 x.c 20=some (aJ.v x.R.ak):=fun x=>by kernel_rfl
@[go_sem] theorem dh.aif:∀x:dh,dJ Tryz.prog 24 x.c 36=some (lv Mark.v x.R.Marks):=fun x=>by kernel_rfl
@[go_sem] theorem dh.aii:∀x:dh,dJ Tryz.prog 23 x.c 37=some (aJ.v x.R.Gone):=fun x=>by kernel_rfl
@[go_sem] theorem dh.aij:∀x:dh,dJ Tryz.prog 23 x.c 54=some (aJ.v x.R.ay):=fun x=>by kernel_rfl
@[go_sem] theorem gu.YN:∀x:gu,dJ Tryz.prog 23 x.c 0=some (aJ.v x.D):=fun x=>by kernel_rfl
end Sh
