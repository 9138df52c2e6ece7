/- Part of the proof of a law. -/
import Derived.KernelRfl
import Derived.Test.YteniejlbjfigdaaGreatDoorProg
import Derived.Test.YteniejlbjfigdaaGreatDoorV06
set_option linter.all false
set_option linter.unusedSimpArgs false
set_option linter.unusedSectionVars false
open Go Go.Proofs Aq
namespace Sh
set_option maxRecDepth 100000
structure Def where
 Name:List UInt8
 Kind:Int
 Lo:Int
 Hi:Int
 Words:List (List UInt8)
 deriving DecidableEq
def Def.c (x:Def):List V:=[.str x.Name,.int .i64 x.Kind,.int .i64 x.Lo,.int .i64 x.Hi,lv V.str x.Words]
def Def.v (x:Def):V:=.agg x.c
theorem Def.cells (x:Def):((Def.v x).cells)=x.c:=rfl
theorem Def.nr (x:Def):dW x.v=true:=rfl
theorem Def.eU (x:Def):er x.v=x.v:=rfl
theorem Def.len (x:Def):x.c.length=5:=rfl
theorem Def.one (x:Def):bN x.c=true:=rfl
theorem Def.pc (x:Def):aA x.v=true:=by simp[Def.v,Def.c,aA,bf,jL,jZ,j4,kg,ko,iv]
attribute [go_sem] Def.nr Def.eU Def.cells Def.len Def.one Def.pc
structure aF where
 gq:Int
 iG:Int
 Defs:List Def
 deriving DecidableEq
def aF.c (x:aF):List V:=[.int .i64 x.gq,.int .i64 x.iG,lv Def.v x.Defs]
def aF.v (x:aF):V:=.agg x.c
theorem aF.cells (x:aF):((aF.v x).cells)=x.c:=rfl
theorem aF.nr (x:aF):dW x.v=true:=rfl
theorem aF.eU (x:aF):er x.v=x.v:=rfl
theorem aF.len (x:aF):x.c.length=3:=rfl
theorem aF.one (x:aF):bN x.c=true:=rfl
theorem aF.pc (x:aF):aA x.v=true:=by simp[aF.v,aF.c,aA,bf,jL,jZ,j4,kg,ko,iv,Def.pc]
attribute [go_sem] aF.nr aF.eU aF.cells aF.len aF.one aF.pc
structure Attr where
 Name:List UInt8
 Kind:Int
 N:Int
 S:List UInt8
 deriving DecidableEq
def Attr.c (x:Attr):List V:=[.str x.Name,.int .i64 x.Kind,.int .i64 x.N,.str x.S]
def Attr.v (x:Attr):V:=.agg x.c
theorem Attr.cells (x:Attr):((Attr.v x).cells)=x.c:=rfl
theorem Attr.nr (x:Attr):dW x.v=true:=rfl
theorem Attr.eU (x:Attr):er x.v=x.v:=rfl
theorem Attr.len (x:Attr):x.c.length=4:=rfl
theorem Attr.one (x:Attr):bN x.c=true:=rfl
theorem Attr.pc (x:Attr):aA x.v=true:=by simp[Attr.v,Attr.c,aA,bf,jL,jZ,j4,kg,ko,iv]
attribute [go_sem] Attr.nr Attr.eU Attr.cells Attr.len Attr.one Attr.pc
structure Entry where
 ID:Int
 bU:Int
 dY:Int
 fQ:Int
 From:Int
 To:Int
 dJ:Int
 Vec:List Int
 aI:List Attr
 deriving DecidableEq
def Entry.c (x:Entry):List V:=[.int .i64 x.ID,.int .i64 x.bU,.int .i64 x.dY,.int .i64 x.fQ,.int .i64 x.From,.int .i64 x.To,.int .i64 x.dJ,lv iv x.Vec,lv Attr.v x.aI]
def Entry.v (x:Entry):V:=.agg x.c
theorem Entry.cells (x:Entry):((Entry.v x).cells)=x.c:=rfl
theorem Entry.nr (x:Entry):dW x.v=true:=rfl
theorem Entry.eU (x:Entry):er x.v=x.v:=rfl
theorem Entry.len (x:Entry):x.c.length=9:=rfl
theorem Entry.one (x:Entry):bN x.c=true:=rfl
theorem Entry.pc (x:Entry):aA x.v=true:=by simp[Entry.v,Entry.c,aA,bf,jL,jZ,j4,kg,ko,iv,Attr.pc]
attribute [go_sem] Entry.nr Entry.eU Entry.cells Entry.len Entry.one Entry.pc
structure Row where
 Entry:Entry
 dF:Int
 deriving DecidableEq
def Row.c (x:Row):List V:=[.int .i64 x.Entry.ID,.int .i64 x.Entry.bU,.int .i64 x.Entry.dY,.int .i64 x.Entry.fQ,.int .i64 x.Entry.From,.int .i64 x.Entry.To,.int .i64 x.Entry.dJ,lv iv x.Entry.Vec,lv Attr.v x.Entry.aI,.int .i64 x.dF]
def Row.v (x:Row):V:=.agg x.c
theorem Row.cells (x:Row):((Row.v x).cells)=x.c:=rfl
theorem Row.nr (x:Row):dW x.v=true:=rfl
theorem Row.eU (x:Row):er x.v=x.v:=rfl
theorem Row.len (x:Row):x.c.length=10:=rfl
theorem Row.one (x:Row):bN x.c=true:=rfl
theorem Row.pc (x:Row):aA x.v=true:=by simp[Row.v,Row.c,aA,bf,jL,jZ,j4,kg,ko,iv,Attr.pc,Entry.pc]
attribute [go_sem] Row.nr Row.eU Row.cells Row.len Row.one Row.pc
structure Book where
 aF:aF
 aH:Int
 Day:Int
 dn:List Int
 Rows:List Row
 deriving DecidableEq
def Book.c (x:Book):List V:=[.int .i64 x.aF.gq,.int .i64 x.aF.iG,lv Def.v x.aF.Defs,.int .i64 x.aH,.int .i64 x.Day,lv iv x.dn,lv Row.v x.Rows]
def Book.v (x:Book):V:=.agg x.c
theorem Book.cells (x:Book):((Book.v x).cells)=x.c:=rfl
theorem Book.nr (x:Book):dW x.v=true:=rfl
theorem Book.eU (x:Book):er x.v=x.v:=rfl
theorem Book.len (x:Book):x.c.length=7:=rfl
theorem Book.one (x:Book):bN x.c=true:=rfl
theorem Book.pc (x:Book):aA x.v=true:=by simp[Book.v,Book.c,aA,bf,jL,jZ,j4,kg,ko,iv,Attr.pc,Def.pc,Entry.pc,Row.pc,aF.pc]
attribute [go_sem] Book.nr Book.eU Book.cells Book.len Book.one Book.pc
structure au where
 b0:Int
 b1:Int
 b2:Int
 b3:Int
 b4:Int
 b5:Int
 b6:Int
 b7:Int
 b8:Int
 b9:Int
 b10:Int
 b11:Int
 b12:Int
 b13:Int
 b14:Int
 b15:Int
 deriving DecidableEq
def au.c (x:au):List V:=[.int .u8 x.b0,.int .u8 x.b1,.int .u8 x.b2,.int .u8 x.b3,.int .u8 x.b4,.int .u8 x.b5,.int .u8 x.b6,.int .u8 x.b7,.int .u8 x.b8,.int .u8 x.b9,.int .u8 x.b10,.int .u8 x.b11,.int .u8 x.b12,.int .u8 x.b13,.int .u8 x.b14,.int .u8 x.b15]
def au.v (x:au):V:=.agg x.c
theorem au.cells (x:au):((au.v x).cells)=x.c:=rfl
theorem au.nr (x:au):dW x.v=true:=rfl
theorem au.eU (x:au):er x.v=x.v:=rfl
theorem au.len (x:au):x.c.length=16:=rfl
theorem au.one (x:au):bN x.c=true:=rfl
theorem au.pc (x:au):aA x.v=true:=by simp[au.v,au.c,aA,bf,jL,jZ,j4,kg,ko,iv]
attribute [go_sem] au.nr au.eU au.cells au.len au.one au.pc
structure Gone where
 ID:Int
 bU:Int
 dJ:Int
 dF:Int
 Leaf:au
 deriving DecidableEq
def Gone.c (x:Gone):List V:=[.int .i64 x.ID,.int .i64 x.bU,.int .i64 x.dJ,.int .i64 x.dF,.int .u8 x.Leaf.b0,.int .u8 x.Leaf.b1,.int .u8 x.Leaf.b2,.int .u8 x.Leaf.b3,.int .u8 x.Leaf.b4,.int .u8 x.Leaf.b5,.int .u8 x.Leaf.b6,.int .u8 x.Leaf.b7,.int .u8 x.Leaf.b8,.int .u8 x.Leaf.b9,.int .u8 x.Leaf.b10,.int .u8 x.Leaf.b11,.int .u8 x.Leaf.b12,.int .u8 x.Leaf.b13,.int .u8 x.Leaf.b14,.int .u8 x.Leaf.b15]
def Gone.v (x:Gone):V:=.agg x.c
theorem Gone.cells (x:Gone):((Gone.v x).cells)=x.c:=rfl
theorem Gone.nr (x:Gone):dW x.v=true:=rfl
theorem Gone.eU (x:Gone):er x.v=x.v:=rfl
theorem Gone.len (x:Gone):x.c.length=20:=rfl
theorem Gone.one (x:Gone):bN x.c=true:=rfl
theorem Gone.pc (x:Gone):aA x.v=true:=by simp[Gone.v,Gone.c,aA,bf,jL,jZ,j4,kg,ko,iv,au.pc]
attribute [go_sem] Gone.nr Gone.eU Gone.cells Gone.len Gone.one Gone.pc
structure Pred where
 Op:Int
 Name:List UInt8
 N:Int
 M:Int
 S:List UInt8
 gu:List Pred
mutual
def Pred.vr:Pred→V
 | ⟨a0,a1,a2,a3,a4,a5⟩=>.agg [.int .i64 a0,.str a1,.int .i64 a2,.int .i64 a3,.str a4,.aj .sh (Pred.vl a5)]
def Pred.vl:List Pred→List V
 | []=>[]
 |p::l=>Pred.vr p::Pred.vl l
end
theorem Pred.abo:∀l,Pred.vl l=l.map Pred.vr
 | []=>by simp[Pred.vl]
 |p::l=>by rw[Pred.vl,List.map_cons,←Pred.abo l]
def Pred.c (x:Pred):List V:=[.int .i64 x.Op,.str x.Name,.int .i64 x.N,.int .i64 x.M,.str x.S,.aj .sh (x.gu.map Pred.vr)]
def Pred.v (x:Pred):V:=.agg x.c
theorem Pred.abp:Pred.vr=Pred.v:=by funext x;cases x;simp[Pred.vr,Pred.v,Pred.c,Pred.abo]
theorem Pred.xD (l:List Pred):V.aj .sh (l.map Pred.vr)=lv Pred.v l:=by rw[Pred.abp];rfl
theorem Pred.cells (x:Pred):((Pred.v x).cells)=x.c:=rfl
theorem Pred.nr (x:Pred):dW x.v=true:=rfl
theorem Pred.eU (x:Pred):er x.v=x.v:=rfl
theorem Pred.len (x:Pred):x.c.length=6:=rfl
theorem Pred.one (x:Pred):bN x.c=true:=rfl
theorem Pred.pcr:∀x:Pred,aA x.vr=true:=by
 intro x
 refine Pred.rec (motive_1:=fun x=>aA x.vr=true) (motive_2:=fun l=>bf (Pred.vl l)=true) ?_ ?_ ?_ x
 ·intros;simp_all[Pred.vr,aA,bf,jZ,j4]
 ·simp[Pred.vl,bf]
 ·intro p l h1 h2;simp[Pred.vl,bf,h1,h2]
theorem Pred.pc (x:Pred):aA x.v=true:=by rw[←Pred.abp];exact Pred.pcr x
attribute [go_sem] Pred.nr Pred.eU Pred.cells Pred.len Pred.one Pred.pc Pred.xD
structure Law where
 Name:List UInt8
 Where:Pred
 dn:Int
def Law.c (x:Law):List V:=[.str x.Name,.int .i64 x.Where.Op,.str x.Where.Name,.int .i64 x.Where.N,.int .i64 x.Where.M,.str x.Where.S,.aj .sh (x.Where.gu.map Pred.vr),.int .i64 x.dn]
def Law.v (x:Law):V:=.agg x.c
theorem Law.cells (x:Law):((Law.v x).cells)=x.c:=rfl
theorem Law.nr (x:Law):dW x.v=true:=rfl
theorem Law.eU (x:Law):er x.v=x.v:=rfl
theorem Law.len (x:Law):x.c.length=8:=rfl
theorem Law.one (x:Law):bN x.c=true:=rfl
theorem Law.pc (x:Law):aA x.v=true:=by simp[Law.v,Law.c,aA,bf,jL,jZ,j4,kg,ko,iv,Pred.pc,Pred.xD]
attribute [go_sem] Law.nr Law.eU Law.cells Law.len Law.one Law.pc
structure fF where
 B:Book
 L:List Gone
 E:Int
 deriving DecidableEq
def fF.c (x:fF):List V:=[.int .i64 x.B.aF.gq,.int .i64 x.B.aF.iG,lv Def.v x.B.aF.Defs,.int .i64 x.B.aH,.int .i64 x.B.Day,lv iv x.B.dn,lv Row.v x.B.Rows,lv Gone.v x.L,.int .i64 x.E]
def fF.v (x:fF):V:=.agg x.c
theorem fF.cells (x:fF):((fF.v x).cells)=x.c:=rfl
theorem fF.nr (x:fF):dW x.v=true:=rfl
theorem fF.eU (x:fF):er x.v=x.v:=rfl
theorem fF.len (x:fF):x.c.length=9:=rfl
theorem fF.one (x:fF):bN x.c=true:=rfl
theorem fF.pc (x:fF):aA x.v=true:=by simp[fF.v,fF.c,aA,bf,jL,jZ,j4,kg,ko,iv,Attr.pc,Book.pc,Def.pc,au.pc,Entry.pc,Gone.pc,Row.pc,aF.pc]
attribute [go_sem] fF.nr fF.eU fF.cells fF.len fF.one fF.pc
structure Snapshot where
 Day:Int
 aH:Int
 deriving DecidableEq
def Snapshot.c (x:Snapshot):List V:=[.int .i64 x.Day,.int .i64 x.aH]
def Snapshot.v (x:Snapshot):V:=.agg x.c
theorem Snapshot.cells (x:Snapshot):((Snapshot.v x).cells)=x.c:=rfl
theorem Snapshot.nr (x:Snapshot):dW x.v=true:=rfl
theorem Snapshot.eU (x:Snapshot):er x.v=x.v:=rfl
theorem Snapshot.len (x:Snapshot):x.c.length=2:=rfl
theorem Snapshot.one (x:Snapshot):bN x.c=true:=rfl
theorem Snapshot.pc (x:Snapshot):aA x.v=true:=by simp[Snapshot.v,Snapshot.c,aA,bf,jL,jZ,j4,kg,ko,iv]
attribute [go_sem] Snapshot.nr Snapshot.eU Snapshot.cells Snapshot.len Snapshot.one Snapshot.pc
structure fA where
 L:List au
 E:Int
 deriving DecidableEq
def fA.c (x:fA):List V:=[lv au.v x.L,.int .i64 x.E]
def fA.v (x:fA):V:=.agg x.c
theorem fA.cells (x:fA):((fA.v x).cells)=x.c:=rfl
theorem fA.nr (x:fA):dW x.v=true:=rfl
theorem fA.eU (x:fA):er x.v=x.v:=rfl
theorem fA.len (x:fA):x.c.length=2:=rfl
theorem fA.one (x:fA):bN x.c=true:=rfl
theorem fA.pc (x:fA):aA x.v=true:=by simp[fA.v,fA.c,aA,bf,jL,jZ,j4,kg,ko,iv,au.pc]
attribute [go_sem] fA.nr fA.eU fA.cells fA.len fA.one fA.pc
structure Event where
 Kind:Int
 aH:Int
 Day:Int
 ID:Int
 dY:Int
 Until:Int
 From:Int
 Vec:List Int
 aI:List Attr
 bD:au
 deriving DecidableEq
def Event.c (x:Event):List V:=[.int .i64 x.Kind,.int .i64 x.aH,.int .i64 x.Day,.int .i64 x.ID,.int .i64 x.dY,.int .i64 x.Until,.int .i64 x.From,lv iv x.Vec,lv Attr.v x.aI,.int .u8 x.bD.b0,.int .u8 x.bD.b1,.int .u8 x.bD.b2,.int .u8 x.bD.b3,.int .u8 x.bD.b4,.int .u8 x.bD.b5,.int .u8 x.bD.b6,.int .u8 x.bD.b7,.int .u8 x.bD.b8,.int .u8 x.bD.b9,.int .u8 x.bD.b10,.int .u8 x.bD.b11,.int .u8 x.bD.b12,.int .u8 x.bD.b13,.int .u8 x.bD.b14,.int .u8 x.bD.b15]
def Event.v (x:Event):V:=.agg x.c
theorem Event.cells (x:Event):((Event.v x).cells)=x.c:=rfl
theorem Event.nr (x:Event):dW x.v=true:=rfl
theorem Event.eU (x:Event):er x.v=x.v:=rfl
theorem Event.len (x:Event):x.c.length=25:=rfl
theorem Event.one (x:Event):bN x.c=true:=rfl
theorem Event.pc (x:Event):aA x.v=true:=by simp[Event.v,Event.c,aA,bf,jL,jZ,j4,kg,ko,iv,Attr.pc,au.pc]
attribute [go_sem] Event.nr Event.eU Event.cells Event.len Event.one Event.pc
structure Query where
 Vec:List Int
 K:Int
 Within:Int
 Where:Pred
 At:Snapshot
 Budget:Int
def Query.c (x:Query):List V:=[lv iv x.Vec,.int .i64 x.K,.int .i64 x.Within,.int .i64 x.Where.Op,.str x.Where.Name,.int .i64 x.Where.N,.int .i64 x.Where.M,.str x.Where.S,.aj .sh (x.Where.gu.map Pred.vr),.int .i64 x.At.Day,.int .i64 x.At.aH,.int .i64 x.Budget]
def Query.v (x:Query):V:=.agg x.c
theorem Query.cells (x:Query):((Query.v x).cells)=x.c:=rfl
theorem Query.nr (x:Query):dW x.v=true:=rfl
theorem Query.eU (x:Query):er x.v=x.v:=rfl
theorem Query.len (x:Query):x.c.length=12:=rfl
theorem Query.one (x:Query):bN x.c=true:=rfl
theorem Query.pc (x:Query):aA x.v=true:=by simp[Query.v,Query.c,aA,bf,jL,jZ,j4,kg,ko,iv,Pred.pc,Snapshot.pc,Pred.xD]
attribute [go_sem] Query.nr Query.eU Query.cells Query.len Query.one Query.pc
structure iH where
 ID:Int
 bU:Int
 Key:Int
 deriving DecidableEq
def iH.c (x:iH):List V:=[.int .i64 x.ID,.int .i64 x.bU,.int .i64 x.Key]
def iH.v (x:iH):V:=.agg x.c
theorem iH.cells (x:iH):((iH.v x).cells)=x.c:=rfl
theorem iH.nr (x:iH):dW x.v=true:=rfl
theorem iH.eU (x:iH):er x.v=x.v:=rfl
theorem iH.len (x:iH):x.c.length=3:=rfl
theorem iH.one (x:iH):bN x.c=true:=rfl
theorem iH.pc (x:iH):aA x.v=true:=by simp[iH.v,iH.c,aA,bf,jL,jZ,j4,kg,ko,iv]
attribute [go_sem] iH.nr iH.eU iH.cells iH.len iH.one iH.pc
structure dH where
 B:Book
 N:Int
 E:Int
 deriving DecidableEq
def dH.c (x:dH):List V:=[.int .i64 x.B.aF.gq,.int .i64 x.B.aF.iG,lv Def.v x.B.aF.Defs,.int .i64 x.B.aH,.int .i64 x.B.Day,lv iv x.B.dn,lv Row.v x.B.Rows,.int .i64 x.N,.int .i64 x.E]
def dH.v (x:dH):V:=.agg x.c
theorem dH.cells (x:dH):((dH.v x).cells)=x.c:=rfl
theorem dH.nr (x:dH):dW x.v=true:=rfl
theorem dH.eU (x:dH):er x.v=x.v:=rfl
theorem dH.len (x:dH):x.c.length=9:=rfl
theorem dH.one (x:dH):bN x.c=true:=rfl
theorem dH.pc (x:dH):aA x.v=true:=by simp[dH.v,dH.c,aA,bf,jL,jZ,j4,kg,ko,iv,Attr.pc,Book.pc,Def.pc,Entry.pc,Row.pc,aF.pc]
attribute [go_sem] dH.nr dH.eU dH.cells dH.len dH.one dH.pc
structure gF where
 L:List au
 E:Int
 deriving DecidableEq
def gF.c (x:gF):List V:=[lv au.v x.L,.int .i64 x.E]
def gF.v (x:gF):V:=.agg x.c
theorem gF.cells (x:gF):((gF.v x).cells)=x.c:=rfl
theorem gF.nr (x:gF):dW x.v=true:=rfl
theorem gF.eU (x:gF):er x.v=x.v:=rfl
theorem gF.len (x:gF):x.c.length=2:=rfl
theorem gF.one (x:gF):bN x.c=true:=rfl
theorem gF.pc (x:gF):aA x.v=true:=by simp[gF.v,gF.c,aA,bf,jL,jZ,j4,kg,ko,iv,au.pc]
attribute [go_sem] gF.nr gF.eU gF.cells gF.len gF.one gF.pc
structure aU where
 B:Book
 E:Int
 deriving DecidableEq
def aU.c (x:aU):List V:=[.int .i64 x.B.aF.gq,.int .i64 x.B.aF.iG,lv Def.v x.B.aF.Defs,.int .i64 x.B.aH,.int .i64 x.B.Day,lv iv x.B.dn,lv Row.v x.B.Rows,.int .i64 x.E]
def aU.v (x:aU):V:=.agg x.c
theorem aU.cells (x:aU):((aU.v x).cells)=x.c:=rfl
theorem aU.nr (x:aU):dW x.v=true:=rfl
theorem aU.eU (x:aU):er x.v=x.v:=rfl
theorem aU.len (x:aU):x.c.length=8:=rfl
theorem aU.one (x:aU):bN x.c=true:=rfl
theorem aU.pc (x:aU):aA x.v=true:=by simp[aU.v,aU.c,aA,bf,jL,jZ,j4,kg,ko,iv,Attr.pc,Book.pc,Def.pc,Entry.pc,Row.pc,aF.pc]
attribute [go_sem] aU.nr aU.eU aU.cells aU.len aU.one aU.pc
structure iI where
 l:List au
 short:Bool
 deriving DecidableEq
def iI.c (x:iI):List V:=[lv au.v x.l,.bool x.short]
def iI.v (x:iI):V:=.agg x.c
theorem iI.cells (x:iI):((iI.v x).cells)=x.c:=rfl
theorem iI.nr (x:iI):dW x.v=true:=rfl
theorem iI.eU (x:iI):er x.v=x.v:=rfl
theorem iI.len (x:iI):x.c.length=2:=rfl
theorem iI.one (x:iI):bN x.c=true:=rfl
theorem iI.pc (x:iI):aA x.v=true:=by simp[iI.v,iI.c,aA,bf,jL,jZ,j4,kg,ko,iv,au.pc]
attribute [go_sem] iI.nr iI.eU iI.cells iI.len iI.one iI.pc
structure iJ where
 A:Attr
 Is:Bool
 deriving DecidableEq
def iJ.c (x:iJ):List V:=[.str x.A.Name,.int .i64 x.A.Kind,.int .i64 x.A.N,.str x.A.S,.bool x.Is]
def iJ.v (x:iJ):V:=.agg x.c
theorem iJ.cells (x:iJ):((iJ.v x).cells)=x.c:=rfl
theorem iJ.nr (x:iJ):dW x.v=true:=rfl
theorem iJ.eU (x:iJ):er x.v=x.v:=rfl
theorem iJ.len (x:iJ):x.c.length=5:=rfl
theorem iJ.one (x:iJ):bN x.c=true:=rfl
theorem iJ.pc (x:iJ):aA x.v=true:=by simp[iJ.v,iJ.c,aA,bf,jL,jZ,j4,kg,ko,iv,Attr.pc]
attribute [go_sem] iJ.nr iJ.eU iJ.cells iJ.len iJ.one iJ.pc
structure bQ where
 from_:Int
 to:Int
 deriving DecidableEq
def bQ.c (x:bQ):List V:=[.int .i64 x.from_,.int .i64 x.to]
def bQ.v (x:bQ):V:=.agg x.c
theorem bQ.cells (x:bQ):((bQ.v x).cells)=x.c:=rfl
theorem bQ.nr (x:bQ):dW x.v=true:=rfl
theorem bQ.eU (x:bQ):er x.v=x.v:=rfl
theorem bQ.len (x:bQ):x.c.length=2:=rfl
theorem bQ.one (x:bQ):bN x.c=true:=rfl
theorem bQ.pc (x:bQ):aA x.v=true:=by simp[bQ.v,bQ.c,aA,bf,jL,jZ,j4,kg,ko,iv]
attribute [go_sem] bQ.nr bQ.eU bQ.cells bQ.len bQ.one bQ.pc
@[go_sem] theorem awQ:nV Tryz.prog 27=true:=by kernel_rfl
@[go_sem] theorem awR:nV Tryz.prog 47=true:=by kernel_rfl
@[go_sem] theorem awS:tX Tryz.prog 49 5=some (5,47):=by kernel_rfl
@[go_sem] theorem awT:bX Tryz.prog 70=some 1:=by kernel_rfl
@[go_sem] theorem awU:iK Tryz.prog 70=some false:=by kernel_rfl
@[go_sem] theorem awV:nV Tryz.prog 70=true:=by kernel_rfl
@[go_sem] theorem awW:nV Tryz.prog 124=true:=by kernel_rfl
@[go_sem] theorem Pred.awX:∀x:Pred,gB Tryz.prog 49 x.c 0=some (Pred.v x):=fun x=>by kernel_rfl
@[go_sem] theorem Pred.awY:∀x:Pred,gB Tryz.prog 47 x.c 5=some (lv Pred.v x.gu):=fun x=>by rw[←Pred.xD];kernel_rfl
end Sh
