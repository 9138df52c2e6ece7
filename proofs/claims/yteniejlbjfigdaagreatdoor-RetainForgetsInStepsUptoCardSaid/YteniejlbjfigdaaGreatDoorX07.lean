/- Part of the proof of a law. -/
import Derived.KernelRfl
import Derived.Test.YteniejlbjfigdaaGreatDoorProg
import Derived.Test.YteniejlbjfigdaaGreatDoorX06
set_option linter.all false
set_option linter.unusedSimpArgs false
set_option linter.unusedSectionVars false
open Go Go.Proofs Aq
namespace Sh
set_option maxRecDepth 100000
structure Def where
 Name:List UInt8
 Kind:Int
 Lo:Int
 Hi:Int
 Words:List (List UInt8)
 deriving DecidableEq
def Def.c (x:Def):List V:=[.str x.Name,.int .i64 x.Kind,.int .i64 x.Lo,.int .i64 x.Hi,lv V.str x.Words]
def Def.v (x:Def):V:=.agg x.c
theorem Def.cells (x:Def):((Def.v x).cells)=x.c:=rfl
theorem Def.nr (x:Def):dN x.v=true:=rfl
theorem Def.eH (x:Def):er x.v=x.v:=rfl
theorem Def.len (x:Def):x.c.length=5:=rfl
theorem Def.one (x:Def):bL x.c=true:=rfl
theorem Def.pc (x:Def):aC x.v=true:=by simp[Def.v,Def.c,aC,aX,jk,jC,jD,jH,jI,iv]
attribute [go_sem] Def.nr Def.eH Def.cells Def.len Def.one Def.pc
structure aD where
 fF:Int
 gB:Int
 Defs:List Def
 deriving DecidableEq
def aD.c (x:aD):List V:=[.int .i64 x.fF,.int .i64 x.gB,lv Def.v x.Defs]
def aD.v (x:aD):V:=.agg x.c
theorem aD.cells (x:aD):((aD.v x).cells)=x.c:=rfl
theorem aD.nr (x:aD):dN x.v=true:=rfl
theorem aD.eH (x:aD):er x.v=x.v:=rfl
theorem aD.len (x:aD):x.c.length=3:=rfl
theorem aD.one (x:aD):bL x.c=true:=rfl
theorem aD.pc (x:aD):aC x.v=true:=by simp[aD.v,aD.c,aC,aX,jk,jC,jD,jH,jI,iv,Def.pc]
attribute [go_sem] aD.nr aD.eH aD.cells aD.len aD.one aD.pc
structure Attr where
 Name:List UInt8
 Kind:Int
 N:Int
 S:List UInt8
 deriving DecidableEq
def Attr.c (x:Attr):List V:=[.str x.Name,.int .i64 x.Kind,.int .i64 x.N,.str x.S]
def Attr.v (x:Attr):V:=.agg x.c
theorem Attr.cells (x:Attr):((Attr.v x).cells)=x.c:=rfl
theorem Attr.nr (x:Attr):dN x.v=true:=rfl
theorem Attr.eH (x:Attr):er x.v=x.v:=rfl
theorem Attr.len (x:Attr):x.c.length=4:=rfl
theorem Attr.one (x:Attr):bL x.c=true:=rfl
theorem Attr.pc (x:Attr):aC x.v=true:=by simp[Attr.v,Attr.c,aC,aX,jk,jC,jD,jH,jI,iv]
attribute [go_sem] Attr.nr Attr.eH Attr.cells Attr.len Attr.one Attr.pc
structure Entry where
 ID:Int
 eG:Int
 eU:Int
 gQ:Int
 From:Int
 To:Int
 fM:Int
 Vec:List Int
 aM:List Attr
 deriving DecidableEq
def Entry.c (x:Entry):List V:=[.int .i64 x.ID,.int .i64 x.eG,.int .i64 x.eU,.int .i64 x.gQ,.int .i64 x.From,.int .i64 x.To,.int .i64 x.fM,lv iv x.Vec,lv Attr.v x.aM]
def Entry.v (x:Entry):V:=.agg x.c
theorem Entry.cells (x:Entry):((Entry.v x).cells)=x.c:=rfl
theorem Entry.nr (x:Entry):dN x.v=true:=rfl
theorem Entry.eH (x:Entry):er x.v=x.v:=rfl
theorem Entry.len (x:Entry):x.c.length=9:=rfl
theorem Entry.one (x:Entry):bL x.c=true:=rfl
theorem Entry.pc (x:Entry):aC x.v=true:=by simp[Entry.v,Entry.c,aC,aX,jk,jC,jD,jH,jI,iv,Attr.pc]
attribute [go_sem] Entry.nr Entry.eH Entry.cells Entry.len Entry.one Entry.pc
structure Row where
 Entry:Entry
 cO:Int
 deriving DecidableEq
def Row.c (x:Row):List V:=[.int .i64 x.Entry.ID,.int .i64 x.Entry.eG,.int .i64 x.Entry.eU,.int .i64 x.Entry.gQ,.int .i64 x.Entry.From,.int .i64 x.Entry.To,.int .i64 x.Entry.fM,lv iv x.Entry.Vec,lv Attr.v x.Entry.aM,.int .i64 x.cO]
def Row.v (x:Row):V:=.agg x.c
theorem Row.cells (x:Row):((Row.v x).cells)=x.c:=rfl
theorem Row.nr (x:Row):dN x.v=true:=rfl
theorem Row.eH (x:Row):er x.v=x.v:=rfl
theorem Row.len (x:Row):x.c.length=10:=rfl
theorem Row.one (x:Row):bL x.c=true:=rfl
theorem Row.pc (x:Row):aC x.v=true:=by simp[Row.v,Row.c,aC,aX,jk,jC,jD,jH,jI,iv,Attr.pc,Entry.pc]
attribute [go_sem] Row.nr Row.eH Row.cells Row.len Row.one Row.pc
structure Book where
 aD:aD
 aH:Int
 Day:Int
 bV:List Int
 Rows:List Row
 deriving DecidableEq
def Book.c (x:Book):List V:=[.int .i64 x.aD.fF,.int .i64 x.aD.gB,lv Def.v x.aD.Defs,.int .i64 x.aH,.int .i64 x.Day,lv iv x.bV,lv Row.v x.Rows]
def Book.v (x:Book):V:=.agg x.c
theorem Book.cells (x:Book):((Book.v x).cells)=x.c:=rfl
theorem Book.nr (x:Book):dN x.v=true:=rfl
theorem Book.eH (x:Book):er x.v=x.v:=rfl
theorem Book.len (x:Book):x.c.length=7:=rfl
theorem Book.one (x:Book):bL x.c=true:=rfl
theorem Book.pc (x:Book):aC x.v=true:=by simp[Book.v,Book.c,aC,aX,jk,jC,jD,jH,jI,iv,Attr.pc,Def.pc,Entry.pc,Row.pc,aD.pc]
attribute [go_sem] Book.nr Book.eH Book.cells Book.len Book.one Book.pc
structure dK where
 b0:Int
 b1:Int
 b2:Int
 b3:Int
 b4:Int
 b5:Int
 b6:Int
 b7:Int
 b8:Int
 b9:Int
 b10:Int
 b11:Int
 b12:Int
 b13:Int
 b14:Int
 b15:Int
 deriving DecidableEq
def dK.c (x:dK):List V:=[.int .u8 x.b0,.int .u8 x.b1,.int .u8 x.b2,.int .u8 x.b3,.int .u8 x.b4,.int .u8 x.b5,.int .u8 x.b6,.int .u8 x.b7,.int .u8 x.b8,.int .u8 x.b9,.int .u8 x.b10,.int .u8 x.b11,.int .u8 x.b12,.int .u8 x.b13,.int .u8 x.b14,.int .u8 x.b15]
def dK.v (x:dK):V:=.agg x.c
theorem dK.cells (x:dK):((dK.v x).cells)=x.c:=rfl
theorem dK.nr (x:dK):dN x.v=true:=rfl
theorem dK.eH (x:dK):er x.v=x.v:=rfl
theorem dK.len (x:dK):x.c.length=16:=rfl
theorem dK.one (x:dK):bL x.c=true:=rfl
theorem dK.pc (x:dK):aC x.v=true:=by simp[dK.v,dK.c,aC,aX,jk,jC,jD,jH,jI,iv]
attribute [go_sem] dK.nr dK.eH dK.cells dK.len dK.one dK.pc
structure Gone where
 ID:Int
 eG:Int
 fM:Int
 cO:Int
 Leaf:dK
 deriving DecidableEq
def Gone.c (x:Gone):List V:=[.int .i64 x.ID,.int .i64 x.eG,.int .i64 x.fM,.int .i64 x.cO,.int .u8 x.Leaf.b0,.int .u8 x.Leaf.b1,.int .u8 x.Leaf.b2,.int .u8 x.Leaf.b3,.int .u8 x.Leaf.b4,.int .u8 x.Leaf.b5,.int .u8 x.Leaf.b6,.int .u8 x.Leaf.b7,.int .u8 x.Leaf.b8,.int .u8 x.Leaf.b9,.int .u8 x.Leaf.b10,.int .u8 x.Leaf.b11,.int .u8 x.Leaf.b12,.int .u8 x.Leaf.b13,.int .u8 x.Leaf.b14,.int .u8 x.Leaf.b15]
def Gone.v (x:Gone):V:=.agg x.c
theorem Gone.cells (x:Gone):((Gone.v x).cells)=x.c:=rfl
theorem Gone.nr (x:Gone):dN x.v=true:=rfl
theorem Gone.eH (x:Gone):er x.v=x.v:=rfl
theorem Gone.len (x:Gone):x.c.length=20:=rfl
theorem Gone.one (x:Gone):bL x.c=true:=rfl
theorem Gone.pc (x:Gone):aC x.v=true:=by simp[Gone.v,Gone.c,aC,aX,jk,jC,jD,jH,jI,iv,dK.pc]
attribute [go_sem] Gone.nr Gone.eH Gone.cells Gone.len Gone.one Gone.pc
structure Pred where
 Op:Int
 Name:List UInt8
 N:Int
 M:Int
 S:List UInt8
 bS:List Pred
mutual
def Pred.vr:Pred→V
 | ⟨a0,a1,a2,a3,a4,a5⟩=>.agg [.int .i64 a0,.str a1,.int .i64 a2,.int .i64 a3,.str a4,.ak .sh (Pred.vl a5)]
def Pred.vl:List Pred→List V
 | []=>[]
 |p::l=>Pred.vr p::Pred.vl l
end
theorem Pred.Wt:∀l,Pred.vl l=l.map Pred.vr
 | []=>by simp[Pred.vl]
 |p::l=>by rw[Pred.vl,List.map_cons,←Pred.Wt l]
def Pred.c (x:Pred):List V:=[.int .i64 x.Op,.str x.Name,.int .i64 x.N,.int .i64 x.M,.str x.S,.ak .sh (x.bS.map Pred.vr)]
def Pred.v (x:Pred):V:=.agg x.c
theorem Pred.Wu:Pred.vr=Pred.v:=by funext x;cases x;simp[Pred.vr,Pred.v,Pred.c,Pred.Wt]
theorem Pred.uZ (l:List Pred):V.ak .sh (l.map Pred.vr)=lv Pred.v l:=by rw[Pred.Wu];rfl
theorem Pred.cells (x:Pred):((Pred.v x).cells)=x.c:=rfl
theorem Pred.nr (x:Pred):dN x.v=true:=rfl
theorem Pred.eH (x:Pred):er x.v=x.v:=rfl
theorem Pred.len (x:Pred):x.c.length=6:=rfl
theorem Pred.one (x:Pred):bL x.c=true:=rfl
theorem Pred.pcr:∀x:Pred,aC x.vr=true:=by
 intro x
 refine Pred.rec (motive_1:=fun x=>aC x.vr=true) (motive_2:=fun l=>aX (Pred.vl l)=true) ?_ ?_ ?_ x
 ·intros;simp_all[Pred.vr,aC,aX,jC,jD]
 ·simp[Pred.vl,aX]
 ·intro p l h1 h2;simp[Pred.vl,aX,h1,h2]
theorem Pred.pc (x:Pred):aC x.v=true:=by rw[←Pred.Wu];exact Pred.pcr x
attribute [go_sem] Pred.nr Pred.eH Pred.cells Pred.len Pred.one Pred.pc Pred.uZ
structure Law where
 Name:List UInt8
 Where:Pred
 bV:Int
def Law.c (x:Law):List V:=[.str x.Name,.int .i64 x.Where.Op,.str x.Where.Name,.int .i64 x.Where.N,.int .i64 x.Where.M,.str x.Where.S,.ak .sh (x.Where.bS.map Pred.vr),.int .i64 x.bV]
def Law.v (x:Law):V:=.agg x.c
theorem Law.cells (x:Law):((Law.v x).cells)=x.c:=rfl
theorem Law.nr (x:Law):dN x.v=true:=rfl
theorem Law.eH (x:Law):er x.v=x.v:=rfl
theorem Law.len (x:Law):x.c.length=8:=rfl
theorem Law.one (x:Law):bL x.c=true:=rfl
theorem Law.pc (x:Law):aC x.v=true:=by simp[Law.v,Law.c,aC,aX,jk,jC,jD,jH,jI,iv,Pred.pc,Pred.uZ]
attribute [go_sem] Law.nr Law.eH Law.cells Law.len Law.one Law.pc
structure gH where
 B:Book
 L:List Gone
 E:Int
 deriving DecidableEq
def gH.c (x:gH):List V:=[.int .i64 x.B.aD.fF,.int .i64 x.B.aD.gB,lv Def.v x.B.aD.Defs,.int .i64 x.B.aH,.int .i64 x.B.Day,lv iv x.B.bV,lv Row.v x.B.Rows,lv Gone.v x.L,.int .i64 x.E]
def gH.v (x:gH):V:=.agg x.c
theorem gH.cells (x:gH):((gH.v x).cells)=x.c:=rfl
theorem gH.nr (x:gH):dN x.v=true:=rfl
theorem gH.eH (x:gH):er x.v=x.v:=rfl
theorem gH.len (x:gH):x.c.length=9:=rfl
theorem gH.one (x:gH):bL x.c=true:=rfl
theorem gH.pc (x:gH):aC x.v=true:=by simp[gH.v,gH.c,aC,aX,jk,jC,jD,jH,jI,iv,Attr.pc,Book.pc,Def.pc,dK.pc,Entry.pc,Gone.pc,Row.pc,aD.pc]
attribute [go_sem] gH.nr gH.eH gH.cells gH.len gH.one gH.pc
structure Snapshot where
 Day:Int
 aH:Int
 deriving DecidableEq
def Snapshot.c (x:Snapshot):List V:=[.int .i64 x.Day,.int .i64 x.aH]
def Snapshot.v (x:Snapshot):V:=.agg x.c
theorem Snapshot.cells (x:Snapshot):((Snapshot.v x).cells)=x.c:=rfl
theorem Snapshot.nr (x:Snapshot):dN x.v=true:=rfl
theorem Snapshot.eH (x:Snapshot):er x.v=x.v:=rfl
theorem Snapshot.len (x:Snapshot):x.c.length=2:=rfl
theorem Snapshot.one (x:Snapshot):bL x.c=true:=rfl
theorem Snapshot.pc (x:Snapshot):aC x.v=true:=by simp[Snapshot.v,Snapshot.c,aC,aX,jk,jC,jD,jH,jI,iv]
attribute [go_sem] Snapshot.nr Snapshot.eH Snapshot.cells Snapshot.len Snapshot.one Snapshot.pc
structure gI where
 L:List dK
 E:Int
 deriving DecidableEq
def gI.c (x:gI):List V:=[lv dK.v x.L,.int .i64 x.E]
def gI.v (x:gI):V:=.agg x.c
theorem gI.cells (x:gI):((gI.v x).cells)=x.c:=rfl
theorem gI.nr (x:gI):dN x.v=true:=rfl
theorem gI.eH (x:gI):er x.v=x.v:=rfl
theorem gI.len (x:gI):x.c.length=2:=rfl
theorem gI.one (x:gI):bL x.c=true:=rfl
theorem gI.pc (x:gI):aC x.v=true:=by simp[gI.v,gI.c,aC,aX,jk,jC,jD,jH,jI,iv,dK.pc]
attribute [go_sem] gI.nr gI.eH gI.cells gI.len gI.one gI.pc
structure Event where
 Kind:Int
 aH:Int
 Day:Int
 ID:Int
 eU:Int
 Until:Int
 From:Int
 Vec:List Int
 aM:List Attr
 bg:dK
 deriving DecidableEq
def Event.c (x:Event):List V:=[.int .i64 x.Kind,.int .i64 x.aH,.int .i64 x.Day,.int .i64 x.ID,.int .i64 x.eU,.int .i64 x.Until,.int .i64 x.From,lv iv x.Vec,lv Attr.v x.aM,.int .u8 x.bg.b0,.int .u8 x.bg.b1,.int .u8 x.bg.b2,.int .u8 x.bg.b3,.int .u8 x.bg.b4,.int .u8 x.bg.b5,.int .u8 x.bg.b6,.int .u8 x.bg.b7,.int .u8 x.bg.b8,.int .u8 x.bg.b9,.int .u8 x.bg.b10,.int .u8 x.bg.b11,.int .u8 x.bg.b12,.int .u8 x.bg.b13,.int .u8 x.bg.b14,.int .u8 x.bg.b15]
def Event.v (x:Event):V:=.agg x.c
theorem Event.cells (x:Event):((Event.v x).cells)=x.c:=rfl
theorem Event.nr (x:Event):dN x.v=true:=rfl
theorem Event.eH (x:Event):er x.v=x.v:=rfl
theorem Event.len (x:Event):x.c.length=25:=rfl
theorem Event.one (x:Event):bL x.c=true:=rfl
theorem Event.pc (x:Event):aC x.v=true:=by simp[Event.v,Event.c,aC,aX,jk,jC,jD,jH,jI,iv,Attr.pc,dK.pc]
attribute [go_sem] Event.nr Event.eH Event.cells Event.len Event.one Event.pc
structure Query where
 Vec:List Int
 K:Int
 Within:Int
 Where:Pred
 At:Snapshot
 Budget:Int
def Query.c (x:Query):List V:=[lv iv x.Vec,.int .i64 x.K,.int .i64 x.Within,.int .i64 x.Where.Op,.str x.Where.Name,.int .i64 x.Where.N,.int .i64 x.Where.M,.str x.Where.S,.ak .sh (x.Where.bS.map Pred.vr),.int .i64 x.At.Day,.int .i64 x.At.aH,.int .i64 x.Budget]
def Query.v (x:Query):V:=.agg x.c
theorem Query.cells (x:Query):((Query.v x).cells)=x.c:=rfl
theorem Query.nr (x:Query):dN x.v=true:=rfl
theorem Query.eH (x:Query):er x.v=x.v:=rfl
theorem Query.len (x:Query):x.c.length=12:=rfl
theorem Query.one (x:Query):bL x.c=true:=rfl
theorem Query.pc (x:Query):aC x.v=true:=by simp[Query.v,Query.c,aC,aX,jk,jC,jD,jH,jI,iv,Pred.pc,Snapshot.pc,Pred.uZ]
attribute [go_sem] Query.nr Query.eH Query.cells Query.len Query.one Query.pc
structure gJ where
 ID:Int
 eG:Int
 Key:Int
 deriving DecidableEq
def gJ.c (x:gJ):List V:=[.int .i64 x.ID,.int .i64 x.eG,.int .i64 x.Key]
def gJ.v (x:gJ):V:=.agg x.c
theorem gJ.cells (x:gJ):((gJ.v x).cells)=x.c:=rfl
theorem gJ.nr (x:gJ):dN x.v=true:=rfl
theorem gJ.eH (x:gJ):er x.v=x.v:=rfl
theorem gJ.len (x:gJ):x.c.length=3:=rfl
theorem gJ.one (x:gJ):bL x.c=true:=rfl
theorem gJ.pc (x:gJ):aC x.v=true:=by simp[gJ.v,gJ.c,aC,aX,jk,jC,jD,jH,jI,iv]
attribute [go_sem] gJ.nr gJ.eH gJ.cells gJ.len gJ.one gJ.pc
structure dI where
 B:Book
 N:Int
 E:Int
 deriving DecidableEq
def dI.c (x:dI):List V:=[.int .i64 x.B.aD.fF,.int .i64 x.B.aD.gB,lv Def.v x.B.aD.Defs,.int .i64 x.B.aH,.int .i64 x.B.Day,lv iv x.B.bV,lv Row.v x.B.Rows,.int .i64 x.N,.int .i64 x.E]
def dI.v (x:dI):V:=.agg x.c
theorem dI.cells (x:dI):((dI.v x).cells)=x.c:=rfl
theorem dI.nr (x:dI):dN x.v=true:=rfl
theorem dI.eH (x:dI):er x.v=x.v:=rfl
theorem dI.len (x:dI):x.c.length=9:=rfl
theorem dI.one (x:dI):bL x.c=true:=rfl
theorem dI.pc (x:dI):aC x.v=true:=by simp[dI.v,dI.c,aC,aX,jk,jC,jD,jH,jI,iv,Attr.pc,Book.pc,Def.pc,Entry.pc,Row.pc,aD.pc]
attribute [go_sem] dI.nr dI.eH dI.cells dI.len dI.one dI.pc
structure gK where
 L:List dK
 E:Int
 deriving DecidableEq
def gK.c (x:gK):List V:=[lv dK.v x.L,.int .i64 x.E]
def gK.v (x:gK):V:=.agg x.c
theorem gK.cells (x:gK):((gK.v x).cells)=x.c:=rfl
theorem gK.nr (x:gK):dN x.v=true:=rfl
theorem gK.eH (x:gK):er x.v=x.v:=rfl
theorem gK.len (x:gK):x.c.length=2:=rfl
theorem gK.one (x:gK):bL x.c=true:=rfl
theorem gK.pc (x:gK):aC x.v=true:=by simp[gK.v,gK.c,aC,aX,jk,jC,jD,jH,jI,iv,dK.pc]
attribute [go_sem] gK.nr gK.eH gK.cells gK.len gK.one gK.pc
structure aY where
 B:Book
 E:Int
 deriving DecidableEq
def aY.c (x:aY):List V:=[.int .i64 x.B.aD.fF,.int .i64 x.B.aD.gB,lv Def.v x.B.aD.Defs,.int .i64 x.B.aH,.int .i64 x.B.Day,lv iv x.B.bV,lv Row.v x.B.Rows,.int .i64 x.E]
def aY.v (x:aY):V:=.agg x.c
theorem aY.cells (x:aY):((aY.v x).cells)=x.c:=rfl
theorem aY.nr (x:aY):dN x.v=true:=rfl
theorem aY.eH (x:aY):er x.v=x.v:=rfl
theorem aY.len (x:aY):x.c.length=8:=rfl
theorem aY.one (x:aY):bL x.c=true:=rfl
theorem aY.pc (x:aY):aC x.v=true:=by simp[aY.v,aY.c,aC,aX,jk,jC,jD,jH,jI,iv,Attr.pc,Book.pc,Def.pc,Entry.pc,Row.pc,aD.pc]
attribute [go_sem] aY.nr aY.eH aY.cells aY.len aY.one aY.pc
structure gL where
 l:List dK
 short:Bool
 deriving DecidableEq
def gL.c (x:gL):List V:=[lv dK.v x.l,.bool x.short]
def gL.v (x:gL):V:=.agg x.c
theorem gL.cells (x:gL):((gL.v x).cells)=x.c:=rfl
theorem gL.nr (x:gL):dN x.v=true:=rfl
theorem gL.eH (x:gL):er x.v=x.v:=rfl
theorem gL.len (x:gL):x.c.length=2:=rfl
theorem gL.one (x:gL):bL x.c=true:=rfl
theorem gL.pc (x:gL):aC x.v=true:=by simp[gL.v,gL.c,aC,aX,jk,jC,jD,jH,jI,iv,dK.pc]
attribute [go_sem] gL.nr gL.eH gL.cells gL.len gL.one gL.pc
structure gM where
 A:Attr
 Is:Bool
 deriving DecidableEq
def gM.c (x:gM):List V:=[.str x.A.Name,.int .i64 x.A.Kind,.int .i64 x.A.N,.str x.A.S,.bool x.Is]
def gM.v (x:gM):V:=.agg x.c
theorem gM.cells (x:gM):((gM.v x).cells)=x.c:=rfl
theorem gM.nr (x:gM):dN x.v=true:=rfl
theorem gM.eH (x:gM):er x.v=x.v:=rfl
theorem gM.len (x:gM):x.c.length=5:=rfl
theorem gM.one (x:gM):bL x.c=true:=rfl
theorem gM.pc (x:gM):aC x.v=true:=by simp[gM.v,gM.c,aC,aX,jk,jC,jD,jH,jI,iv,Attr.pc]
attribute [go_sem] gM.nr gM.eH gM.cells gM.len gM.one gM.pc
structure bT where
 from_:Int
 to:Int
 deriving DecidableEq
def bT.c (x:bT):List V:=[.int .i64 x.from_,.int .i64 x.to]
def bT.v (x:bT):V:=.agg x.c
theorem bT.cells (x:bT):((bT.v x).cells)=x.c:=rfl
theorem bT.nr (x:bT):dN x.v=true:=rfl
theorem bT.eH (x:bT):er x.v=x.v:=rfl
theorem bT.len (x:bT):x.c.length=2:=rfl
theorem bT.one (x:bT):bL x.c=true:=rfl
theorem bT.pc (x:bT):aC x.v=true:=by simp[bT.v,bT.c,aC,aX,jk,jC,jD,jH,jI,iv]
attribute [go_sem] bT.nr bT.eH bT.cells bT.len bT.one bT.pc
@[go_sem] theorem apc:oF Tryz.prog 27=true:=by kernel_rfl
@[go_sem] theorem apd:oF Tryz.prog 47=true:=by kernel_rfl
@[go_sem] theorem ape:rC Tryz.prog 49 5=some (5,47):=by kernel_rfl
@[go_sem] theorem apf:oF Tryz.prog 124=true:=by kernel_rfl
@[go_sem] theorem Pred.apg:∀x:Pred,fJ Tryz.prog 49 x.c 0=some (Pred.v x):=fun x=>by kernel_rfl
@[go_sem] theorem Pred.aph:∀x:Pred,fJ Tryz.prog 47 x.c 5=some (lv Pred.v x.bS):=fun x=>by rw[←Pred.uZ];kernel_rfl
end Sh
