import Derived.KernelRfl
import Derived.Test.YteniejlbjfigdaaGreatDoorF506
import Derived.Test.YteniejlbjfigdaaGreatDoorProg
set_option linter.all false
open Go Go.Proofs aR
namespace Sh
set_option maxRecDepth 100000
structure Def where
 Name:List UInt8
 Kind:Int
 Lo:Int
 Hi:Int
 Words:List (List UInt8)
 deriving DecidableEq
def Def.c (x:Def):List V:=[.str x.Name,.int .i64 x.Kind,.int .i64 x.Lo,.int .i64 x.Hi,lv V.str x.Words]
def Def.v (x:Def):V:=.agg x.c
theorem Def.cells (x:Def):((Def.v x).cells)=x.c:=rfl
theorem Def.nr (x:Def):fC x.v=true:=rfl
theorem Def.ig (x:Def):er x.v=x.v:=rfl
theorem Def.len (x:Def):x.c.length=5:=rfl
theorem Def.one (x:Def):bY x.c=true:=rfl
theorem Def.pc (x:Def):aQ x.v=true:=by simp[Def.v,Def.c,aQ,bQ,l7,mZ,ng,nM,nN,iv]
attribute [go_sem] Def.nr Def.ig Def.cells Def.len Def.one Def.pc
structure aG where
 jM:Int
 kS:Int
 Defs:List Def
 deriving DecidableEq
def aG.c (x:aG):List V:=[.int .i64 x.jM,.int .i64 x.kS,lv Def.v x.Defs]
def aG.v (x:aG):V:=.agg x.c
theorem aG.cells (x:aG):((aG.v x).cells)=x.c:=rfl
theorem aG.nr (x:aG):fC x.v=true:=rfl
theorem aG.ig (x:aG):er x.v=x.v:=rfl
theorem aG.len (x:aG):x.c.length=3:=rfl
theorem aG.one (x:aG):bY x.c=true:=rfl
theorem aG.pc (x:aG):aQ x.v=true:=by simp[aG.v,aG.c,aQ,bQ,l7,mZ,ng,nM,nN,iv,Def.pc]
attribute [go_sem] aG.nr aG.ig aG.cells aG.len aG.one aG.pc
structure Attr where
 Name:List UInt8
 Kind:Int
 N:Int
 S:List UInt8
 deriving DecidableEq
def Attr.c (x:Attr):List V:=[.str x.Name,.int .i64 x.Kind,.int .i64 x.N,.str x.S]
def Attr.v (x:Attr):V:=.agg x.c
theorem Attr.cells (x:Attr):((Attr.v x).cells)=x.c:=rfl
theorem Attr.nr (x:Attr):fC x.v=true:=rfl
theorem Attr.ig (x:Attr):er x.v=x.v:=rfl
theorem Attr.len (x:Attr):x.c.length=4:=rfl
theorem Attr.one (x:Attr):bY x.c=true:=rfl
theorem Attr.pc (x:Attr):aQ x.v=true:=by simp[Attr.v,Attr.c,aQ,bQ,l7,mZ,ng,nM,nN,iv]
attribute [go_sem] Attr.nr Attr.ig Attr.cells Attr.len Attr.one Attr.pc
structure Entry where
 ID:Int
 eu:Int
 gK:Int
 jF:Int
 From:Int
 To:Int
 fQ:Int
 Vec:List Int
 aY:List Attr
 deriving DecidableEq
def Entry.c (x:Entry):List V:=[.int .i64 x.ID,.int .i64 x.eu,.int .i64 x.gK,.int .i64 x.jF,.int .i64 x.From,.int .i64 x.To,.int .i64 x.fQ,lv iv x.Vec,lv Attr.v x.aY]
def Entry.v (x:Entry):V:=.agg x.c
theorem Entry.cells (x:Entry):((Entry.v x).cells)=x.c:=rfl
theorem Entry.nr (x:Entry):fC x.v=true:=rfl
theorem Entry.ig (x:Entry):er x.v=x.v:=rfl
theorem Entry.len (x:Entry):x.c.length=9:=rfl
theorem Entry.one (x:Entry):bY x.c=true:=rfl
theorem Entry.pc (x:Entry):aQ x.v=true:=by simp[Entry.v,Entry.c,aQ,bQ,l7,mZ,ng,nM,nN,iv,Attr.pc]
attribute [go_sem] Entry.nr Entry.ig Entry.cells Entry.len Entry.one Entry.pc
structure Row where
 Entry:Entry
 eB:Int
 deriving DecidableEq
def Row.c (x:Row):List V:=[.int .i64 x.Entry.ID,.int .i64 x.Entry.eu,.int .i64 x.Entry.gK,.int .i64 x.Entry.jF,.int .i64 x.Entry.From,.int .i64 x.Entry.To,.int .i64 x.Entry.fQ,lv iv x.Entry.Vec,lv Attr.v x.Entry.aY,.int .i64 x.eB]
def Row.v (x:Row):V:=.agg x.c
theorem Row.cells (x:Row):((Row.v x).cells)=x.c:=rfl
theorem Row.nr (x:Row):fC x.v=true:=rfl
theorem Row.ig (x:Row):er x.v=x.v:=rfl
theorem Row.len (x:Row):x.c.length=10:=rfl
theorem Row.one (x:Row):bY x.c=true:=rfl
theorem Row.pc (x:Row):aQ x.v=true:=by simp[Row.v,Row.c,aQ,bQ,l7,mZ,ng,nM,nN,iv,Attr.pc,Entry.pc]
attribute [go_sem] Row.nr Row.ig Row.cells Row.len Row.one Row.pc
structure Book where
 aG:aG
 aN:Int
 Day:Int
 bn:List Int
 Rows:List Row
 deriving DecidableEq
def Book.c (x:Book):List V:=[.int .i64 x.aG.jM,.int .i64 x.aG.kS,lv Def.v x.aG.Defs,.int .i64 x.aN,.int .i64 x.Day,lv iv x.bn,lv Row.v x.Rows]
def Book.v (x:Book):V:=.agg x.c
theorem Book.cells (x:Book):((Book.v x).cells)=x.c:=rfl
theorem Book.nr (x:Book):fC x.v=true:=rfl
theorem Book.ig (x:Book):er x.v=x.v:=rfl
theorem Book.len (x:Book):x.c.length=7:=rfl
theorem Book.one (x:Book):bY x.c=true:=rfl
theorem Book.pc (x:Book):aQ x.v=true:=by simp[Book.v,Book.c,aQ,bQ,l7,mZ,ng,nM,nN,iv,Attr.pc,Def.pc,Entry.pc,Row.pc,aG.pc]
attribute [go_sem] Book.nr Book.ig Book.cells Book.len Book.one Book.pc
structure aC where
 b0:Int
 b1:Int
 b2:Int
 b3:Int
 b4:Int
 b5:Int
 b6:Int
 b7:Int
 b8:Int
 b9:Int
 b10:Int
 b11:Int
 b12:Int
 b13:Int
 b14:Int
 b15:Int
 deriving DecidableEq
def aC.c (x:aC):List V:=[.int .u8 x.b0,.int .u8 x.b1,.int .u8 x.b2,.int .u8 x.b3,.int .u8 x.b4,.int .u8 x.b5,.int .u8 x.b6,.int .u8 x.b7,.int .u8 x.b8,.int .u8 x.b9,.int .u8 x.b10,.int .u8 x.b11,.int .u8 x.b12,.int .u8 x.b13,.int .u8 x.b14,.int .u8 x.b15]
def aC.v (x:aC):V:=.agg x.c
theorem aC.cells (x:aC):((aC.v x).cells)=x.c:=rfl
theorem aC.nr (x:aC):fC x.v=true:=rfl
theorem aC.ig (x:aC):er x.v=x.v:=rfl
theorem aC.len (x:aC):x.c.length=16:=rfl
theorem aC.one (x:aC):bY x.c=true:=rfl
theorem aC.pc (x:aC):aQ x.v=true:=by simp[aC.v,aC.c,aQ,bQ,l7,mZ,ng,nM,nN,iv]
attribute [go_sem] aC.nr aC.ig aC.cells aC.len aC.one aC.pc
structure Gone where
 ID:Int
 eu:Int
 fQ:Int
 eB:Int
 Leaf:aC
 deriving DecidableEq
def Gone.c (x:Gone):List V:=[.int .i64 x.ID,.int .i64 x.eu,.int .i64 x.fQ,.int .i64 x.eB,.int .u8 x.Leaf.b0,.int .u8 x.Leaf.b1,.int .u8 x.Leaf.b2,.int .u8 x.Leaf.b3,.int .u8 x.Leaf.b4,.int .u8 x.Leaf.b5,.int .u8 x.Leaf.b6,.int .u8 x.Leaf.b7,.int .u8 x.Leaf.b8,.int .u8 x.Leaf.b9,.int .u8 x.Leaf.b10,.int .u8 x.Leaf.b11,.int .u8 x.Leaf.b12,.int .u8 x.Leaf.b13,.int .u8 x.Leaf.b14,.int .u8 x.Leaf.b15]
def Gone.v (x:Gone):V:=.agg x.c
theorem Gone.cells (x:Gone):((Gone.v x).cells)=x.c:=rfl
theorem Gone.nr (x:Gone):fC x.v=true:=rfl
theorem Gone.ig (x:Gone):er x.v=x.v:=rfl
theorem Gone.len (x:Gone):x.c.length=20:=rfl
theorem Gone.one (x:Gone):bY x.c=true:=rfl
theorem Gone.pc (x:Gone):aQ x.v=true:=by simp[Gone.v,Gone.c,aQ,bQ,l7,mZ,ng,nM,nN,iv,aC.pc]
attribute [go_sem] Gone.nr Gone.ig Gone.cells Gone.len Gone.one Gone.pc
structure Pred where
 Op:Int
 Name:List UInt8
 N:Int
 M:Int
 S:List UInt8
 I8:List Pred
mutual
def Pred.vr:Pred->V
 | ⟨a0,a1,a2,a3,a4,a5⟩=>.agg [.int .i64 a0,.str a1,.int .i64 a2,.int .i64 a3,.str a4,.ak .sh (Pred.vl a5)]
def Pred.vl:List Pred->List V
 | []=>[]|p::l=>Pred.vr p::Pred.vl l
end
theorem Pred.ahW:∀l,Pred.vl l=l.map Pred.vr
 | []=>by simp[Pred.vl]|p::l=>by rw[Pred.vl,iA,<-Pred.ahW l]
def Pred.c (x:Pred):List V:=[.int .i64 x.Op,.str x.Name,.int .i64 x.N,.int .i64 x.M,.str x.S,.ak .sh (x.I8.map Pred.vr)]
def Pred.v (x:Pred):V:=.agg x.c
theorem Pred.ahX:Pred.vr=Pred.v:=by funext x;cases x;simp[Pred.vr,Pred.v,Pred.c,Pred.ahW]
theorem Pred.I9 (l:List Pred):V.ak .sh (l.map Pred.vr)=lv Pred.v l:=by rw[Pred.ahX];rfl
theorem Pred.cells (x:Pred):((Pred.v x).cells)=x.c:=rfl
theorem Pred.nr (x:Pred):fC x.v=true:=rfl
theorem Pred.ig (x:Pred):er x.v=x.v:=rfl
theorem Pred.len (x:Pred):x.c.length=6:=rfl
theorem Pred.one (x:Pred):bY x.c=true:=rfl
theorem Pred.asG:∀x:Pred,aQ x.vr=true:=by
 intro x;refine Pred.rec (motive_1:=fun x=>aQ x.vr=true) (motive_2:=fun l=>bQ (Pred.vl l)=true) ?_ ?_ ?_ x
 .intros;simp_all[Pred.vr,aQ,bQ,mZ,ng]
 .simp[Pred.vl,bQ]
 .intro p l h1 h2;simp[Pred.vl,bQ,h1,h2]
theorem Pred.pc (x:Pred):aQ x.v=true:=by rw[<-Pred.ahX];exact Pred.asG x
attribute [go_sem] Pred.nr Pred.ig Pred.cells Pred.len Pred.one Pred.pc Pred.I9
structure Law where
 Name:List UInt8
 Where:Pred
 bn:Int
def Law.c (x:Law):List V:=[.str x.Name,.int .i64 x.Where.Op,.str x.Where.Name,.int .i64 x.Where.N,.int .i64 x.Where.M,.str x.Where.S,.ak .sh (x.Where.I8.map Pred.vr),.int .i64 x.bn]
def Law.v (x:Law):V:=.agg x.c
theorem Law.cells (x:Law):((Law.v x).cells)=x.c:=rfl
theorem Law.nr (x:Law):fC x.v=true:=rfl
theorem Law.ig (x:Law):er x.v=x.v:=rfl
theorem Law.len (x:Law):x.c.length=8:=rfl
theorem Law.one (x:Law):bY x.c=true:=rfl
theorem Law.pc (x:Law):aQ x.v=true:=by simp[Law.v,Law.c,aQ,bQ,l7,mZ,ng,nM,nN,iv,Pred.pc,Pred.I9]
attribute [go_sem] Law.nr Law.ig Law.cells Law.len Law.one Law.pc
structure jO where
 B:Book
 L:List Gone
 E:Int
 deriving DecidableEq
def jO.c (x:jO):List V:=[.int .i64 x.B.aG.jM,.int .i64 x.B.aG.kS,lv Def.v x.B.aG.Defs,.int .i64 x.B.aN,.int .i64 x.B.Day,lv iv x.B.bn,lv Row.v x.B.Rows,lv Gone.v x.L,.int .i64 x.E]
def jO.v (x:jO):V:=.agg x.c
theorem jO.cells (x:jO):((jO.v x).cells)=x.c:=rfl
theorem jO.nr (x:jO):fC x.v=true:=rfl
theorem jO.ig (x:jO):er x.v=x.v:=rfl
theorem jO.len (x:jO):x.c.length=9:=rfl
theorem jO.one (x:jO):bY x.c=true:=rfl
theorem jO.pc (x:jO):aQ x.v=true:=by simp[jO.v,jO.c,aQ,bQ,l7,mZ,ng,nM,nN,iv,Attr.pc,Book.pc,Def.pc,aC.pc,Entry.pc,Gone.pc,Row.pc,aG.pc]
attribute [go_sem] jO.nr jO.ig jO.cells jO.len jO.one jO.pc
structure Snapshot where
 Day:Int
 aN:Int
 deriving DecidableEq
def Snapshot.c (x:Snapshot):List V:=[.int .i64 x.Day,.int .i64 x.aN]
def Snapshot.v (x:Snapshot):V:=.agg x.c
theorem Snapshot.cells (x:Snapshot):((Snapshot.v x).cells)=x.c:=rfl
theorem Snapshot.nr (x:Snapshot):fC x.v=true:=rfl
theorem Snapshot.ig (x:Snapshot):er x.v=x.v:=rfl
theorem Snapshot.len (x:Snapshot):x.c.length=2:=rfl
theorem Snapshot.one (x:Snapshot):bY x.c=true:=rfl
theorem Snapshot.pc (x:Snapshot):aQ x.v=true:=by simp[Snapshot.v,Snapshot.c,aQ,bQ,l7,mZ,ng,nM,nN,iv]
attribute [go_sem] Snapshot.nr Snapshot.ig Snapshot.cells Snapshot.len Snapshot.one Snapshot.pc
structure jP where
 L:List aC
 E:Int
 deriving DecidableEq
def jP.c (x:jP):List V:=[lv aC.v x.L,.int .i64 x.E]
def jP.v (x:jP):V:=.agg x.c
theorem jP.cells (x:jP):((jP.v x).cells)=x.c:=rfl
theorem jP.nr (x:jP):fC x.v=true:=rfl
theorem jP.ig (x:jP):er x.v=x.v:=rfl
theorem jP.len (x:jP):x.c.length=2:=rfl
theorem jP.one (x:jP):bY x.c=true:=rfl
theorem jP.pc (x:jP):aQ x.v=true:=by simp[jP.v,jP.c,aQ,bQ,l7,mZ,ng,nM,nN,iv,aC.pc]
attribute [go_sem] jP.nr jP.ig jP.cells jP.len jP.one jP.pc
structure Event where
 Kind:Int
 aN:Int
 Day:Int
 ID:Int
 gK:Int
 Until:Int
 From:Int
 Vec:List Int
 aY:List Attr
 bT:aC
 deriving DecidableEq
def Event.c (x:Event):List V:=[.int .i64 x.Kind,.int .i64 x.aN,.int .i64 x.Day,.int .i64 x.ID,.int .i64 x.gK,.int .i64 x.Until,.int .i64 x.From,lv iv x.Vec,lv Attr.v x.aY,.int .u8 x.bT.b0,.int .u8 x.bT.b1,.int .u8 x.bT.b2,.int .u8 x.bT.b3,.int .u8 x.bT.b4,.int .u8 x.bT.b5,.int .u8 x.bT.b6,.int .u8 x.bT.b7,.int .u8 x.bT.b8,.int .u8 x.bT.b9,.int .u8 x.bT.b10,.int .u8 x.bT.b11,.int .u8 x.bT.b12,.int .u8 x.bT.b13,.int .u8 x.bT.b14,.int .u8 x.bT.b15]
def Event.v (x:Event):V:=.agg x.c
theorem Event.cells (x:Event):((Event.v x).cells)=x.c:=rfl
theorem Event.nr (x:Event):fC x.v=true:=rfl
theorem Event.ig (x:Event):er x.v=x.v:=rfl
theorem Event.len (x:Event):x.c.length=25:=rfl
theorem Event.one (x:Event):bY x.c=true:=rfl
theorem Event.pc (x:Event):aQ x.v=true:=by simp[Event.v,Event.c,aQ,bQ,l7,mZ,ng,nM,nN,iv,Attr.pc,aC.pc]
attribute [go_sem] Event.nr Event.ig Event.cells Event.len Event.one Event.pc
structure Query where
 Vec:List Int
 K:Int
 Within:Int
 Where:Pred
 At:Snapshot
 Budget:Int
def Query.c (x:Query):List V:=[lv iv x.Vec,.int .i64 x.K,.int .i64 x.Within,.int .i64 x.Where.Op,.str x.Where.Name,.int .i64 x.Where.N,.int .i64 x.Where.M,.str x.Where.S,.ak .sh (x.Where.I8.map Pred.vr),.int .i64 x.At.Day,.int .i64 x.At.aN,.int .i64 x.Budget]
def Query.v (x:Query):V:=.agg x.c
theorem Query.cells (x:Query):((Query.v x).cells)=x.c:=rfl
theorem Query.nr (x:Query):fC x.v=true:=rfl
theorem Query.ig (x:Query):er x.v=x.v:=rfl
theorem Query.len (x:Query):x.c.length=12:=rfl
theorem Query.one (x:Query):bY x.c=true:=rfl
theorem Query.pc (x:Query):aQ x.v=true:=by simp[Query.v,Query.c,aQ,bQ,l7,mZ,ng,nM,nN,iv,Pred.pc,Snapshot.pc,Pred.I9]
attribute [go_sem] Query.nr Query.ig Query.cells Query.len Query.one Query.pc
structure jQ where
 ID:Int
 eu:Int
 Key:Int
 deriving DecidableEq
def jQ.c (x:jQ):List V:=[.int .i64 x.ID,.int .i64 x.eu,.int .i64 x.Key]
def jQ.v (x:jQ):V:=.agg x.c
theorem jQ.cells (x:jQ):((jQ.v x).cells)=x.c:=rfl
theorem jQ.nr (x:jQ):fC x.v=true:=rfl
theorem jQ.ig (x:jQ):er x.v=x.v:=rfl
theorem jQ.len (x:jQ):x.c.length=3:=rfl
theorem jQ.one (x:jQ):bY x.c=true:=rfl
theorem jQ.pc (x:jQ):aQ x.v=true:=by simp[jQ.v,jQ.c,aQ,bQ,l7,mZ,ng,nM,nN,iv]
attribute [go_sem] jQ.nr jQ.ig jQ.cells jQ.len jQ.one jQ.pc
structure fJ where
 B:Book
 N:Int
 E:Int
 deriving DecidableEq
def fJ.c (x:fJ):List V:=[.int .i64 x.B.aG.jM,.int .i64 x.B.aG.kS,lv Def.v x.B.aG.Defs,.int .i64 x.B.aN,.int .i64 x.B.Day,lv iv x.B.bn,lv Row.v x.B.Rows,.int .i64 x.N,.int .i64 x.E]
def fJ.v (x:fJ):V:=.agg x.c
theorem fJ.cells (x:fJ):((fJ.v x).cells)=x.c:=rfl
theorem fJ.nr (x:fJ):fC x.v=true:=rfl
theorem fJ.ig (x:fJ):er x.v=x.v:=rfl
theorem fJ.len (x:fJ):x.c.length=9:=rfl
theorem fJ.one (x:fJ):bY x.c=true:=rfl
theorem fJ.pc (x:fJ):aQ x.v=true:=by simp[fJ.v,fJ.c,aQ,bQ,l7,mZ,ng,nM,nN,iv,Attr.pc,Book.pc,Def.pc,Entry.pc,Row.pc,aG.pc]
attribute [go_sem] fJ.nr fJ.ig fJ.cells fJ.len fJ.one fJ.pc
structure jR where
 L:List aC
 E:Int
 deriving DecidableEq
def jR.c (x:jR):List V:=[lv aC.v x.L,.int .i64 x.E]
def jR.v (x:jR):V:=.agg x.c
theorem jR.cells (x:jR):((jR.v x).cells)=x.c:=rfl
theorem jR.nr (x:jR):fC x.v=true:=rfl
theorem jR.ig (x:jR):er x.v=x.v:=rfl
theorem jR.len (x:jR):x.c.length=2:=rfl
theorem jR.one (x:jR):bY x.c=true:=rfl
theorem jR.pc (x:jR):aQ x.v=true:=by simp[jR.v,jR.c,aQ,bQ,l7,mZ,ng,nM,nN,iv,aC.pc]
attribute [go_sem] jR.nr jR.ig jR.cells jR.len jR.one jR.pc
structure bE where
 B:Book
 E:Int
 deriving DecidableEq
def bE.c (x:bE):List V:=[.int .i64 x.B.aG.jM,.int .i64 x.B.aG.kS,lv Def.v x.B.aG.Defs,.int .i64 x.B.aN,.int .i64 x.B.Day,lv iv x.B.bn,lv Row.v x.B.Rows,.int .i64 x.E]
def bE.v (x:bE):V:=.agg x.c
theorem bE.cells (x:bE):((bE.v x).cells)=x.c:=rfl
theorem bE.nr (x:bE):fC x.v=true:=rfl
theorem bE.ig (x:bE):er x.v=x.v:=rfl
theorem bE.len (x:bE):x.c.length=8:=rfl
theorem bE.one (x:bE):bY x.c=true:=rfl
theorem bE.pc (x:bE):aQ x.v=true:=by simp[bE.v,bE.c,aQ,bQ,l7,mZ,ng,nM,nN,iv,Attr.pc,Book.pc,Def.pc,Entry.pc,Row.pc,aG.pc]
attribute [go_sem] bE.nr bE.ig bE.cells bE.len bE.one bE.pc
structure jS where
 l:List aC
 short:Bool
 deriving DecidableEq
def jS.c (x:jS):List V:=[lv aC.v x.l,.bool x.short]
def jS.v (x:jS):V:=.agg x.c
theorem jS.cells (x:jS):((jS.v x).cells)=x.c:=rfl
theorem jS.nr (x:jS):fC x.v=true:=rfl
theorem jS.ig (x:jS):er x.v=x.v:=rfl
theorem jS.len (x:jS):x.c.length=2:=rfl
theorem jS.one (x:jS):bY x.c=true:=rfl
theorem jS.pc (x:jS):aQ x.v=true:=by simp[jS.v,jS.c,aQ,bQ,l7,mZ,ng,nM,nN,iv,aC.pc]
attribute [go_sem] jS.nr jS.ig jS.cells jS.len jS.one jS.pc
structure jT where
 A:Attr
 Is:Bool
 deriving DecidableEq
def jT.c (x:jT):List V:=[.str x.A.Name,.int .i64 x.A.Kind,.int .i64 x.A.N,.str x.A.S,.bool x.Is]
def jT.v (x:jT):V:=.agg x.c
theorem jT.cells (x:jT):((jT.v x).cells)=x.c:=rfl
theorem jT.nr (x:jT):fC x.v=true:=rfl
theorem jT.ig (x:jT):er x.v=x.v:=rfl
theorem jT.len (x:jT):x.c.length=5:=rfl
theorem jT.one (x:jT):bY x.c=true:=rfl
theorem jT.pc (x:jT):aQ x.v=true:=by simp[jT.v,jT.c,aQ,bQ,l7,mZ,ng,nM,nN,iv,Attr.pc]
attribute [go_sem] jT.nr jT.ig jT.cells jT.len jT.one jT.pc
structure dO where
 from_:Int
 to:Int
 deriving DecidableEq
def dO.c (x:dO):List V:=[.int .i64 x.from_,.int .i64 x.to]
def dO.v (x:dO):V:=.agg x.c
theorem dO.cells (x:dO):((dO.v x).cells)=x.c:=rfl
theorem dO.nr (x:dO):fC x.v=true:=rfl
theorem dO.ig (x:dO):er x.v=x.v:=rfl
theorem dO.len (x:dO):x.c.length=2:=rfl
theorem dO.one (x:dO):bY x.c=true:=rfl
theorem dO.pc (x:dO):aQ x.v=true:=by simp[dO.v,dO.c,aQ,bQ,l7,mZ,ng,nM,nN,iv]
attribute [go_sem] dO.nr dO.ig dO.cells dO.len dO.one dO.pc
@[go_sem] theorem aA3:dF Tryz.prog 4=some 1:=ay
@[go_sem] theorem aA4:xY Tryz.prog 27=true:=ay
@[go_sem] theorem aA5:dF Tryz.prog 44=some 16:=ay
@[go_sem] theorem aA6:dF Tryz.prog 70=some 1:=ay
@[go_sem] theorem aA7:j5 Tryz.prog 70=some false:=ay
@[go_sem] theorem aA8:xY Tryz.prog 70=true:=ay
@[go_sem] theorem aA9:xY Tryz.prog 124=true:=ay
@[go_sem] theorem aBa:xL Tryz.prog 181 0=some (0,70):=ay
@[go_sem] theorem aBb:xL Tryz.prog 181 1=some (1,4):=ay
@[go_sem] theorem aC.aBd:∀x:aC,gV Tryz.prog 44 x.c 0=some (aC.v x):=fun x=>ay
end Sh
