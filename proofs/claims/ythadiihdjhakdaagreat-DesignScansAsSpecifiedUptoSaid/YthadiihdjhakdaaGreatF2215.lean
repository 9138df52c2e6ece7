import Derived.KernelRfl
import Derived.Test.YthadiihdjhakdaaGreatF2206
import Derived.Test.YthadiihdjhakdaaGreatProg
set_option linter.all false
open Go Go.Proofs aR
namespace Sh
set_option maxRecDepth 100000
structure Def where
 Name:List UInt8
 Kind:Int
 Lo:Int
 Hi:Int
 Words:List (List UInt8)
 deriving DecidableEq
def Def.c (x:Def):List V:=[.str x.Name,.int .i64 x.Kind,.int .i64 x.Lo,.int .i64 x.Hi,lv V.str x.Words]
def Def.v (x:Def):V:=.agg x.c
theorem Def.cells (x:Def):((Def.v x).cells)=x.c:=rfl
theorem Def.nr (x:Def):fM x.v=true:=rfl
theorem Def.jG (x:Def):er x.v=x.v:=rfl
theorem Def.len (x:Def):x.c.length=5:=rfl
theorem Def.one (x:Def):dU x.c=true:=rfl
theorem Def.pc (x:Def):aW x.v=true:=by simp[Def.v,Def.c,aW,cB,nL,oO,oP,pR,pU,iv]
attribute [go_sem] Def.nr Def.jG Def.cells Def.len Def.one Def.pc
structure aJ where
 eH:Int
 fU:Int
 Defs:List Def
 deriving DecidableEq
def aJ.c (x:aJ):List V:=[.int .i64 x.eH,.int .i64 x.fU,lv Def.v x.Defs]
def aJ.v (x:aJ):V:=.agg x.c
theorem aJ.cells (x:aJ):((aJ.v x).cells)=x.c:=rfl
theorem aJ.nr (x:aJ):fM x.v=true:=rfl
theorem aJ.jG (x:aJ):er x.v=x.v:=rfl
theorem aJ.len (x:aJ):x.c.length=3:=rfl
theorem aJ.one (x:aJ):dU x.c=true:=rfl
theorem aJ.pc (x:aJ):aW x.v=true:=by simp[aJ.v,aJ.c,aW,cB,nL,oO,oP,pR,pU,iv,Def.pc]
attribute [go_sem] aJ.nr aJ.jG aJ.cells aJ.len aJ.one aJ.pc
structure Pred where
 Op:Int
 Name:List UInt8
 N:Int
 M:Int
 S:List UInt8
 bS:List Pred
mutual
def Pred.vr:Pred->V
 | ⟨a0,a1,a2,a3,a4,a5⟩=>.agg [.int .i64 a0,.str a1,.int .i64 a2,.int .i64 a3,.str a4,.ay .sh (Pred.vl a5)]
def Pred.vl:List Pred->List V
 | []=>[]|p::l=>Pred.vr p::Pred.vl l
end
theorem Pred.abp:∀l,Pred.vl l=l.map Pred.vr
 | []=>by simp[Pred.vl]|p::l=>by rw[Pred.vl,fQ,<-Pred.abp l]
def Pred.c (x:Pred):List V:=[.int .i64 x.Op,.str x.Name,.int .i64 x.N,.int .i64 x.M,.str x.S,.ay .sh (x.bS.map Pred.vr)]
def Pred.v (x:Pred):V:=.agg x.c
theorem Pred.aiL:Pred.vr=Pred.v:=by funext x;cases x;simp[Pred.vr,Pred.v,Pred.c,Pred.abp]
theorem Pred.Jl (l:List Pred):V.ay .sh (l.map Pred.vr)=lv Pred.v l:=by rw[Pred.aiL];rfl
theorem Pred.cells (x:Pred):((Pred.v x).cells)=x.c:=rfl
theorem Pred.nr (x:Pred):fM x.v=true:=rfl
theorem Pred.jG (x:Pred):er x.v=x.v:=rfl
theorem Pred.len (x:Pred):x.c.length=6:=rfl
theorem Pred.one (x:Pred):dU x.c=true:=rfl
theorem Pred.avr:∀x:Pred,aW x.vr=true:=by
 intro x;refine Pred.rec (motive_1:=fun x=>aW x.vr=true) (motive_2:=fun l=>cB (Pred.vl l)=true) ?_ ?_ ?_ x
 ·intros;simp_all[Pred.vr,aW,cB,oO,oP]
 ·simp[Pred.vl,cB]
 ·intro p l h1 h2;simp[Pred.vl,cB,h1,h2]
theorem Pred.pc (x:Pred):aW x.v=true:=by rw[<-Pred.aiL];exact Pred.avr x
attribute [go_sem] Pred.nr Pred.jG Pred.cells Pred.len Pred.one Pred.pc Pred.Jl
structure Snapshot where
 Day:Int
 aS:Int
 deriving DecidableEq
def Snapshot.c (x:Snapshot):List V:=[.int .i64 x.Day,.int .i64 x.aS]
def Snapshot.v (x:Snapshot):V:=.agg x.c
theorem Snapshot.cells (x:Snapshot):((Snapshot.v x).cells)=x.c:=rfl
theorem Snapshot.nr (x:Snapshot):fM x.v=true:=rfl
theorem Snapshot.jG (x:Snapshot):er x.v=x.v:=rfl
theorem Snapshot.len (x:Snapshot):x.c.length=2:=rfl
theorem Snapshot.one (x:Snapshot):dU x.c=true:=rfl
theorem Snapshot.pc (x:Snapshot):aW x.v=true:=by simp[Snapshot.v,Snapshot.c,aW,cB,nL,oO,oP,pR,pU,iv]
attribute [go_sem] Snapshot.nr Snapshot.jG Snapshot.cells Snapshot.len Snapshot.one Snapshot.pc
structure Query where
 Vec:List Int
 K:Int
 Within:Int
 Where:Pred
 At:Snapshot
 Budget:Int
def Query.c (x:Query):List V:=[lv iv x.Vec,.int .i64 x.K,.int .i64 x.Within,.int .i64 x.Where.Op,.str x.Where.Name,.int .i64 x.Where.N,.int .i64 x.Where.M,.str x.Where.S,.ay .sh (x.Where.bS.map Pred.vr),.int .i64 x.At.Day,.int .i64 x.At.aS,.int .i64 x.Budget]
def Query.v (x:Query):V:=.agg x.c
theorem Query.cells (x:Query):((Query.v x).cells)=x.c:=rfl
theorem Query.nr (x:Query):fM x.v=true:=rfl
theorem Query.jG (x:Query):er x.v=x.v:=rfl
theorem Query.len (x:Query):x.c.length=12:=rfl
theorem Query.one (x:Query):dU x.c=true:=rfl
theorem Query.pc (x:Query):aW x.v=true:=by simp[Query.v,Query.c,aW,cB,nL,oO,oP,pR,pU,iv,Pred.pc,Snapshot.pc,Pred.Jl]
attribute [go_sem] Query.nr Query.jG Query.cells Query.len Query.one Query.pc
structure Attr where
 Name:List UInt8
 Kind:Int
 N:Int
 S:List UInt8
 deriving DecidableEq
def Attr.c (x:Attr):List V:=[.str x.Name,.int .i64 x.Kind,.int .i64 x.N,.str x.S]
def Attr.v (x:Attr):V:=.agg x.c
theorem Attr.cells (x:Attr):((Attr.v x).cells)=x.c:=rfl
theorem Attr.nr (x:Attr):fM x.v=true:=rfl
theorem Attr.jG (x:Attr):er x.v=x.v:=rfl
theorem Attr.len (x:Attr):x.c.length=4:=rfl
theorem Attr.one (x:Attr):dU x.c=true:=rfl
theorem Attr.pc (x:Attr):aW x.v=true:=by simp[Attr.v,Attr.c,aW,cB,nL,oO,oP,pR,pU,iv]
attribute [go_sem] Attr.nr Attr.jG Attr.cells Attr.len Attr.one Attr.pc
structure Entry where
 ID:Int
 iL:Int
 jg:Int
 kJ:Int
 From:Int
 To:Int
 iV:Int
 Vec:List Int
 bU:List Attr
 deriving DecidableEq
def Entry.c (x:Entry):List V:=[.int .i64 x.ID,.int .i64 x.iL,.int .i64 x.jg,.int .i64 x.kJ,.int .i64 x.From,.int .i64 x.To,.int .i64 x.iV,lv iv x.Vec,lv Attr.v x.bU]
def Entry.v (x:Entry):V:=.agg x.c
theorem Entry.cells (x:Entry):((Entry.v x).cells)=x.c:=rfl
theorem Entry.nr (x:Entry):fM x.v=true:=rfl
theorem Entry.jG (x:Entry):er x.v=x.v:=rfl
theorem Entry.len (x:Entry):x.c.length=9:=rfl
theorem Entry.one (x:Entry):dU x.c=true:=rfl
theorem Entry.pc (x:Entry):aW x.v=true:=by simp[Entry.v,Entry.c,aW,cB,nL,oO,oP,pR,pU,iv,Attr.pc]
attribute [go_sem] Entry.nr Entry.jG Entry.cells Entry.len Entry.one Entry.pc
structure Row where
 Entry:Entry
 nC:Int
 deriving DecidableEq
def Row.c (x:Row):List V:=[.int .i64 x.Entry.ID,.int .i64 x.Entry.iL,.int .i64 x.Entry.jg,.int .i64 x.Entry.kJ,.int .i64 x.Entry.From,.int .i64 x.Entry.To,.int .i64 x.Entry.iV,lv iv x.Entry.Vec,lv Attr.v x.Entry.bU,.int .i64 x.nC]
def Row.v (x:Row):V:=.agg x.c
theorem Row.cells (x:Row):((Row.v x).cells)=x.c:=rfl
theorem Row.nr (x:Row):fM x.v=true:=rfl
theorem Row.jG (x:Row):er x.v=x.v:=rfl
theorem Row.len (x:Row):x.c.length=10:=rfl
theorem Row.one (x:Row):dU x.c=true:=rfl
theorem Row.pc (x:Row):aW x.v=true:=by simp[Row.v,Row.c,aW,cB,nL,oO,oP,pR,pU,iv,Attr.pc,Entry.pc]
attribute [go_sem] Row.nr Row.jG Row.cells Row.len Row.one Row.pc
structure Book where
 aJ:aJ
 aS:Int
 Day:Int
 bV:List Int
 Rows:List Row
 deriving DecidableEq
def Book.c (x:Book):List V:=[.int .i64 x.aJ.eH,.int .i64 x.aJ.fU,lv Def.v x.aJ.Defs,.int .i64 x.aS,.int .i64 x.Day,lv iv x.bV,lv Row.v x.Rows]
def Book.v (x:Book):V:=.agg x.c
theorem Book.cells (x:Book):((Book.v x).cells)=x.c:=rfl
theorem Book.nr (x:Book):fM x.v=true:=rfl
theorem Book.jG (x:Book):er x.v=x.v:=rfl
theorem Book.len (x:Book):x.c.length=7:=rfl
theorem Book.one (x:Book):dU x.c=true:=rfl
theorem Book.pc (x:Book):aW x.v=true:=by simp[Book.v,Book.c,aW,cB,nL,oO,oP,pR,pU,iv,Attr.pc,Def.pc,Entry.pc,Row.pc,aJ.pc]
attribute [go_sem] Book.nr Book.jG Book.cells Book.len Book.one Book.pc
structure fG where
 B:Book
 N:Int
 E:Int
 deriving DecidableEq
def fG.c (x:fG):List V:=[.int .i64 x.B.aJ.eH,.int .i64 x.B.aJ.fU,lv Def.v x.B.aJ.Defs,.int .i64 x.B.aS,.int .i64 x.B.Day,lv iv x.B.bV,lv Row.v x.B.Rows,.int .i64 x.N,.int .i64 x.E]
def fG.v (x:fG):V:=.agg x.c
theorem fG.cells (x:fG):((fG.v x).cells)=x.c:=rfl
theorem fG.nr (x:fG):fM x.v=true:=rfl
theorem fG.jG (x:fG):er x.v=x.v:=rfl
theorem fG.len (x:fG):x.c.length=9:=rfl
theorem fG.one (x:fG):dU x.c=true:=rfl
theorem fG.pc (x:fG):aW x.v=true:=by simp[fG.v,fG.c,aW,cB,nL,oO,oP,pR,pU,iv,Attr.pc,Book.pc,Def.pc,Entry.pc,Row.pc,aJ.pc]
attribute [go_sem] fG.nr fG.jG fG.cells fG.len fG.one fG.pc
structure aG where
 ID:Int
 iL:Int
 Key:Int
 deriving DecidableEq
def aG.c (x:aG):List V:=[.int .i64 x.ID,.int .i64 x.iL,.int .i64 x.Key]
def aG.v (x:aG):V:=.agg x.c
theorem aG.cells (x:aG):((aG.v x).cells)=x.c:=rfl
theorem aG.nr (x:aG):fM x.v=true:=rfl
theorem aG.jG (x:aG):er x.v=x.v:=rfl
theorem aG.len (x:aG):x.c.length=3:=rfl
theorem aG.one (x:aG):dU x.c=true:=rfl
theorem aG.pc (x:aG):aW x.v=true:=by simp[aG.v,aG.c,aW,cB,nL,oO,oP,pR,pU,iv]
attribute [go_sem] aG.nr aG.jG aG.cells aG.len aG.one aG.pc
structure jv where
 L:List aG
 E:Int
 deriving DecidableEq
def jv.c (x:jv):List V:=[lv aG.v x.L,.int .i64 x.E]
def jv.v (x:jv):V:=.agg x.c
theorem jv.cells (x:jv):((jv.v x).cells)=x.c:=rfl
theorem jv.nr (x:jv):fM x.v=true:=rfl
theorem jv.jG (x:jv):er x.v=x.v:=rfl
theorem jv.len (x:jv):x.c.length=2:=rfl
theorem jv.one (x:jv):dU x.c=true:=rfl
theorem jv.pc (x:jv):aW x.v=true:=by simp[jv.v,jv.c,aW,cB,nL,oO,oP,pR,pU,iv,aG.pc]
attribute [go_sem] jv.nr jv.jG jv.cells jv.len jv.one jv.pc
structure jI where
 b0:Int
 b1:Int
 b2:Int
 b3:Int
 b4:Int
 b5:Int
 b6:Int
 b7:Int
 b8:Int
 b9:Int
 b10:Int
 b11:Int
 b12:Int
 b13:Int
 b14:Int
 b15:Int
 deriving DecidableEq
def jI.c (x:jI):List V:=[.int .u8 x.b0,.int .u8 x.b1,.int .u8 x.b2,.int .u8 x.b3,.int .u8 x.b4,.int .u8 x.b5,.int .u8 x.b6,.int .u8 x.b7,.int .u8 x.b8,.int .u8 x.b9,.int .u8 x.b10,.int .u8 x.b11,.int .u8 x.b12,.int .u8 x.b13,.int .u8 x.b14,.int .u8 x.b15]
def jI.v (x:jI):V:=.agg x.c
theorem jI.cells (x:jI):((jI.v x).cells)=x.c:=rfl
theorem jI.nr (x:jI):fM x.v=true:=rfl
theorem jI.jG (x:jI):er x.v=x.v:=rfl
theorem jI.len (x:jI):x.c.length=16:=rfl
theorem jI.one (x:jI):dU x.c=true:=rfl
theorem jI.pc (x:jI):aW x.v=true:=by simp[jI.v,jI.c,aW,cB,nL,oO,oP,pR,pU,iv]
attribute [go_sem] jI.nr jI.jG jI.cells jI.len jI.one jI.pc
structure Event where
 Kind:Int
 aS:Int
 Day:Int
 ID:Int
 jg:Int
 Until:Int
 From:Int
 Vec:List Int
 bU:List Attr
 bY:jI
 deriving DecidableEq
def Event.c (x:Event):List V:=[.int .i64 x.Kind,.int .i64 x.aS,.int .i64 x.Day,.int .i64 x.ID,.int .i64 x.jg,.int .i64 x.Until,.int .i64 x.From,lv iv x.Vec,lv Attr.v x.bU,.int .u8 x.bY.b0,.int .u8 x.bY.b1,.int .u8 x.bY.b2,.int .u8 x.bY.b3,.int .u8 x.bY.b4,.int .u8 x.bY.b5,.int .u8 x.bY.b6,.int .u8 x.bY.b7,.int .u8 x.bY.b8,.int .u8 x.bY.b9,.int .u8 x.bY.b10,.int .u8 x.bY.b11,.int .u8 x.bY.b12,.int .u8 x.bY.b13,.int .u8 x.bY.b14,.int .u8 x.bY.b15]
def Event.v (x:Event):V:=.agg x.c
theorem Event.cells (x:Event):((Event.v x).cells)=x.c:=rfl
theorem Event.nr (x:Event):fM x.v=true:=rfl
theorem Event.jG (x:Event):er x.v=x.v:=rfl
theorem Event.len (x:Event):x.c.length=25:=rfl
theorem Event.one (x:Event):dU x.c=true:=rfl
theorem Event.pc (x:Event):aW x.v=true:=by simp[Event.v,Event.c,aW,cB,nL,oO,oP,pR,pU,iv,Attr.pc,jI.pc]
attribute [go_sem] Event.nr Event.jG Event.cells Event.len Event.one Event.pc
structure bN where
 B:Book
 E:Int
 deriving DecidableEq
def bN.c (x:bN):List V:=[.int .i64 x.B.aJ.eH,.int .i64 x.B.aJ.fU,lv Def.v x.B.aJ.Defs,.int .i64 x.B.aS,.int .i64 x.B.Day,lv iv x.B.bV,lv Row.v x.B.Rows,.int .i64 x.E]
def bN.v (x:bN):V:=.agg x.c
theorem bN.cells (x:bN):((bN.v x).cells)=x.c:=rfl
theorem bN.nr (x:bN):fM x.v=true:=rfl
theorem bN.jG (x:bN):er x.v=x.v:=rfl
theorem bN.len (x:bN):x.c.length=8:=rfl
theorem bN.one (x:bN):dU x.c=true:=rfl
theorem bN.pc (x:bN):aW x.v=true:=by simp[bN.v,bN.c,aW,cB,nL,oO,oP,pR,pU,iv,Attr.pc,Book.pc,Def.pc,Entry.pc,Row.pc,aJ.pc]
attribute [go_sem] bN.nr bN.jG bN.cells bN.len bN.one bN.pc
structure jT where
 N:Int
 Is:Bool
 deriving DecidableEq
def jT.c (x:jT):List V:=[.int .i64 x.N,.bool x.Is]
def jT.v (x:jT):V:=.agg x.c
theorem jT.cells (x:jT):((jT.v x).cells)=x.c:=rfl
theorem jT.nr (x:jT):fM x.v=true:=rfl
theorem jT.jG (x:jT):er x.v=x.v:=rfl
theorem jT.len (x:jT):x.c.length=2:=rfl
theorem jT.one (x:jT):dU x.c=true:=rfl
theorem jT.pc (x:jT):aW x.v=true:=by simp[jT.v,jT.c,aW,cB,nL,oO,oP,pR,pU,iv]
attribute [go_sem] jT.nr jT.jG jT.cells jT.len jT.one jT.pc
structure dD where
 from_:Int
 to:Int
 deriving DecidableEq
def dD.c (x:dD):List V:=[.int .i64 x.from_,.int .i64 x.to]
def dD.v (x:dD):V:=.agg x.c
theorem dD.cells (x:dD):((dD.v x).cells)=x.c:=rfl
theorem dD.nr (x:dD):fM x.v=true:=rfl
theorem dD.jG (x:dD):er x.v=x.v:=rfl
theorem dD.len (x:dD):x.c.length=2:=rfl
theorem dD.one (x:dD):dU x.c=true:=rfl
theorem dD.pc (x:dD):aW x.v=true:=by simp[dD.v,dD.c,aW,cB,nL,oO,oP,pR,pU,iv]
attribute [go_sem] dD.nr dD.jG dD.cells dD.len dD.one dD.pc
structure gu where
 A:Attr
 Is:Bool
 deriving DecidableEq
def gu.c (x:gu):List V:=[.str x.A.Name,.int .i64 x.A.Kind,.int .i64 x.A.N,.str x.A.S,.bool x.Is]
def gu.v (x:gu):V:=.agg x.c
theorem gu.cells (x:gu):((gu.v x).cells)=x.c:=rfl
theorem gu.nr (x:gu):fM x.v=true:=rfl
theorem gu.jG (x:gu):er x.v=x.v:=rfl
theorem gu.len (x:gu):x.c.length=5:=rfl
theorem gu.one (x:gu):dU x.c=true:=rfl
theorem gu.pc (x:gu):aW x.v=true:=by simp[gu.v,gu.c,aW,cB,nL,oO,oP,pR,pU,iv,Attr.pc]
attribute [go_sem] gu.nr gu.jG gu.cells gu.len gu.one gu.pc
@[go_sem] theorem avs:Tryz.prog.underlying 26=some (.slice 3):=aA
@[go_sem] theorem aEH:Bj Tryz.prog 27=true:=aA
@[go_sem] theorem aEI:xR Tryz.prog 29 5=some (5,27):=aA
@[go_sem] theorem avt:Tryz.prog.underlying 37=some (.slice 62):=aA
@[go_sem] theorem abq:nW Tryz.prog 44=some 96:=aA
@[go_sem] theorem avu:Tryz.prog.underlying 44=some (.slice 96):=aA
@[go_sem] theorem Pq:fq Tryz.prog 96=some 3:=aA
@[go_sem] theorem WA:pI Tryz.prog 96=some true:=aA
@[go_sem] theorem aiM:xQ Tryz.prog 96=some 24:=aA
@[go_sem] theorem Pred.aEJ:∀x:Pred,kN Tryz.prog 29 x.c 0=some (Pred.v x):=fun x=>aA
@[go_sem] theorem Pred.aEK:∀x:Pred,kN Tryz.prog 27 x.c 5=some (lv Pred.v x.bS):=fun x=>by rw[<-Pred.Jl];kernel_rfl
end Sh
