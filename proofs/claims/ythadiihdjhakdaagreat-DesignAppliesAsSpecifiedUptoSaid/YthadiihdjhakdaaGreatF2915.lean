import Derived.KernelRfl
import Derived.Test.YthadiihdjhakdaaGreatF2906
import Derived.Test.YthadiihdjhakdaaGreatProg
set_option linter.all false
open Go Go.Proofs aY
namespace Sh
set_option maxRecDepth 100000
structure Def where
 Name:List UInt8
 Kind:Int
 Lo:Int
 Hi:Int
 Words:List (List UInt8)
 deriving DecidableEq
def Def.c (x:Def):List V:=[.str x.Name,.int .i64 x.Kind,.int .i64 x.Lo,.int .i64 x.Hi,lv V.str x.Words]
def Def.v (x:Def):V:=.agg x.c
theorem Def.cells (x:Def):((Def.v x).cells)=x.c:=rfl
theorem Def.nr (x:Def):fV x.v=true:=rfl
theorem Def.jG (x:Def):er x.v=x.v:=rfl
theorem Def.len (x:Def):x.c.length=5:=rfl
theorem Def.one (x:Def):dD x.c=true:=rfl
theorem Def.pc (x:Def):aU x.v=true:=by simp[Def.v,Def.c,aU,bN,nX,pG,pI,qp,qw,iv]
attribute [go_sem] Def.nr Def.jG Def.cells Def.len Def.one Def.pc
structure aN where
 iT:Int
 jH:Int
 Defs:List Def
 deriving DecidableEq
def aN.c (x:aN):List V:=[.int .i64 x.iT,.int .i64 x.jH,lv Def.v x.Defs]
def aN.v (x:aN):V:=.agg x.c
theorem aN.cells (x:aN):((aN.v x).cells)=x.c:=rfl
theorem aN.nr (x:aN):fV x.v=true:=rfl
theorem aN.jG (x:aN):er x.v=x.v:=rfl
theorem aN.len (x:aN):x.c.length=3:=rfl
theorem aN.one (x:aN):dD x.c=true:=rfl
theorem aN.pc (x:aN):aU x.v=true:=by simp[aN.v,aN.c,aU,bN,nX,pG,pI,qp,qw,iv,Def.pc]
attribute [go_sem] aN.nr aN.jG aN.cells aN.len aN.one aN.pc
structure Pred where
 Op:Int
 Name:List UInt8
 N:Int
 M:Int
 S:List UInt8
 Uz:List Pred
mutual
def Pred.vr:Pred->V
 | ⟨a0,a1,a2,a3,a4,a5⟩=>.agg [.int .i64 a0,.str a1,.int .i64 a2,.int .i64 a3,.str a4,.ay .sh (Pred.vl a5)]
def Pred.vl:List Pred->List V
 | []=>[]|p::l=>Pred.vr p::Pred.vl l
end
theorem Pred.air:∀l,Pred.vl l=l.map Pred.vr
 | []=>by simp[Pred.vl]|p::l=>by rw[Pred.vl,fG,<-Pred.air l]
def Pred.c (x:Pred):List V:=[.int .i64 x.Op,.str x.Name,.int .i64 x.N,.int .i64 x.M,.str x.S,.ay .sh (x.Uz.map Pred.vr)]
def Pred.v (x:Pred):V:=.agg x.c
theorem Pred.ais:Pred.vr=Pred.v:=by funext x;cases x;simp[Pred.vr,Pred.v,Pred.c,Pred.air]
theorem Pred.UA (l:List Pred):V.ay .sh (l.map Pred.vr)=lv Pred.v l:=by rw[Pred.ais];rfl
theorem Pred.cells (x:Pred):((Pred.v x).cells)=x.c:=rfl
theorem Pred.nr (x:Pred):fV x.v=true:=rfl
theorem Pred.jG (x:Pred):er x.v=x.v:=rfl
theorem Pred.len (x:Pred):x.c.length=6:=rfl
theorem Pred.one (x:Pred):dD x.c=true:=rfl
theorem Pred.asC:∀x:Pred,aU x.vr=true:=by
 intro x;refine Pred.rec (motive_1:=fun x=>aU x.vr=true) (motive_2:=fun l=>bN (Pred.vl l)=true) ?_ ?_ ?_ x
 ·intros;simp_all[Pred.vr,aU,bN,pG,pI]
 ·simp[Pred.vl,bN]
 ·intro p l h1 h2;simp[Pred.vl,bN,h1,h2]
theorem Pred.pc (x:Pred):aU x.v=true:=by rw[<-Pred.ais];exact Pred.asC x
attribute [go_sem] Pred.nr Pred.jG Pred.cells Pred.len Pred.one Pred.pc Pred.UA
structure Snapshot where
 Day:Int
 aB:Int
 deriving DecidableEq
def Snapshot.c (x:Snapshot):List V:=[.int .i64 x.Day,.int .i64 x.aB]
def Snapshot.v (x:Snapshot):V:=.agg x.c
theorem Snapshot.cells (x:Snapshot):((Snapshot.v x).cells)=x.c:=rfl
theorem Snapshot.nr (x:Snapshot):fV x.v=true:=rfl
theorem Snapshot.jG (x:Snapshot):er x.v=x.v:=rfl
theorem Snapshot.len (x:Snapshot):x.c.length=2:=rfl
theorem Snapshot.one (x:Snapshot):dD x.c=true:=rfl
theorem Snapshot.pc (x:Snapshot):aU x.v=true:=by simp[Snapshot.v,Snapshot.c,aU,bN,nX,pG,pI,qp,qw,iv]
attribute [go_sem] Snapshot.nr Snapshot.jG Snapshot.cells Snapshot.len Snapshot.one Snapshot.pc
structure Query where
 Vec:List Int
 K:Int
 Within:Int
 Where:Pred
 At:Snapshot
 Budget:Int
def Query.c (x:Query):List V:=[lv iv x.Vec,.int .i64 x.K,.int .i64 x.Within,.int .i64 x.Where.Op,.str x.Where.Name,.int .i64 x.Where.N,.int .i64 x.Where.M,.str x.Where.S,.ay .sh (x.Where.Uz.map Pred.vr),.int .i64 x.At.Day,.int .i64 x.At.aB,.int .i64 x.Budget]
def Query.v (x:Query):V:=.agg x.c
theorem Query.cells (x:Query):((Query.v x).cells)=x.c:=rfl
theorem Query.nr (x:Query):fV x.v=true:=rfl
theorem Query.jG (x:Query):er x.v=x.v:=rfl
theorem Query.len (x:Query):x.c.length=12:=rfl
theorem Query.one (x:Query):dD x.c=true:=rfl
theorem Query.pc (x:Query):aU x.v=true:=by simp[Query.v,Query.c,aU,bN,nX,pG,pI,qp,qw,iv,Pred.pc,Snapshot.pc,Pred.UA]
attribute [go_sem] Query.nr Query.jG Query.cells Query.len Query.one Query.pc
structure Attr where
 Name:List UInt8
 Kind:Int
 N:Int
 S:List UInt8
 deriving DecidableEq
def Attr.c (x:Attr):List V:=[.str x.Name,.int .i64 x.Kind,.int .i64 x.N,.str x.S]
def Attr.v (x:Attr):V:=.agg x.c
theorem Attr.cells (x:Attr):((Attr.v x).cells)=x.c:=rfl
theorem Attr.nr (x:Attr):fV x.v=true:=rfl
theorem Attr.jG (x:Attr):er x.v=x.v:=rfl
theorem Attr.len (x:Attr):x.c.length=4:=rfl
theorem Attr.one (x:Attr):dD x.c=true:=rfl
theorem Attr.pc (x:Attr):aU x.v=true:=by simp[Attr.v,Attr.c,aU,bN,nX,pG,pI,qp,qw,iv]
attribute [go_sem] Attr.nr Attr.jG Attr.cells Attr.len Attr.one Attr.pc
structure Entry where
 ID:Int
 dw:Int
 bP:Int
 dn:Int
 From:Int
 To:Int
 dH:Int
 Vec:List Int
 aQ:List Attr
 deriving DecidableEq
def Entry.c (x:Entry):List V:=[.int .i64 x.ID,.int .i64 x.dw,.int .i64 x.bP,.int .i64 x.dn,.int .i64 x.From,.int .i64 x.To,.int .i64 x.dH,lv iv x.Vec,lv Attr.v x.aQ]
def Entry.v (x:Entry):V:=.agg x.c
theorem Entry.cells (x:Entry):((Entry.v x).cells)=x.c:=rfl
theorem Entry.nr (x:Entry):fV x.v=true:=rfl
theorem Entry.jG (x:Entry):er x.v=x.v:=rfl
theorem Entry.len (x:Entry):x.c.length=9:=rfl
theorem Entry.one (x:Entry):dD x.c=true:=rfl
theorem Entry.pc (x:Entry):aU x.v=true:=by simp[Entry.v,Entry.c,aU,bN,nX,pG,pI,qp,qw,iv,Attr.pc]
attribute [go_sem] Entry.nr Entry.jG Entry.cells Entry.len Entry.one Entry.pc
structure Row where
 Entry:Entry
 fH:Int
 deriving DecidableEq
def Row.c (x:Row):List V:=[.int .i64 x.Entry.ID,.int .i64 x.Entry.dw,.int .i64 x.Entry.bP,.int .i64 x.Entry.dn,.int .i64 x.Entry.From,.int .i64 x.Entry.To,.int .i64 x.Entry.dH,lv iv x.Entry.Vec,lv Attr.v x.Entry.aQ,.int .i64 x.fH]
def Row.v (x:Row):V:=.agg x.c
theorem Row.cells (x:Row):((Row.v x).cells)=x.c:=rfl
theorem Row.nr (x:Row):fV x.v=true:=rfl
theorem Row.jG (x:Row):er x.v=x.v:=rfl
theorem Row.len (x:Row):x.c.length=10:=rfl
theorem Row.one (x:Row):dD x.c=true:=rfl
theorem Row.pc (x:Row):aU x.v=true:=by simp[Row.v,Row.c,aU,bN,nX,pG,pI,qp,qw,iv,Attr.pc,Entry.pc]
attribute [go_sem] Row.nr Row.jG Row.cells Row.len Row.one Row.pc
structure Book where
 aN:aN
 aB:Int
 Day:Int
 dL:List Int
 Rows:List Row
 deriving DecidableEq
def Book.c (x:Book):List V:=[.int .i64 x.aN.iT,.int .i64 x.aN.jH,lv Def.v x.aN.Defs,.int .i64 x.aB,.int .i64 x.Day,lv iv x.dL,lv Row.v x.Rows]
def Book.v (x:Book):V:=.agg x.c
theorem Book.cells (x:Book):((Book.v x).cells)=x.c:=rfl
theorem Book.nr (x:Book):fV x.v=true:=rfl
theorem Book.jG (x:Book):er x.v=x.v:=rfl
theorem Book.len (x:Book):x.c.length=7:=rfl
theorem Book.one (x:Book):dD x.c=true:=rfl
theorem Book.pc (x:Book):aU x.v=true:=by simp[Book.v,Book.c,aU,bN,nX,pG,pI,qp,qw,iv,Attr.pc,Def.pc,Entry.pc,Row.pc,aN.pc]
attribute [go_sem] Book.nr Book.jG Book.cells Book.len Book.one Book.pc
structure fA where
 B:Book
 N:Int
 E:Int
 deriving DecidableEq
def fA.c (x:fA):List V:=[.int .i64 x.B.aN.iT,.int .i64 x.B.aN.jH,lv Def.v x.B.aN.Defs,.int .i64 x.B.aB,.int .i64 x.B.Day,lv iv x.B.dL,lv Row.v x.B.Rows,.int .i64 x.N,.int .i64 x.E]
def fA.v (x:fA):V:=.agg x.c
theorem fA.cells (x:fA):((fA.v x).cells)=x.c:=rfl
theorem fA.nr (x:fA):fV x.v=true:=rfl
theorem fA.jG (x:fA):er x.v=x.v:=rfl
theorem fA.len (x:fA):x.c.length=9:=rfl
theorem fA.one (x:fA):dD x.c=true:=rfl
theorem fA.pc (x:fA):aU x.v=true:=by simp[fA.v,fA.c,aU,bN,nX,pG,pI,qp,qw,iv,Attr.pc,Book.pc,Def.pc,Entry.pc,Row.pc,aN.pc]
attribute [go_sem] fA.nr fA.jG fA.cells fA.len fA.one fA.pc
structure iB where
 ID:Int
 dw:Int
 Key:Int
 deriving DecidableEq
def iB.c (x:iB):List V:=[.int .i64 x.ID,.int .i64 x.dw,.int .i64 x.Key]
def iB.v (x:iB):V:=.agg x.c
theorem iB.cells (x:iB):((iB.v x).cells)=x.c:=rfl
theorem iB.nr (x:iB):fV x.v=true:=rfl
theorem iB.jG (x:iB):er x.v=x.v:=rfl
theorem iB.len (x:iB):x.c.length=3:=rfl
theorem iB.one (x:iB):dD x.c=true:=rfl
theorem iB.pc (x:iB):aU x.v=true:=by simp[iB.v,iB.c,aU,bN,nX,pG,pI,qp,qw,iv]
attribute [go_sem] iB.nr iB.jG iB.cells iB.len iB.one iB.pc
structure jW where
 L:List iB
 E:Int
 deriving DecidableEq
def jW.c (x:jW):List V:=[lv iB.v x.L,.int .i64 x.E]
def jW.v (x:jW):V:=.agg x.c
theorem jW.cells (x:jW):((jW.v x).cells)=x.c:=rfl
theorem jW.nr (x:jW):fV x.v=true:=rfl
theorem jW.jG (x:jW):er x.v=x.v:=rfl
theorem jW.len (x:jW):x.c.length=2:=rfl
theorem jW.one (x:jW):dD x.c=true:=rfl
theorem jW.pc (x:jW):aU x.v=true:=by simp[jW.v,jW.c,aU,bN,nX,pG,pI,qp,qw,iv,iB.pc]
attribute [go_sem] jW.nr jW.jG jW.cells jW.len jW.one jW.pc
structure jQ where
 b0:Int
 b1:Int
 b2:Int
 b3:Int
 b4:Int
 b5:Int
 b6:Int
 b7:Int
 b8:Int
 b9:Int
 b10:Int
 b11:Int
 b12:Int
 b13:Int
 b14:Int
 b15:Int
 deriving DecidableEq
def jQ.c (x:jQ):List V:=[.int .u8 x.b0,.int .u8 x.b1,.int .u8 x.b2,.int .u8 x.b3,.int .u8 x.b4,.int .u8 x.b5,.int .u8 x.b6,.int .u8 x.b7,.int .u8 x.b8,.int .u8 x.b9,.int .u8 x.b10,.int .u8 x.b11,.int .u8 x.b12,.int .u8 x.b13,.int .u8 x.b14,.int .u8 x.b15]
def jQ.v (x:jQ):V:=.agg x.c
theorem jQ.cells (x:jQ):((jQ.v x).cells)=x.c:=rfl
theorem jQ.nr (x:jQ):fV x.v=true:=rfl
theorem jQ.jG (x:jQ):er x.v=x.v:=rfl
theorem jQ.len (x:jQ):x.c.length=16:=rfl
theorem jQ.one (x:jQ):dD x.c=true:=rfl
theorem jQ.pc (x:jQ):aU x.v=true:=by simp[jQ.v,jQ.c,aU,bN,nX,pG,pI,qp,qw,iv]
attribute [go_sem] jQ.nr jQ.jG jQ.cells jQ.len jQ.one jQ.pc
structure Event where
 Kind:Int
 aB:Int
 Day:Int
 ID:Int
 bP:Int
 Until:Int
 From:Int
 Vec:List Int
 aQ:List Attr
 aO:jQ
 deriving DecidableEq
def Event.c (x:Event):List V:=[.int .i64 x.Kind,.int .i64 x.aB,.int .i64 x.Day,.int .i64 x.ID,.int .i64 x.bP,.int .i64 x.Until,.int .i64 x.From,lv iv x.Vec,lv Attr.v x.aQ,.int .u8 x.aO.b0,.int .u8 x.aO.b1,.int .u8 x.aO.b2,.int .u8 x.aO.b3,.int .u8 x.aO.b4,.int .u8 x.aO.b5,.int .u8 x.aO.b6,.int .u8 x.aO.b7,.int .u8 x.aO.b8,.int .u8 x.aO.b9,.int .u8 x.aO.b10,.int .u8 x.aO.b11,.int .u8 x.aO.b12,.int .u8 x.aO.b13,.int .u8 x.aO.b14,.int .u8 x.aO.b15]
def Event.v (x:Event):V:=.agg x.c
theorem Event.cells (x:Event):((Event.v x).cells)=x.c:=rfl
theorem Event.nr (x:Event):fV x.v=true:=rfl
theorem Event.jG (x:Event):er x.v=x.v:=rfl
theorem Event.len (x:Event):x.c.length=25:=rfl
theorem Event.one (x:Event):dD x.c=true:=rfl
theorem Event.pc (x:Event):aU x.v=true:=by simp[Event.v,Event.c,aU,bN,nX,pG,pI,qp,qw,iv,Attr.pc,jQ.pc]
attribute [go_sem] Event.nr Event.jG Event.cells Event.len Event.one Event.pc
structure dh where
 B:Book
 E:Int
 deriving DecidableEq
def dh.c (x:dh):List V:=[.int .i64 x.B.aN.iT,.int .i64 x.B.aN.jH,lv Def.v x.B.aN.Defs,.int .i64 x.B.aB,.int .i64 x.B.Day,lv iv x.B.dL,lv Row.v x.B.Rows,.int .i64 x.E]
def dh.v (x:dh):V:=.agg x.c
theorem dh.cells (x:dh):((dh.v x).cells)=x.c:=rfl
theorem dh.nr (x:dh):fV x.v=true:=rfl
theorem dh.jG (x:dh):er x.v=x.v:=rfl
theorem dh.len (x:dh):x.c.length=8:=rfl
theorem dh.one (x:dh):dD x.c=true:=rfl
theorem dh.pc (x:dh):aU x.v=true:=by simp[dh.v,dh.c,aU,bN,nX,pG,pI,qp,qw,iv,Attr.pc,Book.pc,Def.pc,Entry.pc,Row.pc,aN.pc]
attribute [go_sem] dh.nr dh.jG dh.cells dh.len dh.one dh.pc
structure jl where
 N:Int
 Is:Bool
 deriving DecidableEq
def jl.c (x:jl):List V:=[.int .i64 x.N,.bool x.Is]
def jl.v (x:jl):V:=.agg x.c
theorem jl.cells (x:jl):((jl.v x).cells)=x.c:=rfl
theorem jl.nr (x:jl):fV x.v=true:=rfl
theorem jl.jG (x:jl):er x.v=x.v:=rfl
theorem jl.len (x:jl):x.c.length=2:=rfl
theorem jl.one (x:jl):dD x.c=true:=rfl
theorem jl.pc (x:jl):aU x.v=true:=by simp[jl.v,jl.c,aU,bN,nX,pG,pI,qp,qw,iv]
attribute [go_sem] jl.nr jl.jG jl.cells jl.len jl.one jl.pc
structure eF where
 from_:Int
 to:Int
 deriving DecidableEq
def eF.c (x:eF):List V:=[.int .i64 x.from_,.int .i64 x.to]
def eF.v (x:eF):V:=.agg x.c
theorem eF.cells (x:eF):((eF.v x).cells)=x.c:=rfl
theorem eF.nr (x:eF):fV x.v=true:=rfl
theorem eF.jG (x:eF):er x.v=x.v:=rfl
theorem eF.len (x:eF):x.c.length=2:=rfl
theorem eF.one (x:eF):dD x.c=true:=rfl
theorem eF.pc (x:eF):aU x.v=true:=by simp[eF.v,eF.c,aU,bN,nX,pG,pI,qp,qw,iv]
attribute [go_sem] eF.nr eF.jG eF.cells eF.len eF.one eF.pc
structure jX where
 A:Attr
 Is:Bool
 deriving DecidableEq
def jX.c (x:jX):List V:=[.str x.A.Name,.int .i64 x.A.Kind,.int .i64 x.A.N,.str x.A.S,.bool x.Is]
def jX.v (x:jX):V:=.agg x.c
theorem jX.cells (x:jX):((jX.v x).cells)=x.c:=rfl
theorem jX.nr (x:jX):fV x.v=true:=rfl
theorem jX.jG (x:jX):er x.v=x.v:=rfl
theorem jX.len (x:jX):x.c.length=5:=rfl
theorem jX.one (x:jX):dD x.c=true:=rfl
theorem jX.pc (x:jX):aU x.v=true:=by simp[jX.v,jX.c,aU,bN,nX,pG,pI,qp,qw,iv,Attr.pc]
attribute [go_sem] jX.nr jX.jG jX.cells jX.len jX.one jX.pc
@[go_sem] theorem aBv:eX Tryz.prog 3=some 1:=aA
@[go_sem] theorem aBw:nU Tryz.prog 3=some false:=aA
@[go_sem] theorem asD:Tryz.prog.underlying 26=some (.slice 3):=aA
@[go_sem] theorem aBx:Aw Tryz.prog 37=true:=aA
@[go_sem] theorem asE:Tryz.prog.underlying 37=some (.slice 62):=aA
@[go_sem] theorem aBy:xH Tryz.prog 39 4=some (6,37):=aA
@[go_sem] theorem aBz:xH Tryz.prog 60 0=some (0,3):=aA
@[go_sem] theorem aBA:xH Tryz.prog 62 0=some (0,60):=aA
@[go_sem] theorem aN.zF:∀x:aN,iN Tryz.prog 3 x.c 0=some (.int .i64 x.iT):=fun x=>aA
@[go_sem] theorem Pred.zF:∀x:Pred,iN Tryz.prog 3 x.c 0=some (.int .i64 x.Op):=fun x=>aA
@[go_sem] theorem Snapshot.zF:∀x:Snapshot,iN Tryz.prog 3 x.c 0=some (.int .i64 x.Day):=fun x=>aA
@[go_sem] theorem Entry.zF:∀x:Entry,iN Tryz.prog 3 x.c 0=some (.int .i64 x.ID):=fun x=>aA
@[go_sem] theorem Row.aBB:∀x:Row,iN Tryz.prog 62 x.c 0=some (Row.v x):=fun x=>aA
@[go_sem] theorem Row.zF:∀x:Row,iN Tryz.prog 3 x.c 0=some (.int .i64 x.Entry.ID):=fun x=>aA
@[go_sem] theorem Book.zF:∀x:Book,iN Tryz.prog 3 x.c 0=some (.int .i64 x.aN.iT):=fun x=>aA
@[go_sem] theorem Book.ait:∀x:Book,iN Tryz.prog 37 x.c 6=some (lv Row.v x.Rows):=fun x=>aA
@[go_sem] theorem fA.zF:∀x:fA,iN Tryz.prog 3 x.c 0=some (.int .i64 x.B.aN.iT):=fun x=>aA
@[go_sem] theorem fA.ait:∀x:fA,iN Tryz.prog 37 x.c 6=some (lv Row.v x.B.Rows):=fun x=>aA
@[go_sem] theorem iB.zF:∀x:iB,iN Tryz.prog 3 x.c 0=some (.int .i64 x.ID):=fun x=>aA
@[go_sem] theorem Event.zF:∀x:Event,iN Tryz.prog 3 x.c 0=some (.int .i64 x.Kind):=fun x=>aA
@[go_sem] theorem dh.zF:∀x:dh,iN Tryz.prog 3 x.c 0=some (.int .i64 x.B.aN.iT):=fun x=>aA
@[go_sem] theorem dh.ait:∀x:dh,iN Tryz.prog 37 x.c 6=some (lv Row.v x.B.Rows):=fun x=>aA
@[go_sem] theorem jl.zF:∀x:jl,iN Tryz.prog 3 x.c 0=some (.int .i64 x.N):=fun x=>aA
@[go_sem] theorem eF.zF:∀x:eF,iN Tryz.prog 3 x.c 0=some (.int .i64 x.from_):=fun x=>aA
end Sh
