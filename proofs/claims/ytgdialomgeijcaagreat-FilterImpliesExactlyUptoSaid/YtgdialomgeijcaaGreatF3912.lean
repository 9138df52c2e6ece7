import Derived.KernelRfl
import Derived.Test.YtgdialomgeijcaaGreatF3905
import Derived.Test.YtgdialomgeijcaaGreatProg
set_option linter.all false
open Go Go.Proofs Aq
namespace Sh
set_option maxRecDepth 100000
structure Pred where
 Op:Int
 Name:List UInt8
 N:Int
 M:Int
 S:List UInt8
 Rq:List Pred
mutual
def Pred.vr:Pred->V
 | ⟨a0,a1,a2,a3,a4,a5⟩=>.agg [.int .i64 a0,.str a1,.int .i64 a2,.int .i64 a3,.str a4,.tX .sh (Pred.vl a5)]
def Pred.vl:List Pred->List V
 | []=>[]|p::l=>Pred.vr p::Pred.vl l
end
theorem Pred.alz:∀l,Pred.vl l=l.map Pred.vr
 | []=>by simp[Pred.vl]|p::l=>by rw[Pred.vl,PO,<-Pred.alz l]
def Pred.c (x:Pred):List V:=[.int .i64 x.Op,.str x.Name,.int .i64 x.N,.int .i64 x.M,.str x.S,.tX .sh (x.Rq.map Pred.vr)]
def Pred.v (x:Pred):V:=.agg x.c
theorem Pred.afc:Pred.vr=Pred.v:=by funext x;cases x;simp[Pred.vr,Pred.v,Pred.c,Pred.alz]
theorem Pred.afd (l:List Pred):V.tX .sh (l.map Pred.vr)=lv Pred.v l:=by rw[Pred.afc];rfl
theorem Pred.cells (x:Pred):((Pred.v x).cells)=x.c:=rfl
theorem Pred.nr (x:Pred):SK x.v=true:=rfl
theorem Pred.Wm (x:Pred):er x.v=x.v:=rfl
theorem Pred.len (x:Pred):x.c.length=6:=rfl
theorem Pred.one (x:Pred):RP x.c=true:=rfl
theorem Pred.pcr:∀x:Pred,Q9 x.vr=true:=by
 intro x;refine Pred.rec (motive_1:=fun x=>Q9 x.vr=true) (motive_2:=fun l=>Rz (Pred.vl l)=true) ?_ ?_ ?_ x
 .intros;simp_all[Pred.vr,Q9,Rz,aad,aae]
 .simp[Pred.vl,Rz]
 .intro p l h1 h2;simp[Pred.vl,Rz,h1,h2]
theorem Pred.pc (x:Pred):Q9 x.v=true:=by rw[<-Pred.afc];exact Pred.pcr x
attribute [go_sem] Pred.nr Pred.Wm Pred.cells Pred.len Pred.one Pred.pc Pred.afd
structure Def where
 Name:List UInt8
 Kind:Int
 Lo:Int
 Hi:Int
 Words:List (List UInt8)
 deriving DecidableEq
def Def.c (x:Def):List V:=[.str x.Name,.int .i64 x.Kind,.int .i64 x.Lo,.int .i64 x.Hi,lv V.str x.Words]
def Def.v (x:Def):V:=.agg x.c
theorem Def.cells (x:Def):((Def.v x).cells)=x.c:=rfl
theorem Def.nr (x:Def):SK x.v=true:=rfl
theorem Def.Wm (x:Def):er x.v=x.v:=rfl
theorem Def.len (x:Def):x.c.length=5:=rfl
theorem Def.one (x:Def):RP x.c=true:=rfl
theorem Def.pc (x:Def):Q9 x.v=true:=by simp[Def.v,Def.c,Q9,Rz,X3,aad,aae,aaI,aaJ,iv]
attribute [go_sem] Def.nr Def.Wm Def.cells Def.len Def.one Def.pc
structure Ri where
 VJ:Int
 XP:Int
 Defs:List Def
 deriving DecidableEq
def Ri.c (x:Ri):List V:=[.int .i64 x.VJ,.int .i64 x.XP,lv Def.v x.Defs]
def Ri.v (x:Ri):V:=.agg x.c
theorem Ri.cells (x:Ri):((Ri.v x).cells)=x.c:=rfl
theorem Ri.nr (x:Ri):SK x.v=true:=rfl
theorem Ri.Wm (x:Ri):er x.v=x.v:=rfl
theorem Ri.len (x:Ri):x.c.length=3:=rfl
theorem Ri.one (x:Ri):RP x.c=true:=rfl
theorem Ri.pc (x:Ri):Q9 x.v=true:=by simp[Ri.v,Ri.c,Q9,Rz,X3,aad,aae,aaI,aaJ,iv,Def.pc]
attribute [go_sem] Ri.nr Ri.Wm Ri.cells Ri.len Ri.one Ri.pc
structure Attr where
 Name:List UInt8
 Kind:Int
 N:Int
 S:List UInt8
 deriving DecidableEq
def Attr.c (x:Attr):List V:=[.str x.Name,.int .i64 x.Kind,.int .i64 x.N,.str x.S]
def Attr.v (x:Attr):V:=.agg x.c
theorem Attr.cells (x:Attr):((Attr.v x).cells)=x.c:=rfl
theorem Attr.nr (x:Attr):SK x.v=true:=rfl
theorem Attr.Wm (x:Attr):er x.v=x.v:=rfl
theorem Attr.len (x:Attr):x.c.length=4:=rfl
theorem Attr.one (x:Attr):RP x.c=true:=rfl
theorem Attr.pc (x:Attr):Q9 x.v=true:=by simp[Attr.v,Attr.c,Q9,Rz,X3,aad,aae,aaI,aaJ,iv]
attribute [go_sem] Attr.nr Attr.Wm Attr.cells Attr.len Attr.one Attr.pc
structure Tq where
 L:List Attr
 None:Bool
 E:Int
 deriving DecidableEq
def Tq.c (x:Tq):List V:=[lv Attr.v x.L,.bool x.None,.int .i64 x.E]
def Tq.v (x:Tq):V:=.agg x.c
theorem Tq.cells (x:Tq):((Tq.v x).cells)=x.c:=rfl
theorem Tq.nr (x:Tq):SK x.v=true:=rfl
theorem Tq.Wm (x:Tq):er x.v=x.v:=rfl
theorem Tq.len (x:Tq):x.c.length=3:=rfl
theorem Tq.one (x:Tq):RP x.c=true:=rfl
theorem Tq.pc (x:Tq):Q9 x.v=true:=by simp[Tq.v,Tq.c,Q9,Rz,X3,aad,aae,aaI,aaJ,iv,Attr.pc]
attribute [go_sem] Tq.nr Tq.Wm Tq.cells Tq.len Tq.one Tq.pc
structure Tw where
 A:Attr
 Is:Bool
 deriving DecidableEq
def Tw.c (x:Tw):List V:=[.str x.A.Name,.int .i64 x.A.Kind,.int .i64 x.A.N,.str x.A.S,.bool x.Is]
def Tw.v (x:Tw):V:=.agg x.c
theorem Tw.cells (x:Tw):((Tw.v x).cells)=x.c:=rfl
theorem Tw.nr (x:Tw):SK x.v=true:=rfl
theorem Tw.Wm (x:Tw):er x.v=x.v:=rfl
theorem Tw.len (x:Tw):x.c.length=5:=rfl
theorem Tw.one (x:Tw):RP x.c=true:=rfl
theorem Tw.pc (x:Tw):Q9 x.v=true:=by simp[Tw.v,Tw.c,Q9,Rz,X3,aad,aae,aaI,aaJ,iv,Attr.pc]
attribute [go_sem] Tw.nr Tw.Wm Tw.cells Tw.len Tw.one Tw.pc
structure Ry where
 A:Attr
 Is:Bool
 deriving DecidableEq
def Ry.c (x:Ry):List V:=[.str x.A.Name,.int .i64 x.A.Kind,.int .i64 x.A.N,.str x.A.S,.bool x.Is]
def Ry.v (x:Ry):V:=.agg x.c
theorem Ry.cells (x:Ry):((Ry.v x).cells)=x.c:=rfl
theorem Ry.nr (x:Ry):SK x.v=true:=rfl
theorem Ry.Wm (x:Ry):er x.v=x.v:=rfl
theorem Ry.len (x:Ry):x.c.length=5:=rfl
theorem Ry.one (x:Ry):RP x.c=true:=rfl
theorem Ry.pc (x:Ry):Q9 x.v=true:=by simp[Ry.v,Ry.c,Q9,Rz,X3,aad,aae,aaI,aaJ,iv,Attr.pc]
attribute [go_sem] Ry.nr Ry.Wm Ry.cells Ry.len Ry.one Ry.pc
structure Q6 where
 a:Attr
 is:Bool
 deriving DecidableEq
def Q6.c (x:Q6):List V:=[.str x.a.Name,.int .i64 x.a.Kind,.int .i64 x.a.N,.str x.a.S,.bool x.is]
def Q6.v (x:Q6):V:=.agg x.c
theorem Q6.cells (x:Q6):((Q6.v x).cells)=x.c:=rfl
theorem Q6.nr (x:Q6):SK x.v=true:=rfl
theorem Q6.Wm (x:Q6):er x.v=x.v:=rfl
theorem Q6.len (x:Q6):x.c.length=5:=rfl
theorem Q6.one (x:Q6):RP x.c=true:=rfl
theorem Q6.pc (x:Q6):Q9 x.v=true:=by simp[Q6.v,Q6.c,Q9,Rz,X3,aad,aae,aaI,aaJ,iv,Attr.pc]
attribute [go_sem] Q6.nr Q6.Wm Q6.cells Q6.len Q6.one Q6.pc
@[go_sem] theorem awQ:XG Tryz.prog 22=true:=by kernel_rfl
@[go_sem] theorem awR:W9 Tryz.prog 24 5=some (5,22):=by kernel_rfl
@[go_sem] theorem awS:RN Tryz.prog 81=some 1:=by kernel_rfl
@[go_sem] theorem awT:U9 Tryz.prog 81=some false:=by kernel_rfl
@[go_sem] theorem awU:XG Tryz.prog 81=true:=by kernel_rfl
@[go_sem] theorem awV:RN Tryz.prog 97=some 1:=by kernel_rfl
@[go_sem] theorem awW:U9 Tryz.prog 97=some false:=by kernel_rfl
@[go_sem] theorem awX:XG Tryz.prog 97=true:=by kernel_rfl
@[go_sem] theorem awY:W9 Tryz.prog 115 0=some (0,56):=by kernel_rfl
@[go_sem] theorem awZ:W9 Tryz.prog 115 1=some (4,4):=by kernel_rfl
@[go_sem] theorem Pred.aw0:∀x:Pred,TF Tryz.prog 24 x.c 0=some (Pred.v x):=fun x=>by kernel_rfl
@[go_sem] theorem Pred.aw1:∀x:Pred,TF Tryz.prog 22 x.c 5=some (lv Pred.v x.Rq):=fun x=>by rw[<-Pred.afd];kernel_rfl
@[go_sem] theorem Tw.alA:∀x:Tw,TF Tryz.prog 4 x.c 4=some (.bool x.Is):=fun x=>by kernel_rfl
@[go_sem] theorem Ry.alA:∀x:Ry,TF Tryz.prog 4 x.c 4=some (.bool x.Is):=fun x=>by kernel_rfl
@[go_sem] theorem Q6.aw2:∀x:Q6,TF Tryz.prog 115 x.c 0=some (Q6.v x):=fun x=>by kernel_rfl
@[go_sem] theorem Q6.alA:∀x:Q6,TF Tryz.prog 4 x.c 4=some (.bool x.is):=fun x=>by kernel_rfl
end Sh
