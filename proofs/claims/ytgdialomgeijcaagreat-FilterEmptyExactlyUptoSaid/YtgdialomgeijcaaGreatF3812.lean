import Derived.KernelRfl
import Derived.Test.YtgdialomgeijcaaGreatF3805
import Derived.Test.YtgdialomgeijcaaGreatProg
set_option linter.all false
open Go Go.Proofs Aq
namespace Sh
set_option maxRecDepth 100000
structure Pred where
 Op:Int
 Name:List UInt8
 N:Int
 M:Int
 S:List UInt8
 Rs:List Pred
mutual
def Pred.vr:Pred->V
 | ⟨a0,a1,a2,a3,a4,a5⟩=>.agg [.int .i64 a0,.str a1,.int .i64 a2,.int .i64 a3,.str a4,.tX .sh (Pred.vl a5)]
def Pred.vl:List Pred->List V
 | []=>[]|p::l=>Pred.vr p::Pred.vl l
end
theorem Pred.alj:∀l,Pred.vl l=l.map Pred.vr
 | []=>by simp[Pred.vl]|p::l=>by rw[Pred.vl,PO,<-Pred.alj l]
def Pred.c (x:Pred):List V:=[.int .i64 x.Op,.str x.Name,.int .i64 x.N,.int .i64 x.M,.str x.S,.tX .sh (x.Rs.map Pred.vr)]
def Pred.v (x:Pred):V:=.agg x.c
theorem Pred.ae8:Pred.vr=Pred.v:=by funext x;cases x;simp[Pred.vr,Pred.v,Pred.c,Pred.alj]
theorem Pred.ae9 (l:List Pred):V.tX .sh (l.map Pred.vr)=lv Pred.v l:=by rw[Pred.ae8];rfl
theorem Pred.cells (x:Pred):((Pred.v x).cells)=x.c:=rfl
theorem Pred.nr (x:Pred):SI x.v=true:=rfl
theorem Pred.Wh (x:Pred):er x.v=x.v:=rfl
theorem Pred.len (x:Pred):x.c.length=6:=rfl
theorem Pred.one (x:Pred):RN x.c=true:=rfl
theorem Pred.pcr:∀x:Pred,Q9 x.vr=true:=by
 intro x;refine Pred.rec (motive_1:=fun x=>Q9 x.vr=true) (motive_2:=fun l=>Rz (Pred.vl l)=true) ?_ ?_ ?_ x
 .intros;simp_all[Pred.vr,Q9,Rz,Z8,Z9]
 .simp[Pred.vl,Rz]
 .intro p l h1 h2;simp[Pred.vl,Rz,h1,h2]
theorem Pred.pc (x:Pred):Q9 x.v=true:=by rw[<-Pred.ae8];exact Pred.pcr x
attribute [go_sem] Pred.nr Pred.Wh Pred.cells Pred.len Pred.one Pred.pc Pred.ae9
structure Def where
 Name:List UInt8
 Kind:Int
 Lo:Int
 Hi:Int
 Words:List (List UInt8)
 deriving DecidableEq
def Def.c (x:Def):List V:=[.str x.Name,.int .i64 x.Kind,.int .i64 x.Lo,.int .i64 x.Hi,lv V.str x.Words]
def Def.v (x:Def):V:=.agg x.c
theorem Def.cells (x:Def):((Def.v x).cells)=x.c:=rfl
theorem Def.nr (x:Def):SI x.v=true:=rfl
theorem Def.Wh (x:Def):er x.v=x.v:=rfl
theorem Def.len (x:Def):x.c.length=5:=rfl
theorem Def.one (x:Def):RN x.c=true:=rfl
theorem Def.pc (x:Def):Q9 x.v=true:=by simp[Def.v,Def.c,Q9,Rz,XU,Z8,Z9,aaF,aaG,iv]
attribute [go_sem] Def.nr Def.Wh Def.cells Def.len Def.one Def.pc
structure Rk where
 Wi:Int
 X4:Int
 Defs:List Def
 deriving DecidableEq
def Rk.c (x:Rk):List V:=[.int .i64 x.Wi,.int .i64 x.X4,lv Def.v x.Defs]
def Rk.v (x:Rk):V:=.agg x.c
theorem Rk.cells (x:Rk):((Rk.v x).cells)=x.c:=rfl
theorem Rk.nr (x:Rk):SI x.v=true:=rfl
theorem Rk.Wh (x:Rk):er x.v=x.v:=rfl
theorem Rk.len (x:Rk):x.c.length=3:=rfl
theorem Rk.one (x:Rk):RN x.c=true:=rfl
theorem Rk.pc (x:Rk):Q9 x.v=true:=by simp[Rk.v,Rk.c,Q9,Rz,XU,Z8,Z9,aaF,aaG,iv,Def.pc]
attribute [go_sem] Rk.nr Rk.Wh Rk.cells Rk.len Rk.one Rk.pc
structure Attr where
 Name:List UInt8
 Kind:Int
 N:Int
 S:List UInt8
 deriving DecidableEq
def Attr.c (x:Attr):List V:=[.str x.Name,.int .i64 x.Kind,.int .i64 x.N,.str x.S]
def Attr.v (x:Attr):V:=.agg x.c
theorem Attr.cells (x:Attr):((Attr.v x).cells)=x.c:=rfl
theorem Attr.nr (x:Attr):SI x.v=true:=rfl
theorem Attr.Wh (x:Attr):er x.v=x.v:=rfl
theorem Attr.len (x:Attr):x.c.length=4:=rfl
theorem Attr.one (x:Attr):RN x.c=true:=rfl
theorem Attr.pc (x:Attr):Q9 x.v=true:=by simp[Attr.v,Attr.c,Q9,Rz,XU,Z8,Z9,aaF,aaG,iv]
attribute [go_sem] Attr.nr Attr.Wh Attr.cells Attr.len Attr.one Attr.pc
structure Tm where
 L:List Attr
 None:Bool
 E:Int
 deriving DecidableEq
def Tm.c (x:Tm):List V:=[lv Attr.v x.L,.bool x.None,.int .i64 x.E]
def Tm.v (x:Tm):V:=.agg x.c
theorem Tm.cells (x:Tm):((Tm.v x).cells)=x.c:=rfl
theorem Tm.nr (x:Tm):SI x.v=true:=rfl
theorem Tm.Wh (x:Tm):er x.v=x.v:=rfl
theorem Tm.len (x:Tm):x.c.length=3:=rfl
theorem Tm.one (x:Tm):RN x.c=true:=rfl
theorem Tm.pc (x:Tm):Q9 x.v=true:=by simp[Tm.v,Tm.c,Q9,Rz,XU,Z8,Z9,aaF,aaG,iv,Attr.pc]
attribute [go_sem] Tm.nr Tm.Wh Tm.cells Tm.len Tm.one Tm.pc
structure Tt where
 A:Attr
 Is:Bool
 deriving DecidableEq
def Tt.c (x:Tt):List V:=[.str x.A.Name,.int .i64 x.A.Kind,.int .i64 x.A.N,.str x.A.S,.bool x.Is]
def Tt.v (x:Tt):V:=.agg x.c
theorem Tt.cells (x:Tt):((Tt.v x).cells)=x.c:=rfl
theorem Tt.nr (x:Tt):SI x.v=true:=rfl
theorem Tt.Wh (x:Tt):er x.v=x.v:=rfl
theorem Tt.len (x:Tt):x.c.length=5:=rfl
theorem Tt.one (x:Tt):RN x.c=true:=rfl
theorem Tt.pc (x:Tt):Q9 x.v=true:=by simp[Tt.v,Tt.c,Q9,Rz,XU,Z8,Z9,aaF,aaG,iv,Attr.pc]
attribute [go_sem] Tt.nr Tt.Wh Tt.cells Tt.len Tt.one Tt.pc
structure Ry where
 A:Attr
 Is:Bool
 deriving DecidableEq
def Ry.c (x:Ry):List V:=[.str x.A.Name,.int .i64 x.A.Kind,.int .i64 x.A.N,.str x.A.S,.bool x.Is]
def Ry.v (x:Ry):V:=.agg x.c
theorem Ry.cells (x:Ry):((Ry.v x).cells)=x.c:=rfl
theorem Ry.nr (x:Ry):SI x.v=true:=rfl
theorem Ry.Wh (x:Ry):er x.v=x.v:=rfl
theorem Ry.len (x:Ry):x.c.length=5:=rfl
theorem Ry.one (x:Ry):RN x.c=true:=rfl
theorem Ry.pc (x:Ry):Q9 x.v=true:=by simp[Ry.v,Ry.c,Q9,Rz,XU,Z8,Z9,aaF,aaG,iv,Attr.pc]
attribute [go_sem] Ry.nr Ry.Wh Ry.cells Ry.len Ry.one Ry.pc
structure Q6 where
 a:Attr
 is:Bool
 deriving DecidableEq
def Q6.c (x:Q6):List V:=[.str x.a.Name,.int .i64 x.a.Kind,.int .i64 x.a.N,.str x.a.S,.bool x.is]
def Q6.v (x:Q6):V:=.agg x.c
theorem Q6.cells (x:Q6):((Q6.v x).cells)=x.c:=rfl
theorem Q6.nr (x:Q6):SI x.v=true:=rfl
theorem Q6.Wh (x:Q6):er x.v=x.v:=rfl
theorem Q6.len (x:Q6):x.c.length=5:=rfl
theorem Q6.one (x:Q6):RN x.c=true:=rfl
theorem Q6.pc (x:Q6):Q9 x.v=true:=by simp[Q6.v,Q6.c,Q9,Rz,XU,Z8,Z9,aaF,aaG,iv,Attr.pc]
attribute [go_sem] Q6.nr Q6.Wh Q6.cells Q6.len Q6.one Q6.pc
@[go_sem] theorem awr:XD Tryz.prog 22=true:=by kernel_rfl
@[go_sem] theorem awt:WZ Tryz.prog 24 5=some (5,22):=by kernel_rfl
@[go_sem] theorem awu:RI Tryz.prog 81=some 1:=by kernel_rfl
@[go_sem] theorem awv:U8 Tryz.prog 81=some false:=by kernel_rfl
@[go_sem] theorem aww:XD Tryz.prog 81=true:=by kernel_rfl
@[go_sem] theorem awx:RI Tryz.prog 97=some 1:=by kernel_rfl
@[go_sem] theorem awy:U8 Tryz.prog 97=some false:=by kernel_rfl
@[go_sem] theorem awz:XD Tryz.prog 97=true:=by kernel_rfl
@[go_sem] theorem awC:WZ Tryz.prog 115 0=some (0,56):=by kernel_rfl
@[go_sem] theorem awD:WZ Tryz.prog 115 1=some (4,4):=by kernel_rfl
@[go_sem] theorem Pred.awE:∀x:Pred,TB Tryz.prog 24 x.c 0=some (Pred.v x):=fun x=>by kernel_rfl
@[go_sem] theorem Pred.awF:∀x:Pred,TB Tryz.prog 22 x.c 5=some (lv Pred.v x.Rs):=fun x=>by rw[<-Pred.ae9];kernel_rfl
@[go_sem] theorem Tt.alk:∀x:Tt,TB Tryz.prog 4 x.c 4=some (.bool x.Is):=fun x=>by kernel_rfl
@[go_sem] theorem Ry.alk:∀x:Ry,TB Tryz.prog 4 x.c 4=some (.bool x.Is):=fun x=>by kernel_rfl
@[go_sem] theorem Q6.awG:∀x:Q6,TB Tryz.prog 115 x.c 0=some (Q6.v x):=fun x=>by kernel_rfl
@[go_sem] theorem Q6.alk:∀x:Q6,TB Tryz.prog 4 x.c 4=some (.bool x.is):=fun x=>by kernel_rfl
end Sh
