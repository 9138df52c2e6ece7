import Derived.KernelRfl
import Derived.Test.YtgdialomgeijcaaGreatF3605
import Derived.Test.YtgdialomgeijcaaGreatProg
set_option linter.all false
open Go Go.Proofs Aq
namespace Sh
set_option maxRecDepth 100000
structure Pred where
 Op:Int
 Name:List UInt8
 N:Int
 M:Int
 S:List UInt8
 Rj:List Pred
mutual
def Pred.vr:Pred->V
 | ⟨a0,a1,a2,a3,a4,a5⟩=>.agg [.int .i64 a0,.str a1,.int .i64 a2,.int .i64 a3,.str a4,.tX .sh (Pred.vl a5)]
def Pred.vl:List Pred->List V
 | []=>[]|p::l=>Pred.vr p::Pred.vl l
end
theorem Pred.alS:∀l,Pred.vl l=l.map Pred.vr
 | []=>by simp[Pred.vl]|p::l=>by rw[Pred.vl,PU,<-Pred.alS l]
def Pred.c (x:Pred):List V:=[.int .i64 x.Op,.str x.Name,.int .i64 x.N,.int .i64 x.M,.str x.S,.tX .sh (x.Rj.map Pred.vr)]
def Pred.v (x:Pred):V:=.agg x.c
theorem Pred.afl:Pred.vr=Pred.v:=by funext x;cases x;simp[Pred.vr,Pred.v,Pred.c,Pred.alS]
theorem Pred.afm (l:List Pred):V.tX .sh (l.map Pred.vr)=lv Pred.v l:=by rw[Pred.afl];rfl
theorem Pred.cells (x:Pred):((Pred.v x).cells)=x.c:=rfl
theorem Pred.nr (x:Pred):SQ x.v=true:=rfl
theorem Pred.V9 (x:Pred):er x.v=x.v:=rfl
theorem Pred.len (x:Pred):x.c.length=6:=rfl
theorem Pred.one (x:Pred):RP x.c=true:=rfl
theorem Pred.pcr:∀x:Pred,Q9 x.vr=true:=by
 intro x;refine Pred.rec (motive_1:=fun x=>Q9 x.vr=true) (motive_2:=fun l=>Ry (Pred.vl l)=true) ?_ ?_ ?_ x
 .intros;simp_all[Pred.vr,Q9,Ry,aah,aai]
 .simp[Pred.vl,Ry]
 .intro p l h1 h2;simp[Pred.vl,Ry,h1,h2]
theorem Pred.pc (x:Pred):Q9 x.v=true:=by rw[<-Pred.afl];exact Pred.pcr x
attribute [go_sem] Pred.nr Pred.V9 Pred.cells Pred.len Pred.one Pred.pc Pred.afm
structure Def where
 Name:List UInt8
 Kind:Int
 Lo:Int
 Hi:Int
 Words:List (List UInt8)
 deriving DecidableEq
def Def.c (x:Def):List V:=[.str x.Name,.int .i64 x.Kind,.int .i64 x.Lo,.int .i64 x.Hi,lv V.str x.Words]
def Def.v (x:Def):V:=.agg x.c
theorem Def.cells (x:Def):((Def.v x).cells)=x.c:=rfl
theorem Def.nr (x:Def):SQ x.v=true:=rfl
theorem Def.V9 (x:Def):er x.v=x.v:=rfl
theorem Def.len (x:Def):x.c.length=5:=rfl
theorem Def.one (x:Def):RP x.c=true:=rfl
theorem Def.pc (x:Def):Q9 x.v=true:=by simp[Def.v,Def.c,Q9,Ry,X3,aah,aai,aaL,aaM,iv]
attribute [go_sem] Def.nr Def.V9 Def.cells Def.len Def.one Def.pc
structure Rm where
 VH:Int
 XQ:Int
 Defs:List Def
 deriving DecidableEq
def Rm.c (x:Rm):List V:=[.int .i64 x.VH,.int .i64 x.XQ,lv Def.v x.Defs]
def Rm.v (x:Rm):V:=.agg x.c
theorem Rm.cells (x:Rm):((Rm.v x).cells)=x.c:=rfl
theorem Rm.nr (x:Rm):SQ x.v=true:=rfl
theorem Rm.V9 (x:Rm):er x.v=x.v:=rfl
theorem Rm.len (x:Rm):x.c.length=3:=rfl
theorem Rm.one (x:Rm):RP x.c=true:=rfl
theorem Rm.pc (x:Rm):Q9 x.v=true:=by simp[Rm.v,Rm.c,Q9,Ry,X3,aah,aai,aaL,aaM,iv,Def.pc]
attribute [go_sem] Rm.nr Rm.V9 Rm.cells Rm.len Rm.one Rm.pc
structure Attr where
 Name:List UInt8
 Kind:Int
 N:Int
 S:List UInt8
 deriving DecidableEq
def Attr.c (x:Attr):List V:=[.str x.Name,.int .i64 x.Kind,.int .i64 x.N,.str x.S]
def Attr.v (x:Attr):V:=.agg x.c
theorem Attr.cells (x:Attr):((Attr.v x).cells)=x.c:=rfl
theorem Attr.nr (x:Attr):SQ x.v=true:=rfl
theorem Attr.V9 (x:Attr):er x.v=x.v:=rfl
theorem Attr.len (x:Attr):x.c.length=4:=rfl
theorem Attr.one (x:Attr):RP x.c=true:=rfl
theorem Attr.pc (x:Attr):Q9 x.v=true:=by simp[Attr.v,Attr.c,Q9,Ry,X3,aah,aai,aaL,aaM,iv]
attribute [go_sem] Attr.nr Attr.V9 Attr.cells Attr.len Attr.one Attr.pc
structure RY where
 L:List Attr
 None:Bool
 E:Int
 deriving DecidableEq
def RY.c (x:RY):List V:=[lv Attr.v x.L,.bool x.None,.int .i64 x.E]
def RY.v (x:RY):V:=.agg x.c
theorem RY.cells (x:RY):((RY.v x).cells)=x.c:=rfl
theorem RY.nr (x:RY):SQ x.v=true:=rfl
theorem RY.V9 (x:RY):er x.v=x.v:=rfl
theorem RY.len (x:RY):x.c.length=3:=rfl
theorem RY.one (x:RY):RP x.c=true:=rfl
theorem RY.pc (x:RY):Q9 x.v=true:=by simp[RY.v,RY.c,Q9,Ry,X3,aah,aai,aaL,aaM,iv,Attr.pc]
attribute [go_sem] RY.nr RY.V9 RY.cells RY.len RY.one RY.pc
structure SE where
 A:Attr
 Is:Bool
 deriving DecidableEq
def SE.c (x:SE):List V:=[.str x.A.Name,.int .i64 x.A.Kind,.int .i64 x.A.N,.str x.A.S,.bool x.Is]
def SE.v (x:SE):V:=.agg x.c
theorem SE.cells (x:SE):((SE.v x).cells)=x.c:=rfl
theorem SE.nr (x:SE):SQ x.v=true:=rfl
theorem SE.V9 (x:SE):er x.v=x.v:=rfl
theorem SE.len (x:SE):x.c.length=5:=rfl
theorem SE.one (x:SE):RP x.c=true:=rfl
theorem SE.pc (x:SE):Q9 x.v=true:=by simp[SE.v,SE.c,Q9,Ry,X3,aah,aai,aaL,aaM,iv,Attr.pc]
attribute [go_sem] SE.nr SE.V9 SE.cells SE.len SE.one SE.pc
structure Rv where
 A:Attr
 Is:Bool
 deriving DecidableEq
def Rv.c (x:Rv):List V:=[.str x.A.Name,.int .i64 x.A.Kind,.int .i64 x.A.N,.str x.A.S,.bool x.Is]
def Rv.v (x:Rv):V:=.agg x.c
theorem Rv.cells (x:Rv):((Rv.v x).cells)=x.c:=rfl
theorem Rv.nr (x:Rv):SQ x.v=true:=rfl
theorem Rv.V9 (x:Rv):er x.v=x.v:=rfl
theorem Rv.len (x:Rv):x.c.length=5:=rfl
theorem Rv.one (x:Rv):RP x.c=true:=rfl
theorem Rv.pc (x:Rv):Q9 x.v=true:=by simp[Rv.v,Rv.c,Q9,Ry,X3,aah,aai,aaL,aaM,iv,Attr.pc]
attribute [go_sem] Rv.nr Rv.V9 Rv.cells Rv.len Rv.one Rv.pc
structure Q7 where
 a:Attr
 is:Bool
 deriving DecidableEq
def Q7.c (x:Q7):List V:=[.str x.a.Name,.int .i64 x.a.Kind,.int .i64 x.a.N,.str x.a.S,.bool x.is]
def Q7.v (x:Q7):V:=.agg x.c
theorem Q7.cells (x:Q7):((Q7.v x).cells)=x.c:=rfl
theorem Q7.nr (x:Q7):SQ x.v=true:=rfl
theorem Q7.V9 (x:Q7):er x.v=x.v:=rfl
theorem Q7.len (x:Q7):x.c.length=5:=rfl
theorem Q7.one (x:Q7):RP x.c=true:=rfl
theorem Q7.pc (x:Q7):Q9 x.v=true:=by simp[Q7.v,Q7.c,Q9,Ry,X3,aah,aai,aaL,aaM,iv,Attr.pc]
attribute [go_sem] Q7.nr Q7.V9 Q7.cells Q7.len Q7.one Q7.pc
@[go_sem] theorem axd:XH Tryz.prog 22=true:=by kernel_rfl
@[go_sem] theorem axe:WY Tryz.prog 24 5=some (5,22):=by kernel_rfl
@[go_sem] theorem axf:RL Tryz.prog 81=some 1:=by kernel_rfl
@[go_sem] theorem axg:U7 Tryz.prog 81=some false:=by kernel_rfl
@[go_sem] theorem axh:XH Tryz.prog 81=true:=by kernel_rfl
@[go_sem] theorem axi:RL Tryz.prog 97=some 1:=by kernel_rfl
@[go_sem] theorem axj:U7 Tryz.prog 97=some false:=by kernel_rfl
@[go_sem] theorem axk:XH Tryz.prog 97=true:=by kernel_rfl
@[go_sem] theorem axl:WY Tryz.prog 115 0=some (0,56):=by kernel_rfl
@[go_sem] theorem axn:WY Tryz.prog 115 1=some (4,4):=by kernel_rfl
@[go_sem] theorem Pred.axo:∀x:Pred,TK Tryz.prog 24 x.c 0=some (Pred.v x):=fun x=>by kernel_rfl
@[go_sem] theorem Pred.axp:∀x:Pred,TK Tryz.prog 22 x.c 5=some (lv Pred.v x.Rj):=fun x=>by rw[<-Pred.afm];kernel_rfl
@[go_sem] theorem SE.alT:∀x:SE,TK Tryz.prog 4 x.c 4=some (.bool x.Is):=fun x=>by kernel_rfl
@[go_sem] theorem Rv.alT:∀x:Rv,TK Tryz.prog 4 x.c 4=some (.bool x.Is):=fun x=>by kernel_rfl
@[go_sem] theorem Q7.axq:∀x:Q7,TK Tryz.prog 115 x.c 0=some (Q7.v x):=fun x=>by kernel_rfl
@[go_sem] theorem Q7.alT:∀x:Q7,TK Tryz.prog 4 x.c 4=some (.bool x.is):=fun x=>by kernel_rfl
end Sh
