/- Part of the proof of a law. -/
import Derived.KernelRfl
import Derived.Test.YtgdialomgeijcaaGreatF3406
import Derived.Test.YtgdialomgeijcaaGreatProg
set_option linter.all false
set_option linter.unusedSimpArgs false
set_option linter.unusedSectionVars false
open Go Go.Proofs Aq
namespace Sh
set_option maxRecDepth 100000
structure Pred where
 Op:Int
 Name:List UInt8
 N:Int
 M:Int
 S:List UInt8
 aG:List Pred
mutual
def Pred.vr:Pred→V
 | ⟨a0,a1,a2,a3,a4,a5⟩=>.agg [.int .i64 a0,.str a1,.int .i64 a2,.int .i64 a3,.str a4,.aj .sh (Pred.vl a5)]
def Pred.vl:List Pred→List V
 | []=>[]
 |p::l=>Pred.vr p::Pred.vl l
end
theorem Pred.Um:∀l,Pred.vl l=l.map Pred.vr
 | []=>by simp[Pred.vl]
 |p::l=>by rw[Pred.vl,List.map_cons,←Pred.Um l]
def Pred.c (x:Pred):List V:=[.int .i64 x.Op,.str x.Name,.int .i64 x.N,.int .i64 x.M,.str x.S,.aj .sh (x.aG.map Pred.vr)]
def Pred.v (x:Pred):V:=.agg x.c
theorem Pred.Mx:Pred.vr=Pred.v:=by funext x;cases x;simp[Pred.vr,Pred.v,Pred.c,Pred.Um]
theorem Pred.G7 (l:List Pred):V.aj .sh (l.map Pred.vr)=lv Pred.v l:=by rw[Pred.Mx];rfl
theorem Pred.cells (x:Pred):((Pred.v x).cells)=x.c:=rfl
theorem Pred.nr (x:Pred):dL x.v=true:=rfl
theorem Pred.lY (x:Pred):er x.v=x.v:=rfl
theorem Pred.len (x:Pred):x.c.length=6:=rfl
theorem Pred.one (x:Pred):bn x.c=true:=rfl
theorem Pred.pcr:∀x:Pred,aD x.vr=true:=by
 intro x
 refine Pred.rec (motive_1:=fun x=>aD x.vr=true) (motive_2:=fun l=>aY (Pred.vl l)=true) ?_ ?_ ?_ x
 ·intros;simp_all[Pred.vr,aD,aY,tO,tQ]
 ·simp[Pred.vl,aY]
 ·intro p l h1 h2;simp[Pred.vl,aY,h1,h2]
theorem Pred.pc (x:Pred):aD x.v=true:=by rw[←Pred.Mx];exact Pred.pcr x
attribute [go_sem] Pred.nr Pred.lY Pred.cells Pred.len Pred.one Pred.pc Pred.G7
structure Def where
 Name:List UInt8
 Kind:Int
 Lo:Int
 Hi:Int
 Words:List (List UInt8)
 deriving DecidableEq
def Def.c (x:Def):List V:=[.str x.Name,.int .i64 x.Kind,.int .i64 x.Lo,.int .i64 x.Hi,lv V.str x.Words]
def Def.v (x:Def):V:=.agg x.c
theorem Def.cells (x:Def):((Def.v x).cells)=x.c:=rfl
theorem Def.nr (x:Def):dL x.v=true:=rfl
theorem Def.lY (x:Def):er x.v=x.v:=rfl
theorem Def.len (x:Def):x.c.length=5:=rfl
theorem Def.one (x:Def):bn x.c=true:=rfl
theorem Def.pc (x:Def):aD x.v=true:=by simp[Def.v,Def.c,aD,aY,p9,tO,tQ,uY,uZ,iv]
attribute [go_sem] Def.nr Def.lY Def.cells Def.len Def.one Def.pc
structure fA where
 Un:Int
 Uo:Int
 Defs:List Def
 deriving DecidableEq
def fA.c (x:fA):List V:=[.int .i64 x.Un,.int .i64 x.Uo,lv Def.v x.Defs]
def fA.v (x:fA):V:=.agg x.c
theorem fA.cells (x:fA):((fA.v x).cells)=x.c:=rfl
theorem fA.nr (x:fA):dL x.v=true:=rfl
theorem fA.lY (x:fA):er x.v=x.v:=rfl
theorem fA.len (x:fA):x.c.length=3:=rfl
theorem fA.one (x:fA):bn x.c=true:=rfl
theorem fA.pc (x:fA):aD x.v=true:=by simp[fA.v,fA.c,aD,aY,p9,tO,tQ,uY,uZ,iv,Def.pc]
attribute [go_sem] fA.nr fA.lY fA.cells fA.len fA.one fA.pc
structure Attr where
 Name:List UInt8
 Kind:Int
 N:Int
 S:List UInt8
 deriving DecidableEq
def Attr.c (x:Attr):List V:=[.str x.Name,.int .i64 x.Kind,.int .i64 x.N,.str x.S]
def Attr.v (x:Attr):V:=.agg x.c
theorem Attr.cells (x:Attr):((Attr.v x).cells)=x.c:=rfl
theorem Attr.nr (x:Attr):dL x.v=true:=rfl
theorem Attr.lY (x:Attr):er x.v=x.v:=rfl
theorem Attr.len (x:Attr):x.c.length=4:=rfl
theorem Attr.one (x:Attr):bn x.c=true:=rfl
theorem Attr.pc (x:Attr):aD x.v=true:=by simp[Attr.v,Attr.c,aD,aY,p9,tO,tQ,uY,uZ,iv]
attribute [go_sem] Attr.nr Attr.lY Attr.cells Attr.len Attr.one Attr.pc
structure fB where
 L:List Attr
 None:Bool
 E:Int
 deriving DecidableEq
def fB.c (x:fB):List V:=[lv Attr.v x.L,.bool x.None,.int .i64 x.E]
def fB.v (x:fB):V:=.agg x.c
theorem fB.cells (x:fB):((fB.v x).cells)=x.c:=rfl
theorem fB.nr (x:fB):dL x.v=true:=rfl
theorem fB.lY (x:fB):er x.v=x.v:=rfl
theorem fB.len (x:fB):x.c.length=3:=rfl
theorem fB.one (x:fB):bn x.c=true:=rfl
theorem fB.pc (x:fB):aD x.v=true:=by simp[fB.v,fB.c,aD,aY,p9,tO,tQ,uY,uZ,iv,Attr.pc]
attribute [go_sem] fB.nr fB.lY fB.cells fB.len fB.one fB.pc
structure dz where
 A:Attr
 Is:Bool
 deriving DecidableEq
def dz.c (x:dz):List V:=[.str x.A.Name,.int .i64 x.A.Kind,.int .i64 x.A.N,.str x.A.S,.bool x.Is]
def dz.v (x:dz):V:=.agg x.c
theorem dz.cells (x:dz):((dz.v x).cells)=x.c:=rfl
theorem dz.nr (x:dz):dL x.v=true:=rfl
theorem dz.lY (x:dz):er x.v=x.v:=rfl
theorem dz.len (x:dz):x.c.length=5:=rfl
theorem dz.one (x:dz):bn x.c=true:=rfl
theorem dz.pc (x:dz):aD x.v=true:=by simp[dz.v,dz.c,aD,aY,p9,tO,tQ,uY,uZ,iv,Attr.pc]
attribute [go_sem] dz.nr dz.lY dz.cells dz.len dz.one dz.pc
structure fC where
 A:Attr
 Is:Bool
 deriving DecidableEq
def fC.c (x:fC):List V:=[.str x.A.Name,.int .i64 x.A.Kind,.int .i64 x.A.N,.str x.A.S,.bool x.Is]
def fC.v (x:fC):V:=.agg x.c
theorem fC.cells (x:fC):((fC.v x).cells)=x.c:=rfl
theorem fC.nr (x:fC):dL x.v=true:=rfl
theorem fC.lY (x:fC):er x.v=x.v:=rfl
theorem fC.len (x:fC):x.c.length=5:=rfl
theorem fC.one (x:fC):bn x.c=true:=rfl
theorem fC.pc (x:fC):aD x.v=true:=by simp[fC.v,fC.c,aD,aY,p9,tO,tQ,uY,uZ,iv,Attr.pc]
attribute [go_sem] fC.nr fC.lY fC.cells fC.len fC.one fC.pc
structure fD where
 a:Attr
 is:Bool
 deriving DecidableEq
def fD.c (x:fD):List V:=[.str x.a.Name,.int .i64 x.a.Kind,.int .i64 x.a.N,.str x.a.S,.bool x.is]
def fD.v (x:fD):V:=.agg x.c
theorem fD.cells (x:fD):((fD.v x).cells)=x.c:=rfl
theorem fD.nr (x:fD):dL x.v=true:=rfl
theorem fD.lY (x:fD):er x.v=x.v:=rfl
theorem fD.len (x:fD):x.c.length=5:=rfl
theorem fD.one (x:fD):bn x.c=true:=rfl
theorem fD.pc (x:fD):aD x.v=true:=by simp[fD.v,fD.c,aD,aY,p9,tO,tQ,uY,uZ,iv,Attr.pc]
attribute [go_sem] fD.nr fD.lY fD.cells fD.len fD.one fD.pc
@[go_sem] theorem ahA:qb Tryz.prog 22=true:=by kernel_rfl
@[go_sem] theorem ahB:qK Tryz.prog 24 5=some (5,22):=by kernel_rfl
@[go_sem] theorem Pred.ahC:∀x:Pred,eB Tryz.prog 24 x.c 0=some (Pred.v x):=fun x=>by kernel_rfl
@[go_sem] theorem Pred.ahD:∀x:Pred,eB Tryz.prog 22 x.c 5=some (lv Pred.v x.aG):=fun x=>by rw[←Pred.G7];kernel_rfl
end Sh
