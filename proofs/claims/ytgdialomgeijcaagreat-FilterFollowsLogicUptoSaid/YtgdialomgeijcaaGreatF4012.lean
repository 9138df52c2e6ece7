import Derived.KernelRfl
import Derived.Test.YtgdialomgeijcaaGreatF4005
import Derived.Test.YtgdialomgeijcaaGreatProg
set_option linter.all false
open Go Go.Proofs Aq
namespace Sh
set_option maxRecDepth 100000
structure Pred where
 Op:Int
 Name:List UInt8
 N:Int
 M:Int
 S:List UInt8
 Ra:List Pred
mutual
def Pred.vr:Pred->V
 | ⟨a0,a1,a2,a3,a4,a5⟩=>.agg [.int .i64 a0,.str a1,.int .i64 a2,.int .i64 a3,.str a4,.tX .sh (Pred.vl a5)]
def Pred.vl:List Pred->List V
 | []=>[]|p::l=>Pred.vr p::Pred.vl l
end
theorem Pred.apj:∀l,Pred.vl l=l.map Pred.vr
 | []=>by simp[Pred.vl]|p::l=>by rw[Pred.vl,PS,<-Pred.apj l]
def Pred.c (x:Pred):List V:=[.int .i64 x.Op,.str x.Name,.int .i64 x.N,.int .i64 x.M,.str x.S,.tX .sh (x.Ra.map Pred.vr)]
def Pred.v (x:Pred):V:=.agg x.c
theorem Pred.ag5:Pred.vr=Pred.v:=by funext x;cases x;simp[Pred.vr,Pred.v,Pred.c,Pred.apj]
theorem Pred.ag6 (l:List Pred):V.tX .sh (l.map Pred.vr)=lv Pred.v l:=by rw[Pred.ag5];rfl
theorem Pred.cells (x:Pred):((Pred.v x).cells)=x.c:=rfl
theorem Pred.nr (x:Pred):Te x.v=true:=rfl
theorem Pred.WT (x:Pred):er x.v=x.v:=rfl
theorem Pred.len (x:Pred):x.c.length=6:=rfl
theorem Pred.one (x:Pred):RZ x.c=true:=rfl
theorem Pred.pcr:∀x:Pred,Rf x.vr=true:=by
 intro x;refine Pred.rec (motive_1:=fun x=>Rf x.vr=true) (motive_2:=fun l=>RJ (Pred.vl l)=true) ?_ ?_ ?_ x
 .intros;simp_all[Pred.vr,Rf,RJ,abx,aby]
 .simp[Pred.vl,RJ]
 .intro p l h1 h2;simp[Pred.vl,RJ,h1,h2]
theorem Pred.pc (x:Pred):Rf x.v=true:=by rw[<-Pred.ag5];exact Pred.pcr x
attribute [go_sem] Pred.nr Pred.WT Pred.cells Pred.len Pred.one Pred.pc Pred.ag6
structure Def where
 Name:List UInt8
 Kind:Int
 Lo:Int
 Hi:Int
 Words:List (List UInt8)
 deriving DecidableEq
def Def.c (x:Def):List V:=[.str x.Name,.int .i64 x.Kind,.int .i64 x.Lo,.int .i64 x.Hi,lv V.str x.Words]
def Def.v (x:Def):V:=.agg x.c
theorem Def.cells (x:Def):((Def.v x).cells)=x.c:=rfl
theorem Def.nr (x:Def):Te x.v=true:=rfl
theorem Def.WT (x:Def):er x.v=x.v:=rfl
theorem Def.len (x:Def):x.c.length=5:=rfl
theorem Def.one (x:Def):RZ x.c=true:=rfl
theorem Def.pc (x:Def):Rf x.v=true:=by simp[Def.v,Def.c,Rf,RJ,aac,abx,aby,ab3,ab4,iv]
attribute [go_sem] Def.nr Def.WT Def.cells Def.len Def.one Def.pc
structure Ro where
 X8:Int
 aaX:Int
 Defs:List Def
 deriving DecidableEq
def Ro.c (x:Ro):List V:=[.int .i64 x.X8,.int .i64 x.aaX,lv Def.v x.Defs]
def Ro.v (x:Ro):V:=.agg x.c
theorem Ro.cells (x:Ro):((Ro.v x).cells)=x.c:=rfl
theorem Ro.nr (x:Ro):Te x.v=true:=rfl
theorem Ro.WT (x:Ro):er x.v=x.v:=rfl
theorem Ro.len (x:Ro):x.c.length=3:=rfl
theorem Ro.one (x:Ro):RZ x.c=true:=rfl
theorem Ro.pc (x:Ro):Rf x.v=true:=by simp[Ro.v,Ro.c,Rf,RJ,aac,abx,aby,ab3,ab4,iv,Def.pc]
attribute [go_sem] Ro.nr Ro.WT Ro.cells Ro.len Ro.one Ro.pc
structure Attr where
 Name:List UInt8
 Kind:Int
 N:Int
 S:List UInt8
 deriving DecidableEq
def Attr.c (x:Attr):List V:=[.str x.Name,.int .i64 x.Kind,.int .i64 x.N,.str x.S]
def Attr.v (x:Attr):V:=.agg x.c
theorem Attr.cells (x:Attr):((Attr.v x).cells)=x.c:=rfl
theorem Attr.nr (x:Attr):Te x.v=true:=rfl
theorem Attr.WT (x:Attr):er x.v=x.v:=rfl
theorem Attr.len (x:Attr):x.c.length=4:=rfl
theorem Attr.one (x:Attr):RZ x.c=true:=rfl
theorem Attr.pc (x:Attr):Rf x.v=true:=by simp[Attr.v,Attr.c,Rf,RJ,aac,abx,aby,ab3,ab4,iv]
attribute [go_sem] Attr.nr Attr.WT Attr.cells Attr.len Attr.one Attr.pc
structure TK where
 L:List Attr
 None:Bool
 E:Int
 deriving DecidableEq
def TK.c (x:TK):List V:=[lv Attr.v x.L,.bool x.None,.int .i64 x.E]
def TK.v (x:TK):V:=.agg x.c
theorem TK.cells (x:TK):((TK.v x).cells)=x.c:=rfl
theorem TK.nr (x:TK):Te x.v=true:=rfl
theorem TK.WT (x:TK):er x.v=x.v:=rfl
theorem TK.len (x:TK):x.c.length=3:=rfl
theorem TK.one (x:TK):RZ x.c=true:=rfl
theorem TK.pc (x:TK):Rf x.v=true:=by simp[TK.v,TK.c,Rf,RJ,aac,abx,aby,ab3,ab4,iv,Attr.pc]
attribute [go_sem] TK.nr TK.WT TK.cells TK.len TK.one TK.pc
structure TS where
 A:Attr
 Is:Bool
 deriving DecidableEq
def TS.c (x:TS):List V:=[.str x.A.Name,.int .i64 x.A.Kind,.int .i64 x.A.N,.str x.A.S,.bool x.Is]
def TS.v (x:TS):V:=.agg x.c
theorem TS.cells (x:TS):((TS.v x).cells)=x.c:=rfl
theorem TS.nr (x:TS):Te x.v=true:=rfl
theorem TS.WT (x:TS):er x.v=x.v:=rfl
theorem TS.len (x:TS):x.c.length=5:=rfl
theorem TS.one (x:TS):RZ x.c=true:=rfl
theorem TS.pc (x:TS):Rf x.v=true:=by simp[TS.v,TS.c,Rf,RJ,aac,abx,aby,ab3,ab4,iv,Attr.pc]
attribute [go_sem] TS.nr TS.WT TS.cells TS.len TS.one TS.pc
structure RI where
 A:Attr
 Is:Bool
 deriving DecidableEq
def RI.c (x:RI):List V:=[.str x.A.Name,.int .i64 x.A.Kind,.int .i64 x.A.N,.str x.A.S,.bool x.Is]
def RI.v (x:RI):V:=.agg x.c
theorem RI.cells (x:RI):((RI.v x).cells)=x.c:=rfl
theorem RI.nr (x:RI):Te x.v=true:=rfl
theorem RI.WT (x:RI):er x.v=x.v:=rfl
theorem RI.len (x:RI):x.c.length=5:=rfl
theorem RI.one (x:RI):RZ x.c=true:=rfl
theorem RI.pc (x:RI):Rf x.v=true:=by simp[RI.v,RI.c,Rf,RJ,aac,abx,aby,ab3,ab4,iv,Attr.pc]
attribute [go_sem] RI.nr RI.WT RI.cells RI.len RI.one RI.pc
structure Rb where
 a:Attr
 is:Bool
 deriving DecidableEq
def Rb.c (x:Rb):List V:=[.str x.a.Name,.int .i64 x.a.Kind,.int .i64 x.a.N,.str x.a.S,.bool x.is]
def Rb.v (x:Rb):V:=.agg x.c
theorem Rb.cells (x:Rb):((Rb.v x).cells)=x.c:=rfl
theorem Rb.nr (x:Rb):Te x.v=true:=rfl
theorem Rb.WT (x:Rb):er x.v=x.v:=rfl
theorem Rb.len (x:Rb):x.c.length=5:=rfl
theorem Rb.one (x:Rb):RZ x.c=true:=rfl
theorem Rb.pc (x:Rb):Rf x.v=true:=by simp[Rb.v,Rb.c,Rf,RJ,aac,abx,aby,ab3,ab4,iv,Attr.pc]
attribute [go_sem] Rb.nr Rb.WT Rb.cells Rb.len Rb.one Rb.pc
@[go_sem] theorem aC6:YP Tryz.prog 22=true:=by kernel_rfl
@[go_sem] theorem aC7:YG Tryz.prog 24 5=some (5,22):=by kernel_rfl
@[go_sem] theorem aC8:RY Tryz.prog 81=some 1:=by kernel_rfl
@[go_sem] theorem aC9:VD Tryz.prog 81=some false:=by kernel_rfl
@[go_sem] theorem aDa:YP Tryz.prog 81=true:=by kernel_rfl
@[go_sem] theorem aDb:RY Tryz.prog 97=some 1:=by kernel_rfl
@[go_sem] theorem aDc:VD Tryz.prog 97=some false:=by kernel_rfl
@[go_sem] theorem aDd:YP Tryz.prog 97=true:=by kernel_rfl
@[go_sem] theorem aDe:YG Tryz.prog 115 0=some (0,56):=by kernel_rfl
@[go_sem] theorem aDf:YG Tryz.prog 115 1=some (4,4):=by kernel_rfl
@[go_sem] theorem Pred.aDg:∀x:Pred,Ub Tryz.prog 24 x.c 0=some (Pred.v x):=fun x=>by kernel_rfl
@[go_sem] theorem Pred.aDh:∀x:Pred,Ub Tryz.prog 22 x.c 5=some (lv Pred.v x.Ra):=fun x=>by rw[<-Pred.ag6];kernel_rfl
@[go_sem] theorem TS.apk:∀x:TS,Ub Tryz.prog 4 x.c 4=some (.bool x.Is):=fun x=>by kernel_rfl
@[go_sem] theorem RI.apk:∀x:RI,Ub Tryz.prog 4 x.c 4=some (.bool x.Is):=fun x=>by kernel_rfl
@[go_sem] theorem Rb.aDi:∀x:Rb,Ub Tryz.prog 115 x.c 0=some (Rb.v x):=fun x=>by kernel_rfl
@[go_sem] theorem Rb.apk:∀x:Rb,Ub Tryz.prog 4 x.c 4=some (.bool x.is):=fun x=>by kernel_rfl
end Sh
