import Derived.KernelRfl
import Derived.Test.YtgdialomgeijcaaGreatF3505
import Derived.Test.YtgdialomgeijcaaGreatProg
set_option linter.all false
open Go Go.Proofs Aq
namespace Sh
set_option maxRecDepth 100000
structure Pred where
 Op:Int
 Name:List UInt8
 N:Int
 M:Int
 S:List UInt8
 Subs:List Pred
mutual
def Pred.vr:Pred->V
 | ⟨a0,a1,a2,a3,a4,a5⟩=>.agg [.int .i64 a0,.str a1,.int .i64 a2,.int .i64 a3,.str a4,.lst .sh (Pred.vl a5)]
def Pred.vl:List Pred->List V
 | []=>[]
 |p::l=>Pred.vr p::Pred.vl l
end
theorem Pred.vl_map:∀l,Pred.vl l=l.map Pred.vr
 | []=>by simp[Pred.vl]
 |p::l=>by rw[Pred.vl,Qd,<-Pred.vl_map l]
def Pred.c (x:Pred):List V:=[.int .i64 x.Op,.str x.Name,.int .i64 x.N,.int .i64 x.M,.str x.S,.lst .sh (x.Subs.map Pred.vr)]
def Pred.v (x:Pred):V:=.agg x.c
theorem Pred.vr_eq:Pred.vr=Pred.v:=by funext x;cases x;simp[Pred.vr,Pred.v,Pred.c,Pred.vl_map]
theorem Pred.vr_map (l:List Pred):V.lst .sh (l.map Pred.vr)=lv Pred.v l:=by rw[Pred.vr_eq];rfl
theorem Pred.cells (x:Pred):((Pred.v x).cells)=x.c:=rfl
theorem Pred.nr (x:Pred):notRaw x.v=true:=rfl
theorem Pred.er_ (x:Pred):er x.v=x.v:=rfl
theorem Pred.len (x:Pred):x.c.length=6:=rfl
theorem Pred.one (x:Pred):oneCells x.c=true:=rfl
theorem Pred.pcr:∀x:Pred,pclean x.vr=true:=by
 intro x
 refine Pred.rec (motive_1:=fun x=>pclean x.vr=true) (motive_2:=fun l=>pcleanL (Pred.vl l)=true) ?_ ?_ ?_ x
 .intros;simp_all[Pred.vr,pclean,pcleanL,pclean_lstr,pclean_liv]
 .simp[Pred.vl,pcleanL]
 .intro p l h1 h2;simp[Pred.vl,pcleanL,h1,h2]
theorem Pred.pc (x:Pred):pclean x.v=true:=by rw[<-Pred.vr_eq];exact Pred.pcr x
attribute [go_sem] Pred.nr Pred.er_ Pred.cells Pred.len Pred.one Pred.pc Pred.vr_map
structure Def where
 Name:List UInt8
 Kind:Int
 Lo:Int
 Hi:Int
 Words:List (List UInt8)
 deriving DecidableEq
def Def.c (x:Def):List V:=[.str x.Name,.int .i64 x.Kind,.int .i64 x.Lo,.int .i64 x.Hi,lv V.str x.Words]
def Def.v (x:Def):V:=.agg x.c
theorem Def.cells (x:Def):((Def.v x).cells)=x.c:=rfl
theorem Def.nr (x:Def):notRaw x.v=true:=rfl
theorem Def.er_ (x:Def):er x.v=x.v:=rfl
theorem Def.len (x:Def):x.c.length=5:=rfl
theorem Def.one (x:Def):oneCells x.c=true:=rfl
theorem Def.pc (x:Def):pclean x.v=true:=by simp[Def.v,Def.c,pclean,pcleanL,pclean_lv,pclean_lstr,pclean_liv,pclean_lint,pclean_lbool,iv]
attribute [go_sem] Def.nr Def.er_ Def.cells Def.len Def.one Def.pc
structure Schema where
 Dims:Int
 Metric:Int
 Defs:List Def
 deriving DecidableEq
def Schema.c (x:Schema):List V:=[.int .i64 x.Dims,.int .i64 x.Metric,lv Def.v x.Defs]
def Schema.v (x:Schema):V:=.agg x.c
theorem Schema.cells (x:Schema):((Schema.v x).cells)=x.c:=rfl
theorem Schema.nr (x:Schema):notRaw x.v=true:=rfl
theorem Schema.er_ (x:Schema):er x.v=x.v:=rfl
theorem Schema.len (x:Schema):x.c.length=3:=rfl
theorem Schema.one (x:Schema):oneCells x.c=true:=rfl
theorem Schema.pc (x:Schema):pclean x.v=true:=by simp[Schema.v,Schema.c,pclean,pcleanL,pclean_lv,pclean_lstr,pclean_liv,pclean_lint,pclean_lbool,iv,Def.pc]
attribute [go_sem] Schema.nr Schema.er_ Schema.cells Schema.len Schema.one Schema.pc
structure Attr where
 Name:List UInt8
 Kind:Int
 N:Int
 S:List UInt8
 deriving DecidableEq
def Attr.c (x:Attr):List V:=[.str x.Name,.int .i64 x.Kind,.int .i64 x.N,.str x.S]
def Attr.v (x:Attr):V:=.agg x.c
theorem Attr.cells (x:Attr):((Attr.v x).cells)=x.c:=rfl
theorem Attr.nr (x:Attr):notRaw x.v=true:=rfl
theorem Attr.er_ (x:Attr):er x.v=x.v:=rfl
theorem Attr.len (x:Attr):x.c.length=4:=rfl
theorem Attr.one (x:Attr):oneCells x.c=true:=rfl
theorem Attr.pc (x:Attr):pclean x.v=true:=by simp[Attr.v,Attr.c,pclean,pcleanL,pclean_lv,pclean_lstr,pclean_liv,pclean_lint,pclean_lbool,iv]
attribute [go_sem] Attr.nr Attr.er_ Attr.cells Attr.len Attr.one Attr.pc
structure ref17_Answer where
 L:List Attr
 None:Bool
 E:Int
 deriving DecidableEq
def ref17_Answer.c (x:ref17_Answer):List V:=[lv Attr.v x.L,.bool x.None,.int .i64 x.E]
def ref17_Answer.v (x:ref17_Answer):V:=.agg x.c
theorem ref17_Answer.cells (x:ref17_Answer):((ref17_Answer.v x).cells)=x.c:=rfl
theorem ref17_Answer.nr (x:ref17_Answer):notRaw x.v=true:=rfl
theorem ref17_Answer.er_ (x:ref17_Answer):er x.v=x.v:=rfl
theorem ref17_Answer.len (x:ref17_Answer):x.c.length=3:=rfl
theorem ref17_Answer.one (x:ref17_Answer):oneCells x.c=true:=rfl
theorem ref17_Answer.pc (x:ref17_Answer):pclean x.v=true:=by simp[ref17_Answer.v,ref17_Answer.c,pclean,pcleanL,pclean_lv,pclean_lstr,pclean_liv,pclean_lint,pclean_lbool,iv,Attr.pc]
attribute [go_sem] ref17_Answer.nr ref17_Answer.er_ ref17_Answer.cells ref17_Answer.len ref17_Answer.one ref17_Answer.pc
structure ref13_Got where
 A:Attr
 Is:Bool
 deriving DecidableEq
def ref13_Got.c (x:ref13_Got):List V:=[.str x.A.Name,.int .i64 x.A.Kind,.int .i64 x.A.N,.str x.A.S,.bool x.Is]
def ref13_Got.v (x:ref13_Got):V:=.agg x.c
theorem ref13_Got.cells (x:ref13_Got):((ref13_Got.v x).cells)=x.c:=rfl
theorem ref13_Got.nr (x:ref13_Got):notRaw x.v=true:=rfl
theorem ref13_Got.er_ (x:ref13_Got):er x.v=x.v:=rfl
theorem ref13_Got.len (x:ref13_Got):x.c.length=5:=rfl
theorem ref13_Got.one (x:ref13_Got):oneCells x.c=true:=rfl
theorem ref13_Got.pc (x:ref13_Got):pclean x.v=true:=by simp[ref13_Got.v,ref13_Got.c,pclean,pcleanL,pclean_lv,pclean_lstr,pclean_liv,pclean_lint,pclean_lbool,iv,Attr.pc]
attribute [go_sem] ref13_Got.nr ref13_Got.er_ ref13_Got.cells ref13_Got.len ref13_Got.one ref13_Got.pc
structure ref17_Cell where
 A:Attr
 Is:Bool
 deriving DecidableEq
def ref17_Cell.c (x:ref17_Cell):List V:=[.str x.A.Name,.int .i64 x.A.Kind,.int .i64 x.A.N,.str x.A.S,.bool x.Is]
def ref17_Cell.v (x:ref17_Cell):V:=.agg x.c
theorem ref17_Cell.cells (x:ref17_Cell):((ref17_Cell.v x).cells)=x.c:=rfl
theorem ref17_Cell.nr (x:ref17_Cell):notRaw x.v=true:=rfl
theorem ref17_Cell.er_ (x:ref17_Cell):er x.v=x.v:=rfl
theorem ref17_Cell.len (x:ref17_Cell):x.c.length=5:=rfl
theorem ref17_Cell.one (x:ref17_Cell):oneCells x.c=true:=rfl
theorem ref17_Cell.pc (x:ref17_Cell):pclean x.v=true:=by simp[ref17_Cell.v,ref17_Cell.c,pclean,pcleanL,pclean_lv,pclean_lstr,pclean_liv,pclean_lint,pclean_lbool,iv,Attr.pc]
attribute [go_sem] ref17_Cell.nr ref17_Cell.er_ ref17_Cell.cells ref17_Cell.len ref17_Cell.one ref17_Cell.pc
structure filter_cell where
 a:Attr
 is:Bool
 deriving DecidableEq
def filter_cell.c (x:filter_cell):List V:=[.str x.a.Name,.int .i64 x.a.Kind,.int .i64 x.a.N,.str x.a.S,.bool x.is]
def filter_cell.v (x:filter_cell):V:=.agg x.c
theorem filter_cell.cells (x:filter_cell):((filter_cell.v x).cells)=x.c:=rfl
theorem filter_cell.nr (x:filter_cell):notRaw x.v=true:=rfl
theorem filter_cell.er_ (x:filter_cell):er x.v=x.v:=rfl
theorem filter_cell.len (x:filter_cell):x.c.length=5:=rfl
theorem filter_cell.one (x:filter_cell):oneCells x.c=true:=rfl
theorem filter_cell.pc (x:filter_cell):pclean x.v=true:=by simp[filter_cell.v,filter_cell.c,pclean,pcleanL,pclean_lv,pclean_lstr,pclean_liv,pclean_lint,pclean_lbool,iv,Attr.pc]
attribute [go_sem] filter_cell.nr filter_cell.er_ filter_cell.cells filter_cell.len filter_cell.one filter_cell.pc
@[go_sem] theorem is22:isSliceT Tryz.prog 22=true:=by kernel_rfl
@[go_sem] theorem fa24_5:fieldT Tryz.prog 24 5=some (5,22):=by kernel_rfl
@[go_sem] theorem Pred.ld0_24:∀x:Pred,ldT Tryz.prog 24 x.c 0=some (Pred.v x):=fun x=>by kernel_rfl
@[go_sem] theorem Pred.ld5_22:∀x:Pred,ldT Tryz.prog 22 x.c 5=some (lv Pred.v x.Subs):=fun x=>by rw[<-Pred.vr_map];kernel_rfl
end Sh
