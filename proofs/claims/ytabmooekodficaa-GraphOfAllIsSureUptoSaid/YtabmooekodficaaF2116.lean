import Derived.KernelRfl
import Derived.Test.YtabmooekodficaaF2106
import Derived.Test.YtabmooekodficaaProg
set_option linter.all false
open Go Go.Proofs Aq
namespace Sh
set_option maxRecDepth 100000
structure Hood where
 Radius:Int
 Slots:List Int
 deriving DecidableEq
def Hood.c (x:Hood):List V:=[.int .i64 x.Radius,lv iv x.Slots]
def Hood.v (x:Hood):V:=.agg x.c
theorem Hood.cells (x:Hood):((Hood.v x).cells)=x.c:=rfl
theorem Hood.nr (x:Hood):notRaw x.v=true:=rfl
theorem Hood.len (x:Hood):x.c.length=2:=rfl
theorem Hood.one (x:Hood):oneCells x.c=true:=rfl
theorem Hood.pc (x:Hood):pclean x.v=true:=by simp[Hood.v,Hood.c,pclean,pcleanL,pclean_lv,pclean_lstr,pclean_liv,pclean_lint,pclean_lbool,iv]
attribute [go_sem] Hood.nr Hood.cells Hood.len Hood.one Hood.pc
structure Graph where
 Hoods:List Hood
 deriving DecidableEq
def Graph.c (x:Graph):List V:=[lv Hood.v x.Hoods]
def Graph.v (x:Graph):V:=.agg x.c
theorem Graph.cells (x:Graph):((Graph.v x).cells)=x.c:=rfl
theorem Graph.nr (x:Graph):notRaw x.v=true:=rfl
theorem Graph.len (x:Graph):x.c.length=1:=rfl
theorem Graph.one (x:Graph):oneCells x.c=true:=rfl
theorem Graph.pc (x:Graph):pclean x.v=true:=by simp[Graph.v,Graph.c,pclean,pcleanL,pclean_lv,pclean_lstr,pclean_liv,pclean_lint,pclean_lbool,iv,Hood.pc]
attribute [go_sem] Graph.nr Graph.cells Graph.len Graph.one Graph.pc
structure graph_space where
 m:Int
 l:List (List Int)
 deriving DecidableEq
def graph_space.c (x:graph_space):List V:=[.int .i64 x.m,lv (lv iv) x.l]
def graph_space.v (x:graph_space):V:=.agg x.c
theorem graph_space.cells (x:graph_space):((graph_space.v x).cells)=x.c:=rfl
theorem graph_space.nr (x:graph_space):notRaw x.v=true:=rfl
theorem graph_space.len (x:graph_space):x.c.length=2:=rfl
theorem graph_space.one (x:graph_space):oneCells x.c=true:=rfl
theorem graph_space.pc (x:graph_space):pclean x.v=true:=by simp[graph_space.v,graph_space.c,pclean,pcleanL,pclean_lv,pclean_lstr,pclean_liv,pclean_lint,pclean_lbool,iv]
attribute [go_sem] graph_space.nr graph_space.cells graph_space.len graph_space.one graph_space.pc
structure graph_search where
 space:graph_space
 g:Graph
 keyed:List Int
 deriving DecidableEq
def graph_search.c (x:graph_search):List V:=[.int .i64 x.space.m,lv (lv iv) x.space.l,lv Hood.v x.g.Hoods,lv iv x.keyed]
def graph_search.v (x:graph_search):V:=.agg x.c
theorem graph_search.cells (x:graph_search):((graph_search.v x).cells)=x.c:=rfl
theorem graph_search.nr (x:graph_search):notRaw x.v=true:=rfl
theorem graph_search.len (x:graph_search):x.c.length=4:=rfl
theorem graph_search.one (x:graph_search):oneCells x.c=true:=rfl
theorem graph_search.pc (x:graph_search):pclean x.v=true:=by simp[graph_search.v,graph_search.c,pclean,pcleanL,pclean_lv,pclean_lstr,pclean_liv,pclean_lint,pclean_lbool,iv,Graph.pc,Hood.pc,graph_space.pc]
attribute [go_sem] graph_search.nr graph_search.cells graph_search.len graph_search.one graph_search.pc
@[go_sem] theorem sz3:szT Try.prog 3=some 1:=by kernel_rfl
@[go_sem] theorem ag3:isAggT Try.prog 3=some false:=by kernel_rfl
@[go_sem] theorem sz26:szT Try.prog 26=some 1:=by kernel_rfl
@[go_sem] theorem ag26:isAggT Try.prog 26=some false:=by kernel_rfl
@[go_sem] theorem is26:isSliceT Try.prog 26=true:=by kernel_rfl
@[go_sem] theorem Hood.ld1_26:∀x:Hood,ldT Try.prog 26 x.c 1=some (lv iv x.Slots):=fun x=>by kernel_rfl
end Sh
