import Derived.KernelRfl
import Derived.Test.YtabmooekodficaaGreatDoorF4406
import Derived.Test.YtabmooekodficaaGreatDoorProg
set_option linter.all false
open Go Go.Proofs Aq
namespace Sh
set_option maxRecDepth 100000
structure Hood where
 Radius:Int
 Slots:List Int
 deriving DecidableEq
def Hood.c (x:Hood):List V:=[.int .i64 x.Radius,lv iv x.Slots]
def Hood.v (x:Hood):V:=.agg x.c
theorem Hood.cells (x:Hood):((Hood.v x).cells)=x.c:=rfl
theorem Hood.nr (x:Hood):notRaw x.v=true:=rfl
theorem Hood.len (x:Hood):x.c.length=2:=rfl
theorem Hood.one (x:Hood):oneCells x.c=true:=rfl
theorem Hood.pc (x:Hood):pclean x.v=true:=by simp[Hood.v,Hood.c,pclean,pcleanL,pclean_lv,pclean_lstr,pclean_liv,pclean_lint,pclean_lbool,iv]
attribute [go_sem] Hood.nr Hood.cells Hood.len Hood.one Hood.pc
structure Graph where
 Hoods:List Hood
 deriving DecidableEq
def Graph.c (x:Graph):List V:=[lv Hood.v x.Hoods]
def Graph.v (x:Graph):V:=.agg x.c
theorem Graph.cells (x:Graph):((Graph.v x).cells)=x.c:=rfl
theorem Graph.nr (x:Graph):notRaw x.v=true:=rfl
theorem Graph.len (x:Graph):x.c.length=1:=rfl
theorem Graph.one (x:Graph):oneCells x.c=true:=rfl
theorem Graph.pc (x:Graph):pclean x.v=true:=by simp[Graph.v,Graph.c,pclean,pcleanL,pclean_lv,pclean_lstr,pclean_liv,pclean_lint,pclean_lbool,iv,Hood.pc]
attribute [go_sem] Graph.nr Graph.cells Graph.len Graph.one Graph.pc
structure ah where
 b0:Int
 b1:Int
 b2:Int
 b3:Int
 b4:Int
 b5:Int
 b6:Int
 b7:Int
 b8:Int
 b9:Int
 b10:Int
 b11:Int
 b12:Int
 b13:Int
 b14:Int
 b15:Int
 deriving DecidableEq
def ah.c (x:ah):List V:=[.int .u8 x.b0,.int .u8 x.b1,.int .u8 x.b2,.int .u8 x.b3,.int .u8 x.b4,.int .u8 x.b5,.int .u8 x.b6,.int .u8 x.b7,.int .u8 x.b8,.int .u8 x.b9,.int .u8 x.b10,.int .u8 x.b11,.int .u8 x.b12,.int .u8 x.b13,.int .u8 x.b14,.int .u8 x.b15]
def ah.v (x:ah):V:=.agg x.c
theorem ah.cells (x:ah):((ah.v x).cells)=x.c:=rfl
theorem ah.nr (x:ah):notRaw x.v=true:=rfl
theorem ah.len (x:ah):x.c.length=16:=rfl
theorem ah.one (x:ah):oneCells x.c=true:=rfl
theorem ah.pc (x:ah):pclean x.v=true:=by simp[ah.v,ah.c,pclean,pcleanL,pclean_lv,pclean_lstr,pclean_liv,pclean_lint,pclean_lbool,iv]
attribute [go_sem] ah.nr ah.cells ah.len ah.one ah.pc
structure bJ where
 L:List ah
 E:Int
 deriving DecidableEq
def bJ.c (x:bJ):List V:=[lv ah.v x.L,.int .i64 x.E]
def bJ.v (x:bJ):V:=.agg x.c
theorem bJ.cells (x:bJ):((bJ.v x).cells)=x.c:=rfl
theorem bJ.nr (x:bJ):notRaw x.v=true:=rfl
theorem bJ.len (x:bJ):x.c.length=2:=rfl
theorem bJ.one (x:bJ):oneCells x.c=true:=rfl
theorem bJ.pc (x:bJ):pclean x.v=true:=by simp[bJ.v,bJ.c,pclean,pcleanL,pclean_lv,pclean_lstr,pclean_liv,pclean_lint,pclean_lbool,iv,ah.pc]
attribute [go_sem] bJ.nr bJ.cells bJ.len bJ.one bJ.pc
structure bR where
 L:List ah
 E:Int
 deriving DecidableEq
def bR.c (x:bR):List V:=[lv ah.v x.L,.int .i64 x.E]
def bR.v (x:bR):V:=.agg x.c
theorem bR.cells (x:bR):((bR.v x).cells)=x.c:=rfl
theorem bR.nr (x:bR):notRaw x.v=true:=rfl
theorem bR.len (x:bR):x.c.length=2:=rfl
theorem bR.one (x:bR):oneCells x.c=true:=rfl
theorem bR.pc (x:bR):pclean x.v=true:=by simp[bR.v,bR.c,pclean,pcleanL,pclean_lv,pclean_lstr,pclean_liv,pclean_lint,pclean_lbool,iv,ah.pc]
attribute [go_sem] bR.nr bR.cells bR.len bR.one bR.pc
structure graph_space where
 m:Int
 l:List (List Int)
 deriving DecidableEq
def graph_space.c (x:graph_space):List V:=[.int .i64 x.m,lv (lv iv) x.l]
def graph_space.v (x:graph_space):V:=.agg x.c
theorem graph_space.cells (x:graph_space):((graph_space.v x).cells)=x.c:=rfl
theorem graph_space.nr (x:graph_space):notRaw x.v=true:=rfl
theorem graph_space.len (x:graph_space):x.c.length=2:=rfl
theorem graph_space.one (x:graph_space):oneCells x.c=true:=rfl
theorem graph_space.pc (x:graph_space):pclean x.v=true:=by simp[graph_space.v,graph_space.c,pclean,pcleanL,pclean_lv,pclean_lstr,pclean_liv,pclean_lint,pclean_lbool,iv]
attribute [go_sem] graph_space.nr graph_space.cells graph_space.len graph_space.one graph_space.pc
structure graph_search where
 space:graph_space
 g:Graph
 keyed:List Int
 deriving DecidableEq
def graph_search.c (x:graph_search):List V:=[.int .i64 x.space.m,lv (lv iv) x.space.l,lv Hood.v x.g.Hoods,lv iv x.keyed]
def graph_search.v (x:graph_search):V:=.agg x.c
theorem graph_search.cells (x:graph_search):((graph_search.v x).cells)=x.c:=rfl
theorem graph_search.nr (x:graph_search):notRaw x.v=true:=rfl
theorem graph_search.len (x:graph_search):x.c.length=4:=rfl
theorem graph_search.one (x:graph_search):oneCells x.c=true:=rfl
theorem graph_search.pc (x:graph_search):pclean x.v=true:=by simp[graph_search.v,graph_search.c,pclean,pcleanL,pclean_lv,pclean_lstr,pclean_liv,pclean_lint,pclean_lbool,iv,Graph.pc,Hood.pc,graph_space.pc]
attribute [go_sem] graph_search.nr graph_search.cells graph_search.len graph_search.one graph_search.pc
structure dh where
 l:List ah
 short:Bool
 deriving DecidableEq
def dh.c (x:dh):List V:=[lv ah.v x.l,.bool x.short]
def dh.v (x:dh):V:=.agg x.c
theorem dh.cells (x:dh):((dh.v x).cells)=x.c:=rfl
theorem dh.nr (x:dh):notRaw x.v=true:=rfl
theorem dh.len (x:dh):x.c.length=2:=rfl
theorem dh.one (x:dh):oneCells x.c=true:=rfl
theorem dh.pc (x:dh):pclean x.v=true:=by simp[dh.v,dh.c,pclean,pcleanL,pclean_lv,pclean_lstr,pclean_liv,pclean_lint,pclean_lbool,iv,ah.pc]
attribute [go_sem] dh.nr dh.cells dh.len dh.one dh.pc
structure bG where
 D:ah
 Ok:Bool
 deriving DecidableEq
def bG.c (x:bG):List V:=[.int .u8 x.D.b0,.int .u8 x.D.b1,.int .u8 x.D.b2,.int .u8 x.D.b3,.int .u8 x.D.b4,.int .u8 x.D.b5,.int .u8 x.D.b6,.int .u8 x.D.b7,.int .u8 x.D.b8,.int .u8 x.D.b9,.int .u8 x.D.b10,.int .u8 x.D.b11,.int .u8 x.D.b12,.int .u8 x.D.b13,.int .u8 x.D.b14,.int .u8 x.D.b15,.bool x.Ok]
def bG.v (x:bG):V:=.agg x.c
theorem bG.cells (x:bG):((bG.v x).cells)=x.c:=rfl
theorem bG.nr (x:bG):notRaw x.v=true:=rfl
theorem bG.len (x:bG):x.c.length=17:=rfl
theorem bG.one (x:bG):oneCells x.c=true:=rfl
theorem bG.pc (x:bG):pclean x.v=true:=by simp[bG.v,bG.c,pclean,pcleanL,pclean_lv,pclean_lstr,pclean_liv,pclean_lint,pclean_lbool,iv,ah.pc]
attribute [go_sem] bG.nr bG.cells bG.len bG.one bG.pc
@[go_sem] theorem sz4:szT Tryz.prog 4=some 1:=by kernel_rfl
@[go_sem] theorem aeL:szT Tryz.prog 29=some 16:=by kernel_rfl
@[go_sem] theorem sz30:szT Tryz.prog 30=some 1:=by kernel_rfl
@[go_sem] theorem ag30:isAggT Tryz.prog 30=some false:=by kernel_rfl
@[go_sem] theorem aeM:isSliceT Tryz.prog 30=true:=by kernel_rfl
@[go_sem] theorem aeN:fieldT Tryz.prog 106 0=some (0,30):=by kernel_rfl
@[go_sem] theorem aeO:fieldT Tryz.prog 106 1=some (1,4):=by kernel_rfl
@[go_sem] theorem ah.Z7:∀x:ah,ldT Tryz.prog 29 x.c 0=some (ah.v x):=fun x=>by kernel_rfl
@[go_sem] theorem bG.Z7:∀x:bG,ldT Tryz.prog 29 x.c 0=some (ah.v x.D):=fun x=>by kernel_rfl
end Sh
