/- Part of the proof of a law. -/
import Derived.KernelRfl
import Derived.Test.YteniejlbjfigdaaGreatDoorV14
set_option linter.all false
set_option linter.unusedSimpArgs false
set_option linter.unusedSectionVars false
open Go Go.Proofs Aq
namespace Sh
set_option maxRecDepth 100000
def atL:List Nat:=[100,104,105,109,124,125,126,152,153,155,199,200]
def omS:List Nat:=[146,161,162,195,199,200]
def YG:V:=.agg [.int .u8 81,.int .u8 145,.int .u8 153,.int .u8 15,.int .u8 179,.int .u8 250,.int .u8 68,.int .u8 171,.int .u8 170,.int .u8 170,.int .u8 88,.int .u8 123,.int .u8 168,.int .u8 31,.int .u8 230,.int .u8 165]
def KX:V:=.agg [.int .u8 119,.int .u8 86,.int .u8 51,.int .u8 131,.int .u8 36,.int .u8 98,.int .u8 132,.int .u8 75,.int .u8 209,.int .u8 234,.int .u8 115,.int .u8 43,.int .u8 190,.int .u8 245,.int .u8 178,.int .u8 89]
def YH:List V:=[.int .i64 14,.aj .sh [.str [20,2,2,2,10,10,130,128,128,1,2,2,2,0,0]]]
def YI:List V:=[.int .i64 211,.aj .sh [.str [8,2,2,2,4],.str [81,145,153,15,179,250,68,171,170,170,88,123,168,31,230,165]]]
noncomputable def ES (kX:FuncId→Option (List V→Option V)):Env:={P:=Tryz.prog,glob:=adI,imp:=fun f=>bn f atL,om:=fun f=>bn f omS,kX:=kX}
end Sh
