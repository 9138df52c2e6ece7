import Derived.Test.YteniejlbjfigdaaGreatDoorF520
set_option linter.all false
open Go Go.Proofs aR
namespace Sh
set_option maxRecDepth 100000
def ajr:List (List UInt8):=[[20,2,2,2,10,10,130,128,128,1,2,2,2,0,0]]
def ajs:aC:=⟨81,145,153,15,179,250,68,171,170,170,88,123,168,31,230,165⟩
def ajt:List (List UInt8):=[[8,2,2,2,4],[81,145,153,15,179,250,68,171,170,170,88,123,168,31,230,165]]
def TA:aC:=⟨119,86,51,131,36,98,132,75,209,234,115,43,190,245,178,89⟩
theorem avc:pR 14 ajr=ajs:=ay
theorem avd:pR 211 ajt=TA:=ay
end Sh
