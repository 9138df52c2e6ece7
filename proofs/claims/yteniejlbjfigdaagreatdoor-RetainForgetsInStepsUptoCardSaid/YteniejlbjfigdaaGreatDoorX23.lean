/- Part of the proof of a law. -/
import Derived.Test.YteniejlbjfigdaaGreatDoorX19
import Derived.Test.YteniejlbjfigdaaGreatDoorX22
set_option linter.all false
set_option linter.unusedSimpArgs false
set_option linter.unusedSectionVars false
open Go Go.Proofs Aq
namespace Sh
set_option maxRecDepth 100000
def TU:List V:=[JM,.int .i64 0,.int .i64 1,.ak .sh [],JM]
theorem anD:(TS (ES fun _=>none) (bY (ES fun _=>none) 49) (bY (ES fun _=>none) 50) 70 TU 1 ah.init).map (List.map Prod.fst)=some (List.replicate 30 (.bool true)):=by kernel_rfl
end Sh
