/- Part of the proof of a law. -/
import Derived.Test.YteniejlbjfigdaaGreatDoorV19
import Derived.Test.YteniejlbjfigdaaGreatDoorV22
set_option linter.all false
set_option linter.unusedSimpArgs false
set_option linter.unusedSectionVars false
open Go Go.Proofs Aq
namespace Sh
set_option maxRecDepth 100000
def YN:List V:=[KX,.int .i64 0,.int .i64 1,.aj .sh [],KX]
theorem atZ:(YL (ES fun _=>none) (bZ (ES fun _=>none) 49) (bZ (ES fun _=>none) 50) 70 YN 1 ah.init).map (List.map Prod.fst)=some (List.replicate 30 (.bool true)):=by kernel_rfl
end Sh
