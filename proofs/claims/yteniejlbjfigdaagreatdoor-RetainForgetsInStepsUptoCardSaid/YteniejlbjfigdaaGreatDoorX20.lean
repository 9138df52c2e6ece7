/- Part of the proof of a law. -/
import Derived.Test.YteniejlbjfigdaaGreatDoorX19
set_option linter.all false
set_option linter.unusedSimpArgs false
set_option linter.unusedSectionVars false
open Go Go.Proofs Aq
namespace Sh
set_option maxRecDepth 100000
theorem anq:nC (ES fun _=>none) (bY (ES fun _=>none) 900) 102 TN=some TM:=by kernel_rfl
end Sh
