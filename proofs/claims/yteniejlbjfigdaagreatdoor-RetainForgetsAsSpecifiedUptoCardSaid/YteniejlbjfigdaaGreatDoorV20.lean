/- Part of the proof of a law. -/
import Derived.Test.YteniejlbjfigdaaGreatDoorV19
set_option linter.all false
set_option linter.unusedSimpArgs false
set_option linter.unusedSectionVars false
open Go Go.Proofs Aq
namespace Sh
set_option maxRecDepth 100000
theorem atN:oI (ES fun _=>none) (bZ (ES fun _=>none) 900) 102 YH=some YG:=by kernel_rfl
end Sh
