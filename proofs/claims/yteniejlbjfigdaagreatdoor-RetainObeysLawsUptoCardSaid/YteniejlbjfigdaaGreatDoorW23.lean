/- Part of the proof of a law: ShSB. -/
import Derived.Test.YteniejlbjfigdaaGreatDoorW21
set_option linter.all false
set_option linter.unusedSimpArgs false
set_option linter.unusedSectionVars false
open Go Go.Proofs Aq
namespace Sh
set_option maxRecDepth 100000
theorem of_B : callPure (ES fun _ => none) (evl (ES fun _ => none) 900) 102 ofB = some dgB := by kernel_rfl
end Sh
