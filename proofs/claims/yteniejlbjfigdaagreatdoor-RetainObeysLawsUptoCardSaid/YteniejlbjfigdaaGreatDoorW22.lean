/- Part of the proof of a law: ShSA. -/
import Derived.Test.YteniejlbjfigdaaGreatDoorW21
set_option linter.all false
set_option linter.unusedSimpArgs false
set_option linter.unusedSectionVars false
open Go Go.Proofs Aq
namespace Sh
set_option maxRecDepth 100000
theorem of_A : callPure (ES fun _ => none) (evl (ES fun _ => none) 900) 102 ofA = some dgA := by kernel_rfl
end Sh
