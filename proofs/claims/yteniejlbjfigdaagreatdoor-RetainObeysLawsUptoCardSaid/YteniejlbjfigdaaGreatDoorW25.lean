/- Part of the proof of a law: ShSC. -/
import Derived.Test.YteniejlbjfigdaaGreatDoorW21
import Derived.Test.YteniejlbjfigdaaGreatDoorW24
set_option linter.all false
set_option linter.unusedSimpArgs false
set_option linter.unusedSectionVars false
open Go Go.Proofs Aq
namespace Sh
set_option maxRecDepth 100000
def ciA : List V := [dgB, .int .i64 0, .int .i64 1, .lst .sh [], dgB]
theorem ci_ok : (callDL (ES fun _ => none) (evl (ES fun _ => none) 49) (evl (ES fun _ => none) 50) 70 ciA 1 Sig.init).map (List.map Prod.fst) = some (List.replicate 30 (.bool true)) := by kernel_rfl
end Sh
