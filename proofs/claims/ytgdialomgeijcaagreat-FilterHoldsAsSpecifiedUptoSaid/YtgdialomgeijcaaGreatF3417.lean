/- Part of the proof of a law. -/
import Derived.KernelRfl
import Derived.Test.YtgdialomgeijcaaGreatF3416
set_option linter.all false
set_option linter.unusedSimpArgs false
set_option linter.unusedSectionVars false
open Go Go.Proofs Aq
namespace Sh
set_option maxRecDepth 100000
def ML:List V:=[(.agg [(.str [119,101,105,103,104,116]),(.int .i64 (1)),(.int .i64 (0)),(.int .i64 (9)),(.aj .sh [])]),(.agg [(.int .i64 (2)),(.str []),(.int .i64 (0)),(.int .i64 (0)),(.str []),(.aj .sh [(.agg [(.int .i64 (5)),(.str [119,101,105,103,104,116]),(.int .i64 (0)),(.int .i64 (0)),(.str []),(.aj .sh [])]),(.agg [(.int .i64 (4)),(.str []),(.int .i64 (0)),(.int .i64 (0)),(.str []),(.aj .sh [(.agg [(.int .i64 (6)),(.str [119,101,105,103,104,116]),(.int .i64 (3)),(.int .i64 (9)),(.str []),(.aj .sh [])])])])])])]
def MN:V:=(.aj .sh [(.int .i64 (0)),(.int .i64 (3))])
theorem nu0:((AP (ES cK) (aX (ES cK) 50) (aX (ES cK) 51) 94 ML 1 ah.init).bind fun L=>L.mapM fun x=>aJ 20 x.2 x.1)=some (List.replicate 12 MN):=by kernel_rfl
theorem aed:jk (ES cK) 94 ML MN:=G9 es0 nu0
def MO:List V:=[(.agg [(.str [119,101,105,103,104,116]),(.int .i64 (1)),(.int .i64 (0)),(.int .i64 (9)),(.aj .sh [])]),(.agg [(.int .i64 (2)),(.str []),(.int .i64 (0)),(.int .i64 (0)),(.str []),(.aj .sh [(.agg [(.int .i64 (6)),(.str [119,101,105,103,104,116]),(.int .i64 (3)),(.int .i64 (9)),(.str []),(.aj .sh [])]),(.agg [(.int .i64 (4)),(.str []),(.int .i64 (0)),(.int .i64 (0)),(.str []),(.aj .sh [(.agg [(.int .i64 (5)),(.str [119,101,105,103,104,116]),(.int .i64 (0)),(.int .i64 (0)),(.str []),(.aj .sh [])])])])])])]
def MP:V:=(.aj .sh [(.int .i64 (0)),(.int .i64 (3))])
theorem nu1:((AP (ES cK) (aX (ES cK) 50) (aX (ES cK) 51) 94 MO 1 ah.init).bind fun L=>L.mapM fun x=>aJ 20 x.2 x.1)=some (List.replicate 12 MP):=by kernel_rfl
theorem aef:jk (ES cK) 94 MO MP:=G9 es0 nu1
def MQ:List V:=[(.agg [(.str [119,101,105,103,104,116]),(.int .i64 (1)),(.int .i64 (0)),(.int .i64 (9)),(.aj .sh [])]),(.agg [(.int .i64 (2)),(.str []),(.int .i64 (0)),(.int .i64 (0)),(.str []),(.aj .sh [(.agg [(.int .i64 (6)),(.str [119,101,105,103,104,116]),(.int .i64 (3)),(.int .i64 (9)),(.str []),(.aj .sh [])]),(.agg [(.int .i64 (6)),(.str [119,101,105,103,104,116]),(.int .i64 (0)),(.int .i64 (2)),(.str []),(.aj .sh [])])])])]
def MR:V:=(.aj .sh [(.int .i64 (0)),(.int .i64 (3))])
theorem nu2:((AP (ES cK) (aX (ES cK) 50) (aX (ES cK) 51) 94 MQ 1 ah.init).bind fun L=>L.mapM fun x=>aJ 20 x.2 x.1)=some (List.replicate 12 MR):=by kernel_rfl
theorem aeh:jk (ES cK) 94 MQ MR:=G9 es0 nu2
def MU:List V:=[(.agg [(.str [119,101,105,103,104,116]),(.int .i64 (1)),(.int .i64 (0)),(.int .i64 (9)),(.aj .sh [])]),(.agg [(.int .i64 (2)),(.str []),(.int .i64 (0)),(.int .i64 (0)),(.str []),(.aj .sh [(.agg [(.int .i64 (7)),(.str [99,111,108,111,117,114]),(.int .i64 (0)),(.int .i64 (0)),(.str [114,101,100]),(.aj .sh [])]),(.agg [(.int .i64 (6)),(.str [119,101,105,103,104,116]),(.int .i64 (3)),(.int .i64 (9)),(.str []),(.aj .sh [])])])])]
def MV:V:=(.aj .sh [(.int .i64 (0)),(.int .i64 (3))])
theorem nu3:((AP (ES cK) (aX (ES cK) 50) (aX (ES cK) 51) 94 MU 1 ah.init).bind fun L=>L.mapM fun x=>aJ 20 x.2 x.1)=some (List.replicate 12 MV):=by kernel_rfl
theorem aej:jk (ES cK) 94 MU MV:=G9 es0 nu3
end Sh
