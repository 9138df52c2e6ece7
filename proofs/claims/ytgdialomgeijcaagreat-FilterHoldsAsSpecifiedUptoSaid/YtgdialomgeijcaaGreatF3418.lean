/- Part of the proof of a law. -/
import Derived.KernelRfl
import Derived.Test.YtgdialomgeijcaaGreatF3416
set_option linter.all false
set_option linter.unusedSimpArgs false
set_option linter.unusedSectionVars false
open Go Go.Proofs Aq
namespace Sh
set_option maxRecDepth 100000
def MW:List V:=[(.aj .sh [(.aj .sh [(.agg [(.str []),(.int .i64 (0)),(.int .i64 (0)),(.str []),(.bool false)]),(.agg [(.str [119,101,105,103,104,116]),(.int .i64 (1)),(.int .i64 (0)),(.str []),(.bool true)]),(.agg [(.str [119,101,105,103,104,116]),(.int .i64 (1)),(.int .i64 (3)),(.str []),(.bool true)])])]),(.agg [(.int .i64 (2)),(.str []),(.int .i64 (0)),(.int .i64 (0)),(.str []),(.aj .sh [(.agg [(.int .i64 (5)),(.str [119,101,105,103,104,116]),(.int .i64 (0)),(.int .i64 (0)),(.str []),(.aj .sh [])]),(.agg [(.int .i64 (4)),(.str []),(.int .i64 (0)),(.int .i64 (0)),(.str []),(.aj .sh [(.agg [(.int .i64 (6)),(.str [119,101,105,103,104,116]),(.int .i64 (3)),(.int .i64 (9)),(.str []),(.aj .sh [])])])])])])]
def MX:V:=(.aT [(.aj .sh [(.agg [(.str [119,101,105,103,104,116]),(.int .i64 (1)),(.int .i64 (0)),(.str [])])]),(.bool false)])
theorem fi0:lF (ES cK) ⟨(aX (ES cK) 51).code,AU (ES cK) (aX (ES cK) 50) (aX (ES cK) 51) (nV (ES cK) 50)⟩ 58 MW=some MX:=by kernel_rfl
theorem ael:jk (ES cK) 58 MW MX:=wL es0 (Hl es0) fi0
def MZ:List V:=[(.aj .sh [(.aj .sh [(.agg [(.str []),(.int .i64 (0)),(.int .i64 (0)),(.str []),(.bool false)]),(.agg [(.str [119,101,105,103,104,116]),(.int .i64 (1)),(.int .i64 (0)),(.str []),(.bool true)]),(.agg [(.str [119,101,105,103,104,116]),(.int .i64 (1)),(.int .i64 (3)),(.str []),(.bool true)])])]),(.agg [(.int .i64 (2)),(.str []),(.int .i64 (0)),(.int .i64 (0)),(.str []),(.aj .sh [(.agg [(.int .i64 (6)),(.str [119,101,105,103,104,116]),(.int .i64 (3)),(.int .i64 (9)),(.str []),(.aj .sh [])]),(.agg [(.int .i64 (4)),(.str []),(.int .i64 (0)),(.int .i64 (0)),(.str []),(.aj .sh [(.agg [(.int .i64 (5)),(.str [119,101,105,103,104,116]),(.int .i64 (0)),(.int .i64 (0)),(.str []),(.aj .sh [])])])])])])]
def M0:V:=(.aT [(.aj .sh []),(.bool true)])
theorem fi1:lF (ES cK) ⟨(aX (ES cK) 51).code,AU (ES cK) (aX (ES cK) 50) (aX (ES cK) 51) (nV (ES cK) 50)⟩ 58 MZ=some M0:=by kernel_rfl
theorem aen:jk (ES cK) 58 MZ M0:=wL es0 (Hl es0) fi1
def M4:List V:=[(.aj .sh [(.aj .sh [(.agg [(.str []),(.int .i64 (0)),(.int .i64 (0)),(.str []),(.bool false)]),(.agg [(.str [119,101,105,103,104,116]),(.int .i64 (1)),(.int .i64 (0)),(.str []),(.bool true)]),(.agg [(.str [119,101,105,103,104,116]),(.int .i64 (1)),(.int .i64 (3)),(.str []),(.bool true)])])]),(.agg [(.int .i64 (2)),(.str []),(.int .i64 (0)),(.int .i64 (0)),(.str []),(.aj .sh [(.agg [(.int .i64 (6)),(.str [119,101,105,103,104,116]),(.int .i64 (3)),(.int .i64 (9)),(.str []),(.aj .sh [])]),(.agg [(.int .i64 (6)),(.str [119,101,105,103,104,116]),(.int .i64 (0)),(.int .i64 (2)),(.str []),(.aj .sh [])])])])]
def M5:V:=(.aT [(.aj .sh []),(.bool true)])
theorem fi2:lF (ES cK) ⟨(aX (ES cK) 51).code,AU (ES cK) (aX (ES cK) 50) (aX (ES cK) 51) (nV (ES cK) 50)⟩ 58 M4=some M5:=by kernel_rfl
theorem aep:jk (ES cK) 58 M4 M5:=wL es0 (Hl es0) fi2
def M6:List V:=[(.aj .sh [(.aj .sh [(.agg [(.str []),(.int .i64 (0)),(.int .i64 (0)),(.str []),(.bool false)]),(.agg [(.str [99,111,108,111,117,114]),(.int .i64 (2)),(.int .i64 (0)),(.str [98,108,117,101]),(.bool true)]),(.agg [(.str [99,111,108,111,117,114]),(.int .i64 (2)),(.int .i64 (0)),(.str [114,101,100]),(.bool true)])]),(.aj .sh [(.agg [(.str []),(.int .i64 (0)),(.int .i64 (0)),(.str []),(.bool false)]),(.agg [(.str [119,101,105,103,104,116]),(.int .i64 (1)),(.int .i64 (0)),(.str []),(.bool true)]),(.agg [(.str [119,101,105,103,104,116]),(.int .i64 (1)),(.int .i64 (3)),(.str []),(.bool true)])])]),(.agg [(.int .i64 (2)),(.str []),(.int .i64 (0)),(.int .i64 (0)),(.str []),(.aj .sh [(.agg [(.int .i64 (7)),(.str [99,111,108,111,117,114]),(.int .i64 (0)),(.int .i64 (0)),(.str [114,101,100]),(.aj .sh [])]),(.agg [(.int .i64 (6)),(.str [119,101,105,103,104,116]),(.int .i64 (3)),(.int .i64 (9)),(.str []),(.aj .sh [])])])])]
def M7:V:=(.aT [(.aj .sh [(.agg [(.str [99,111,108,111,117,114]),(.int .i64 (2)),(.int .i64 (0)),(.str [114,101,100])]),(.agg [(.str [119,101,105,103,104,116]),(.int .i64 (1)),(.int .i64 (3)),(.str [])])]),(.bool false)])
theorem fi3:lF (ES cK) ⟨(aX (ES cK) 51).code,AU (ES cK) (aX (ES cK) 50) (aX (ES cK) 51) (nV (ES cK) 50)⟩ 58 M6=some M7:=by kernel_rfl
theorem aes:jk (ES cK) 58 M6 M7:=wL es0 (Hl es0) fi3
end Sh
