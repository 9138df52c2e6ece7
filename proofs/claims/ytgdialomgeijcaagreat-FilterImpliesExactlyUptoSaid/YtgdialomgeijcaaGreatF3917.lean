import Derived.Test.YtgdialomgeijcaaGreatF3915
set_option linter.all false
open Go Go.Proofs Aq
namespace Sh
set_option maxRecDepth 100000
def agK:List V:=[(.tX .sh [(.tX .sh [(.agg [(.str []),(.int .i64 (0)),(.int .i64 (0)),(.str []),(.bool false)]),(.agg [(.str [119,101,105,103,104,116]),(.int .i64 (1)),(.int .i64 (0)),(.str []),(.bool true)]),(.agg [(.str [119,101,105,103,104,116]),(.int .i64 (1)),(.int .i64 (3)),(.str []),(.bool true)])])]),(.agg [(.int .i64 (2)),(.str []),(.int .i64 (0)),(.int .i64 (0)),(.str []),(.tX .sh [(.agg [(.int .i64 (5)),(.str [119,101,105,103,104,116]),(.int .i64 (0)),(.int .i64 (0)),(.str []),(.tX .sh [])]),(.agg [(.int .i64 (4)),(.str []),(.int .i64 (0)),(.int .i64 (0)),(.str []),(.tX .sh [(.agg [(.int .i64 (6)),(.str [119,101,105,103,104,116]),(.int .i64 (3)),(.int .i64 (9)),(.str []),(.tX .sh [])])])])])])]
def agL:V:=(.Rm [(.tX .sh [(.agg [(.str [119,101,105,103,104,116]),(.int .i64 (1)),(.int .i64 (0)),(.str [])])]),(.bool false)])
theorem fi0:V4 (ES Sq) ⟨(Rh (ES Sq) 51).code,aaX (ES Sq) (Rh (ES Sq) 50) (Rh (ES Sq) 51) (TB (ES Sq) 50)⟩ 58 agK=some agL:=by kernel_rfl
theorem apM:Uo (ES Sq) 58 agK agL:=abh es0 (ado es0) fi0
def agM:List V:=[(.tX .sh [(.tX .sh [(.agg [(.str []),(.int .i64 (0)),(.int .i64 (0)),(.str []),(.bool false)]),(.agg [(.str [119,101,105,103,104,116]),(.int .i64 (1)),(.int .i64 (0)),(.str []),(.bool true)]),(.agg [(.str [119,101,105,103,104,116]),(.int .i64 (1)),(.int .i64 (3)),(.str []),(.bool true)])])]),(.agg [(.int .i64 (2)),(.str []),(.int .i64 (0)),(.int .i64 (0)),(.str []),(.tX .sh [(.agg [(.int .i64 (6)),(.str [119,101,105,103,104,116]),(.int .i64 (3)),(.int .i64 (9)),(.str []),(.tX .sh [])]),(.agg [(.int .i64 (4)),(.str []),(.int .i64 (0)),(.int .i64 (0)),(.str []),(.tX .sh [(.agg [(.int .i64 (5)),(.str [119,101,105,103,104,116]),(.int .i64 (0)),(.int .i64 (0)),(.str []),(.tX .sh [])])])])])])]
def agN:V:=(.Rm [(.tX .sh []),(.bool true)])
theorem fi1:V4 (ES Sq) ⟨(Rh (ES Sq) 51).code,aaX (ES Sq) (Rh (ES Sq) 50) (Rh (ES Sq) 51) (TB (ES Sq) 50)⟩ 58 agM=some agN:=by kernel_rfl
theorem apO:Uo (ES Sq) 58 agM agN:=abh es0 (ado es0) fi1
def agO:List V:=[(.tX .sh [(.tX .sh [(.agg [(.str []),(.int .i64 (0)),(.int .i64 (0)),(.str []),(.bool false)]),(.agg [(.str [119,101,105,103,104,116]),(.int .i64 (1)),(.int .i64 (0)),(.str []),(.bool true)]),(.agg [(.str [119,101,105,103,104,116]),(.int .i64 (1)),(.int .i64 (3)),(.str []),(.bool true)])])]),(.agg [(.int .i64 (2)),(.str []),(.int .i64 (0)),(.int .i64 (0)),(.str []),(.tX .sh [(.agg [(.int .i64 (6)),(.str [119,101,105,103,104,116]),(.int .i64 (3)),(.int .i64 (9)),(.str []),(.tX .sh [])]),(.agg [(.int .i64 (6)),(.str [119,101,105,103,104,116]),(.int .i64 (0)),(.int .i64 (2)),(.str []),(.tX .sh [])])])])]
def agP:V:=(.Rm [(.tX .sh []),(.bool true)])
theorem fi2:V4 (ES Sq) ⟨(Rh (ES Sq) 51).code,aaX (ES Sq) (Rh (ES Sq) 50) (Rh (ES Sq) 51) (TB (ES Sq) 50)⟩ 58 agO=some agP:=by kernel_rfl
theorem apQ:Uo (ES Sq) 58 agO agP:=abh es0 (ado es0) fi2
def agQ:List V:=[(.tX .sh [(.tX .sh [(.agg [(.str []),(.int .i64 (0)),(.int .i64 (0)),(.str []),(.bool false)]),(.agg [(.str [99,111,108,111,117,114]),(.int .i64 (2)),(.int .i64 (0)),(.str [98,108,117,101]),(.bool true)]),(.agg [(.str [99,111,108,111,117,114]),(.int .i64 (2)),(.int .i64 (0)),(.str [114,101,100]),(.bool true)])]),(.tX .sh [(.agg [(.str []),(.int .i64 (0)),(.int .i64 (0)),(.str []),(.bool false)]),(.agg [(.str [119,101,105,103,104,116]),(.int .i64 (1)),(.int .i64 (0)),(.str []),(.bool true)]),(.agg [(.str [119,101,105,103,104,116]),(.int .i64 (1)),(.int .i64 (3)),(.str []),(.bool true)])])]),(.agg [(.int .i64 (2)),(.str []),(.int .i64 (0)),(.int .i64 (0)),(.str []),(.tX .sh [(.agg [(.int .i64 (7)),(.str [99,111,108,111,117,114]),(.int .i64 (0)),(.int .i64 (0)),(.str [114,101,100]),(.tX .sh [])]),(.agg [(.int .i64 (6)),(.str [119,101,105,103,104,116]),(.int .i64 (3)),(.int .i64 (9)),(.str []),(.tX .sh [])])])])]
def agR:V:=(.Rm [(.tX .sh [(.agg [(.str [99,111,108,111,117,114]),(.int .i64 (2)),(.int .i64 (0)),(.str [114,101,100])]),(.agg [(.str [119,101,105,103,104,116]),(.int .i64 (1)),(.int .i64 (3)),(.str [])])]),(.bool false)])
theorem fi3:V4 (ES Sq) ⟨(Rh (ES Sq) 51).code,aaX (ES Sq) (Rh (ES Sq) 50) (Rh (ES Sq) 51) (TB (ES Sq) 50)⟩ 58 agQ=some agR:=by kernel_rfl
theorem apS:Uo (ES Sq) 58 agQ agR:=abh es0 (ado es0) fi3
end Sh
