import Derived.Test.YtgdialomgeijcaaGreatF4015
set_option linter.all false
open Go Go.Proofs Aq
namespace Sh
set_option maxRecDepth 100000
def aiZ:List V:=[(.tX .sh [(.tX .sh [(.agg [(.str []),(.int .i64 (0)),(.int .i64 (0)),(.str []),(.bool false)]),(.agg [(.str [119,101,105,103,104,116]),(.int .i64 (1)),(.int .i64 (0)),(.str []),(.bool true)]),(.agg [(.str [119,101,105,103,104,116]),(.int .i64 (1)),(.int .i64 (3)),(.str []),(.bool true)])])]),(.agg [(.int .i64 (2)),(.str []),(.int .i64 (0)),(.int .i64 (0)),(.str []),(.tX .sh [(.agg [(.int .i64 (5)),(.str [119,101,105,103,104,116]),(.int .i64 (0)),(.int .i64 (0)),(.str []),(.tX .sh [])]),(.agg [(.int .i64 (4)),(.str []),(.int .i64 (0)),(.int .i64 (0)),(.str []),(.tX .sh [(.agg [(.int .i64 (6)),(.str [119,101,105,103,104,116]),(.int .i64 (3)),(.int .i64 (9)),(.str []),(.tX .sh [])])])])])])]
def ai0:V:=(.Rw [(.tX .sh [(.agg [(.str [119,101,105,103,104,116]),(.int .i64 (1)),(.int .i64 (0)),(.str [])])]),(.bool false)])
theorem fi0:WH (ES SG) ⟨(Rn (ES SG) 51).code,acp (ES SG) (Rn (ES SG) 50) (Rn (ES SG) 51) (TY (ES SG) 50)⟩ 58 aiZ=some ai0:=by kernel_rfl
theorem au5:UJ (ES SG) 58 aiZ ai0:=acS es0 (ae5 es0) fi0
def ai1:List V:=[(.tX .sh [(.tX .sh [(.agg [(.str []),(.int .i64 (0)),(.int .i64 (0)),(.str []),(.bool false)]),(.agg [(.str [119,101,105,103,104,116]),(.int .i64 (1)),(.int .i64 (0)),(.str []),(.bool true)]),(.agg [(.str [119,101,105,103,104,116]),(.int .i64 (1)),(.int .i64 (3)),(.str []),(.bool true)])])]),(.agg [(.int .i64 (2)),(.str []),(.int .i64 (0)),(.int .i64 (0)),(.str []),(.tX .sh [(.agg [(.int .i64 (6)),(.str [119,101,105,103,104,116]),(.int .i64 (3)),(.int .i64 (9)),(.str []),(.tX .sh [])]),(.agg [(.int .i64 (4)),(.str []),(.int .i64 (0)),(.int .i64 (0)),(.str []),(.tX .sh [(.agg [(.int .i64 (5)),(.str [119,101,105,103,104,116]),(.int .i64 (0)),(.int .i64 (0)),(.str []),(.tX .sh [])])])])])])]
def ai2:V:=(.Rw [(.tX .sh []),(.bool true)])
theorem fi1:WH (ES SG) ⟨(Rn (ES SG) 51).code,acp (ES SG) (Rn (ES SG) 50) (Rn (ES SG) 51) (TY (ES SG) 50)⟩ 58 ai1=some ai2:=by kernel_rfl
theorem au7:UJ (ES SG) 58 ai1 ai2:=acS es0 (ae5 es0) fi1
def ai3:List V:=[(.tX .sh [(.tX .sh [(.agg [(.str []),(.int .i64 (0)),(.int .i64 (0)),(.str []),(.bool false)]),(.agg [(.str [119,101,105,103,104,116]),(.int .i64 (1)),(.int .i64 (0)),(.str []),(.bool true)]),(.agg [(.str [119,101,105,103,104,116]),(.int .i64 (1)),(.int .i64 (3)),(.str []),(.bool true)])])]),(.agg [(.int .i64 (2)),(.str []),(.int .i64 (0)),(.int .i64 (0)),(.str []),(.tX .sh [(.agg [(.int .i64 (6)),(.str [119,101,105,103,104,116]),(.int .i64 (3)),(.int .i64 (9)),(.str []),(.tX .sh [])]),(.agg [(.int .i64 (6)),(.str [119,101,105,103,104,116]),(.int .i64 (0)),(.int .i64 (2)),(.str []),(.tX .sh [])])])])]
def ai4:V:=(.Rw [(.tX .sh []),(.bool true)])
theorem fi2:WH (ES SG) ⟨(Rn (ES SG) 51).code,acp (ES SG) (Rn (ES SG) 50) (Rn (ES SG) 51) (TY (ES SG) 50)⟩ 58 ai3=some ai4:=by kernel_rfl
theorem au9:UJ (ES SG) 58 ai3 ai4:=acS es0 (ae5 es0) fi2
def ai5:List V:=[(.tX .sh [(.tX .sh [(.agg [(.str []),(.int .i64 (0)),(.int .i64 (0)),(.str []),(.bool false)]),(.agg [(.str [99,111,108,111,117,114]),(.int .i64 (2)),(.int .i64 (0)),(.str [98,108,117,101]),(.bool true)]),(.agg [(.str [99,111,108,111,117,114]),(.int .i64 (2)),(.int .i64 (0)),(.str [114,101,100]),(.bool true)])]),(.tX .sh [(.agg [(.str []),(.int .i64 (0)),(.int .i64 (0)),(.str []),(.bool false)]),(.agg [(.str [119,101,105,103,104,116]),(.int .i64 (1)),(.int .i64 (0)),(.str []),(.bool true)]),(.agg [(.str [119,101,105,103,104,116]),(.int .i64 (1)),(.int .i64 (3)),(.str []),(.bool true)])])]),(.agg [(.int .i64 (2)),(.str []),(.int .i64 (0)),(.int .i64 (0)),(.str []),(.tX .sh [(.agg [(.int .i64 (7)),(.str [99,111,108,111,117,114]),(.int .i64 (0)),(.int .i64 (0)),(.str [114,101,100]),(.tX .sh [])]),(.agg [(.int .i64 (6)),(.str [119,101,105,103,104,116]),(.int .i64 (3)),(.int .i64 (9)),(.str []),(.tX .sh [])])])])]
def ai6:V:=(.Rw [(.tX .sh [(.agg [(.str [99,111,108,111,117,114]),(.int .i64 (2)),(.int .i64 (0)),(.str [114,101,100])]),(.agg [(.str [119,101,105,103,104,116]),(.int .i64 (1)),(.int .i64 (3)),(.str [])])]),(.bool false)])
theorem fi3:WH (ES SG) ⟨(Rn (ES SG) 51).code,acp (ES SG) (Rn (ES SG) 50) (Rn (ES SG) 51) (TY (ES SG) 50)⟩ 58 ai5=some ai6:=by kernel_rfl
theorem avb:UJ (ES SG) 58 ai5 ai6:=acS es0 (ae5 es0) fi3
end Sh
