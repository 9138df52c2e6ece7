import Derived.Test.YtgdialomgeijcaaGreatF3815
set_option linter.all false
open Go Go.Proofs Aq
namespace Sh
set_option maxRecDepth 100000
def agF:List V:=[(.tX .sh [(.tX .sh [(.agg [(.str []),(.int .i64 (0)),(.int .i64 (0)),(.str []),(.bool false)]),(.agg [(.str [119,101,105,103,104,116]),(.int .i64 (1)),(.int .i64 (0)),(.str []),(.bool true)]),(.agg [(.str [119,101,105,103,104,116]),(.int .i64 (1)),(.int .i64 (3)),(.str []),(.bool true)])])]),(.agg [(.int .i64 (2)),(.str []),(.int .i64 (0)),(.int .i64 (0)),(.str []),(.tX .sh [(.agg [(.int .i64 (5)),(.str [119,101,105,103,104,116]),(.int .i64 (0)),(.int .i64 (0)),(.str []),(.tX .sh [])]),(.agg [(.int .i64 (4)),(.str []),(.int .i64 (0)),(.int .i64 (0)),(.str []),(.tX .sh [(.agg [(.int .i64 (6)),(.str [119,101,105,103,104,116]),(.int .i64 (3)),(.int .i64 (9)),(.str []),(.tX .sh [])])])])])])]
def agG:V:=(.Rm [(.tX .sh [(.agg [(.str [119,101,105,103,104,116]),(.int .i64 (1)),(.int .i64 (0)),(.str [])])]),(.bool false)])
theorem fi0:VY (ES Sm) ⟨(Rh (ES Sm) 51).code,aaU (ES Sm) (Rh (ES Sm) 50) (Rh (ES Sm) 51) (Tz (ES Sm) 50)⟩ 58 agF=some agG:=by kernel_rfl
theorem apw:Un (ES Sm) 58 agF agG:=abe es0 (adk es0) fi0
def agH:List V:=[(.tX .sh [(.tX .sh [(.agg [(.str []),(.int .i64 (0)),(.int .i64 (0)),(.str []),(.bool false)]),(.agg [(.str [119,101,105,103,104,116]),(.int .i64 (1)),(.int .i64 (0)),(.str []),(.bool true)]),(.agg [(.str [119,101,105,103,104,116]),(.int .i64 (1)),(.int .i64 (3)),(.str []),(.bool true)])])]),(.agg [(.int .i64 (2)),(.str []),(.int .i64 (0)),(.int .i64 (0)),(.str []),(.tX .sh [(.agg [(.int .i64 (6)),(.str [119,101,105,103,104,116]),(.int .i64 (3)),(.int .i64 (9)),(.str []),(.tX .sh [])]),(.agg [(.int .i64 (4)),(.str []),(.int .i64 (0)),(.int .i64 (0)),(.str []),(.tX .sh [(.agg [(.int .i64 (5)),(.str [119,101,105,103,104,116]),(.int .i64 (0)),(.int .i64 (0)),(.str []),(.tX .sh [])])])])])])]
def agI:V:=(.Rm [(.tX .sh []),(.bool true)])
theorem fi1:VY (ES Sm) ⟨(Rh (ES Sm) 51).code,aaU (ES Sm) (Rh (ES Sm) 50) (Rh (ES Sm) 51) (Tz (ES Sm) 50)⟩ 58 agH=some agI:=by kernel_rfl
theorem apy:Un (ES Sm) 58 agH agI:=abe es0 (adk es0) fi1
def agJ:List V:=[(.tX .sh [(.tX .sh [(.agg [(.str []),(.int .i64 (0)),(.int .i64 (0)),(.str []),(.bool false)]),(.agg [(.str [119,101,105,103,104,116]),(.int .i64 (1)),(.int .i64 (0)),(.str []),(.bool true)]),(.agg [(.str [119,101,105,103,104,116]),(.int .i64 (1)),(.int .i64 (3)),(.str []),(.bool true)])])]),(.agg [(.int .i64 (2)),(.str []),(.int .i64 (0)),(.int .i64 (0)),(.str []),(.tX .sh [(.agg [(.int .i64 (6)),(.str [119,101,105,103,104,116]),(.int .i64 (3)),(.int .i64 (9)),(.str []),(.tX .sh [])]),(.agg [(.int .i64 (6)),(.str [119,101,105,103,104,116]),(.int .i64 (0)),(.int .i64 (2)),(.str []),(.tX .sh [])])])])]
def agK:V:=(.Rm [(.tX .sh []),(.bool true)])
theorem fi2:VY (ES Sm) ⟨(Rh (ES Sm) 51).code,aaU (ES Sm) (Rh (ES Sm) 50) (Rh (ES Sm) 51) (Tz (ES Sm) 50)⟩ 58 agJ=some agK:=by kernel_rfl
theorem apA:Un (ES Sm) 58 agJ agK:=abe es0 (adk es0) fi2
def agL:List V:=[(.tX .sh [(.tX .sh [(.agg [(.str []),(.int .i64 (0)),(.int .i64 (0)),(.str []),(.bool false)]),(.agg [(.str [99,111,108,111,117,114]),(.int .i64 (2)),(.int .i64 (0)),(.str [98,108,117,101]),(.bool true)]),(.agg [(.str [99,111,108,111,117,114]),(.int .i64 (2)),(.int .i64 (0)),(.str [114,101,100]),(.bool true)])]),(.tX .sh [(.agg [(.str []),(.int .i64 (0)),(.int .i64 (0)),(.str []),(.bool false)]),(.agg [(.str [119,101,105,103,104,116]),(.int .i64 (1)),(.int .i64 (0)),(.str []),(.bool true)]),(.agg [(.str [119,101,105,103,104,116]),(.int .i64 (1)),(.int .i64 (3)),(.str []),(.bool true)])])]),(.agg [(.int .i64 (2)),(.str []),(.int .i64 (0)),(.int .i64 (0)),(.str []),(.tX .sh [(.agg [(.int .i64 (7)),(.str [99,111,108,111,117,114]),(.int .i64 (0)),(.int .i64 (0)),(.str [114,101,100]),(.tX .sh [])]),(.agg [(.int .i64 (6)),(.str [119,101,105,103,104,116]),(.int .i64 (3)),(.int .i64 (9)),(.str []),(.tX .sh [])])])])]
def agM:V:=(.Rm [(.tX .sh [(.agg [(.str [99,111,108,111,117,114]),(.int .i64 (2)),(.int .i64 (0)),(.str [114,101,100])]),(.agg [(.str [119,101,105,103,104,116]),(.int .i64 (1)),(.int .i64 (3)),(.str [])])]),(.bool false)])
theorem fi3:VY (ES Sm) ⟨(Rh (ES Sm) 51).code,aaU (ES Sm) (Rh (ES Sm) 50) (Rh (ES Sm) 51) (Tz (ES Sm) 50)⟩ 58 agL=some agM:=by kernel_rfl
theorem apC:Un (ES Sm) 58 agL agM:=abe es0 (adk es0) fi3
end Sh
