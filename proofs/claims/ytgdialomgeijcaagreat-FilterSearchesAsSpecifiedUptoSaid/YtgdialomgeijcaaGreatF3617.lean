import Derived.Test.YtgdialomgeijcaaGreatF3615
set_option linter.all false
open Go Go.Proofs Aq
namespace Sh
set_option maxRecDepth 100000
def agS:List V:=[(.tX .sh [(.tX .sh [(.agg [(.str []),(.int .i64 (0)),(.int .i64 (0)),(.str []),(.bool false)]),(.agg [(.str [119,101,105,103,104,116]),(.int .i64 (1)),(.int .i64 (0)),(.str []),(.bool true)]),(.agg [(.str [119,101,105,103,104,116]),(.int .i64 (1)),(.int .i64 (3)),(.str []),(.bool true)])])]),(.agg [(.int .i64 (2)),(.str []),(.int .i64 (0)),(.int .i64 (0)),(.str []),(.tX .sh [(.agg [(.int .i64 (5)),(.str [119,101,105,103,104,116]),(.int .i64 (0)),(.int .i64 (0)),(.str []),(.tX .sh [])]),(.agg [(.int .i64 (4)),(.str []),(.int .i64 (0)),(.int .i64 (0)),(.str []),(.tX .sh [(.agg [(.int .i64 (6)),(.str [119,101,105,103,104,116]),(.int .i64 (3)),(.int .i64 (9)),(.str []),(.tX .sh [])])])])])])]
def agT:V:=(.Rn [(.tX .sh [(.agg [(.str [119,101,105,103,104,116]),(.int .i64 (1)),(.int .i64 (0)),(.str [])])]),(.bool false)])
theorem fi0:VW (ES Sv) ⟨(Rh (ES Sv) 51).code,aa0 (ES Sv) (Rh (ES Sv) 50) (Rh (ES Sv) 51) (TG (ES Sv) 50)⟩ 58 agS=some agT:=by kernel_rfl
theorem ap5:Um (ES Sv) 58 agS agT:=abo es0 (ads es0) fi0
def agU:List V:=[(.tX .sh [(.tX .sh [(.agg [(.str []),(.int .i64 (0)),(.int .i64 (0)),(.str []),(.bool false)]),(.agg [(.str [119,101,105,103,104,116]),(.int .i64 (1)),(.int .i64 (0)),(.str []),(.bool true)]),(.agg [(.str [119,101,105,103,104,116]),(.int .i64 (1)),(.int .i64 (3)),(.str []),(.bool true)])])]),(.agg [(.int .i64 (2)),(.str []),(.int .i64 (0)),(.int .i64 (0)),(.str []),(.tX .sh [(.agg [(.int .i64 (6)),(.str [119,101,105,103,104,116]),(.int .i64 (3)),(.int .i64 (9)),(.str []),(.tX .sh [])]),(.agg [(.int .i64 (4)),(.str []),(.int .i64 (0)),(.int .i64 (0)),(.str []),(.tX .sh [(.agg [(.int .i64 (5)),(.str [119,101,105,103,104,116]),(.int .i64 (0)),(.int .i64 (0)),(.str []),(.tX .sh [])])])])])])]
def agV:V:=(.Rn [(.tX .sh []),(.bool true)])
theorem fi1:VW (ES Sv) ⟨(Rh (ES Sv) 51).code,aa0 (ES Sv) (Rh (ES Sv) 50) (Rh (ES Sv) 51) (TG (ES Sv) 50)⟩ 58 agU=some agV:=by kernel_rfl
theorem ap7:Um (ES Sv) 58 agU agV:=abo es0 (ads es0) fi1
def agW:List V:=[(.tX .sh [(.tX .sh [(.agg [(.str []),(.int .i64 (0)),(.int .i64 (0)),(.str []),(.bool false)]),(.agg [(.str [119,101,105,103,104,116]),(.int .i64 (1)),(.int .i64 (0)),(.str []),(.bool true)]),(.agg [(.str [119,101,105,103,104,116]),(.int .i64 (1)),(.int .i64 (3)),(.str []),(.bool true)])])]),(.agg [(.int .i64 (2)),(.str []),(.int .i64 (0)),(.int .i64 (0)),(.str []),(.tX .sh [(.agg [(.int .i64 (6)),(.str [119,101,105,103,104,116]),(.int .i64 (3)),(.int .i64 (9)),(.str []),(.tX .sh [])]),(.agg [(.int .i64 (6)),(.str [119,101,105,103,104,116]),(.int .i64 (0)),(.int .i64 (2)),(.str []),(.tX .sh [])])])])]
def agX:V:=(.Rn [(.tX .sh []),(.bool true)])
theorem fi2:VW (ES Sv) ⟨(Rh (ES Sv) 51).code,aa0 (ES Sv) (Rh (ES Sv) 50) (Rh (ES Sv) 51) (TG (ES Sv) 50)⟩ 58 agW=some agX:=by kernel_rfl
theorem ap9:Um (ES Sv) 58 agW agX:=abo es0 (ads es0) fi2
def agY:List V:=[(.tX .sh [(.tX .sh [(.agg [(.str []),(.int .i64 (0)),(.int .i64 (0)),(.str []),(.bool false)]),(.agg [(.str [99,111,108,111,117,114]),(.int .i64 (2)),(.int .i64 (0)),(.str [98,108,117,101]),(.bool true)]),(.agg [(.str [99,111,108,111,117,114]),(.int .i64 (2)),(.int .i64 (0)),(.str [114,101,100]),(.bool true)])]),(.tX .sh [(.agg [(.str []),(.int .i64 (0)),(.int .i64 (0)),(.str []),(.bool false)]),(.agg [(.str [119,101,105,103,104,116]),(.int .i64 (1)),(.int .i64 (0)),(.str []),(.bool true)]),(.agg [(.str [119,101,105,103,104,116]),(.int .i64 (1)),(.int .i64 (3)),(.str []),(.bool true)])])]),(.agg [(.int .i64 (2)),(.str []),(.int .i64 (0)),(.int .i64 (0)),(.str []),(.tX .sh [(.agg [(.int .i64 (7)),(.str [99,111,108,111,117,114]),(.int .i64 (0)),(.int .i64 (0)),(.str [114,101,100]),(.tX .sh [])]),(.agg [(.int .i64 (6)),(.str [119,101,105,103,104,116]),(.int .i64 (3)),(.int .i64 (9)),(.str []),(.tX .sh [])])])])]
def agZ:V:=(.Rn [(.tX .sh [(.agg [(.str [99,111,108,111,117,114]),(.int .i64 (2)),(.int .i64 (0)),(.str [114,101,100])]),(.agg [(.str [119,101,105,103,104,116]),(.int .i64 (1)),(.int .i64 (3)),(.str [])])]),(.bool false)])
theorem fi3:VW (ES Sv) ⟨(Rh (ES Sv) 51).code,aa0 (ES Sv) (Rh (ES Sv) 50) (Rh (ES Sv) 51) (TG (ES Sv) 50)⟩ 58 agY=some agZ:=by kernel_rfl
theorem aqb:Um (ES Sv) 58 agY agZ:=abo es0 (ads es0) fi3
end Sh
