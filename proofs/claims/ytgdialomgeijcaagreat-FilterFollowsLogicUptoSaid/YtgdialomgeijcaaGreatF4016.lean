import Derived.Test.YtgdialomgeijcaaGreatF4015
set_option linter.all false
open Go Go.Proofs Aq
namespace Sh
set_option maxRecDepth 100000
def aiR:List V:=[(.agg [(.str [119,101,105,103,104,116]),(.int .i64 (1)),(.int .i64 (0)),(.int .i64 (9)),(.tX .sh [])]),(.agg [(.int .i64 (2)),(.str []),(.int .i64 (0)),(.int .i64 (0)),(.str []),(.tX .sh [(.agg [(.int .i64 (5)),(.str [119,101,105,103,104,116]),(.int .i64 (0)),(.int .i64 (0)),(.str []),(.tX .sh [])]),(.agg [(.int .i64 (4)),(.str []),(.int .i64 (0)),(.int .i64 (0)),(.str []),(.tX .sh [(.agg [(.int .i64 (6)),(.str [119,101,105,103,104,116]),(.int .i64 (3)),(.int .i64 (9)),(.str []),(.tX .sh [])])])])])])]
def aiS:V:=(.tX .sh [(.int .i64 (0)),(.int .i64 (3))])
theorem nu0:((aeb (ES SG) (Rn (ES SG) 50) (Rn (ES SG) 51) 94 aiR 1 qd.init).bind fun L=>L.mapM fun x=>Rm 20 x.2 x.1)=some (List.replicate 12 aiS):=by kernel_rfl
theorem auX:UJ (ES SG) 94 aiR aiS:=ag7 es0 nu0
def aiT:List V:=[(.agg [(.str [119,101,105,103,104,116]),(.int .i64 (1)),(.int .i64 (0)),(.int .i64 (9)),(.tX .sh [])]),(.agg [(.int .i64 (2)),(.str []),(.int .i64 (0)),(.int .i64 (0)),(.str []),(.tX .sh [(.agg [(.int .i64 (6)),(.str [119,101,105,103,104,116]),(.int .i64 (3)),(.int .i64 (9)),(.str []),(.tX .sh [])]),(.agg [(.int .i64 (4)),(.str []),(.int .i64 (0)),(.int .i64 (0)),(.str []),(.tX .sh [(.agg [(.int .i64 (5)),(.str [119,101,105,103,104,116]),(.int .i64 (0)),(.int .i64 (0)),(.str []),(.tX .sh [])])])])])])]
def aiU:V:=(.tX .sh [(.int .i64 (0)),(.int .i64 (3))])
theorem nu1:((aeb (ES SG) (Rn (ES SG) 50) (Rn (ES SG) 51) 94 aiT 1 qd.init).bind fun L=>L.mapM fun x=>Rm 20 x.2 x.1)=some (List.replicate 12 aiU):=by kernel_rfl
theorem auZ:UJ (ES SG) 94 aiT aiU:=ag7 es0 nu1
def aiV:List V:=[(.agg [(.str [119,101,105,103,104,116]),(.int .i64 (1)),(.int .i64 (0)),(.int .i64 (9)),(.tX .sh [])]),(.agg [(.int .i64 (2)),(.str []),(.int .i64 (0)),(.int .i64 (0)),(.str []),(.tX .sh [(.agg [(.int .i64 (6)),(.str [119,101,105,103,104,116]),(.int .i64 (3)),(.int .i64 (9)),(.str []),(.tX .sh [])]),(.agg [(.int .i64 (6)),(.str [119,101,105,103,104,116]),(.int .i64 (0)),(.int .i64 (2)),(.str []),(.tX .sh [])])])])]
def aiW:V:=(.tX .sh [(.int .i64 (0)),(.int .i64 (3))])
theorem nu2:((aeb (ES SG) (Rn (ES SG) 50) (Rn (ES SG) 51) 94 aiV 1 qd.init).bind fun L=>L.mapM fun x=>Rm 20 x.2 x.1)=some (List.replicate 12 aiW):=by kernel_rfl
theorem au1:UJ (ES SG) 94 aiV aiW:=ag7 es0 nu2
def aiX:List V:=[(.agg [(.str [119,101,105,103,104,116]),(.int .i64 (1)),(.int .i64 (0)),(.int .i64 (9)),(.tX .sh [])]),(.agg [(.int .i64 (2)),(.str []),(.int .i64 (0)),(.int .i64 (0)),(.str []),(.tX .sh [(.agg [(.int .i64 (7)),(.str [99,111,108,111,117,114]),(.int .i64 (0)),(.int .i64 (0)),(.str [114,101,100]),(.tX .sh [])]),(.agg [(.int .i64 (6)),(.str [119,101,105,103,104,116]),(.int .i64 (3)),(.int .i64 (9)),(.str []),(.tX .sh [])])])])]
def aiY:V:=(.tX .sh [(.int .i64 (0)),(.int .i64 (3))])
theorem nu3:((aeb (ES SG) (Rn (ES SG) 50) (Rn (ES SG) 51) 94 aiX 1 qd.init).bind fun L=>L.mapM fun x=>Rm 20 x.2 x.1)=some (List.replicate 12 aiY):=by kernel_rfl
theorem au3:UJ (ES SG) 94 aiX aiY:=ag7 es0 nu3
end Sh
