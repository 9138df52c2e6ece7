import Derived.Test.YtgdialomgeijcaaGreatF3615
set_option linter.all false
open Go Go.Proofs Aq
namespace Sh
set_option maxRecDepth 100000
def agK:List V:=[(.agg [(.str [119,101,105,103,104,116]),(.int .i64 (1)),(.int .i64 (0)),(.int .i64 (9)),(.tX .sh [])]),(.agg [(.int .i64 (2)),(.str []),(.int .i64 (0)),(.int .i64 (0)),(.str []),(.tX .sh [(.agg [(.int .i64 (5)),(.str [119,101,105,103,104,116]),(.int .i64 (0)),(.int .i64 (0)),(.str []),(.tX .sh [])]),(.agg [(.int .i64 (4)),(.str []),(.int .i64 (0)),(.int .i64 (0)),(.str []),(.tX .sh [(.agg [(.int .i64 (6)),(.str [119,101,105,103,104,116]),(.int .i64 (3)),(.int .i64 (9)),(.str []),(.tX .sh [])])])])])])]
def agL:V:=(.tX .sh [(.int .i64 (0)),(.int .i64 (3))])
theorem nu0:((acC (ES Sv) (Rh (ES Sv) 50) (Rh (ES Sv) 51) 94 agK 1 qd.init).bind fun L=>L.mapM fun x=>Rf 20 x.2 x.1)=some (List.replicate 12 agL):=by kernel_rfl
theorem apX:Um (ES Sv) 94 agK agL:=afn es0 nu0
def agM:List V:=[(.agg [(.str [119,101,105,103,104,116]),(.int .i64 (1)),(.int .i64 (0)),(.int .i64 (9)),(.tX .sh [])]),(.agg [(.int .i64 (2)),(.str []),(.int .i64 (0)),(.int .i64 (0)),(.str []),(.tX .sh [(.agg [(.int .i64 (6)),(.str [119,101,105,103,104,116]),(.int .i64 (3)),(.int .i64 (9)),(.str []),(.tX .sh [])]),(.agg [(.int .i64 (4)),(.str []),(.int .i64 (0)),(.int .i64 (0)),(.str []),(.tX .sh [(.agg [(.int .i64 (5)),(.str [119,101,105,103,104,116]),(.int .i64 (0)),(.int .i64 (0)),(.str []),(.tX .sh [])])])])])])]
def agN:V:=(.tX .sh [(.int .i64 (0)),(.int .i64 (3))])
theorem nu1:((acC (ES Sv) (Rh (ES Sv) 50) (Rh (ES Sv) 51) 94 agM 1 qd.init).bind fun L=>L.mapM fun x=>Rf 20 x.2 x.1)=some (List.replicate 12 agN):=by kernel_rfl
theorem apZ:Um (ES Sv) 94 agM agN:=afn es0 nu1
def agO:List V:=[(.agg [(.str [119,101,105,103,104,116]),(.int .i64 (1)),(.int .i64 (0)),(.int .i64 (9)),(.tX .sh [])]),(.agg [(.int .i64 (2)),(.str []),(.int .i64 (0)),(.int .i64 (0)),(.str []),(.tX .sh [(.agg [(.int .i64 (6)),(.str [119,101,105,103,104,116]),(.int .i64 (3)),(.int .i64 (9)),(.str []),(.tX .sh [])]),(.agg [(.int .i64 (6)),(.str [119,101,105,103,104,116]),(.int .i64 (0)),(.int .i64 (2)),(.str []),(.tX .sh [])])])])]
def agP:V:=(.tX .sh [(.int .i64 (0)),(.int .i64 (3))])
theorem nu2:((acC (ES Sv) (Rh (ES Sv) 50) (Rh (ES Sv) 51) 94 agO 1 qd.init).bind fun L=>L.mapM fun x=>Rf 20 x.2 x.1)=some (List.replicate 12 agP):=by kernel_rfl
theorem ap1:Um (ES Sv) 94 agO agP:=afn es0 nu2
def agQ:List V:=[(.agg [(.str [119,101,105,103,104,116]),(.int .i64 (1)),(.int .i64 (0)),(.int .i64 (9)),(.tX .sh [])]),(.agg [(.int .i64 (2)),(.str []),(.int .i64 (0)),(.int .i64 (0)),(.str []),(.tX .sh [(.agg [(.int .i64 (7)),(.str [99,111,108,111,117,114]),(.int .i64 (0)),(.int .i64 (0)),(.str [114,101,100]),(.tX .sh [])]),(.agg [(.int .i64 (6)),(.str [119,101,105,103,104,116]),(.int .i64 (3)),(.int .i64 (9)),(.str []),(.tX .sh [])])])])]
def agR:V:=(.tX .sh [(.int .i64 (0)),(.int .i64 (3))])
theorem nu3:((acC (ES Sv) (Rh (ES Sv) 50) (Rh (ES Sv) 51) 94 agQ 1 qd.init).bind fun L=>L.mapM fun x=>Rf 20 x.2 x.1)=some (List.replicate 12 agR):=by kernel_rfl
theorem ap3:Um (ES Sv) 94 agQ agR:=afn es0 nu3
end Sh
