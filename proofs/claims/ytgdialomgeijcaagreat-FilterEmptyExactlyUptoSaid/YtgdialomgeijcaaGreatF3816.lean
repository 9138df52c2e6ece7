import Derived.Test.YtgdialomgeijcaaGreatF3815
set_option linter.all false
open Go Go.Proofs Aq
namespace Sh
set_option maxRecDepth 100000
def agx:List V:=[(.agg [(.str [119,101,105,103,104,116]),(.int .i64 (1)),(.int .i64 (0)),(.int .i64 (9)),(.tX .sh [])]),(.agg [(.int .i64 (2)),(.str []),(.int .i64 (0)),(.int .i64 (0)),(.str []),(.tX .sh [(.agg [(.int .i64 (5)),(.str [119,101,105,103,104,116]),(.int .i64 (0)),(.int .i64 (0)),(.str []),(.tX .sh [])]),(.agg [(.int .i64 (4)),(.str []),(.int .i64 (0)),(.int .i64 (0)),(.str []),(.tX .sh [(.agg [(.int .i64 (6)),(.str [119,101,105,103,104,116]),(.int .i64 (3)),(.int .i64 (9)),(.str []),(.tX .sh [])])])])])])]
def agy:V:=(.tX .sh [(.int .i64 (0)),(.int .i64 (3))])
theorem nu0:((acr (ES Sm) (Rh (ES Sm) 50) (Rh (ES Sm) 51) 94 agx 1 qd.init).bind fun L=>L.mapM fun x=>Rf 20 x.2 x.1)=some (List.replicate 12 agy):=by kernel_rfl
theorem apn:Un (ES Sm) 94 agx agy:=afa es0 nu0
def agz:List V:=[(.agg [(.str [119,101,105,103,104,116]),(.int .i64 (1)),(.int .i64 (0)),(.int .i64 (9)),(.tX .sh [])]),(.agg [(.int .i64 (2)),(.str []),(.int .i64 (0)),(.int .i64 (0)),(.str []),(.tX .sh [(.agg [(.int .i64 (6)),(.str [119,101,105,103,104,116]),(.int .i64 (3)),(.int .i64 (9)),(.str []),(.tX .sh [])]),(.agg [(.int .i64 (4)),(.str []),(.int .i64 (0)),(.int .i64 (0)),(.str []),(.tX .sh [(.agg [(.int .i64 (5)),(.str [119,101,105,103,104,116]),(.int .i64 (0)),(.int .i64 (0)),(.str []),(.tX .sh [])])])])])])]
def agA:V:=(.tX .sh [(.int .i64 (0)),(.int .i64 (3))])
theorem nu1:((acr (ES Sm) (Rh (ES Sm) 50) (Rh (ES Sm) 51) 94 agz 1 qd.init).bind fun L=>L.mapM fun x=>Rf 20 x.2 x.1)=some (List.replicate 12 agA):=by kernel_rfl
theorem apq:Un (ES Sm) 94 agz agA:=afa es0 nu1
def agB:List V:=[(.agg [(.str [119,101,105,103,104,116]),(.int .i64 (1)),(.int .i64 (0)),(.int .i64 (9)),(.tX .sh [])]),(.agg [(.int .i64 (2)),(.str []),(.int .i64 (0)),(.int .i64 (0)),(.str []),(.tX .sh [(.agg [(.int .i64 (6)),(.str [119,101,105,103,104,116]),(.int .i64 (3)),(.int .i64 (9)),(.str []),(.tX .sh [])]),(.agg [(.int .i64 (6)),(.str [119,101,105,103,104,116]),(.int .i64 (0)),(.int .i64 (2)),(.str []),(.tX .sh [])])])])]
def agC:V:=(.tX .sh [(.int .i64 (0)),(.int .i64 (3))])
theorem nu2:((acr (ES Sm) (Rh (ES Sm) 50) (Rh (ES Sm) 51) 94 agB 1 qd.init).bind fun L=>L.mapM fun x=>Rf 20 x.2 x.1)=some (List.replicate 12 agC):=by kernel_rfl
theorem aps:Un (ES Sm) 94 agB agC:=afa es0 nu2
def agD:List V:=[(.agg [(.str [119,101,105,103,104,116]),(.int .i64 (1)),(.int .i64 (0)),(.int .i64 (9)),(.tX .sh [])]),(.agg [(.int .i64 (2)),(.str []),(.int .i64 (0)),(.int .i64 (0)),(.str []),(.tX .sh [(.agg [(.int .i64 (7)),(.str [99,111,108,111,117,114]),(.int .i64 (0)),(.int .i64 (0)),(.str [114,101,100]),(.tX .sh [])]),(.agg [(.int .i64 (6)),(.str [119,101,105,103,104,116]),(.int .i64 (3)),(.int .i64 (9)),(.str []),(.tX .sh [])])])])]
def agE:V:=(.tX .sh [(.int .i64 (0)),(.int .i64 (3))])
theorem nu3:((acr (ES Sm) (Rh (ES Sm) 50) (Rh (ES Sm) 51) 94 agD 1 qd.init).bind fun L=>L.mapM fun x=>Rf 20 x.2 x.1)=some (List.replicate 12 agE):=by kernel_rfl
theorem apu:Un (ES Sm) 94 agD agE:=afa es0 nu3
end Sh
