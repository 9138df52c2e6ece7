import Derived.Test.YtgdialomgeijcaaGreatF3915
set_option linter.all false
open Go Go.Proofs Aq
namespace Sh
set_option maxRecDepth 100000
def agC:List V:=[(.agg [(.str [119,101,105,103,104,116]),(.int .i64 (1)),(.int .i64 (0)),(.int .i64 (9)),(.tX .sh [])]),(.agg [(.int .i64 (2)),(.str []),(.int .i64 (0)),(.int .i64 (0)),(.str []),(.tX .sh [(.agg [(.int .i64 (5)),(.str [119,101,105,103,104,116]),(.int .i64 (0)),(.int .i64 (0)),(.str []),(.tX .sh [])]),(.agg [(.int .i64 (4)),(.str []),(.int .i64 (0)),(.int .i64 (0)),(.str []),(.tX .sh [(.agg [(.int .i64 (6)),(.str [119,101,105,103,104,116]),(.int .i64 (3)),(.int .i64 (9)),(.str []),(.tX .sh [])])])])])])]
def agD:V:=(.tX .sh [(.int .i64 (0)),(.int .i64 (3))])
theorem nu0:((acw (ES Sq) (Rh (ES Sq) 50) (Rh (ES Sq) 51) 94 agC 1 qd.init).bind fun L=>L.mapM fun x=>Rf 20 x.2 x.1)=some (List.replicate 12 agD):=by kernel_rfl
theorem apE:Uo (ES Sq) 94 agC agD:=afe es0 nu0
def agE:List V:=[(.agg [(.str [119,101,105,103,104,116]),(.int .i64 (1)),(.int .i64 (0)),(.int .i64 (9)),(.tX .sh [])]),(.agg [(.int .i64 (2)),(.str []),(.int .i64 (0)),(.int .i64 (0)),(.str []),(.tX .sh [(.agg [(.int .i64 (6)),(.str [119,101,105,103,104,116]),(.int .i64 (3)),(.int .i64 (9)),(.str []),(.tX .sh [])]),(.agg [(.int .i64 (4)),(.str []),(.int .i64 (0)),(.int .i64 (0)),(.str []),(.tX .sh [(.agg [(.int .i64 (5)),(.str [119,101,105,103,104,116]),(.int .i64 (0)),(.int .i64 (0)),(.str []),(.tX .sh [])])])])])])]
def agF:V:=(.tX .sh [(.int .i64 (0)),(.int .i64 (3))])
theorem nu1:((acw (ES Sq) (Rh (ES Sq) 50) (Rh (ES Sq) 51) 94 agE 1 qd.init).bind fun L=>L.mapM fun x=>Rf 20 x.2 x.1)=some (List.replicate 12 agF):=by kernel_rfl
theorem apG:Uo (ES Sq) 94 agE agF:=afe es0 nu1
def agG:List V:=[(.agg [(.str [119,101,105,103,104,116]),(.int .i64 (1)),(.int .i64 (0)),(.int .i64 (9)),(.tX .sh [])]),(.agg [(.int .i64 (2)),(.str []),(.int .i64 (0)),(.int .i64 (0)),(.str []),(.tX .sh [(.agg [(.int .i64 (6)),(.str [119,101,105,103,104,116]),(.int .i64 (3)),(.int .i64 (9)),(.str []),(.tX .sh [])]),(.agg [(.int .i64 (6)),(.str [119,101,105,103,104,116]),(.int .i64 (0)),(.int .i64 (2)),(.str []),(.tX .sh [])])])])]
def agH:V:=(.tX .sh [(.int .i64 (0)),(.int .i64 (3))])
theorem nu2:((acw (ES Sq) (Rh (ES Sq) 50) (Rh (ES Sq) 51) 94 agG 1 qd.init).bind fun L=>L.mapM fun x=>Rf 20 x.2 x.1)=some (List.replicate 12 agH):=by kernel_rfl
theorem apI:Uo (ES Sq) 94 agG agH:=afe es0 nu2
def agI:List V:=[(.agg [(.str [119,101,105,103,104,116]),(.int .i64 (1)),(.int .i64 (0)),(.int .i64 (9)),(.tX .sh [])]),(.agg [(.int .i64 (2)),(.str []),(.int .i64 (0)),(.int .i64 (0)),(.str []),(.tX .sh [(.agg [(.int .i64 (7)),(.str [99,111,108,111,117,114]),(.int .i64 (0)),(.int .i64 (0)),(.str [114,101,100]),(.tX .sh [])]),(.agg [(.int .i64 (6)),(.str [119,101,105,103,104,116]),(.int .i64 (3)),(.int .i64 (9)),(.str []),(.tX .sh [])])])])]
def agJ:V:=(.tX .sh [(.int .i64 (0)),(.int .i64 (3))])
theorem nu3:((acw (ES Sq) (Rh (ES Sq) 50) (Rh (ES Sq) 51) 94 agI 1 qd.init).bind fun L=>L.mapM fun x=>Rf 20 x.2 x.1)=some (List.replicate 12 agJ):=by kernel_rfl
theorem apK:Uo (ES Sq) 94 agI agJ:=afe es0 nu3
end Sh
