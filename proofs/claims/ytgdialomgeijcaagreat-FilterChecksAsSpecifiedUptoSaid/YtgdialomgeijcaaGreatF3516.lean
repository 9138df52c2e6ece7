import Derived.Test.YtgdialomgeijcaaGreatF3515
set_option linter.all false
open Go Go.Proofs Aq
namespace Sh
set_option maxRecDepth 100000
def nuA0:List V:=[(.agg [(.str [119,101,105,103,104,116]),(.int .i64 (1)),(.int .i64 (0)),(.int .i64 (9)),(.lst .sh [])]),(.agg [(.int .i64 (2)),(.str []),(.int .i64 (0)),(.int .i64 (0)),(.str []),(.lst .sh [(.agg [(.int .i64 (5)),(.str [119,101,105,103,104,116]),(.int .i64 (0)),(.int .i64 (0)),(.str []),(.lst .sh [])]),(.agg [(.int .i64 (4)),(.str []),(.int .i64 (0)),(.int .i64 (0)),(.str []),(.lst .sh [(.agg [(.int .i64 (6)),(.str [119,101,105,103,104,116]),(.int .i64 (3)),(.int .i64 (9)),(.str []),(.lst .sh [])])])])])])]
def nuV0:V:=(.lst .sh [(.int .i64 (0)),(.int .i64 (3))])
theorem nu0:((callL (ES summS0) (evl (ES summS0) 50) (evl (ES summS0) 51) 94 nuA0 1 Sig.init).bind fun L=>L.mapM fun x=>closeV 20 x.2 x.1)=some (List.replicate 12 nuV0):=by kernel_rfl
theorem nuP0:PureOK (ES summS0) 94 nuA0 nuV0:=pureL_sound es0 nu0
def nuA1:List V:=[(.agg [(.str [119,101,105,103,104,116]),(.int .i64 (1)),(.int .i64 (0)),(.int .i64 (9)),(.lst .sh [])]),(.agg [(.int .i64 (2)),(.str []),(.int .i64 (0)),(.int .i64 (0)),(.str []),(.lst .sh [(.agg [(.int .i64 (6)),(.str [119,101,105,103,104,116]),(.int .i64 (3)),(.int .i64 (9)),(.str []),(.lst .sh [])]),(.agg [(.int .i64 (4)),(.str []),(.int .i64 (0)),(.int .i64 (0)),(.str []),(.lst .sh [(.agg [(.int .i64 (5)),(.str [119,101,105,103,104,116]),(.int .i64 (0)),(.int .i64 (0)),(.str []),(.lst .sh [])])])])])])]
def nuV1:V:=(.lst .sh [(.int .i64 (0)),(.int .i64 (3))])
theorem nu1:((callL (ES summS0) (evl (ES summS0) 50) (evl (ES summS0) 51) 94 nuA1 1 Sig.init).bind fun L=>L.mapM fun x=>closeV 20 x.2 x.1)=some (List.replicate 12 nuV1):=by kernel_rfl
theorem nuP1:PureOK (ES summS0) 94 nuA1 nuV1:=pureL_sound es0 nu1
def nuA2:List V:=[(.agg [(.str [119,101,105,103,104,116]),(.int .i64 (1)),(.int .i64 (0)),(.int .i64 (9)),(.lst .sh [])]),(.agg [(.int .i64 (2)),(.str []),(.int .i64 (0)),(.int .i64 (0)),(.str []),(.lst .sh [(.agg [(.int .i64 (6)),(.str [119,101,105,103,104,116]),(.int .i64 (3)),(.int .i64 (9)),(.str []),(.lst .sh [])]),(.agg [(.int .i64 (6)),(.str [119,101,105,103,104,116]),(.int .i64 (0)),(.int .i64 (2)),(.str []),(.lst .sh [])])])])]
def nuV2:V:=(.lst .sh [(.int .i64 (0)),(.int .i64 (3))])
theorem nu2:((callL (ES summS0) (evl (ES summS0) 50) (evl (ES summS0) 51) 94 nuA2 1 Sig.init).bind fun L=>L.mapM fun x=>closeV 20 x.2 x.1)=some (List.replicate 12 nuV2):=by kernel_rfl
theorem nuP2:PureOK (ES summS0) 94 nuA2 nuV2:=pureL_sound es0 nu2
def nuA3:List V:=[(.agg [(.str [119,101,105,103,104,116]),(.int .i64 (1)),(.int .i64 (0)),(.int .i64 (9)),(.lst .sh [])]),(.agg [(.int .i64 (2)),(.str []),(.int .i64 (0)),(.int .i64 (0)),(.str []),(.lst .sh [(.agg [(.int .i64 (7)),(.str [99,111,108,111,117,114]),(.int .i64 (0)),(.int .i64 (0)),(.str [114,101,100]),(.lst .sh [])]),(.agg [(.int .i64 (6)),(.str [119,101,105,103,104,116]),(.int .i64 (3)),(.int .i64 (9)),(.str []),(.lst .sh [])])])])]
def nuV3:V:=(.lst .sh [(.int .i64 (0)),(.int .i64 (3))])
theorem nu3:((callL (ES summS0) (evl (ES summS0) 50) (evl (ES summS0) 51) 94 nuA3 1 Sig.init).bind fun L=>L.mapM fun x=>closeV 20 x.2 x.1)=some (List.replicate 12 nuV3):=by kernel_rfl
theorem nuP3:PureOK (ES summS0) 94 nuA3 nuV3:=pureL_sound es0 nu3
end Sh
