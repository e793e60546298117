/- RatKnown: what is kept between the stages, written by program. -/
import Derived.Test.YtopemogpgppjlaaDoorEv7
namespace Go.Proofs.YtopemogpgppjlaaDoor.ratKnown
open Go.Ev
set_option maxRecDepth 100000
noncomputable def act0 : Act' := ⟨(.n (.n (.n (.n (.n .e (some (.int .i64 (.ofNat 0))) .e) none
(.n .e (some (.int .i64 (.ofNat 6))) .e)) (some (.ptr 32 0))
(.n (.n .e (some (.int .i64 (.ofNat 0))) .e) none
.e)) (some (.ptr 25 0))
(.n (.n (.n .e (some (.tup [(.agg [(.bool false),.nilsl,(.sl 31 0 1 1 false)]),(.int .i64 (.ofNat 0))])) .e) none
.e) (some (.ptr 34 0))
(.n (.n .e (some (.tup [(.agg [(.bool false),.nilsl,.nilsl]),(.int .i64 (.ofNat 6))])) .e) (some (.tup [(.agg [(.bool true),(.sl 22 0 1 1 true),(.sl 24 0 1 1 true)]),(.int .i64 (.ofNat 0))]))
.e))) (some (.bool false))
(.n (.n (.n (.n .e (some (.tup [(.agg [(.bool false),.nilsl,(.sl 31 0 1 1 false)]),(.int .i64 (.ofNat 0))])) .e) none
.e) (some (.int .i64 (.ofNat 0)))
(.n (.n .e (some (.tup [(.agg [(.bool false),.nilsl,.nilsl]),(.int .i64 (.ofNat 6))])) .e) (some (.tup [(.agg [(.bool true),(.sl 22 0 1 1 true),(.sl 24 0 1 1 true)]),(.int .i64 (.ofNat 0))]))
.e)) (some (.int .i64 (.ofNat 0)))
(.n (.n (.n .e (some (.agg [(.bool false),.nilsl,(.sl 31 0 1 1 false)])) .e) none
.e) (some (.int .i64 (.ofNat 6)))
(.n (.n .e (some (.agg [(.bool false),.nilsl,.nilsl])) .e) (some (.agg [(.bool true),(.sl 22 0 1 1 true),(.sl 24 0 1 1 true)]))
.e)))), false⟩
noncomputable def sta0 : St := ⟨(.n (.n (.n (.n (.n (.n .e (some (.cells [(.int .u32 (.ofNat 1))] false 0)) .e) none
.e) none
.e) none
.e) (some (.ro [(.int .u8 (.ofNat 0)),(.int .u8 (.ofNat 1)),(.int .u8 (.ofNat 56)),(.int .u8 (.ofNat 2)),(.int .u8 (.ofNat 57)),(.int .u8 (.ofNat 49)),(.int .u8 (.ofNat 28)),(.int .u8 (.ofNat 3)),(.int .u8 (.ofNat 61)),(.int .u8 (.ofNat 58)),(.int .u8 (.ofNat 42)),(.int .u8 (.ofNat 50)),(.int .u8 (.ofNat 38)),(.int .u8 (.ofNat 29)),(.int .u8 (.ofNat 17)),(.int .u8 (.ofNat 4)),(.int .u8 (.ofNat 62)),(.int .u8 (.ofNat 47)),(.int .u8 (.ofNat 59)),(.int .u8 (.ofNat 36)),(.int .u8 (.ofNat 45)),(.int .u8 (.ofNat 43)),(.int .u8 (.ofNat 51)),(.int .u8 (.ofNat 22)),(.int .u8 (.ofNat 53)),(.int .u8 (.ofNat 39)),(.int .u8 (.ofNat 33)),(.int .u8 (.ofNat 30)),(.int .u8 (.ofNat 24)),(.int .u8 (.ofNat 18)),(.int .u8 (.ofNat 12)),(.int .u8 (.ofNat 5)),(.int .u8 (.ofNat 63)),(.int .u8 (.ofNat 55)),(.int .u8 (.ofNat 48)),(.int .u8 (.ofNat 27)),(.int .u8 (.ofNat 60)),(.int .u8 (.ofNat 41)),(.int .u8 (.ofNat 37)),(.int .u8 (.ofNat 16)),(.int .u8 (.ofNat 46)),(.int .u8 (.ofNat 35)),(.int .u8 (.ofNat 44)),(.int .u8 (.ofNat 21)),(.int .u8 (.ofNat 52)),(.int .u8 (.ofNat 32)),(.int .u8 (.ofNat 23)),(.int .u8 (.ofNat 11)),(.int .u8 (.ofNat 54)),(.int .u8 (.ofNat 26)),(.int .u8 (.ofNat 40)),(.int .u8 (.ofNat 15)),(.int .u8 (.ofNat 34)),(.int .u8 (.ofNat 20)),(.int .u8 (.ofNat 31)),(.int .u8 (.ofNat 10)),(.int .u8 (.ofNat 25)),(.int .u8 (.ofNat 14)),(.int .u8 (.ofNat 19)),(.int .u8 (.ofNat 9)),(.int .u8 (.ofNat 13)),(.int .u8 (.ofNat 8)),(.int .u8 (.ofNat 7)),(.int .u8 (.ofNat 6))]))
(.n (.n .e none
(.n .e (some (.cells [(.bool true),(.sl 22 0 1 1 true),(.sl 24 0 1 1 true)] false 0)) .e)) none
.e)) (some (.ro [(.int .i64 (.negSucc 0)),(.int .i64 (.ofNat 0)),(.int .i64 (.ofNat 1))]))
(.n (.n (.n (.n (.n .e (some (.cells [(.bool false),.nilsl,(.sl 31 0 1 1 false)] false 0)) .e) none
.e) none
(.n .e (some (.cells [(.int .u32 (.ofNat 2))] true 1)) .e)) none
.e) none
(.n .e none
(.n (.n .e (some (.cells [(.int .u32 (.ofNat 3))] true 1)) .e) none
.e)))), 35⟩
noncomputable def act1 : Act' := ⟨(.n (.n (.n (.n (.n (.n .e (some (.bool true)) .e) (some (.int .i64 (.ofNat 0)))
(.n .e (some (.bool false)) .e)) (some (.ptr 40 0))
(.n (.n .e (some (.bool false)) .e) (some (.int .i64 (.ofNat 6)))
(.n .e (some (.tup [(.agg [(.bool true),(.sl 546 0 1 1 true),(.sl 547 0 1 1 true)]),(.int .i64 (.ofNat 0))])) .e))) (some (.ptr 32 0))
(.n (.n (.n .e (some (.int .i64 (.ofNat 0))) .e) (some (.int .i64 (.ofNat 0)))
(.n .e (some (.agg [(.bool false),(.sl 227 0 1 1 true),(.sl 229 0 1 1 true)])) .e)) none
(.n (.n .e (some (.bool false)) .e) (some (.agg [(.bool false),.nilsl,(.sl 39 0 1 1 false)]))
(.n .e (some (.agg [(.bool true),(.sl 546 0 1 1 true),(.sl 547 0 1 1 true)])) .e)))) (some (.ptr 25 0))
(.n (.n (.n (.n .e (some (.bool false)) .e) (some (.tup [(.agg [(.bool false),.nilsl,(.sl 31 0 1 1 false)]),(.int .i64 (.ofNat 0))]))
(.n .e (some (.tup [(.agg [(.bool false),(.sl 377 0 1 1 true),(.sl 379 0 1 1 true)]),(.int .i64 (.ofNat 0))])) .e)) none
(.n (.n .e (some (.bool false)) .e) (some (.sl 35 0 1 1 false))
(.n .e (some (.agg [(.bool true),(.sl 432 0 1 1 true),(.sl 434 0 1 1 true)])) .e))) (some (.ptr 34 0))
(.n (.n (.n .e (some (.bool false)) .e) (some (.tup [(.agg [(.bool false),.nilsl,.nilsl]),(.int .i64 (.ofNat 6))]))
(.n .e (some (.agg [(.bool false),(.sl 377 0 1 1 true),(.sl 379 0 1 1 true)])) .e)) (some (.tup [(.agg [(.bool true),(.sl 22 0 1 1 true),(.sl 24 0 1 1 true)]),(.int .i64 (.ofNat 0))]))
(.n (.n .e (some (.int .i64 (.ofNat 0))) .e) (some (.agg [(.bool true),(.sl 22 0 1 1 true),(.sl 24 0 1 1 true)]))
.e)))) (some (.bool false))
(.n (.n (.n (.n (.n .e (some (.bool false)) .e) (some (.tup [(.agg [(.bool false),.nilsl,(.sl 31 0 1 1 false)]),(.int .i64 (.ofNat 0))]))
(.n .e (some (.bool false)) .e)) (some (.int .i64 (.ofNat 0)))
(.n (.n .e (some (.int .i64 (.ofNat 6))) .e) (some (.tup [(.agg [(.bool false),.nilsl,(.sl 39 0 1 1 false)]),(.int .i64 (.ofNat 0))]))
(.n .e (some (.agg [(.bool false),(.sl 406 0 1 1 true),(.sl 408 0 1 1 true)])) .e))) (some (.int .i64 (.ofNat 0)))
(.n (.n (.n .e (some (.bool true)) .e) (some (.tup [(.agg [(.bool false),.nilsl,.nilsl]),(.int .i64 (.ofNat 6))]))
(.n .e (some (.tup [(.agg [(.bool false),(.sl 377 0 1 1 true),(.sl 379 0 1 1 true)]),(.int .i64 (.ofNat 0))])) .e)) (some (.tup [(.agg [(.bool true),(.sl 22 0 1 1 true),(.sl 24 0 1 1 true)]),(.int .i64 (.ofNat 0))]))
(.n (.n .e (some (.agg [(.bool false),.nilsl,(.sl 39 0 1 1 false)])) .e) (some (.int .i64 (.ofNat 0)))
(.n .e (some (.int .i64 (.ofNat 0))) .e)))) (some (.int .i64 (.ofNat 0)))
(.n (.n (.n (.n .e (some (.agg [(.bool false),.nilsl,(.sl 31 0 1 1 false)])) .e) (some (.agg [(.bool false),.nilsl,(.sl 31 0 1 1 false)]))
(.n .e (some (.agg [(.bool false),(.sl 201 0 1 1 true),(.sl 203 0 1 1 true)])) .e)) none
(.n (.n .e (some (.bool false)) .e) (some (.tup [(.agg [(.bool false),.nilsl,(.sl 39 0 1 1 false)]),(.int .i64 (.ofNat 0))]))
(.n .e (some (.tup [(.agg [(.bool true),(.sl 546 0 1 1 true),(.sl 547 0 1 1 true)]),(.int .i64 (.ofNat 0))])) .e))) (some (.int .i64 (.ofNat 6)))
(.n (.n (.n .e (some (.bool false)) .e) (some (.agg [(.bool false),.nilsl,.nilsl]))
(.n .e (some (.int .i64 (.ofNat 0))) .e)) (some (.agg [(.bool true),(.sl 22 0 1 1 true),(.sl 24 0 1 1 true)]))
(.n (.n .e (some (.bool true)) .e) (some (.int .i64 (.ofNat 0)))
.e))))), false⟩
noncomputable def sta1 : St := ⟨(.n (.n (.n (.n .e none
(.n (.n .e (some (.cells [(.int .u32 (.ofNat 1))] false 0)) .e) none
.e)) none
(.n (.n (.n .e none
(.n (.n (.n (.n .e (some (.cells [(.int .u32 (.ofNat 1))] true 1)) .e) none
.e) none
.e) none
.e)) none
.e) none
(.n .e none
(.n .e none
(.n .e none
(.n (.n .e (some (.cells [(.int .u32 (.ofNat 6))] true 1)) .e) none
.e)))))) (some (.ro [(.int .u8 (.ofNat 0)),(.int .u8 (.ofNat 1)),(.int .u8 (.ofNat 56)),(.int .u8 (.ofNat 2)),(.int .u8 (.ofNat 57)),(.int .u8 (.ofNat 49)),(.int .u8 (.ofNat 28)),(.int .u8 (.ofNat 3)),(.int .u8 (.ofNat 61)),(.int .u8 (.ofNat 58)),(.int .u8 (.ofNat 42)),(.int .u8 (.ofNat 50)),(.int .u8 (.ofNat 38)),(.int .u8 (.ofNat 29)),(.int .u8 (.ofNat 17)),(.int .u8 (.ofNat 4)),(.int .u8 (.ofNat 62)),(.int .u8 (.ofNat 47)),(.int .u8 (.ofNat 59)),(.int .u8 (.ofNat 36)),(.int .u8 (.ofNat 45)),(.int .u8 (.ofNat 43)),(.int .u8 (.ofNat 51)),(.int .u8 (.ofNat 22)),(.int .u8 (.ofNat 53)),(.int .u8 (.ofNat 39)),(.int .u8 (.ofNat 33)),(.int .u8 (.ofNat 30)),(.int .u8 (.ofNat 24)),(.int .u8 (.ofNat 18)),(.int .u8 (.ofNat 12)),(.int .u8 (.ofNat 5)),(.int .u8 (.ofNat 63)),(.int .u8 (.ofNat 55)),(.int .u8 (.ofNat 48)),(.int .u8 (.ofNat 27)),(.int .u8 (.ofNat 60)),(.int .u8 (.ofNat 41)),(.int .u8 (.ofNat 37)),(.int .u8 (.ofNat 16)),(.int .u8 (.ofNat 46)),(.int .u8 (.ofNat 35)),(.int .u8 (.ofNat 44)),(.int .u8 (.ofNat 21)),(.int .u8 (.ofNat 52)),(.int .u8 (.ofNat 32)),(.int .u8 (.ofNat 23)),(.int .u8 (.ofNat 11)),(.int .u8 (.ofNat 54)),(.int .u8 (.ofNat 26)),(.int .u8 (.ofNat 40)),(.int .u8 (.ofNat 15)),(.int .u8 (.ofNat 34)),(.int .u8 (.ofNat 20)),(.int .u8 (.ofNat 31)),(.int .u8 (.ofNat 10)),(.int .u8 (.ofNat 25)),(.int .u8 (.ofNat 14)),(.int .u8 (.ofNat 19)),(.int .u8 (.ofNat 9)),(.int .u8 (.ofNat 13)),(.int .u8 (.ofNat 8)),(.int .u8 (.ofNat 7)),(.int .u8 (.ofNat 6))]))
(.n (.n .e none
(.n .e (some (.cells [(.bool false),(.sl 377 0 1 1 true),(.sl 379 0 1 1 true)] false 0))
(.n .e none
(.n .e none
(.n (.n .e (some (.cells [(.int .u32 (.ofNat 1))] true 1)) .e) none
.e))))) none
.e)) (some (.ro [(.int .i64 (.negSucc 0)),(.int .i64 (.ofNat 0)),(.int .i64 (.ofNat 1))]))
(.n (.n (.n (.n (.n .e (some (.cells [(.bool true),(.sl 546 0 1 1 true),(.sl 547 0 1 1 true)] false 0)) .e) none
.e) none
(.n (.n .e (some (.cells [(.bool false),.nilsl,(.sl 39 0 1 1 false)] false 0)) .e) none
.e)) none
.e) none
(.n (.n (.n (.n .e none
(.n (.n (.n (.n .e (some (.cells [(.int .u32 (.ofNat 2))] true 1)) .e) none
.e) none
.e) none
.e)) none
.e) none
.e) none
.e))), 551⟩
noncomputable def act2 : Act' := ⟨(.n (.n (.n (.n (.n (.n (.n .e (some (.agg [(.bool false),(.sl 606 0 1 1 true),(.sl 608 0 1 1 true)])) .e) (some (.bool true))
.e) (some (.int .i64 (.ofNat 0)))
(.n (.n .e (some (.bool false)) .e) (some (.bool false))
.e)) (some (.ptr 40 0))
(.n (.n (.n .e (some (.bool false)) .e) (some (.bool false))
.e) (some (.int .i64 (.ofNat 6)))
(.n (.n .e (some (.tup [(.agg [(.bool true),(.sl 813 0 1 1 true),(.sl 814 0 1 1 false)]),(.int .i64 (.ofNat 0))])) .e) (some (.tup [(.agg [(.bool true),(.sl 546 0 1 1 true),(.sl 547 0 1 1 true)]),(.int .i64 (.ofNat 0))]))
.e))) (some (.ptr 32 0))
(.n (.n (.n (.n .e (some (.agg [(.bool false),(.sl 377 0 1 1 true),(.sl 379 0 1 1 true)])) .e) (some (.int .i64 (.ofNat 0)))
.e) (some (.int .i64 (.ofNat 0)))
(.n (.n .e (some (.bool false)) .e) (some (.agg [(.bool false),(.sl 227 0 1 1 true),(.sl 229 0 1 1 true)]))
.e)) none
(.n (.n (.n .e (some (.bool false)) .e) (some (.bool false))
.e) (some (.agg [(.bool false),.nilsl,(.sl 39 0 1 1 false)]))
(.n (.n .e (some (.agg [(.bool true),(.sl 841 0 1 1 true),(.sl 843 0 1 1 true)])) .e) (some (.agg [(.bool true),(.sl 546 0 1 1 true),(.sl 547 0 1 1 true)]))
.e)))) (some (.ptr 25 0))
(.n (.n (.n (.n (.n .e (some (.int .i64 (.negSucc 0))) .e) (some (.bool false))
.e) (some (.tup [(.agg [(.bool false),.nilsl,(.sl 31 0 1 1 false)]),(.int .i64 (.ofNat 0))]))
(.n (.n .e (some (.bool false)) .e) (some (.tup [(.agg [(.bool false),(.sl 377 0 1 1 true),(.sl 379 0 1 1 true)]),(.int .i64 (.ofNat 0))]))
.e)) (some (.int .i64 (.negSucc 0)))
(.n (.n (.n .e (some (.int .i64 (.ofNat 0))) .e) (some (.bool false))
.e) (some (.sl 35 0 1 1 false))
(.n (.n .e (some (.int .i64 (.ofNat 0))) .e) (some (.agg [(.bool true),(.sl 432 0 1 1 true),(.sl 434 0 1 1 true)]))
.e))) (some (.ptr 34 0))
(.n (.n (.n (.n .e (some (.bool true)) .e) (some (.bool false))
.e) (some (.tup [(.agg [(.bool false),.nilsl,.nilsl]),(.int .i64 (.ofNat 6))]))
(.n (.n .e (some (.tup [(.agg [(.bool true),(.sl 813 0 1 1 true),(.sl 814 0 1 1 false)]),(.int .i64 (.ofNat 0))])) .e) (some (.agg [(.bool false),(.sl 377 0 1 1 true),(.sl 379 0 1 1 true)]))
.e)) (some (.tup [(.agg [(.bool true),(.sl 22 0 1 1 true),(.sl 24 0 1 1 true)]),(.int .i64 (.ofNat 0))]))
(.n (.n (.n .e (some (.bool false)) .e) (some (.int .i64 (.ofNat 0)))
.e) (some (.agg [(.bool true),(.sl 22 0 1 1 true),(.sl 24 0 1 1 true)]))
(.n (.n .e (some (.agg [(.bool true),(.sl 869 0 1 1 true),(.sl 870 0 1 1 false)])) .e) (some (.tup [(.int .i64 (.negSucc 0)),(.int .i64 (.ofNat 0))]))
.e))))) (some (.bool false))
(.n (.n (.n (.n (.n (.n .e (some (.tup [(.int .i64 (.negSucc 0)),(.int .i64 (.ofNat 0))])) .e) (some (.bool false))
.e) (some (.tup [(.agg [(.bool false),.nilsl,(.sl 31 0 1 1 false)]),(.int .i64 (.ofNat 0))]))
(.n (.n .e (some (.bool false)) .e) (some (.bool false))
.e)) (some (.int .i64 (.ofNat 0)))
(.n (.n (.n .e (some (.agg [(.bool true),(.sl 546 0 1 1 true),(.sl 547 0 1 1 true)])) .e) (some (.int .i64 (.ofNat 6)))
.e) (some (.tup [(.agg [(.bool false),.nilsl,(.sl 39 0 1 1 false)]),(.int .i64 (.ofNat 0))]))
(.n (.n .e (some (.agg [(.bool true),(.sl 813 0 1 1 true),(.sl 814 0 1 1 false)])) .e) (some (.agg [(.bool false),(.sl 406 0 1 1 true),(.sl 408 0 1 1 true)]))
.e))) (some (.int .i64 (.ofNat 0)))
(.n (.n (.n (.n .e (some (.int .i64 (.ofNat 0))) .e) (some (.bool true))
.e) (some (.tup [(.agg [(.bool false),.nilsl,.nilsl]),(.int .i64 (.ofNat 6))]))
(.n (.n .e (some (.bool false)) .e) (some (.tup [(.agg [(.bool false),(.sl 377 0 1 1 true),(.sl 379 0 1 1 true)]),(.int .i64 (.ofNat 0))]))
.e)) (some (.tup [(.agg [(.bool true),(.sl 22 0 1 1 true),(.sl 24 0 1 1 true)]),(.int .i64 (.ofNat 0))]))
(.n (.n (.n .e (some (.bool false)) .e) (some (.agg [(.bool false),.nilsl,(.sl 39 0 1 1 false)]))
.e) (some (.int .i64 (.ofNat 0)))
(.n (.n .e (some (.tup [(.agg [(.bool true),(.sl 869 0 1 1 true),(.sl 870 0 1 1 false)]),(.int .i64 (.ofNat 0))])) .e) (some (.int .i64 (.ofNat 0)))
.e)))) (some (.int .i64 (.ofNat 0)))
(.n (.n (.n (.n (.n .e (some (.int .i64 (.ofNat 0))) .e) (some (.agg [(.bool false),.nilsl,(.sl 31 0 1 1 false)]))
.e) (some (.agg [(.bool false),.nilsl,(.sl 31 0 1 1 false)]))
(.n (.n .e (some (.int .i64 (.ofNat 0))) .e) (some (.agg [(.bool false),(.sl 201 0 1 1 true),(.sl 203 0 1 1 true)]))
.e)) none
(.n (.n (.n .e (some (.bool true)) .e) (some (.bool false))
.e) (some (.tup [(.agg [(.bool false),.nilsl,(.sl 39 0 1 1 false)]),(.int .i64 (.ofNat 0))]))
(.n (.n .e (some (.tup [(.agg [(.bool true),(.sl 869 0 1 1 true),(.sl 870 0 1 1 false)]),(.int .i64 (.ofNat 0))])) .e) (some (.tup [(.agg [(.bool true),(.sl 546 0 1 1 true),(.sl 547 0 1 1 true)]),(.int .i64 (.ofNat 0))]))
.e))) (some (.int .i64 (.ofNat 0)))
(.n (.n (.n (.n .e (some (.bool false)) .e) (some (.bool false))
.e) (some (.agg [(.bool false),.nilsl,.nilsl]))
(.n (.n .e (some (.agg [(.bool true),(.sl 782 0 1 1 true),(.sl 784 0 1 1 true)])) .e) (some (.int .i64 (.ofNat 0)))
.e)) (some (.agg [(.bool true),(.sl 22 0 1 1 true),(.sl 24 0 1 1 true)]))
(.n (.n (.n .e (some (.int .i64 (.negSucc 0))) .e) (some (.bool true))
.e) (some (.int .i64 (.ofNat 0)))
(.n (.n .e (some (.int .i64 (.ofNat 0))) .e) (some (.agg [(.bool false),(.sl 574 0 1 1 true),(.sl 576 0 1 1 true)]))
.e)))))), false⟩
noncomputable def sta2 : St := ⟨(.n (.n (.n (.n .e none
(.n (.n .e (some (.cells [(.int .u32 (.ofNat 1))] false 0)) .e) none
.e)) none
.e) (some (.ro [(.int .u8 (.ofNat 0)),(.int .u8 (.ofNat 1)),(.int .u8 (.ofNat 56)),(.int .u8 (.ofNat 2)),(.int .u8 (.ofNat 57)),(.int .u8 (.ofNat 49)),(.int .u8 (.ofNat 28)),(.int .u8 (.ofNat 3)),(.int .u8 (.ofNat 61)),(.int .u8 (.ofNat 58)),(.int .u8 (.ofNat 42)),(.int .u8 (.ofNat 50)),(.int .u8 (.ofNat 38)),(.int .u8 (.ofNat 29)),(.int .u8 (.ofNat 17)),(.int .u8 (.ofNat 4)),(.int .u8 (.ofNat 62)),(.int .u8 (.ofNat 47)),(.int .u8 (.ofNat 59)),(.int .u8 (.ofNat 36)),(.int .u8 (.ofNat 45)),(.int .u8 (.ofNat 43)),(.int .u8 (.ofNat 51)),(.int .u8 (.ofNat 22)),(.int .u8 (.ofNat 53)),(.int .u8 (.ofNat 39)),(.int .u8 (.ofNat 33)),(.int .u8 (.ofNat 30)),(.int .u8 (.ofNat 24)),(.int .u8 (.ofNat 18)),(.int .u8 (.ofNat 12)),(.int .u8 (.ofNat 5)),(.int .u8 (.ofNat 63)),(.int .u8 (.ofNat 55)),(.int .u8 (.ofNat 48)),(.int .u8 (.ofNat 27)),(.int .u8 (.ofNat 60)),(.int .u8 (.ofNat 41)),(.int .u8 (.ofNat 37)),(.int .u8 (.ofNat 16)),(.int .u8 (.ofNat 46)),(.int .u8 (.ofNat 35)),(.int .u8 (.ofNat 44)),(.int .u8 (.ofNat 21)),(.int .u8 (.ofNat 52)),(.int .u8 (.ofNat 32)),(.int .u8 (.ofNat 23)),(.int .u8 (.ofNat 11)),(.int .u8 (.ofNat 54)),(.int .u8 (.ofNat 26)),(.int .u8 (.ofNat 40)),(.int .u8 (.ofNat 15)),(.int .u8 (.ofNat 34)),(.int .u8 (.ofNat 20)),(.int .u8 (.ofNat 31)),(.int .u8 (.ofNat 10)),(.int .u8 (.ofNat 25)),(.int .u8 (.ofNat 14)),(.int .u8 (.ofNat 19)),(.int .u8 (.ofNat 9)),(.int .u8 (.ofNat 13)),(.int .u8 (.ofNat 8)),(.int .u8 (.ofNat 7)),(.int .u8 (.ofNat 6))]))
(.n (.n .e none
(.n .e (some (.cells [(.bool true),(.sl 813 0 1 1 true),(.sl 814 0 1 1 false)] false 0)) .e)) none
(.n (.n (.n .e none
(.n .e none
(.n (.n .e none
(.n .e (some (.cells [(.int .u32 (.ofNat 1))] true 1)) .e)) none
.e))) none
.e) none
(.n (.n .e none
(.n (.n (.n .e none
(.n .e (some (.cells [(.int .u32 (.ofNat 2))] true 1)) .e)) none
.e) none
.e)) none
.e)))) (some (.ro [(.int .i64 (.negSucc 0)),(.int .i64 (.ofNat 0)),(.int .i64 (.ofNat 1))]))
(.n (.n (.n (.n (.n .e (some (.cells [(.bool true),(.sl 869 0 1 1 true),(.sl 870 0 1 1 false)] false 0)) .e) none
.e) none
(.n (.n .e (some (.cells [(.bool false),.nilsl,(.sl 39 0 1 1 false)] false 0)) .e) none
.e)) none
.e) none
(.n .e none
(.n (.n (.n .e none
(.n .e none
(.n (.n .e none
(.n .e (some (.cells [(.int .u32 (.ofNat 1))] false 0)) .e)) none
.e))) none
.e) none
(.n (.n .e none
(.n (.n (.n .e none
(.n .e (some (.cells [(.int .u32 (.ofNat 1))] false 0)) .e)) none
.e) none
.e)) none
.e))))), 874⟩
noncomputable def act3 : Act' := ⟨(.n (.n (.n (.n (.n (.n (.n (.n .e (some (.tup [(.agg [(.bool false),.nilsl,(.sl 1370 0 1 1 false)]),(.int .i64 (.ofNat 0))])) .e) (some (.agg [(.bool false),(.sl 606 0 1 1 true),(.sl 608 0 1 1 true)]))
.e) (some (.bool true))
(.n .e (some (.tup [(.int .i64 (.ofNat 66)),(.int .i64 (.ofNat 0))])) .e)) (some (.int .i64 (.ofNat 0)))
(.n (.n .e (some (.bool false)) .e) (some (.bool false))
(.n .e (some (.int .i64 (.ofNat 66))) .e))) (some (.ptr 40 0))
(.n (.n (.n .e (some (.bool false)) .e) (some (.bool false))
(.n .e (some (.bool false)) .e)) (some (.int .i64 (.ofNat 6)))
(.n (.n .e (some (.tup [(.agg [(.bool true),(.sl 813 0 1 1 true),(.sl 814 0 1 1 false)]),(.int .i64 (.ofNat 0))])) .e) (some (.tup [(.agg [(.bool true),(.sl 546 0 1 1 true),(.sl 547 0 1 1 true)]),(.int .i64 (.ofNat 0))]))
(.n .e (some (.agg [(.bool false),(.sl 1082 0 1 1 true),(.sl 1084 0 1 1 true)])) .e)))) (some (.ptr 32 0))
(.n (.n (.n (.n .e (some (.agg [(.bool false),(.sl 377 0 1 1 true),(.sl 379 0 1 1 true)])) .e) (some (.int .i64 (.ofNat 0)))
(.n .e (some (.int .i64 (.ofNat 0))) .e)) (some (.int .i64 (.ofNat 0)))
(.n (.n .e (some (.bool false)) .e) (some (.agg [(.bool false),(.sl 227 0 1 1 true),(.sl 229 0 1 1 true)]))
(.n .e (some (.int .i64 (.ofNat 0))) .e))) none
(.n (.n (.n .e (some (.bool false)) .e) (some (.bool false))
(.n .e (some (.bool true)) .e)) (some (.agg [(.bool false),.nilsl,(.sl 39 0 1 1 false)]))
(.n (.n .e (some (.agg [(.bool true),(.sl 841 0 1 1 true),(.sl 843 0 1 1 true)])) .e) (some (.agg [(.bool true),(.sl 546 0 1 1 true),(.sl 547 0 1 1 true)]))
(.n .e (some (.int .i64 (.ofNat 0))) .e))))) (some (.ptr 25 0))
(.n (.n (.n (.n (.n (.n .e (some (.int .i64 (.ofNat 0))) .e) (some (.int .i64 (.negSucc 0)))
.e) (some (.bool false))
(.n .e (some (.tup [(.int .i64 (.ofNat 66)),(.int .i64 (.ofNat 0))])) .e)) (some (.tup [(.agg [(.bool false),.nilsl,(.sl 31 0 1 1 false)]),(.int .i64 (.ofNat 0))]))
(.n (.n .e (some (.bool false)) .e) (some (.tup [(.agg [(.bool false),(.sl 377 0 1 1 true),(.sl 379 0 1 1 true)]),(.int .i64 (.ofNat 0))]))
(.n .e (some (.bool false)) .e))) (some (.int .i64 (.ofNat 66)))
(.n (.n (.n .e (some (.int .i64 (.ofNat 0))) .e) (some (.bool false))
(.n .e (some (.agg [(.bool true),(.sl 869 0 1 1 true),(.sl 870 0 1 1 false)])) .e)) (some (.sl 35 0 1 1 false))
(.n (.n .e (some (.int .i64 (.ofNat 0))) .e) (some (.agg [(.bool true),(.sl 432 0 1 1 true),(.sl 434 0 1 1 true)]))
(.n .e (some (.tup [(.agg [(.bool false),(.sl 1293 0 1 1 true),(.sl 1294 0 1 1 true)]),(.int .i64 (.ofNat 0))])) .e)))) (some (.ptr 34 0))
(.n (.n (.n (.n .e (some (.bool true)) .e) (some (.bool false))
(.n .e (some (.int .i64 (.ofNat 0))) .e)) (some (.tup [(.agg [(.bool false),.nilsl,.nilsl]),(.int .i64 (.ofNat 6))]))
(.n (.n .e (some (.tup [(.agg [(.bool true),(.sl 813 0 1 1 true),(.sl 814 0 1 1 false)]),(.int .i64 (.ofNat 0))])) .e) (some (.agg [(.bool false),(.sl 377 0 1 1 true),(.sl 379 0 1 1 true)]))
(.n .e (some (.bool false)) .e))) (some (.tup [(.agg [(.bool true),(.sl 22 0 1 1 true),(.sl 24 0 1 1 true)]),(.int .i64 (.ofNat 0))]))
(.n (.n (.n .e (some (.bool false)) .e) (some (.int .i64 (.ofNat 0)))
(.n .e (some (.bool false)) .e)) (some (.agg [(.bool true),(.sl 22 0 1 1 true),(.sl 24 0 1 1 true)]))
(.n (.n .e (some (.agg [(.bool true),(.sl 869 0 1 1 true),(.sl 870 0 1 1 false)])) .e) (some (.tup [(.int .i64 (.negSucc 0)),(.int .i64 (.ofNat 0))]))
(.n .e (some (.agg [(.bool true),(.sl 1321 0 1 1 true),(.sl 1323 0 1 1 true)])) .e)))))) (some (.bool false))
(.n (.n (.n (.n (.n (.n (.n .e (some (.agg [(.bool false),.nilsl,(.sl 1370 0 1 1 false)])) .e) (some (.tup [(.int .i64 (.negSucc 0)),(.int .i64 (.ofNat 0))]))
.e) (some (.bool false))
(.n .e (some (.agg [(.bool false),(.sl 903 0 1 1 true),(.sl 905 0 1 1 true)])) .e)) (some (.tup [(.agg [(.bool false),.nilsl,(.sl 31 0 1 1 false)]),(.int .i64 (.ofNat 0))]))
(.n (.n .e (some (.bool false)) .e) (some (.bool false))
(.n .e (some (.bool false)) .e))) (some (.int .i64 (.ofNat 0)))
(.n (.n (.n .e (some (.agg [(.bool true),(.sl 546 0 1 1 true),(.sl 547 0 1 1 true)])) .e) (some (.int .i64 (.ofNat 6)))
(.n .e (some (.bool false)) .e)) (some (.tup [(.agg [(.bool false),.nilsl,(.sl 39 0 1 1 false)]),(.int .i64 (.ofNat 0))]))
(.n (.n .e (some (.agg [(.bool true),(.sl 813 0 1 1 true),(.sl 814 0 1 1 false)])) .e) (some (.agg [(.bool false),(.sl 406 0 1 1 true),(.sl 408 0 1 1 true)]))
(.n .e (some (.agg [(.bool false),(.sl 1114 0 1 1 true),(.sl 1116 0 1 1 true)])) .e)))) (some (.int .i64 (.ofNat 0)))
(.n (.n (.n (.n .e (some (.int .i64 (.ofNat 0))) .e) (some (.bool true))
(.n .e (some (.agg [(.bool true),(.sl 813 0 1 1 true),(.sl 814 0 1 1 false)])) .e)) (some (.tup [(.agg [(.bool false),.nilsl,.nilsl]),(.int .i64 (.ofNat 6))]))
(.n (.n .e (some (.bool false)) .e) (some (.tup [(.agg [(.bool false),(.sl 377 0 1 1 true),(.sl 379 0 1 1 true)]),(.int .i64 (.ofNat 0))]))
(.n .e (some (.bool false)) .e))) (some (.tup [(.agg [(.bool true),(.sl 22 0 1 1 true),(.sl 24 0 1 1 true)]),(.int .i64 (.ofNat 0))]))
(.n (.n (.n .e (some (.bool false)) .e) (some (.agg [(.bool false),.nilsl,(.sl 39 0 1 1 false)]))
(.n .e (some (.bool false)) .e)) (some (.int .i64 (.ofNat 0)))
(.n (.n .e (some (.tup [(.agg [(.bool true),(.sl 869 0 1 1 true),(.sl 870 0 1 1 false)]),(.int .i64 (.ofNat 0))])) .e) (some (.int .i64 (.ofNat 0)))
(.n .e (some (.tup [(.agg [(.bool false),.nilsl,(.sl 1370 0 1 1 false)]),(.int .i64 (.ofNat 0))])) .e))))) (some (.int .i64 (.ofNat 0)))
(.n (.n (.n (.n (.n .e (some (.int .i64 (.ofNat 0))) .e) (some (.agg [(.bool false),.nilsl,(.sl 31 0 1 1 false)]))
(.n .e (some (.int .i64 (.ofNat 66))) .e)) (some (.agg [(.bool false),.nilsl,(.sl 31 0 1 1 false)]))
(.n (.n .e (some (.int .i64 (.ofNat 0))) .e) (some (.agg [(.bool false),(.sl 201 0 1 1 true),(.sl 203 0 1 1 true)]))
(.n .e (some (.bool false)) .e))) none
(.n (.n (.n .e (some (.bool true)) .e) (some (.bool false))
(.n .e (some (.int .i64 (.ofNat 0))) .e)) (some (.tup [(.agg [(.bool false),.nilsl,(.sl 39 0 1 1 false)]),(.int .i64 (.ofNat 0))]))
(.n (.n .e (some (.tup [(.agg [(.bool true),(.sl 869 0 1 1 true),(.sl 870 0 1 1 false)]),(.int .i64 (.ofNat 0))])) .e) (some (.tup [(.agg [(.bool true),(.sl 546 0 1 1 true),(.sl 547 0 1 1 true)]),(.int .i64 (.ofNat 0))]))
(.n .e (some (.agg [(.bool false),(.sl 1293 0 1 1 true),(.sl 1294 0 1 1 true)])) .e)))) (some (.int .i64 (.ofNat 0)))
(.n (.n (.n (.n .e (some (.bool false)) .e) (some (.bool false))
(.n .e (some (.bool true)) .e)) (some (.agg [(.bool false),.nilsl,.nilsl]))
(.n (.n .e (some (.agg [(.bool true),(.sl 782 0 1 1 true),(.sl 784 0 1 1 true)])) .e) (some (.int .i64 (.ofNat 0)))
(.n .e (some (.tup [(.agg [(.bool false),(.sl 1293 0 1 1 true),(.sl 1294 0 1 1 true)]),(.int .i64 (.ofNat 0))])) .e))) (some (.agg [(.bool true),(.sl 22 0 1 1 true),(.sl 24 0 1 1 true)]))
(.n (.n (.n .e (some (.int .i64 (.negSucc 0))) .e) (some (.bool true))
(.n .e (some (.bool false)) .e)) (some (.int .i64 (.ofNat 0)))
(.n (.n .e (some (.int .i64 (.ofNat 0))) .e) (some (.agg [(.bool false),(.sl 574 0 1 1 true),(.sl 576 0 1 1 true)]))
(.n .e (some (.agg [(.bool false),(.sl 1347 0 1 1 true),(.sl 1349 0 1 1 true)])) .e))))))), false⟩
noncomputable def sta3 : St := ⟨(.n (.n (.n (.n .e none
(.n (.n .e (some (.cells [(.int .u32 (.ofNat 1))] false 0)) .e) none
.e)) none
.e) (some (.ro [(.int .u8 (.ofNat 0)),(.int .u8 (.ofNat 1)),(.int .u8 (.ofNat 56)),(.int .u8 (.ofNat 2)),(.int .u8 (.ofNat 57)),(.int .u8 (.ofNat 49)),(.int .u8 (.ofNat 28)),(.int .u8 (.ofNat 3)),(.int .u8 (.ofNat 61)),(.int .u8 (.ofNat 58)),(.int .u8 (.ofNat 42)),(.int .u8 (.ofNat 50)),(.int .u8 (.ofNat 38)),(.int .u8 (.ofNat 29)),(.int .u8 (.ofNat 17)),(.int .u8 (.ofNat 4)),(.int .u8 (.ofNat 62)),(.int .u8 (.ofNat 47)),(.int .u8 (.ofNat 59)),(.int .u8 (.ofNat 36)),(.int .u8 (.ofNat 45)),(.int .u8 (.ofNat 43)),(.int .u8 (.ofNat 51)),(.int .u8 (.ofNat 22)),(.int .u8 (.ofNat 53)),(.int .u8 (.ofNat 39)),(.int .u8 (.ofNat 33)),(.int .u8 (.ofNat 30)),(.int .u8 (.ofNat 24)),(.int .u8 (.ofNat 18)),(.int .u8 (.ofNat 12)),(.int .u8 (.ofNat 5)),(.int .u8 (.ofNat 63)),(.int .u8 (.ofNat 55)),(.int .u8 (.ofNat 48)),(.int .u8 (.ofNat 27)),(.int .u8 (.ofNat 60)),(.int .u8 (.ofNat 41)),(.int .u8 (.ofNat 37)),(.int .u8 (.ofNat 16)),(.int .u8 (.ofNat 46)),(.int .u8 (.ofNat 35)),(.int .u8 (.ofNat 44)),(.int .u8 (.ofNat 21)),(.int .u8 (.ofNat 52)),(.int .u8 (.ofNat 32)),(.int .u8 (.ofNat 23)),(.int .u8 (.ofNat 11)),(.int .u8 (.ofNat 54)),(.int .u8 (.ofNat 26)),(.int .u8 (.ofNat 40)),(.int .u8 (.ofNat 15)),(.int .u8 (.ofNat 34)),(.int .u8 (.ofNat 20)),(.int .u8 (.ofNat 31)),(.int .u8 (.ofNat 10)),(.int .u8 (.ofNat 25)),(.int .u8 (.ofNat 14)),(.int .u8 (.ofNat 19)),(.int .u8 (.ofNat 9)),(.int .u8 (.ofNat 13)),(.int .u8 (.ofNat 8)),(.int .u8 (.ofNat 7)),(.int .u8 (.ofNat 6))]))
(.n (.n .e none
(.n .e (some (.cells [(.bool false),(.sl 1293 0 1 1 true),(.sl 1294 0 1 1 true)] false 0)) .e)) none
(.n .e none
(.n (.n (.n (.n (.n .e none
(.n (.n .e (some (.cells [(.int .u32 (.ofNat 1))] true 1)) .e) none
.e)) none
.e) none
.e) none
.e) none
.e)))) (some (.ro [(.int .i64 (.negSucc 0)),(.int .i64 (.ofNat 0)),(.int .i64 (.ofNat 1))]))
(.n (.n (.n (.n (.n .e (some (.cells [(.bool false),.nilsl,(.sl 1370 0 1 1 false)] false 0)) .e) none
.e) none
(.n (.n .e (some (.cells [(.bool false),.nilsl,(.sl 39 0 1 1 false)] false 0)) .e) none
.e)) none
.e) none
(.n (.n .e none
(.n .e none
(.n (.n .e none
(.n (.n .e none
(.n (.n .e (some (.cells [(.int .u32 (.ofNat 1))] false 0)) .e) none
.e)) none
.e)) none
.e))) none
(.n .e none
(.n (.n (.n (.n (.n .e none
(.n (.n .e (some (.cells [(.int .u32 (.ofNat 3))] true 1)) .e) none
.e)) none
.e) none
.e) none
.e) none
.e))))), 1371⟩
noncomputable def act4 : Act' := ⟨(.n (.n (.n (.n (.n (.n (.n (.n .e (some (.tup [(.agg [(.bool false),.nilsl,(.sl 1370 0 1 1 false)]),(.int .i64 (.ofNat 0))])) .e) (some (.agg [(.bool false),(.sl 606 0 1 1 true),(.sl 608 0 1 1 true)]))
.e) (some (.bool true))
(.n (.n .e (some (.agg [(.bool false),(.sl 1853 0 1 1 true),(.sl 1854 0 1 1 true)])) .e) (some (.tup [(.int .i64 (.ofNat 66)),(.int .i64 (.ofNat 0))]))
.e)) (some (.int .i64 (.ofNat 0)))
(.n (.n (.n .e (some (.int .i64 (.ofNat 0))) .e) (some (.bool false))
.e) (some (.bool false))
(.n .e (some (.int .i64 (.ofNat 66))) .e))) (some (.ptr 40 0))
(.n (.n (.n (.n .e (some (.int .i64 (.ofNat 0))) .e) (some (.bool false))
.e) (some (.bool false))
(.n (.n .e (some (.int .i64 (.ofNat 3))) .e) (some (.bool false))
.e)) (some (.int .i64 (.ofNat 6)))
(.n (.n (.n .e (some (.bool false)) .e) (some (.tup [(.agg [(.bool true),(.sl 813 0 1 1 true),(.sl 814 0 1 1 false)]),(.int .i64 (.ofNat 0))]))
.e) (some (.tup [(.agg [(.bool true),(.sl 546 0 1 1 true),(.sl 547 0 1 1 true)]),(.int .i64 (.ofNat 0))]))
(.n .e (some (.agg [(.bool false),(.sl 1082 0 1 1 true),(.sl 1084 0 1 1 true)])) .e)))) (some (.ptr 32 0))
(.n (.n (.n (.n (.n .e (some (.agg [(.bool true),(.sl 1400 0 1 1 true),(.sl 1402 0 1 1 true)])) .e) (some (.agg [(.bool false),(.sl 377 0 1 1 true),(.sl 379 0 1 1 true)]))
.e) (some (.int .i64 (.ofNat 0)))
(.n (.n .e (some (.bool false)) .e) (some (.int .i64 (.ofNat 0)))
.e)) (some (.int .i64 (.ofNat 0)))
(.n (.n (.n .e (some (.agg [(.bool false),.nilsl,(.sl 1370 0 1 1 false)])) .e) (some (.bool false))
.e) (some (.agg [(.bool false),(.sl 227 0 1 1 true),(.sl 229 0 1 1 true)]))
(.n .e (some (.int .i64 (.ofNat 0))) .e))) (some (.bool true))
(.n (.n (.n (.n .e (some (.tup [(.agg [(.bool false),(.sl 1853 0 1 1 true),(.sl 1854 0 1 1 true)]),(.int .i64 (.ofNat 0))])) .e) (some (.bool false))
.e) (some (.bool false))
(.n (.n .e (some (.agg [(.bool true),.nilsl,(.sl 2067 0 1 1 false)])) .e) (some (.bool true))
.e)) (some (.agg [(.bool false),.nilsl,(.sl 39 0 1 1 false)]))
(.n (.n (.n .e (some (.bool true)) .e) (some (.agg [(.bool true),(.sl 841 0 1 1 true),(.sl 843 0 1 1 true)]))
.e) (some (.agg [(.bool true),(.sl 546 0 1 1 true),(.sl 547 0 1 1 true)]))
(.n .e (some (.int .i64 (.ofNat 0))) .e))))) (some (.ptr 25 0))
(.n (.n (.n (.n (.n (.n .e (some (.int .i64 (.ofNat 0))) .e) (some (.int .i64 (.negSucc 0)))
.e) (some (.bool false))
(.n (.n .e (some (.bool true)) .e) (some (.tup [(.int .i64 (.ofNat 66)),(.int .i64 (.ofNat 0))]))
.e)) (some (.tup [(.agg [(.bool false),.nilsl,(.sl 31 0 1 1 false)]),(.int .i64 (.ofNat 0))]))
(.n (.n (.n .e (some (.bool false)) .e) (some (.bool false))
.e) (some (.tup [(.agg [(.bool false),(.sl 377 0 1 1 true),(.sl 379 0 1 1 true)]),(.int .i64 (.ofNat 0))]))
(.n .e (some (.bool false)) .e))) (some (.int .i64 (.ofNat 66)))
(.n (.n (.n (.n .e (some (.agg [(.bool false),(.sl 1717 0 1 1 true),(.sl 1719 0 1 1 true)])) .e) (some (.int .i64 (.ofNat 0)))
.e) (some (.bool false))
(.n (.n .e (some (.bool true)) .e) (some (.agg [(.bool true),(.sl 869 0 1 1 true),(.sl 870 0 1 1 false)]))
.e)) (some (.sl 35 0 1 1 false))
(.n (.n (.n .e (some (.agg [(.bool true),(.sl 1689 0 1 1 true),(.sl 1690 0 1 1 true)])) .e) (some (.int .i64 (.ofNat 0)))
.e) (some (.agg [(.bool true),(.sl 432 0 1 1 true),(.sl 434 0 1 1 true)]))
(.n .e (some (.tup [(.agg [(.bool false),(.sl 1293 0 1 1 true),(.sl 1294 0 1 1 true)]),(.int .i64 (.ofNat 0))])) .e)))) (some (.ptr 34 0))
(.n (.n (.n (.n (.n .e (some (.tup [(.agg [(.bool true),(.sl 1689 0 1 1 true),(.sl 1690 0 1 1 true)]),(.int .i64 (.ofNat 0))])) .e) (some (.bool true))
.e) (some (.bool false))
(.n (.n .e (some (.sl 2065 0 1 1 false)) .e) (some (.int .i64 (.ofNat 0)))
.e)) (some (.tup [(.agg [(.bool false),.nilsl,.nilsl]),(.int .i64 (.ofNat 6))]))
(.n (.n (.n .e (some (.bool true)) .e) (some (.tup [(.agg [(.bool true),(.sl 813 0 1 1 true),(.sl 814 0 1 1 false)]),(.int .i64 (.ofNat 0))]))
.e) (some (.agg [(.bool false),(.sl 377 0 1 1 true),(.sl 379 0 1 1 true)]))
(.n .e (some (.bool false)) .e))) (some (.tup [(.agg [(.bool true),(.sl 22 0 1 1 true),(.sl 24 0 1 1 true)]),(.int .i64 (.ofNat 0))]))
(.n (.n (.n (.n .e (some (.int .i64 (.ofNat 0))) .e) (some (.bool false))
.e) (some (.int .i64 (.ofNat 0)))
(.n (.n .e (some (.bool true)) .e) (some (.bool false))
.e)) (some (.agg [(.bool true),(.sl 22 0 1 1 true),(.sl 24 0 1 1 true)]))
(.n (.n (.n .e (some (.bool false)) .e) (some (.agg [(.bool true),(.sl 869 0 1 1 true),(.sl 870 0 1 1 false)]))
.e) (some (.tup [(.int .i64 (.negSucc 0)),(.int .i64 (.ofNat 0))]))
(.n .e (some (.agg [(.bool true),(.sl 1321 0 1 1 true),(.sl 1323 0 1 1 true)])) .e)))))) (some (.bool false))
(.n (.n (.n (.n (.n (.n (.n .e (some (.agg [(.bool false),.nilsl,(.sl 1370 0 1 1 false)])) .e) (some (.tup [(.int .i64 (.negSucc 0)),(.int .i64 (.ofNat 0))]))
.e) (some (.bool false))
(.n (.n .e (some (.int .i64 (.ofNat 0))) .e) (some (.agg [(.bool false),(.sl 903 0 1 1 true),(.sl 905 0 1 1 true)]))
.e)) (some (.tup [(.agg [(.bool false),.nilsl,(.sl 31 0 1 1 false)]),(.int .i64 (.ofNat 0))]))
(.n (.n (.n .e (some (.bool true)) .e) (some (.bool false))
.e) (some (.bool false))
(.n .e (some (.bool false)) .e))) (some (.int .i64 (.ofNat 0)))
(.n (.n (.n (.n .e (some (.tup [(.agg [(.bool false),(.sl 1853 0 1 1 true),(.sl 1854 0 1 1 true)]),(.int .i64 (.ofNat 0))])) .e) (some (.agg [(.bool true),(.sl 546 0 1 1 true),(.sl 547 0 1 1 true)]))
.e) (some (.int .i64 (.ofNat 6)))
(.n (.n .e (some (.bool true)) .e) (some (.bool false))
.e)) (some (.tup [(.agg [(.bool false),.nilsl,(.sl 39 0 1 1 false)]),(.int .i64 (.ofNat 0))]))
(.n (.n (.n .e (some (.bool false)) .e) (some (.agg [(.bool true),(.sl 813 0 1 1 true),(.sl 814 0 1 1 false)]))
.e) (some (.agg [(.bool false),(.sl 406 0 1 1 true),(.sl 408 0 1 1 true)]))
(.n .e (some (.agg [(.bool false),(.sl 1114 0 1 1 true),(.sl 1116 0 1 1 true)])) .e)))) (some (.int .i64 (.ofNat 0)))
(.n (.n (.n (.n (.n .e (some (.agg [(.bool true),(.sl 1426 0 1 1 true),(.sl 1428 0 1 1 true)])) .e) (some (.int .i64 (.ofNat 0)))
.e) (some (.bool true))
(.n (.n .e (some (.sl 2064 0 1 1 false)) .e) (some (.agg [(.bool true),(.sl 813 0 1 1 true),(.sl 814 0 1 1 false)]))
.e)) (some (.tup [(.agg [(.bool false),.nilsl,.nilsl]),(.int .i64 (.ofNat 6))]))
(.n (.n (.n .e (some (.int .i64 (.ofNat 0))) .e) (some (.bool false))
.e) (some (.tup [(.agg [(.bool false),(.sl 377 0 1 1 true),(.sl 379 0 1 1 true)]),(.int .i64 (.ofNat 0))]))
(.n .e (some (.bool false)) .e))) (some (.tup [(.agg [(.bool true),(.sl 22 0 1 1 true),(.sl 24 0 1 1 true)]),(.int .i64 (.ofNat 0))]))
(.n (.n (.n (.n .e (some (.agg [(.bool false),(.sl 1853 0 1 1 true),(.sl 1854 0 1 1 true)])) .e) (some (.bool false))
.e) (some (.agg [(.bool false),.nilsl,(.sl 39 0 1 1 false)]))
(.n (.n .e (some (.int .i64 (.ofNat 3))) .e) (some (.bool false))
.e)) (some (.int .i64 (.ofNat 0)))
(.n (.n (.n .e (some (.bool false)) .e) (some (.tup [(.agg [(.bool true),(.sl 869 0 1 1 true),(.sl 870 0 1 1 false)]),(.int .i64 (.ofNat 0))]))
.e) (some (.int .i64 (.ofNat 0)))
(.n .e (some (.tup [(.agg [(.bool false),.nilsl,(.sl 1370 0 1 1 false)]),(.int .i64 (.ofNat 0))])) .e))))) (some (.int .i64 (.ofNat 0)))
(.n (.n (.n (.n (.n (.n .e (some (.tup [(.agg [(.bool true),(.sl 1689 0 1 1 true),(.sl 1690 0 1 1 true)]),(.int .i64 (.ofNat 0))])) .e) (some (.int .i64 (.ofNat 0)))
.e) (some (.agg [(.bool false),.nilsl,(.sl 31 0 1 1 false)]))
(.n (.n .e (some (.bool false)) .e) (some (.int .i64 (.ofNat 66)))
.e)) (some (.agg [(.bool false),.nilsl,(.sl 31 0 1 1 false)]))
(.n (.n (.n .e (some (.bool false)) .e) (some (.int .i64 (.ofNat 0)))
.e) (some (.agg [(.bool false),(.sl 201 0 1 1 true),(.sl 203 0 1 1 true)]))
(.n .e (some (.bool false)) .e))) (some (.ptr 1858 0))
(.n (.n (.n (.n .e (some (.agg [(.bool false),(.sl 1743 0 1 1 true),(.sl 1745 0 1 1 true)])) .e) (some (.bool true))
.e) (some (.bool false))
(.n (.n .e (some (.sl 2067 0 1 1 false)) .e) (some (.int .i64 (.ofNat 0)))
.e)) (some (.tup [(.agg [(.bool false),.nilsl,(.sl 39 0 1 1 false)]),(.int .i64 (.ofNat 0))]))
(.n (.n (.n .e (some (.int .i64 (.ofNat 0))) .e) (some (.tup [(.agg [(.bool true),(.sl 869 0 1 1 true),(.sl 870 0 1 1 false)]),(.int .i64 (.ofNat 0))]))
.e) (some (.tup [(.agg [(.bool true),(.sl 546 0 1 1 true),(.sl 547 0 1 1 true)]),(.int .i64 (.ofNat 0))]))
(.n .e (some (.agg [(.bool false),(.sl 1293 0 1 1 true),(.sl 1294 0 1 1 true)])) .e)))) (some (.int .i64 (.ofNat 0)))
(.n (.n (.n (.n (.n .e (some (.agg [(.bool true),(.sl 1689 0 1 1 true),(.sl 1690 0 1 1 true)])) .e) (some (.bool false))
.e) (some (.bool false))
(.n (.n .e (some (.agg [(.bool false),(.sl 2064 0 1 1 false),(.sl 2065 0 1 1 false)])) .e) (some (.bool true))
.e)) (some (.agg [(.bool false),.nilsl,.nilsl]))
(.n (.n (.n .e (some (.bool false)) .e) (some (.agg [(.bool true),(.sl 782 0 1 1 true),(.sl 784 0 1 1 true)]))
.e) (some (.int .i64 (.ofNat 0)))
(.n .e (some (.tup [(.agg [(.bool false),(.sl 1293 0 1 1 true),(.sl 1294 0 1 1 true)]),(.int .i64 (.ofNat 0))])) .e))) (some (.agg [(.bool true),(.sl 22 0 1 1 true),(.sl 24 0 1 1 true)]))
(.n (.n (.n (.n .e (some (.agg [(.bool false),(.sl 1293 0 1 1 true),(.sl 1294 0 1 1 true)])) .e) (some (.int .i64 (.negSucc 0)))
.e) (some (.bool true))
(.n (.n .e (some (.bool true)) .e) (some (.bool false))
.e)) (some (.int .i64 (.ofNat 0)))
(.n (.n (.n .e (some (.bool false)) .e) (some (.int .i64 (.ofNat 0)))
.e) (some (.agg [(.bool false),(.sl 574 0 1 1 true),(.sl 576 0 1 1 true)]))
(.n .e (some (.agg [(.bool false),(.sl 1347 0 1 1 true),(.sl 1349 0 1 1 true)])) .e))))))), false⟩
noncomputable def sta4 : St := ⟨(.n (.n .e (some (.ro [(.int .u8 (.ofNat 0)),(.int .u8 (.ofNat 1)),(.int .u8 (.ofNat 56)),(.int .u8 (.ofNat 2)),(.int .u8 (.ofNat 57)),(.int .u8 (.ofNat 49)),(.int .u8 (.ofNat 28)),(.int .u8 (.ofNat 3)),(.int .u8 (.ofNat 61)),(.int .u8 (.ofNat 58)),(.int .u8 (.ofNat 42)),(.int .u8 (.ofNat 50)),(.int .u8 (.ofNat 38)),(.int .u8 (.ofNat 29)),(.int .u8 (.ofNat 17)),(.int .u8 (.ofNat 4)),(.int .u8 (.ofNat 62)),(.int .u8 (.ofNat 47)),(.int .u8 (.ofNat 59)),(.int .u8 (.ofNat 36)),(.int .u8 (.ofNat 45)),(.int .u8 (.ofNat 43)),(.int .u8 (.ofNat 51)),(.int .u8 (.ofNat 22)),(.int .u8 (.ofNat 53)),(.int .u8 (.ofNat 39)),(.int .u8 (.ofNat 33)),(.int .u8 (.ofNat 30)),(.int .u8 (.ofNat 24)),(.int .u8 (.ofNat 18)),(.int .u8 (.ofNat 12)),(.int .u8 (.ofNat 5)),(.int .u8 (.ofNat 63)),(.int .u8 (.ofNat 55)),(.int .u8 (.ofNat 48)),(.int .u8 (.ofNat 27)),(.int .u8 (.ofNat 60)),(.int .u8 (.ofNat 41)),(.int .u8 (.ofNat 37)),(.int .u8 (.ofNat 16)),(.int .u8 (.ofNat 46)),(.int .u8 (.ofNat 35)),(.int .u8 (.ofNat 44)),(.int .u8 (.ofNat 21)),(.int .u8 (.ofNat 52)),(.int .u8 (.ofNat 32)),(.int .u8 (.ofNat 23)),(.int .u8 (.ofNat 11)),(.int .u8 (.ofNat 54)),(.int .u8 (.ofNat 26)),(.int .u8 (.ofNat 40)),(.int .u8 (.ofNat 15)),(.int .u8 (.ofNat 34)),(.int .u8 (.ofNat 20)),(.int .u8 (.ofNat 31)),(.int .u8 (.ofNat 10)),(.int .u8 (.ofNat 25)),(.int .u8 (.ofNat 14)),(.int .u8 (.ofNat 19)),(.int .u8 (.ofNat 9)),(.int .u8 (.ofNat 13)),(.int .u8 (.ofNat 8)),(.int .u8 (.ofNat 7)),(.int .u8 (.ofNat 6))])) .e) (some (.ro [(.int .i64 (.negSucc 0)),(.int .i64 (.ofNat 0)),(.int .i64 (.ofNat 1))]))
.e), 2069⟩
end Go.Proofs.YtopemogpgppjlaaDoor.ratKnown
