/- MergeNames: what is kept between the stages, written by program. -/
import Derived.Test.YtfmgnnfghdjpfaaDoorEv7
namespace Go.Proofs.YtfmgnnfghdjpfaaDoor.mergeNames
open Go.Ev
set_option maxRecDepth 100000
noncomputable def act0 : Act' := ⟨(.n (.n .e none
(.n .e none
(.n .e (some (.bool false)) .e))) (some (.bool false))
(.n (.n .e none
(.n .e (some (.bool true)) .e)) none
.e)), false⟩
noncomputable def sta0 : St := ⟨(.n (.n .e (some (.ro [(.int .u8 (.ofNat 0)),(.int .u8 (.ofNat 1)),(.int .u8 (.ofNat 28)),(.int .u8 (.ofNat 2)),(.int .u8 (.ofNat 29)),(.int .u8 (.ofNat 14)),(.int .u8 (.ofNat 24)),(.int .u8 (.ofNat 3)),(.int .u8 (.ofNat 30)),(.int .u8 (.ofNat 22)),(.int .u8 (.ofNat 20)),(.int .u8 (.ofNat 15)),(.int .u8 (.ofNat 25)),(.int .u8 (.ofNat 17)),(.int .u8 (.ofNat 4)),(.int .u8 (.ofNat 8)),(.int .u8 (.ofNat 31)),(.int .u8 (.ofNat 27)),(.int .u8 (.ofNat 13)),(.int .u8 (.ofNat 23)),(.int .u8 (.ofNat 21)),(.int .u8 (.ofNat 19)),(.int .u8 (.ofNat 16)),(.int .u8 (.ofNat 7)),(.int .u8 (.ofNat 26)),(.int .u8 (.ofNat 12)),(.int .u8 (.ofNat 18)),(.int .u8 (.ofNat 6)),(.int .u8 (.ofNat 11)),(.int .u8 (.ofNat 5)),(.int .u8 (.ofNat 10)),(.int .u8 (.ofNat 9))])) .e) (some (.ro [(.int .u64 (.ofNat 1)),(.int .u64 (.ofNat 10)),(.int .u64 (.ofNat 100)),(.int .u64 (.ofNat 1000)),(.int .u64 (.ofNat 10000)),(.int .u64 (.ofNat 100000)),(.int .u64 (.ofNat 1000000)),(.int .u64 (.ofNat 10000000)),(.int .u64 (.ofNat 100000000)),(.int .u64 (.ofNat 1000000000)),(.int .u64 (.ofNat 10000000000)),(.int .u64 (.ofNat 100000000000)),(.int .u64 (.ofNat 1000000000000)),(.int .u64 (.ofNat 10000000000000)),(.int .u64 (.ofNat 100000000000000)),(.int .u64 (.ofNat 1000000000000000)),(.int .u64 (.ofNat 10000000000000000)),(.int .u64 (.ofNat 100000000000000000)),(.int .u64 (.ofNat 1000000000000000000)),(.int .u64 (.ofNat 10000000000000000000))]))
(.n .e (some (.ro [(.int .u8 (.ofNat 0)),(.int .u8 (.ofNat 1)),(.int .u8 (.ofNat 56)),(.int .u8 (.ofNat 2)),(.int .u8 (.ofNat 57)),(.int .u8 (.ofNat 49)),(.int .u8 (.ofNat 28)),(.int .u8 (.ofNat 3)),(.int .u8 (.ofNat 61)),(.int .u8 (.ofNat 58)),(.int .u8 (.ofNat 42)),(.int .u8 (.ofNat 50)),(.int .u8 (.ofNat 38)),(.int .u8 (.ofNat 29)),(.int .u8 (.ofNat 17)),(.int .u8 (.ofNat 4)),(.int .u8 (.ofNat 62)),(.int .u8 (.ofNat 47)),(.int .u8 (.ofNat 59)),(.int .u8 (.ofNat 36)),(.int .u8 (.ofNat 45)),(.int .u8 (.ofNat 43)),(.int .u8 (.ofNat 51)),(.int .u8 (.ofNat 22)),(.int .u8 (.ofNat 53)),(.int .u8 (.ofNat 39)),(.int .u8 (.ofNat 33)),(.int .u8 (.ofNat 30)),(.int .u8 (.ofNat 24)),(.int .u8 (.ofNat 18)),(.int .u8 (.ofNat 12)),(.int .u8 (.ofNat 5)),(.int .u8 (.ofNat 63)),(.int .u8 (.ofNat 55)),(.int .u8 (.ofNat 48)),(.int .u8 (.ofNat 27)),(.int .u8 (.ofNat 60)),(.int .u8 (.ofNat 41)),(.int .u8 (.ofNat 37)),(.int .u8 (.ofNat 16)),(.int .u8 (.ofNat 46)),(.int .u8 (.ofNat 35)),(.int .u8 (.ofNat 44)),(.int .u8 (.ofNat 21)),(.int .u8 (.ofNat 52)),(.int .u8 (.ofNat 32)),(.int .u8 (.ofNat 23)),(.int .u8 (.ofNat 11)),(.int .u8 (.ofNat 54)),(.int .u8 (.ofNat 26)),(.int .u8 (.ofNat 40)),(.int .u8 (.ofNat 15)),(.int .u8 (.ofNat 34)),(.int .u8 (.ofNat 20)),(.int .u8 (.ofNat 31)),(.int .u8 (.ofNat 10)),(.int .u8 (.ofNat 25)),(.int .u8 (.ofNat 14)),(.int .u8 (.ofNat 19)),(.int .u8 (.ofNat 9)),(.int .u8 (.ofNat 13)),(.int .u8 (.ofNat 8)),(.int .u8 (.ofNat 7)),(.int .u8 (.ofNat 6))])) .e)), 3231⟩
noncomputable def act1 : Act' := ⟨(.n (.n (.n (.n (.n .e (some (.agg [(.int .i64 (.ofNat 1)),(.sl 3250 0 8 8 false),.nilsl])) .e) none
(.n .e (some (.int .i64 (.ofNat 0))) .e)) (some (.sl 6139 0 4 4 false))
(.n (.n .e (some (.tup [(.sl 6139 0 4 4 false),(.int .i64 (.ofNat 0))])) .e) none
(.n .e (some (.int .i64 (.ofNat 8))) .e))) (some (.sl 3996 0 8 8 false))
(.n (.n (.n .e (some (.sl 3996 0 8 8 false)) .e) none
(.n .e (some (.agg [(.int .i64 (.ofNat 1)),(.sl 6210 0 4 4 false),.nilsl])) .e)) (some (.int .i64 (.ofNat 8)))
(.n (.n .e (some (.tup [(.sl 6139 0 4 4 false),(.int .i64 (.ofNat 0))])) .e) (some (.bool false))
.e))) (some (.bool false))
(.n (.n (.n (.n .e (some (.tup [(.sl 3996 0 8 8 false),(.int .i64 (.ofNat 0))])) .e) none
(.n .e (some (.tup [(.int .i64 (.ofNat 8)),(.int .i64 (.ofNat 0))])) .e)) (some (.int .i64 (.ofNat 0)))
(.n (.n .e (some (.agg [(.int .i64 (.ofNat 1)),(.sl 4010 0 4 4 false),.nilsl])) .e) (some (.bool true))
(.n .e (some (.int .i64 (.ofNat 0))) .e))) (some (.int .i64 (.ofNat 0)))
(.n (.n (.n .e (some (.int .i64 (.ofNat 0))) .e) none
(.n .e (some (.tup [(.int .i64 (.ofNat 8)),(.int .i64 (.ofNat 0))])) .e)) (some (.int .i64 (.ofNat 0)))
(.n (.n .e (some (.sl 6139 0 4 4 false)) .e) (some (.tup [(.sl 3996 0 8 8 false),(.int .i64 (.ofNat 0))]))
.e)))), false⟩
noncomputable def sta1 : St := ⟨(.n (.n (.n .e none
(.n .e none
(.n .e none
(.n .e none
(.n .e none
(.n .e none
(.n .e none
(.n .e none
(.n .e none
(.n (.n .e (some (.cells [(.int .i64 (.ofNat 1)),(.int .i64 (.ofNat 2)),(.int .i64 (.ofNat 3)),(.int .i64 (.ofNat 2))] false 0)) .e) none
.e)))))))))) (some (.ro [(.int .u8 (.ofNat 0)),(.int .u8 (.ofNat 1)),(.int .u8 (.ofNat 28)),(.int .u8 (.ofNat 2)),(.int .u8 (.ofNat 29)),(.int .u8 (.ofNat 14)),(.int .u8 (.ofNat 24)),(.int .u8 (.ofNat 3)),(.int .u8 (.ofNat 30)),(.int .u8 (.ofNat 22)),(.int .u8 (.ofNat 20)),(.int .u8 (.ofNat 15)),(.int .u8 (.ofNat 25)),(.int .u8 (.ofNat 17)),(.int .u8 (.ofNat 4)),(.int .u8 (.ofNat 8)),(.int .u8 (.ofNat 31)),(.int .u8 (.ofNat 27)),(.int .u8 (.ofNat 13)),(.int .u8 (.ofNat 23)),(.int .u8 (.ofNat 21)),(.int .u8 (.ofNat 19)),(.int .u8 (.ofNat 16)),(.int .u8 (.ofNat 7)),(.int .u8 (.ofNat 26)),(.int .u8 (.ofNat 12)),(.int .u8 (.ofNat 18)),(.int .u8 (.ofNat 6)),(.int .u8 (.ofNat 11)),(.int .u8 (.ofNat 5)),(.int .u8 (.ofNat 10)),(.int .u8 (.ofNat 9))]))
.e) (some (.ro [(.int .u64 (.ofNat 1)),(.int .u64 (.ofNat 10)),(.int .u64 (.ofNat 100)),(.int .u64 (.ofNat 1000)),(.int .u64 (.ofNat 10000)),(.int .u64 (.ofNat 100000)),(.int .u64 (.ofNat 1000000)),(.int .u64 (.ofNat 10000000)),(.int .u64 (.ofNat 100000000)),(.int .u64 (.ofNat 1000000000)),(.int .u64 (.ofNat 10000000000)),(.int .u64 (.ofNat 100000000000)),(.int .u64 (.ofNat 1000000000000)),(.int .u64 (.ofNat 10000000000000)),(.int .u64 (.ofNat 100000000000000)),(.int .u64 (.ofNat 1000000000000000)),(.int .u64 (.ofNat 10000000000000000)),(.int .u64 (.ofNat 100000000000000000)),(.int .u64 (.ofNat 1000000000000000000)),(.int .u64 (.ofNat 10000000000000000000))]))
(.n (.n .e none
(.n .e none
(.n .e none
(.n (.n (.n .e none
(.n .e none
(.n .e none
(.n .e none
(.n .e (some (.cells [(.int .i64 (.ofNat 2)),(.int .i64 (.ofNat 0)),(.int .i64 (.ofNat 1)),(.int .i64 (.ofNat 0)),(.int .i64 (.ofNat 0)),(.int .i64 (.ofNat 1)),(.int .i64 (.ofNat 0)),(.int .i64 (.ofNat 0))] false 0)) .e))))) none
.e) none
.e)))) (some (.ro [(.int .u8 (.ofNat 0)),(.int .u8 (.ofNat 1)),(.int .u8 (.ofNat 56)),(.int .u8 (.ofNat 2)),(.int .u8 (.ofNat 57)),(.int .u8 (.ofNat 49)),(.int .u8 (.ofNat 28)),(.int .u8 (.ofNat 3)),(.int .u8 (.ofNat 61)),(.int .u8 (.ofNat 58)),(.int .u8 (.ofNat 42)),(.int .u8 (.ofNat 50)),(.int .u8 (.ofNat 38)),(.int .u8 (.ofNat 29)),(.int .u8 (.ofNat 17)),(.int .u8 (.ofNat 4)),(.int .u8 (.ofNat 62)),(.int .u8 (.ofNat 47)),(.int .u8 (.ofNat 59)),(.int .u8 (.ofNat 36)),(.int .u8 (.ofNat 45)),(.int .u8 (.ofNat 43)),(.int .u8 (.ofNat 51)),(.int .u8 (.ofNat 22)),(.int .u8 (.ofNat 53)),(.int .u8 (.ofNat 39)),(.int .u8 (.ofNat 33)),(.int .u8 (.ofNat 30)),(.int .u8 (.ofNat 24)),(.int .u8 (.ofNat 18)),(.int .u8 (.ofNat 12)),(.int .u8 (.ofNat 5)),(.int .u8 (.ofNat 63)),(.int .u8 (.ofNat 55)),(.int .u8 (.ofNat 48)),(.int .u8 (.ofNat 27)),(.int .u8 (.ofNat 60)),(.int .u8 (.ofNat 41)),(.int .u8 (.ofNat 37)),(.int .u8 (.ofNat 16)),(.int .u8 (.ofNat 46)),(.int .u8 (.ofNat 35)),(.int .u8 (.ofNat 44)),(.int .u8 (.ofNat 21)),(.int .u8 (.ofNat 52)),(.int .u8 (.ofNat 32)),(.int .u8 (.ofNat 23)),(.int .u8 (.ofNat 11)),(.int .u8 (.ofNat 54)),(.int .u8 (.ofNat 26)),(.int .u8 (.ofNat 40)),(.int .u8 (.ofNat 15)),(.int .u8 (.ofNat 34)),(.int .u8 (.ofNat 20)),(.int .u8 (.ofNat 31)),(.int .u8 (.ofNat 10)),(.int .u8 (.ofNat 25)),(.int .u8 (.ofNat 14)),(.int .u8 (.ofNat 19)),(.int .u8 (.ofNat 9)),(.int .u8 (.ofNat 13)),(.int .u8 (.ofNat 8)),(.int .u8 (.ofNat 7)),(.int .u8 (.ofNat 6))]))
.e)), 8338⟩
noncomputable def act2 : Act' := ⟨(.n (.n (.n (.n (.n (.n .e (some (.tup [(.agg [(.int .i64 (.ofNat 1)),(.sl 8594 0 8 8 true),.nilsl]),(.int .i64 (.ofNat 0))])) .e) (some (.agg [(.int .i64 (.ofNat 1)),(.sl 3250 0 8 8 false),.nilsl]))
(.n .e (some (.agg [(.int .i64 (.ofNat 3)),(.int .i64 (.ofNat 0)),(.int .i64 (.ofNat 0)),.nilsl,.nilsl,(.sl 10484 0 1 1 false)])) .e)) (some (.ptr 10475 0))
(.n (.n .e (some (.sl 10487 0 4 4 false)) .e) (some (.int .i64 (.ofNat 0)))
(.n .e (some (.sl 10523 0 2 2 false)) .e))) (some (.sl 6139 0 4 4 false))
(.n (.n (.n .e (some (.agg [(.int .i64 (.ofNat 1)),(.sl 10499 0 4 4 false),.nilsl])) .e) (some (.tup [(.sl 6139 0 4 4 false),(.int .i64 (.ofNat 0))]))
(.n .e (some (.sl 10487 0 4 4 false)) .e)) none
(.n (.n .e (some (.agg [(.int .i64 (.ofNat 3)),(.int .i64 (.ofNat 0)),(.int .i64 (.ofNat 0)),.nilsl,.nilsl,(.sl 10486 0 1 1 false)])) .e) (some (.int .i64 (.ofNat 8)))
(.n .e (some (.ptr 10487 9)) .e)))) (some (.sl 3996 0 8 8 false))
(.n (.n (.n (.n .e (some (.int .i64 (.ofNat 0))) .e) (some (.sl 3996 0 8 8 false))
(.n .e (some (.ptr 10487 18)) .e)) (some (.ptr 10500 0))
(.n (.n .e (some (.sl 10487 0 4 4 false)) .e) (some (.agg [(.int .i64 (.ofNat 1)),(.sl 6210 0 4 4 false),.nilsl]))
(.n .e (some (.ptr 10487 3)) .e))) (some (.int .i64 (.ofNat 8)))
(.n (.n (.n .e (some (.sl 10487 0 4 4 false)) .e) (some (.tup [(.sl 6139 0 4 4 false),(.int .i64 (.ofNat 0))]))
(.n .e (some (.sl 10487 0 4 4 false)) .e)) (some (.bool false))
(.n (.n .e (some (.sl 10487 0 4 4 false)) .e) (some (.tup [(.agg [(.int .i64 (.ofNat 1)),(.sl 8594 0 8 8 true),.nilsl]),(.int .i64 (.ofNat 0))]))
.e)))) (some (.bool false))
(.n (.n (.n (.n (.n .e (some (.agg [(.int .i64 (.ofNat 1)),(.sl 8594 0 8 8 true),.nilsl])) .e) (some (.tup [(.sl 3996 0 8 8 false),(.int .i64 (.ofNat 0))]))
(.n .e (some (.ptr 10487 12)) .e)) (some (.int .i64 (.ofNat 0)))
(.n (.n .e (some (.ptr 10500 1)) .e) (some (.tup [(.int .i64 (.ofNat 8)),(.int .i64 (.ofNat 0))]))
(.n .e (some (.ptr 10487 0)) .e))) (some (.int .i64 (.ofNat 0)))
(.n (.n (.n .e (some (.ptr 10500 1)) .e) (some (.agg [(.int .i64 (.ofNat 1)),(.sl 4010 0 4 4 false),.nilsl]))
(.n .e (some (.ptr 10500 1)) .e)) (some (.bool true))
(.n (.n .e (some (.ptr 10500 1)) .e) (some (.int .i64 (.ofNat 0)))
.e))) (some (.int .i64 (.ofNat 0)))
(.n (.n (.n (.n .e (some (.agg [(.int .i64 (.ofNat 1)),(.sl 10487 0 4 4 false),.nilsl])) .e) (some (.int .i64 (.ofNat 0)))
(.n .e (some (.ptr 10500 1)) .e)) (some (.ptr 10501 0))
(.n (.n .e (some (.ptr 10487 18)) .e) (some (.tup [(.int .i64 (.ofNat 8)),(.int .i64 (.ofNat 0))]))
(.n .e (some (.ptr 10487 6)) .e))) (some (.int .i64 (.ofNat 0)))
(.n (.n (.n .e (some (.ptr 10500 1)) .e) (some (.sl 6139 0 4 4 false))
(.n .e (some (.sl 10522 0 3 3 false)) .e)) (some (.tup [(.sl 3996 0 8 8 false),(.int .i64 (.ofNat 0))]))
(.n (.n .e (some (.ptr 10487 12)) .e) (some (.agg [(.int .i64 (.ofNat 1)),(.sl 8349 0 4 4 false),.nilsl]))
.e))))), false⟩
noncomputable def sta2 : St := ⟨(.n (.n (.n (.n (.n .e none
(.n (.n (.n .e none
(.n .e none
(.n (.n (.n (.n (.n .e (some (.cells [(.int .i64 (.ofNat 6)),(.int .i64 (.ofNat 7))] true 1)) .e) none
.e) none
.e) none
.e) none
.e))) none
.e) none
.e)) none
(.n .e none
(.n .e none
(.n .e none
(.n .e none
(.n (.n (.n (.n .e none
(.n (.n .e (some (.cells [(.int .i64 (.ofNat 1)),(.int .i64 (.ofNat 0)),(.int .i64 (.ofNat 0)),(.sl 10522 0 3 3 false),(.sl 10477 0 3 3 false),.nilsl,(.int .i64 (.ofNat 1)),(.int .i64 (.ofNat 0)),(.int .i64 (.ofNat 0)),(.sl 10523 0 2 2 false),(.sl 10480 0 2 2 false),.nilsl,(.int .i64 (.ofNat 3)),(.int .i64 (.ofNat 0)),(.int .i64 (.ofNat 0)),.nilsl,.nilsl,(.sl 10486 0 1 1 false),(.int .i64 (.ofNat 3)),(.int .i64 (.ofNat 0)),(.int .i64 (.ofNat 0)),.nilsl,.nilsl,(.sl 10484 0 1 1 false)] false 0)) .e) none
.e)) none
.e) none
.e) none
.e)))))) none
(.n (.n (.n (.n (.n (.n .e none
(.n (.n (.n .e none
(.n (.n .e (some (.cells [(.int .i64 (.ofNat 1)),(.int .i64 (.ofNat 0)),(.int .i64 (.ofNat 0)),(.sl 10490 0 3 3 false),(.sl 10489 0 3 3 false),.nilsl,(.int .i64 (.ofNat 1)),(.int .i64 (.ofNat 0)),(.int .i64 (.ofNat 0)),(.sl 10493 0 2 2 false),(.sl 10492 0 2 2 false),.nilsl,(.int .i64 (.ofNat 3)),(.int .i64 (.ofNat 0)),(.int .i64 (.ofNat 0)),.nilsl,.nilsl,(.sl 10496 0 1 1 false),(.int .i64 (.ofNat 3)),(.int .i64 (.ofNat 0)),(.int .i64 (.ofNat 0)),.nilsl,.nilsl,(.sl 10498 0 1 1 false)] false 0)) .e) none
.e)) none
.e) none
.e)) none
.e) none
.e) none
.e) none
.e) none
(.n (.n .e none
(.n .e none
(.n .e none
(.n (.n (.n (.n .e none
(.n (.n .e (some (.cells [(.int .i64 (.ofNat 1)),(.sl 8594 0 8 8 true),.nilsl] false 0)) .e) none
.e)) none
.e) none
.e) none
.e)))) none
(.n (.n (.n (.n .e none
(.n (.n (.n .e none
(.n (.n .e (some (.cells [(.int .i64 (.ofNat 3)),(.int .i64 (.ofNat 2))] false 0)) .e) none
.e)) none
.e) none
.e)) none
.e) none
.e) none
(.n .e none
(.n .e none
(.n .e none
(.n .e none
(.n .e none
(.n (.n .e (some (.cells [(.int .i64 (.ofNat 1)),(.int .i64 (.ofNat 2)),(.int .i64 (.ofNat 3)),(.int .i64 (.ofNat 2))] false 0)) .e) none
.e)))))))))) (some (.ro [(.int .u8 (.ofNat 0)),(.int .u8 (.ofNat 1)),(.int .u8 (.ofNat 28)),(.int .u8 (.ofNat 2)),(.int .u8 (.ofNat 29)),(.int .u8 (.ofNat 14)),(.int .u8 (.ofNat 24)),(.int .u8 (.ofNat 3)),(.int .u8 (.ofNat 30)),(.int .u8 (.ofNat 22)),(.int .u8 (.ofNat 20)),(.int .u8 (.ofNat 15)),(.int .u8 (.ofNat 25)),(.int .u8 (.ofNat 17)),(.int .u8 (.ofNat 4)),(.int .u8 (.ofNat 8)),(.int .u8 (.ofNat 31)),(.int .u8 (.ofNat 27)),(.int .u8 (.ofNat 13)),(.int .u8 (.ofNat 23)),(.int .u8 (.ofNat 21)),(.int .u8 (.ofNat 19)),(.int .u8 (.ofNat 16)),(.int .u8 (.ofNat 7)),(.int .u8 (.ofNat 26)),(.int .u8 (.ofNat 12)),(.int .u8 (.ofNat 18)),(.int .u8 (.ofNat 6)),(.int .u8 (.ofNat 11)),(.int .u8 (.ofNat 5)),(.int .u8 (.ofNat 10)),(.int .u8 (.ofNat 9))]))
(.n (.n (.n .e none
(.n (.n .e none
(.n (.n (.n (.n (.n .e none
(.n (.n .e (some (.cells [(.int .i64 (.ofNat 1)),(.int .i64 (.ofNat 1))] true 1)) .e) none
.e)) none
.e) none
.e) none
.e) none
.e)) none
.e)) none
(.n .e none
(.n (.n (.n (.n (.n (.n (.n .e none
(.n (.n .e (some (.cells [(.int .i64 (.ofNat 1)),(.int .i64 (.ofNat 2)),(.int .i64 (.ofNat 1))] true 1)) .e) none
.e)) none
.e) none
.e) none
.e) none
.e) none
.e) none
(.n .e none
(.n .e none
(.n (.n (.n (.n .e none
(.n (.n .e (some (.cells [(.int .i64 (.ofNat 1)),(.int .i64 (.ofNat 2)),(.int .i64 (.ofNat 1))] false 0)) .e) none
.e)) none
.e) none
.e) none
.e)))))) none
(.n (.n (.n (.n (.n (.n .e none
(.n (.n (.n .e none
(.n (.n .e (some (.cells [(.int .i64 (.ofNat 1)),(.sl 10499 0 4 4 false),.nilsl] false 0)) .e) none
.e)) none
.e) none
.e)) none
.e) none
.e) none
(.n (.n .e none
(.n (.n (.n (.n .e none
(.n (.n .e (some (.cells [(.int .i64 (.ofNat 1)),(.int .i64 (.ofNat 1))] true 1)) .e) none
.e)) none
.e) none
.e) none
.e)) none
(.n (.n .e none
(.n (.n (.n (.n (.n .e (some (.cells [(.int .i64 (.ofNat 1)),(.int .i64 (.ofNat 2)),(.int .i64 (.ofNat 5))] true 1)) .e) none
.e) none
.e) none
.e) none
.e)) none
.e))) none
.e) none
(.n (.n .e none
(.n .e none
(.n .e none
(.n (.n (.n (.n .e none
(.n (.n .e (some (.cells [(.int .i64 (.ofNat 1)),(.int .i64 (.ofNat 2)),(.int .i64 (.ofNat 1))] false 0)) .e) none
.e)) none
.e) none
.e) none
.e)))) none
(.n .e none
(.n .e none
(.n .e none
(.n (.n (.n (.n .e none
(.n (.n .e (some (.cells [(.int .i64 (.ofNat 2)),(.int .i64 (.ofNat 3))] false 0)) .e) none
.e)) none
.e) none
.e) none
.e)))))))) (some (.ro [(.int .u64 (.ofNat 1)),(.int .u64 (.ofNat 10)),(.int .u64 (.ofNat 100)),(.int .u64 (.ofNat 1000)),(.int .u64 (.ofNat 10000)),(.int .u64 (.ofNat 100000)),(.int .u64 (.ofNat 1000000)),(.int .u64 (.ofNat 10000000)),(.int .u64 (.ofNat 100000000)),(.int .u64 (.ofNat 1000000000)),(.int .u64 (.ofNat 10000000000)),(.int .u64 (.ofNat 100000000000)),(.int .u64 (.ofNat 1000000000000)),(.int .u64 (.ofNat 10000000000000)),(.int .u64 (.ofNat 100000000000000)),(.int .u64 (.ofNat 1000000000000000)),(.int .u64 (.ofNat 10000000000000000)),(.int .u64 (.ofNat 100000000000000000)),(.int .u64 (.ofNat 1000000000000000000)),(.int .u64 (.ofNat 10000000000000000000))]))
(.n (.n (.n (.n (.n (.n (.n (.n .e none
(.n (.n (.n .e none
(.n (.n .e (some (.cells [(.int .i64 (.ofNat 5))] false 0)) .e) none
.e)) none
.e) none
.e)) none
.e) none
.e) none
.e) none
(.n (.n .e none
(.n (.n .e none
(.n (.n (.n (.n (.n .e (some (.cells [(.int .i64 (.ofNat 3)),(.int .i64 (.ofNat 4))] true 1)) .e) none
.e) none
.e) none
.e) none
.e)) none
.e)) none
(.n .e none
(.n .e none
(.n (.n (.n (.n .e none
(.n (.n .e (some (.cells [(.int .i64 (.ofNat 1)),(.int .i64 (.ofNat 1))] false 0)) .e) none
.e)) none
.e) none
.e) none
.e))))) none
.e) none
(.n (.n (.n (.n (.n (.n .e none
(.n (.n (.n .e none
(.n (.n .e (some (.cells [(.int .i64 (.ofNat 1)),(.sl 10487 0 4 4 false),.nilsl] false 0)) .e) none
.e)) none
.e) none
.e)) none
.e) none
.e) none
.e) none
(.n .e none
(.n .e none
(.n .e none
(.n (.n (.n (.n .e none
(.n (.n .e (some (.cells [(.int .i64 (.ofNat 5))] false 0)) .e) none
.e)) none
.e) none
.e) none
.e))))) none
(.n .e none
(.n (.n (.n .e none
(.n .e none
(.n .e none
(.n .e none
(.n .e (some (.cells [(.int .i64 (.ofNat 2)),(.int .i64 (.ofNat 0)),(.int .i64 (.ofNat 1)),(.int .i64 (.ofNat 0)),(.int .i64 (.ofNat 0)),(.int .i64 (.ofNat 1)),(.int .i64 (.ofNat 0)),(.int .i64 (.ofNat 0))] false 0)) .e))))) none
.e) none
(.n .e none
(.n .e none
(.n (.n (.n (.n .e none
(.n (.n .e (some (.cells [(.int .i64 (.ofNat 1)),(.int .i64 (.ofNat 1))] false 0)) .e) none
.e)) none
.e) none
.e) none
.e))))))) (some (.ro [(.int .u8 (.ofNat 0)),(.int .u8 (.ofNat 1)),(.int .u8 (.ofNat 56)),(.int .u8 (.ofNat 2)),(.int .u8 (.ofNat 57)),(.int .u8 (.ofNat 49)),(.int .u8 (.ofNat 28)),(.int .u8 (.ofNat 3)),(.int .u8 (.ofNat 61)),(.int .u8 (.ofNat 58)),(.int .u8 (.ofNat 42)),(.int .u8 (.ofNat 50)),(.int .u8 (.ofNat 38)),(.int .u8 (.ofNat 29)),(.int .u8 (.ofNat 17)),(.int .u8 (.ofNat 4)),(.int .u8 (.ofNat 62)),(.int .u8 (.ofNat 47)),(.int .u8 (.ofNat 59)),(.int .u8 (.ofNat 36)),(.int .u8 (.ofNat 45)),(.int .u8 (.ofNat 43)),(.int .u8 (.ofNat 51)),(.int .u8 (.ofNat 22)),(.int .u8 (.ofNat 53)),(.int .u8 (.ofNat 39)),(.int .u8 (.ofNat 33)),(.int .u8 (.ofNat 30)),(.int .u8 (.ofNat 24)),(.int .u8 (.ofNat 18)),(.int .u8 (.ofNat 12)),(.int .u8 (.ofNat 5)),(.int .u8 (.ofNat 63)),(.int .u8 (.ofNat 55)),(.int .u8 (.ofNat 48)),(.int .u8 (.ofNat 27)),(.int .u8 (.ofNat 60)),(.int .u8 (.ofNat 41)),(.int .u8 (.ofNat 37)),(.int .u8 (.ofNat 16)),(.int .u8 (.ofNat 46)),(.int .u8 (.ofNat 35)),(.int .u8 (.ofNat 44)),(.int .u8 (.ofNat 21)),(.int .u8 (.ofNat 52)),(.int .u8 (.ofNat 32)),(.int .u8 (.ofNat 23)),(.int .u8 (.ofNat 11)),(.int .u8 (.ofNat 54)),(.int .u8 (.ofNat 26)),(.int .u8 (.ofNat 40)),(.int .u8 (.ofNat 15)),(.int .u8 (.ofNat 34)),(.int .u8 (.ofNat 20)),(.int .u8 (.ofNat 31)),(.int .u8 (.ofNat 10)),(.int .u8 (.ofNat 25)),(.int .u8 (.ofNat 14)),(.int .u8 (.ofNat 19)),(.int .u8 (.ofNat 9)),(.int .u8 (.ofNat 13)),(.int .u8 (.ofNat 8)),(.int .u8 (.ofNat 7)),(.int .u8 (.ofNat 6))]))
(.n (.n (.n (.n (.n (.n (.n .e none
(.n (.n (.n .e none
(.n (.n .e (some (.cells [(.int .i64 (.ofNat 7))] false 0)) .e) none
.e)) none
.e) none
.e)) none
.e) none
(.n (.n (.n (.n (.n .e none
(.n (.n .e (some (.cells [(.int .i64 (.ofNat 5))] true 1)) .e) none
.e)) none
.e) none
.e) none
.e) none
.e)) none
.e) none
(.n (.n (.n .e none
(.n .e none
(.n (.n (.n (.n (.n .e (some (.cells [(.int .i64 (.ofNat 1)),(.int .i64 (.ofNat 0)),(.int .i64 (.ofNat 0)),(.sl 8549 0 3 3 true),(.sl 10265 0 3 3 true),.nilsl,(.int .i64 (.ofNat 3)),(.int .i64 (.ofNat 0)),(.int .i64 (.ofNat 0)),.nilsl,.nilsl,(.sl 10306 0 1 1 true),(.int .i64 (.ofNat 1)),(.int .i64 (.ofNat 0)),(.int .i64 (.ofNat 0)),(.sl 8528 0 2 2 true),(.sl 10321 0 2 2 true),.nilsl,(.int .i64 (.ofNat 3)),(.int .i64 (.ofNat 0)),(.int .i64 (.ofNat 0)),.nilsl,.nilsl,(.sl 10362 0 1 1 true),(.int .i64 (.ofNat 3)),(.int .i64 (.ofNat 0)),(.int .i64 (.ofNat 0)),.nilsl,.nilsl,(.sl 10390 0 1 1 true),(.int .i64 (.ofNat 1)),(.int .i64 (.ofNat 0)),(.int .i64 (.ofNat 0)),(.sl 8591 0 2 2 true),(.sl 10405 0 2 2 true),.nilsl,(.int .i64 (.ofNat 3)),(.int .i64 (.ofNat 0)),(.int .i64 (.ofNat 0)),.nilsl,.nilsl,(.sl 10446 0 1 1 true),(.int .i64 (.ofNat 3)),(.int .i64 (.ofNat 0)),(.int .i64 (.ofNat 0)),.nilsl,.nilsl,(.sl 10474 0 1 1 true)] true 6)) .e) none
.e) none
.e) none
.e) none
.e))) none
.e) none
.e)) none
(.n (.n .e none
(.n .e none
(.n .e none
(.n (.n (.n (.n .e none
(.n (.n .e (some (.cells [(.int .i64 (.ofNat 7))] true 1)) .e) none
.e)) none
.e) none
.e) none
.e)))) none
(.n (.n (.n (.n .e none
(.n (.n (.n .e none
(.n (.n .e (some (.cells [(.int .i64 (.ofNat 3)),(.int .i64 (.ofNat 1)),(.int .i64 (.ofNat 1))] false 0)) .e) none
.e)) none
.e) none
.e)) none
.e) none
.e) none
(.n .e none
(.n (.n (.n (.n (.n .e none
(.n (.n .e (some (.cells [(.int .i64 (.ofNat 5))] true 1)) .e) none
.e)) none
.e) none
.e) none
.e) none
(.n (.n (.n (.n .e none
(.n (.n .e (some (.cells [(.int .i64 (.ofNat 2)),(.int .i64 (.ofNat 1)),(.int .i64 (.ofNat 1))] false 0)) .e) none
.e)) none
.e) none
.e) none
.e)))))) none
(.n (.n .e none
(.n (.n (.n .e none
(.n (.n (.n (.n .e none
(.n (.n .e (some (.cells [(.int .i64 (.ofNat 7))] true 1)) .e) none
.e)) none
.e) none
.e) none
.e)) none
.e) none
(.n .e none
(.n .e none
(.n (.n (.n (.n .e none
(.n (.n .e (some (.cells [(.int .i64 (.ofNat 7))] false 0)) .e) none
.e)) none
.e) none
.e) none
.e))))) none
(.n (.n (.n .e none
(.n .e none
(.n (.n (.n (.n .e none
(.n (.n .e (some (.cells [(.int .i64 (.ofNat 5))] true 1)) .e) none
.e)) none
.e) none
.e) none
.e))) none
.e) none
.e))))), 10530⟩
end Go.Proofs.YtfmgnnfghdjpfaaDoor.mergeNames
