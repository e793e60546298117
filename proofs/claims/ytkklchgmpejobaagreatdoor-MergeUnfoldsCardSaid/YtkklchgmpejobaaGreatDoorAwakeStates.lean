import Derived.Test.YtkklchgmpejobaaGreatDoorEv8
namespace Go.Ev.Gl
end Go.Ev.Gl
namespace Go.Proofs.YtkklchgmpejobaaGreatDoor.awake
open Go.Ev Go.Ev.Gl
set_option maxRecDepth 100000
noncomputable def aPG:bH:=⟨(.n (.n (.n (.n .e (some (.tup [(.agg [(.int .i64 (.ofNat 1)),(.sl 1548 0 4 4 true),.nilsl]),(.int .i64 (.ofNat 0))])) .e) (some (.sl 2961 0 8 8 false))
(.n .e (some (.agg [(.int .i64 (.ofNat 1)),(.sl 1569 0 8 8 false),.nilsl])) .e)) (some (.ptr 1549 0))
(.n (.n .e (some (.int .i64 (.ofNat 0))) .e) (some (.tup [(.agg [(.int .i64 (.ofNat 1)),(.sl 1548 0 4 4 true),.nilsl]),(.int .i64 (.ofNat 0))]))
(.n .e (some (.sl 2961 0 8 8 false)) .e))) (some (.bool false))
(.n (.n (.n .e (some (.agg [(.int .i64 (.ofNat 1)),(.sl 1548 0 4 4 true),.nilsl])) .e) (some (.int .i64 (.ofNat 0)))
(.n .e (some (.tup [(.sl 2961 0 8 8 false),(.int .i64 (.ofNat 0))])) .e)) (some (.int .i64 (.ofNat 0)))
(.n (.n .e (some (.tup [(.sl 2961 0 8 8 false),(.int .i64 (.ofNat 0))])) .e) (some (.agg [(.int .i64 (.ofNat 1)),(.sl 22 0 8 8 false),.nilsl]))
(.n .e (some (.int .i64 (.ofNat 0))) .e)))),false⟩
noncomputable def aPm:St:=⟨(.n (.n .e (some (.ro [(.int .u8 (.ofNat 0)),(.int .u8 (.ofNat 1)),(.int .u8 (.ofNat 28)),(.int .u8 (.ofNat 2)),(.int .u8 (.ofNat 29)),(.int .u8 (.ofNat 14)),(.int .u8 (.ofNat 24)),(.int .u8 (.ofNat 3)),(.int .u8 (.ofNat 30)),(.int .u8 (.ofNat 22)),(.int .u8 (.ofNat 20)),(.int .u8 (.ofNat 15)),(.int .u8 (.ofNat 25)),(.int .u8 (.ofNat 17)),(.int .u8 (.ofNat 4)),(.int .u8 (.ofNat 8)),(.int .u8 (.ofNat 31)),(.int .u8 (.ofNat 27)),(.int .u8 (.ofNat 13)),(.int .u8 (.ofNat 23)),(.int .u8 (.ofNat 21)),(.int .u8 (.ofNat 19)),(.int .u8 (.ofNat 16)),(.int .u8 (.ofNat 7)),(.int .u8 (.ofNat 26)),(.int .u8 (.ofNat 12)),(.int .u8 (.ofNat 18)),(.int .u8 (.ofNat 6)),(.int .u8 (.ofNat 11)),(.int .u8 (.ofNat 5)),(.int .u8 (.ofNat 10)),(.int .u8 (.ofNat 9))]))
(.n (.n (.n (.n (.n .e none
(.n .e none
(.n .e none
(.n (.n .e (some (.cells [(.int .i64 (.ofNat 2)),(.int .i64 (.ofNat 1)),(.int .i64 (.ofNat 1))] true 1)) .e) none
.e)))) none
.e) none
(.n (.n (.n .e none
(.n .e none
(.n .e none
(.n (.n .e (some (.cells [(.int .i64 (.ofNat 0)),(.int .i64 (.ofNat 2)),(.int .i64 (.ofNat 1)),(.int .i64 (.ofNat 2)),(.int .i64 (.ofNat 3)),(.int .i64 (.ofNat 1)),(.int .i64 (.ofNat 2)),(.int .i64 (.ofNat 3))] false 0)) .e) none
.e)))) none
.e) none
.e)) none
(.n .e none
(.n .e none
(.n .e none
(.n .e none
(.n .e none
(.n (.n .e (some (.cells [(.int .i64 (.ofNat 5))] true 1)) .e) none
.e))))))) none
(.n .e none
(.n (.n (.n (.n (.n (.n .e none
(.n .e (some (.cells [(.int .i64 (.ofNat 1)),(.sl 1548 0 4 4 true),.nilsl] false 0)) .e)) none
.e) none
.e) none
.e) none
.e) none
.e)))) (some (.ro [(.int .u64 (.ofNat 1)),(.int .u64 (.ofNat 10)),(.int .u64 (.ofNat 100)),(.int .u64 (.ofNat 1000)),(.int .u64 (.ofNat 10000)),(.int .u64 (.ofNat 100000)),(.int .u64 (.ofNat 1000000)),(.int .u64 (.ofNat 10000000)),(.int .u64 (.ofNat 100000000)),(.int .u64 (.ofNat 1000000000)),(.int .u64 (.ofNat 10000000000)),(.int .u64 (.ofNat 100000000000)),(.int .u64 (.ofNat 1000000000000)),(.int .u64 (.ofNat 10000000000000)),(.int .u64 (.ofNat 100000000000000)),(.int .u64 (.ofNat 1000000000000000)),(.int .u64 (.ofNat 10000000000000000)),(.int .u64 (.ofNat 100000000000000000)),(.int .u64 (.ofNat 1000000000000000000)),(.int .u64 (.ofNat 10000000000000000000))]))
(.n (.n (.n (.n (.n .e none
(.n (.n .e none
(.n .e none
(.n (.n .e (some (.cells [(.int .i64 (.ofNat 1)),(.int .i64 (.ofNat 2)),(.int .i64 (.ofNat 1))] true 1)) .e) none
.e))) none
.e)) none
.e) none
(.n (.n .e none
(.n .e none
(.n .e none
(.n .e none
(.n (.n .e (some (.cells [(.int .i64 (.ofNat 2)),(.int .i64 (.ofNat 3))] true 1)) .e) none
.e))))) none
.e)) none
(.n .e none
(.n (.n (.n (.n (.n (.n .e none
(.n .e (some (.cells [(.int .i64 (.ofNat 1)),(.int .i64 (.ofNat 0)),(.int .i64 (.ofNat 0)),(.sl 1473 0 3 3 true),(.sl 1440 0 3 3 true),.nilsl,(.int .i64 (.ofNat 1)),(.int .i64 (.ofNat 0)),(.int .i64 (.ofNat 0)),(.sl 1512 0 2 2 true),(.sl 1490 0 2 2 true),.nilsl,(.int .i64 (.ofNat 3)),(.int .i64 (.ofNat 0)),(.int .i64 (.ofNat 0)),.nilsl,.nilsl,(.sl 1529 0 1 1 true),(.int .i64 (.ofNat 3)),(.int .i64 (.ofNat 0)),(.int .i64 (.ofNat 0)),.nilsl,.nilsl,(.sl 1546 0 1 1 true)] true 6)) .e)) none
.e) none
.e) none
.e) none
.e) none
.e))) (some (.ro [(.int .u8 (.ofNat 0)),(.int .u8 (.ofNat 1)),(.int .u8 (.ofNat 56)),(.int .u8 (.ofNat 2)),(.int .u8 (.ofNat 57)),(.int .u8 (.ofNat 49)),(.int .u8 (.ofNat 28)),(.int .u8 (.ofNat 3)),(.int .u8 (.ofNat 61)),(.int .u8 (.ofNat 58)),(.int .u8 (.ofNat 42)),(.int .u8 (.ofNat 50)),(.int .u8 (.ofNat 38)),(.int .u8 (.ofNat 29)),(.int .u8 (.ofNat 17)),(.int .u8 (.ofNat 4)),(.int .u8 (.ofNat 62)),(.int .u8 (.ofNat 47)),(.int .u8 (.ofNat 59)),(.int .u8 (.ofNat 36)),(.int .u8 (.ofNat 45)),(.int .u8 (.ofNat 43)),(.int .u8 (.ofNat 51)),(.int .u8 (.ofNat 22)),(.int .u8 (.ofNat 53)),(.int .u8 (.ofNat 39)),(.int .u8 (.ofNat 33)),(.int .u8 (.ofNat 30)),(.int .u8 (.ofNat 24)),(.int .u8 (.ofNat 18)),(.int .u8 (.ofNat 12)),(.int .u8 (.ofNat 5)),(.int .u8 (.ofNat 63)),(.int .u8 (.ofNat 55)),(.int .u8 (.ofNat 48)),(.int .u8 (.ofNat 27)),(.int .u8 (.ofNat 60)),(.int .u8 (.ofNat 41)),(.int .u8 (.ofNat 37)),(.int .u8 (.ofNat 16)),(.int .u8 (.ofNat 46)),(.int .u8 (.ofNat 35)),(.int .u8 (.ofNat 44)),(.int .u8 (.ofNat 21)),(.int .u8 (.ofNat 52)),(.int .u8 (.ofNat 32)),(.int .u8 (.ofNat 23)),(.int .u8 (.ofNat 11)),(.int .u8 (.ofNat 54)),(.int .u8 (.ofNat 26)),(.int .u8 (.ofNat 40)),(.int .u8 (.ofNat 15)),(.int .u8 (.ofNat 34)),(.int .u8 (.ofNat 20)),(.int .u8 (.ofNat 31)),(.int .u8 (.ofNat 10)),(.int .u8 (.ofNat 25)),(.int .u8 (.ofNat 14)),(.int .u8 (.ofNat 19)),(.int .u8 (.ofNat 9)),(.int .u8 (.ofNat 13)),(.int .u8 (.ofNat 8)),(.int .u8 (.ofNat 7)),(.int .u8 (.ofNat 6))]))
(.n (.n (.n .e none
(.n (.n .e none
(.n .e none
(.n .e none
(.n (.n .e (some (.cells [(.int .i64 (.ofNat 1)),(.int .i64 (.ofNat 1))] true 1)) .e) none
.e)))) none
.e)) none
(.n (.n (.n (.n (.n (.n .e none
(.n .e (some (.cells [(.int .i64 (.ofNat 7))] true 1)) .e)) none
.e) none
.e) none
.e) none
.e) none
.e)) none
.e))),2962⟩
end Go.Proofs.YtkklchgmpejobaaGreatDoor.awake
