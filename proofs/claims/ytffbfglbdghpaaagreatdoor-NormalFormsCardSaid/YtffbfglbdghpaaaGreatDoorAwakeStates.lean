/- Awake: what is kept between the stages, written by program. -/
import Derived.Test.YtffbfglbdghpaaaGreatDoorEv8
namespace Go.Ev.Gl
end Go.Ev.Gl
namespace Go.Proofs.YtffbfglbdghpaaaGreatDoor.awake
open Go.Ev Go.Ev.Gl
set_option maxRecDepth 100000
noncomputable def act0 : Act' := ⟨(.n (.n (.n (.n (.n .e (some (.tup [(.sl 3440 0 4 4 true),(.int .i64 (.ofNat 0))])) .e) (some (.tup [(.sl 2661 0 2 2 true),(.int .i64 (.ofNat 0))]))
.e) (some (.sl 3440 0 4 4 true))
(.n .e (some (.sl 2661 0 2 2 true)) .e)) (some (.sl 2661 0 2 2 true))
(.n (.n (.n .e (some (.int .i64 (.ofNat 0))) .e) (some (.sl 26 0 2 2 false))
.e) none
(.n .e (some (.tup [(.sl 3440 0 4 4 true),(.int .i64 (.ofNat 0))])) .e))) (some (.bool false))
(.n (.n (.n (.n .e (some (.sl 3440 0 4 4 true)) .e) (some (.agg [(.int .i64 (.ofNat 2)),(.sl 25 0 11 11 false),(.sl 2 0 2 2 false)]))
.e) (some (.int .i64 (.ofNat 0)))
(.n .e (some (.int .i64 (.ofNat 0))) .e)) (some (.int .i64 (.ofNat 0)))
(.n (.n .e (some (.tup [(.sl 2661 0 2 2 true),(.int .i64 (.ofNat 0))])) .e) none
(.n .e (some (.agg [(.int .i64 (.ofNat 1)),(.sl 2674 0 5 5 false),(.sl 2663 0 2 2 false)])) .e)))), false⟩
noncomputable def sta0 : St := ⟨(.n (.n (.n .e none
(.n .e none
(.n (.n (.n .e none
(.n (.n (.n .e none
(.n (.n .e (some (.cells [(.int .u32 (.ofNat 3))] true 1)) .e) none
.e)) none
.e) none
.e)) none
.e) none
.e))) none
(.n .e none
(.n (.n (.n .e none
(.n .e none
(.n (.n (.n .e none
(.n (.n .e (some (.cells [(.bool false),(.sl 2635 0 1 1 true),(.sl 2637 0 1 1 true),(.bool true),(.sl 2656 0 1 1 true),(.sl 2658 0 1 1 true)] true 3)) .e) none
.e)) none
.e) none
.e))) none
.e) none
(.n (.n (.n .e none
(.n (.n (.n .e none
(.n (.n .e (some (.cells [(.int .u32 (.ofNat 2))] true 1)) .e) none
.e)) none
.e) none
.e)) none
.e) none
.e)))) (some (.ro [(.int .u8 (.ofNat 0)),(.int .u8 (.ofNat 1)),(.int .u8 (.ofNat 56)),(.int .u8 (.ofNat 2)),(.int .u8 (.ofNat 57)),(.int .u8 (.ofNat 49)),(.int .u8 (.ofNat 28)),(.int .u8 (.ofNat 3)),(.int .u8 (.ofNat 61)),(.int .u8 (.ofNat 58)),(.int .u8 (.ofNat 42)),(.int .u8 (.ofNat 50)),(.int .u8 (.ofNat 38)),(.int .u8 (.ofNat 29)),(.int .u8 (.ofNat 17)),(.int .u8 (.ofNat 4)),(.int .u8 (.ofNat 62)),(.int .u8 (.ofNat 47)),(.int .u8 (.ofNat 59)),(.int .u8 (.ofNat 36)),(.int .u8 (.ofNat 45)),(.int .u8 (.ofNat 43)),(.int .u8 (.ofNat 51)),(.int .u8 (.ofNat 22)),(.int .u8 (.ofNat 53)),(.int .u8 (.ofNat 39)),(.int .u8 (.ofNat 33)),(.int .u8 (.ofNat 30)),(.int .u8 (.ofNat 24)),(.int .u8 (.ofNat 18)),(.int .u8 (.ofNat 12)),(.int .u8 (.ofNat 5)),(.int .u8 (.ofNat 63)),(.int .u8 (.ofNat 55)),(.int .u8 (.ofNat 48)),(.int .u8 (.ofNat 27)),(.int .u8 (.ofNat 60)),(.int .u8 (.ofNat 41)),(.int .u8 (.ofNat 37)),(.int .u8 (.ofNat 16)),(.int .u8 (.ofNat 46)),(.int .u8 (.ofNat 35)),(.int .u8 (.ofNat 44)),(.int .u8 (.ofNat 21)),(.int .u8 (.ofNat 52)),(.int .u8 (.ofNat 32)),(.int .u8 (.ofNat 23)),(.int .u8 (.ofNat 11)),(.int .u8 (.ofNat 54)),(.int .u8 (.ofNat 26)),(.int .u8 (.ofNat 40)),(.int .u8 (.ofNat 15)),(.int .u8 (.ofNat 34)),(.int .u8 (.ofNat 20)),(.int .u8 (.ofNat 31)),(.int .u8 (.ofNat 10)),(.int .u8 (.ofNat 25)),(.int .u8 (.ofNat 14)),(.int .u8 (.ofNat 19)),(.int .u8 (.ofNat 9)),(.int .u8 (.ofNat 13)),(.int .u8 (.ofNat 8)),(.int .u8 (.ofNat 7)),(.int .u8 (.ofNat 6))]))
(.n (.n (.n (.n (.n .e none
(.n .e none
(.n (.n (.n .e none
(.n (.n .e (some (.cells [(.int .u32 (.ofNat 3))] true 1)) .e) none
.e)) none
.e) none
.e))) none
(.n .e none
(.n .e none
(.n (.n .e none
(.n (.n .e none
(.n .e (some (.cells [(.int .i64 (.ofNat 0)),(.int .i64 (.ofNat 0)),(.int .i64 (.ofNat 2)),(.int .i64 (.ofNat 3))] true 1)) .e)) none
.e)) none
.e)))) none
.e) none
.e) none
(.n (.n (.n (.n .e none
(.n .e none
(.n (.n (.n .e none
(.n (.n .e (some (.cells [(.int .u32 (.ofNat 2))] true 1)) .e) none
.e)) none
.e) none
.e))) none
.e) none
.e) none
.e))), 3459⟩
end Go.Proofs.YtffbfglbdghpaaaGreatDoor.awake
