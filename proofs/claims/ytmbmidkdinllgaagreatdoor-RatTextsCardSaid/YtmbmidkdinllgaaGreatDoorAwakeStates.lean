/- Awake: what is kept between the stages, written by program. -/
import Derived.Test.YtmbmidkdinllgaaGreatDoorEv8
namespace Go.Ev.Gl
end Go.Ev.Gl
namespace Go.Proofs.YtmbmidkdinllgaaGreatDoor.awake
open Go.Ev Go.Ev.Gl
set_option maxRecDepth 100000
noncomputable def act0 : Act' := ⟨(.n (.n (.n (.n (.n .e (some (.tup [(.agg [(.bool true),(.sl 331 0 1 1 true),(.sl 332 0 1 1 true)]),(.int .i64 (.ofNat 0))])) .e) none
.e) (some (.ptr 336 0))
(.n (.n .e (some (.agg [(.bool true),(.sl 331 0 1 1 true),(.sl 332 0 1 1 true)])) .e) (some (.agg [(.bool false),(.sl 53 0 1 1 true),(.sl 55 0 1 1 true)]))
.e)) (some (.ptr 179 0))
(.n (.n (.n .e (some (.agg [(.bool true),(.sl 241 0 1 1 true),(.sl 243 0 1 1 true)])) .e) (some (.tup [(.agg [(.bool false),(.sl 173 0 1 1 true),(.sl 175 0 1 1 true)]),(.int .i64 (.ofNat 0))]))
.e) none
(.n .e (some (.agg [(.bool false),(.sl 173 0 1 1 true),(.sl 175 0 1 1 true)])) .e))) (some (.bool false))
(.n (.n (.n (.n .e (some (.agg [(.bool false),(.sl 209 0 1 1 true),(.sl 211 0 1 1 true)])) .e) none
.e) (some (.int .i64 (.ofNat 0)))
(.n (.n .e (some (.int .i64 (.ofNat 0))) .e) (some (.tup [(.agg [(.bool false),(.sl 173 0 1 1 true),(.sl 175 0 1 1 true)]),(.int .i64 (.ofNat 0))]))
.e)) (some (.int .i64 (.ofNat 0)))
(.n (.n (.n .e (some (.tup [(.agg [(.bool true),(.sl 331 0 1 1 true),(.sl 332 0 1 1 true)]),(.int .i64 (.ofNat 0))])) .e) (some (.agg [(.bool false),(.sl 27 0 1 1 true),(.sl 29 0 1 1 true)]))
.e) none
(.n .e (some (.int .i64 (.ofNat 0))) .e)))), false⟩
noncomputable def sta0 : St := ⟨(.n (.n (.n (.n (.n .e none
(.n .e none
(.n (.n .e (some (.cells [(.int .u32 (.ofNat 6))] true 1)) .e) none
.e))) none
.e) (some (.ro [(.int .u8 (.ofNat 0)),(.int .u8 (.ofNat 1)),(.int .u8 (.ofNat 56)),(.int .u8 (.ofNat 2)),(.int .u8 (.ofNat 57)),(.int .u8 (.ofNat 49)),(.int .u8 (.ofNat 28)),(.int .u8 (.ofNat 3)),(.int .u8 (.ofNat 61)),(.int .u8 (.ofNat 58)),(.int .u8 (.ofNat 42)),(.int .u8 (.ofNat 50)),(.int .u8 (.ofNat 38)),(.int .u8 (.ofNat 29)),(.int .u8 (.ofNat 17)),(.int .u8 (.ofNat 4)),(.int .u8 (.ofNat 62)),(.int .u8 (.ofNat 47)),(.int .u8 (.ofNat 59)),(.int .u8 (.ofNat 36)),(.int .u8 (.ofNat 45)),(.int .u8 (.ofNat 43)),(.int .u8 (.ofNat 51)),(.int .u8 (.ofNat 22)),(.int .u8 (.ofNat 53)),(.int .u8 (.ofNat 39)),(.int .u8 (.ofNat 33)),(.int .u8 (.ofNat 30)),(.int .u8 (.ofNat 24)),(.int .u8 (.ofNat 18)),(.int .u8 (.ofNat 12)),(.int .u8 (.ofNat 5)),(.int .u8 (.ofNat 63)),(.int .u8 (.ofNat 55)),(.int .u8 (.ofNat 48)),(.int .u8 (.ofNat 27)),(.int .u8 (.ofNat 60)),(.int .u8 (.ofNat 41)),(.int .u8 (.ofNat 37)),(.int .u8 (.ofNat 16)),(.int .u8 (.ofNat 46)),(.int .u8 (.ofNat 35)),(.int .u8 (.ofNat 44)),(.int .u8 (.ofNat 21)),(.int .u8 (.ofNat 52)),(.int .u8 (.ofNat 32)),(.int .u8 (.ofNat 23)),(.int .u8 (.ofNat 11)),(.int .u8 (.ofNat 54)),(.int .u8 (.ofNat 26)),(.int .u8 (.ofNat 40)),(.int .u8 (.ofNat 15)),(.int .u8 (.ofNat 34)),(.int .u8 (.ofNat 20)),(.int .u8 (.ofNat 31)),(.int .u8 (.ofNat 10)),(.int .u8 (.ofNat 25)),(.int .u8 (.ofNat 14)),(.int .u8 (.ofNat 19)),(.int .u8 (.ofNat 9)),(.int .u8 (.ofNat 13)),(.int .u8 (.ofNat 8)),(.int .u8 (.ofNat 7)),(.int .u8 (.ofNat 6))]))
(.n (.n .e none
(.n .e none
(.n (.n .e (some (.cells [(.bool false),(.sl 173 0 1 1 true),(.sl 175 0 1 1 true)] false 0)) .e) none
.e))) none
(.n (.n (.n .e none
(.n (.n .e (some (.cells [(.int .u32 (.ofNat 1))] true 1)) .e) none
.e)) none
.e) none
.e))) (some (.ro [(.int .i64 (.negSucc 0)),(.int .i64 (.ofNat 0)),(.int .i64 (.ofNat 1))]))
(.n .e none
(.n .e none
(.n (.n .e none
(.n (.n .e (some (.cells [(.int .u32 (.ofNat 5))] true 1)) .e) none
.e)) none
.e)))) (some (.ro [(.int .u8 (.ofNat 48)),(.int .u8 (.ofNat 49)),(.int .u8 (.ofNat 50)),(.int .u8 (.ofNat 51)),(.int .u8 (.ofNat 52)),(.int .u8 (.ofNat 53)),(.int .u8 (.ofNat 54)),(.int .u8 (.ofNat 55)),(.int .u8 (.ofNat 56)),(.int .u8 (.ofNat 57))]))
(.n (.n (.n (.n .e none
(.n (.n .e none
(.n (.n .e (some (.cells [(.bool true),(.sl 331 0 1 1 true),(.sl 332 0 1 1 true)] false 0)) .e) none
.e)) none
.e)) none
.e) none
(.n .e none
(.n (.n (.n .e none
(.n (.n .e (some (.cells [(.int .u32 (.ofNat 2))] true 1)) .e) none
.e)) none
.e) none
.e))) none
.e)), 337⟩
end Go.Proofs.YtmbmidkdinllgaaGreatDoor.awake
