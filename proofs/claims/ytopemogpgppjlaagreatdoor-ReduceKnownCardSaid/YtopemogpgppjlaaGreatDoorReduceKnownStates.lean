/- ReduceKnown: what is kept between the stages, written by program. -/
import Derived.Test.YtopemogpgppjlaaGreatDoorEv7
namespace Go.Proofs.YtopemogpgppjlaaGreatDoor.reduceKnown
open Go.Ev
set_option maxRecDepth 100000
noncomputable def act0 : Act' := ⟨(.n (.n (.n (.n .e none
(.n .e (some (.sl 174 0 8 8 false)) .e)) (some (.sl 384 0 8 8 true))
.e) (some (.ptr 12 0))
(.n .e none
(.n (.n .e (some (.sl 13 0 8 8 false)) .e) none
.e))) (some (.bool false))
(.n (.n (.n .e none
(.n .e (some (.sl 384 0 8 8 true)) .e)) none
(.n (.n .e (some (.agg [(.int .i64 (.ofNat 2)),(.sl 11 0 8 8 false),(.sl 2 0 3 3 false)])) .e) none
.e)) (some (.sl 173 0 8 8 true))
(.n .e none
(.n (.n .e (some (.sl 173 0 8 8 true)) .e) none
.e)))), false⟩
noncomputable def sta0 : St := ⟨(.n (.n (.n (.n (.n (.n .e (some (.cells [(.int .u32 (.ofNat 1))] true 1)) .e) none
(.n .e none
(.n .e (some (.cells [(.int .u32 (.ofNat 1))] true 1)) .e))) (some (.cells [(.int .i64 (.ofNat 5)),(.int .i64 (.ofNat 6)),(.int .i64 (.ofNat 7))] false 0))
(.n (.n (.n .e (some (.cells [(.int .u32 (.ofNat 1))] true 1)) .e) none
.e) none
(.n (.n (.n .e (some (.cells [(.int .u32 (.ofNat 1))] true 1)) .e) none
.e) none
.e))) (some (.cells [(.int .i64 (.ofNat 1)),(.int .i64 (.ofNat 2))] false 0))
(.n (.n (.n (.n (.n .e (some (.cells [(.int .u32 (.ofNat 1))] true 1)) .e) none
.e) none
.e) none
(.n .e (some (.cells [(.int .u32 (.ofNat 1))] true 1)) .e)) (some (.cells [(.int .i64 (.ofNat 2)),(.int .i64 (.ofNat 0)),(.int .i64 (.ofNat 0)),(.sl 3 0 2 2 false),.nilsl,.nilsl,(.int .i64 (.ofNat 3)),(.int .i64 (.ofNat 0)),(.int .i64 (.ofNat 0)),.nilsl,.nilsl,(.sl 4 0 2 2 false),(.int .i64 (.ofNat 2)),(.int .i64 (.ofNat 1)),(.int .i64 (.ofNat 1)),(.sl 5 0 2 2 false),.nilsl,.nilsl,(.int .i64 (.ofNat 3)),(.int .i64 (.ofNat 0)),(.int .i64 (.ofNat 0)),.nilsl,.nilsl,(.sl 6 0 2 2 false),(.int .i64 (.ofNat 2)),(.int .i64 (.ofNat 0)),(.int .i64 (.ofNat 2)),(.sl 7 0 3 3 false),.nilsl,.nilsl,(.int .i64 (.ofNat 3)),(.int .i64 (.ofNat 0)),(.int .i64 (.ofNat 0)),.nilsl,.nilsl,(.sl 8 0 2 2 false),(.int .i64 (.ofNat 3)),(.int .i64 (.ofNat 0)),(.int .i64 (.ofNat 0)),.nilsl,.nilsl,(.sl 9 0 2 2 false),(.int .i64 (.ofNat 3)),(.int .i64 (.ofNat 0)),(.int .i64 (.ofNat 0)),.nilsl,.nilsl,(.sl 10 0 2 2 false)] false 0))
(.n (.n .e none
(.n (.n .e (some (.cells [(.int .u32 (.ofNat 1))] true 1)) .e) none
.e)) none
(.n (.n .e (some (.cells [(.int .u32 (.ofNat 1))] true 1)) .e) none
.e)))) none
(.n (.n .e (some (.cells [(.int .i64 (.negSucc 0)),(.int .i64 (.ofNat 1))] false 0)) .e) (some (.cells [(.int .i64 (.ofNat 3)),(.int .i64 (.ofNat 4))] false 0))
(.n .e none
(.n (.n .e none
(.n (.n .e (some (.cells [(.bool false),.nilsl,(.sl 31 0 1 1 true),(.bool false),.nilsl,(.sl 51 0 1 1 true),(.bool false),.nilsl,(.sl 71 0 1 1 true),(.bool false),.nilsl,(.sl 91 0 1 1 true),(.bool false),.nilsl,(.sl 111 0 1 1 true),(.bool false),.nilsl,(.sl 131 0 1 1 true),(.bool false),.nilsl,(.sl 151 0 1 1 true),(.bool false),.nilsl,(.sl 171 0 1 1 true)] true 3)) .e) none
.e)) none
.e)))) (some (.ro [(.int .u8 (.ofNat 0)),(.int .u8 (.ofNat 1)),(.int .u8 (.ofNat 56)),(.int .u8 (.ofNat 2)),(.int .u8 (.ofNat 57)),(.int .u8 (.ofNat 49)),(.int .u8 (.ofNat 28)),(.int .u8 (.ofNat 3)),(.int .u8 (.ofNat 61)),(.int .u8 (.ofNat 58)),(.int .u8 (.ofNat 42)),(.int .u8 (.ofNat 50)),(.int .u8 (.ofNat 38)),(.int .u8 (.ofNat 29)),(.int .u8 (.ofNat 17)),(.int .u8 (.ofNat 4)),(.int .u8 (.ofNat 62)),(.int .u8 (.ofNat 47)),(.int .u8 (.ofNat 59)),(.int .u8 (.ofNat 36)),(.int .u8 (.ofNat 45)),(.int .u8 (.ofNat 43)),(.int .u8 (.ofNat 51)),(.int .u8 (.ofNat 22)),(.int .u8 (.ofNat 53)),(.int .u8 (.ofNat 39)),(.int .u8 (.ofNat 33)),(.int .u8 (.ofNat 30)),(.int .u8 (.ofNat 24)),(.int .u8 (.ofNat 18)),(.int .u8 (.ofNat 12)),(.int .u8 (.ofNat 5)),(.int .u8 (.ofNat 63)),(.int .u8 (.ofNat 55)),(.int .u8 (.ofNat 48)),(.int .u8 (.ofNat 27)),(.int .u8 (.ofNat 60)),(.int .u8 (.ofNat 41)),(.int .u8 (.ofNat 37)),(.int .u8 (.ofNat 16)),(.int .u8 (.ofNat 46)),(.int .u8 (.ofNat 35)),(.int .u8 (.ofNat 44)),(.int .u8 (.ofNat 21)),(.int .u8 (.ofNat 52)),(.int .u8 (.ofNat 32)),(.int .u8 (.ofNat 23)),(.int .u8 (.ofNat 11)),(.int .u8 (.ofNat 54)),(.int .u8 (.ofNat 26)),(.int .u8 (.ofNat 40)),(.int .u8 (.ofNat 15)),(.int .u8 (.ofNat 34)),(.int .u8 (.ofNat 20)),(.int .u8 (.ofNat 31)),(.int .u8 (.ofNat 10)),(.int .u8 (.ofNat 25)),(.int .u8 (.ofNat 14)),(.int .u8 (.ofNat 19)),(.int .u8 (.ofNat 9)),(.int .u8 (.ofNat 13)),(.int .u8 (.ofNat 8)),(.int .u8 (.ofNat 7)),(.int .u8 (.ofNat 6))]))
(.n (.n (.n (.n (.n (.n (.n .e none
(.n .e (some (.cells [(.bool false),(.sl 216 0 1 1 true),(.sl 218 0 1 1 true),(.bool false),(.sl 238 0 1 1 true),(.sl 240 0 1 1 true),(.bool false),(.sl 266 0 1 1 true),(.sl 268 0 1 1 true),(.bool false),.nilsl,(.sl 288 0 1 1 true),(.bool false),(.sl 314 0 1 1 true),(.sl 316 0 1 1 true),(.bool false),(.sl 336 0 1 1 true),(.sl 338 0 1 1 true),(.bool true),(.sl 358 0 1 1 true),(.sl 360 0 1 1 true),(.bool false),(.sl 380 0 1 1 true),(.sl 382 0 1 1 true)] true 3)) .e)) none
.e) none
(.n (.n (.n .e (some (.cells [(.int .u32 (.ofNat 1))] true 1)) .e) none
.e) none
.e)) none
(.n (.n .e none
(.n (.n .e (some (.cells [(.int .u32 (.ofNat 2))] true 1)) .e) none
.e)) none
(.n .e none
(.n .e (some (.cells [(.int .u32 (.ofNat 1))] true 1)) .e)))) (some (.cells [(.int .i64 (.ofNat 2)),(.int .i64 (.negSucc 1))] false 0))
(.n (.n .e none
(.n .e none
(.n (.n .e (some (.cells [(.int .u32 (.ofNat 1))] true 1)) .e) none
.e))) none
(.n (.n .e none
(.n .e (some (.cells [(.int .u32 (.ofNat 5))] true 1)) .e)) none
.e))) (some (.cells [(.int .i64 (.ofNat 1)),(.int .i64 (.negSucc 0))] false 0))
(.n .e (some (.cells [(.int .i64 (.ofNat 2)),(.sl 11 0 8 8 false),(.sl 2 0 3 3 false)] false 0))
(.n (.n (.n (.n (.n .e (some (.cells [(.int .u32 (.ofNat 4))] true 1)) .e) none
.e) none
.e) none
.e) none
(.n .e none
(.n (.n (.n .e (some (.cells [(.int .u32 (.ofNat 2))] true 1)) .e) none
.e) none
(.n (.n .e (some (.cells [(.int .u32 (.ofNat 3))] true 1)) .e) none
.e)))))) (some (.cells [(.int .i64 (.ofNat 0)),(.int .i64 (.ofNat 2)),(.int .i64 (.ofNat 1)),(.int .i64 (.ofNat 2)),(.int .i64 (.ofNat 0)),(.int .i64 (.ofNat 3))] false 0))
(.n (.n (.n .e none
(.n (.n .e none
(.n (.n .e (some (.cells [(.int .u32 (.ofNat 1))] true 1)) .e) none
.e)) none
.e)) (some (.cells [(.int .i64 (.ofNat 3)),(.int .i64 (.negSucc 2))] false 0))
(.n (.n (.n (.n (.n .e (some (.cells [(.int .u32 (.ofNat 1))] true 1)) .e) none
.e) none
.e) none
.e) none
(.n (.n .e none
(.n .e (some (.cells [(.int .u32 (.ofNat 8))] true 1)) .e)) none
(.n (.n (.n .e (some (.cells [(.int .u32 (.ofNat 1))] true 1)) .e) none
.e) none
.e)))) (some (.cells [(.int .i64 (.ofNat 0)),(.int .i64 (.ofNat 0))] false 0))
(.n (.n (.n .e none
(.n .e none
(.n (.n .e (some (.cells [(.int .u32 (.ofNat 1))] true 1)) .e) none
.e))) none
.e) none
(.n (.n .e none
(.n .e none
(.n .e (some (.cells [(.int .u32 (.ofNat 1))] true 1)) .e))) none
(.n .e none
(.n .e none
(.n (.n .e (some (.cells [(.int .u32 (.ofNat 1))] true 1)) .e) none
.e)))))))), 385⟩
noncomputable def act1 : Act' := ⟨(.n (.n (.n (.n (.n (.n .e (some (.int .i64 (.ofNat 0))) .e) none
.e) (some (.int .i64 (.ofNat 0)))
(.n (.n .e (some (.tup [(.agg [(.bool false),(.sl 11978 0 1 1 true),(.sl 11980 0 1 1 true)]),(.int .i64 (.ofNat 0))])) .e) (some (.sl 174 0 8 8 false))
.e)) (some (.sl 384 0 8 8 true))
(.n (.n (.n .e (some (.sl 173 0 8 8 true)) .e) none
.e) none
(.n (.n .e (some (.tup [(.agg [(.bool false),(.sl 11978 0 1 1 true),(.sl 11980 0 1 1 true)]),(.int .i64 (.ofNat 0))])) .e) (some (.agg [(.int .i64 (.ofNat 1)),(.sl 399 0 3 3 false)]))
.e))) (some (.ptr 12 0))
(.n (.n (.n (.n .e (some (.agg [(.int .i64 (.ofNat 2)),(.sl 11 0 8 8 false),(.sl 2 0 3 3 false)])) .e) none
.e) (some (.int .i64 (.ofNat 0)))
(.n (.n .e (some (.agg [(.int .i64 (.ofNat 1)),(.sl 4289 0 3 3 false)])) .e) (some (.tup [(.agg [(.bool true),(.sl 1812 0 1 1 true),(.sl 1814 0 1 1 true)]),(.int .i64 (.ofNat 0))]))
.e)) (some (.int .i64 (.ofNat 0)))
(.n (.n (.n .e (some (.agg [(.bool false),(.sl 4272 0 1 1 true),(.sl 4274 0 1 1 true)])) .e) (some (.sl 13 0 8 8 false))
.e) none
(.n (.n .e (some (.int .i64 (.ofNat 0))) .e) (some (.tup [(.agg [(.bool true),(.sl 1812 0 1 1 true),(.sl 1814 0 1 1 true)]),(.int .i64 (.ofNat 0))]))
.e)))) (some (.bool false))
(.n (.n (.n (.n (.n .e (some (.tup [(.agg [(.bool false),(.sl 4272 0 1 1 true),(.sl 4274 0 1 1 true)]),(.int .i64 (.ofNat 0))])) .e) none
.e) (some (.ptr 4282 0))
(.n (.n .e (some (.agg [(.int .i64 (.ofNat 2)),(.sl 11 0 8 8 false),(.sl 2 0 3 3 false)])) .e) (some (.sl 384 0 8 8 true))
.e)) (some (.ptr 392 0))
(.n (.n (.n .e (some (.tup [(.agg [(.bool false),(.sl 4272 0 1 1 true),(.sl 4274 0 1 1 true)]),(.int .i64 (.ofNat 0))])) .e) (some (.agg [(.int .i64 (.ofNat 2)),(.sl 11 0 8 8 false),(.sl 2 0 3 3 false)]))
.e) none
(.n (.n .e (some (.agg [(.bool false),(.sl 11978 0 1 1 true),(.sl 11980 0 1 1 true)])) .e) (some (.sl 562 0 8 8 true))
.e))) (some (.sl 173 0 8 8 true))
(.n (.n (.n (.n .e (some (.agg [(.int .i64 (.ofNat 1)),(.sl 1829 0 3 3 false)])) .e) none
.e) none
(.n (.n .e (some (.sl 173 0 8 8 true)) .e) (some (.agg [(.int .i64 (.ofNat 2)),(.sl 11 0 8 8 false),(.sl 2 0 3 3 false)]))
.e)) (some (.ptr 1822 0))
(.n (.n (.n .e (some (.int .i64 (.ofNat 0))) .e) (some (.sl 173 0 8 8 true))
.e) none
(.n .e (some (.agg [(.bool true),(.sl 1812 0 1 1 true),(.sl 1814 0 1 1 true)])) .e))))), false⟩
noncomputable def sta1 : St := ⟨(.n (.n (.n (.n (.n (.n .e (some (.cells [(.int .u32 (.ofNat 1))] true 1)) .e) none
(.n .e none
(.n .e (some (.cells [(.int .u32 (.ofNat 1))] true 1)) .e))) (some (.cells [(.int .i64 (.ofNat 5)),(.int .i64 (.ofNat 6)),(.int .i64 (.ofNat 7))] false 0))
(.n (.n (.n .e (some (.cells [(.int .u32 (.ofNat 1))] true 1)) .e) none
.e) none
(.n (.n (.n .e (some (.cells [(.int .u32 (.ofNat 1))] true 1)) .e) none
.e) none
.e))) (some (.cells [(.int .i64 (.ofNat 1)),(.int .i64 (.ofNat 2))] false 0))
(.n (.n (.n (.n (.n .e (some (.cells [(.int .u32 (.ofNat 1))] true 1)) .e) none
.e) none
.e) none
(.n .e (some (.cells [(.int .u32 (.ofNat 1))] true 1)) .e)) (some (.cells [(.int .i64 (.ofNat 2)),(.int .i64 (.ofNat 0)),(.int .i64 (.ofNat 0)),(.sl 3 0 2 2 false),.nilsl,.nilsl,(.int .i64 (.ofNat 3)),(.int .i64 (.ofNat 0)),(.int .i64 (.ofNat 0)),.nilsl,.nilsl,(.sl 4 0 2 2 false),(.int .i64 (.ofNat 2)),(.int .i64 (.ofNat 1)),(.int .i64 (.ofNat 1)),(.sl 5 0 2 2 false),.nilsl,.nilsl,(.int .i64 (.ofNat 3)),(.int .i64 (.ofNat 0)),(.int .i64 (.ofNat 0)),.nilsl,.nilsl,(.sl 6 0 2 2 false),(.int .i64 (.ofNat 2)),(.int .i64 (.ofNat 0)),(.int .i64 (.ofNat 2)),(.sl 7 0 3 3 false),.nilsl,.nilsl,(.int .i64 (.ofNat 3)),(.int .i64 (.ofNat 0)),(.int .i64 (.ofNat 0)),.nilsl,.nilsl,(.sl 8 0 2 2 false),(.int .i64 (.ofNat 3)),(.int .i64 (.ofNat 0)),(.int .i64 (.ofNat 0)),.nilsl,.nilsl,(.sl 9 0 2 2 false),(.int .i64 (.ofNat 3)),(.int .i64 (.ofNat 0)),(.int .i64 (.ofNat 0)),.nilsl,.nilsl,(.sl 10 0 2 2 false)] false 0))
(.n (.n .e none
(.n (.n .e (some (.cells [(.int .u32 (.ofNat 1))] true 1)) .e) none
.e)) none
(.n (.n .e (some (.cells [(.int .u32 (.ofNat 1))] true 1)) .e) none
.e)))) none
(.n (.n .e (some (.cells [(.int .i64 (.negSucc 0)),(.int .i64 (.ofNat 1))] false 0)) .e) (some (.cells [(.int .i64 (.ofNat 3)),(.int .i64 (.ofNat 4))] false 0))
(.n .e none
(.n (.n .e none
(.n (.n .e (some (.cells [(.bool false),.nilsl,(.sl 31 0 1 1 true),(.bool false),.nilsl,(.sl 51 0 1 1 true),(.bool false),.nilsl,(.sl 71 0 1 1 true),(.bool false),.nilsl,(.sl 91 0 1 1 true),(.bool false),.nilsl,(.sl 111 0 1 1 true),(.bool false),.nilsl,(.sl 131 0 1 1 true),(.bool false),.nilsl,(.sl 151 0 1 1 true),(.bool false),.nilsl,(.sl 171 0 1 1 true)] true 3)) .e) none
.e)) none
.e)))) (some (.ro [(.int .u8 (.ofNat 0)),(.int .u8 (.ofNat 1)),(.int .u8 (.ofNat 56)),(.int .u8 (.ofNat 2)),(.int .u8 (.ofNat 57)),(.int .u8 (.ofNat 49)),(.int .u8 (.ofNat 28)),(.int .u8 (.ofNat 3)),(.int .u8 (.ofNat 61)),(.int .u8 (.ofNat 58)),(.int .u8 (.ofNat 42)),(.int .u8 (.ofNat 50)),(.int .u8 (.ofNat 38)),(.int .u8 (.ofNat 29)),(.int .u8 (.ofNat 17)),(.int .u8 (.ofNat 4)),(.int .u8 (.ofNat 62)),(.int .u8 (.ofNat 47)),(.int .u8 (.ofNat 59)),(.int .u8 (.ofNat 36)),(.int .u8 (.ofNat 45)),(.int .u8 (.ofNat 43)),(.int .u8 (.ofNat 51)),(.int .u8 (.ofNat 22)),(.int .u8 (.ofNat 53)),(.int .u8 (.ofNat 39)),(.int .u8 (.ofNat 33)),(.int .u8 (.ofNat 30)),(.int .u8 (.ofNat 24)),(.int .u8 (.ofNat 18)),(.int .u8 (.ofNat 12)),(.int .u8 (.ofNat 5)),(.int .u8 (.ofNat 63)),(.int .u8 (.ofNat 55)),(.int .u8 (.ofNat 48)),(.int .u8 (.ofNat 27)),(.int .u8 (.ofNat 60)),(.int .u8 (.ofNat 41)),(.int .u8 (.ofNat 37)),(.int .u8 (.ofNat 16)),(.int .u8 (.ofNat 46)),(.int .u8 (.ofNat 35)),(.int .u8 (.ofNat 44)),(.int .u8 (.ofNat 21)),(.int .u8 (.ofNat 52)),(.int .u8 (.ofNat 32)),(.int .u8 (.ofNat 23)),(.int .u8 (.ofNat 11)),(.int .u8 (.ofNat 54)),(.int .u8 (.ofNat 26)),(.int .u8 (.ofNat 40)),(.int .u8 (.ofNat 15)),(.int .u8 (.ofNat 34)),(.int .u8 (.ofNat 20)),(.int .u8 (.ofNat 31)),(.int .u8 (.ofNat 10)),(.int .u8 (.ofNat 25)),(.int .u8 (.ofNat 14)),(.int .u8 (.ofNat 19)),(.int .u8 (.ofNat 9)),(.int .u8 (.ofNat 13)),(.int .u8 (.ofNat 8)),(.int .u8 (.ofNat 7)),(.int .u8 (.ofNat 6))]))
(.n (.n (.n (.n (.n (.n (.n .e none
(.n .e (some (.cells [(.bool false),(.sl 216 0 1 1 true),(.sl 218 0 1 1 true),(.bool false),(.sl 238 0 1 1 true),(.sl 240 0 1 1 true),(.bool false),(.sl 266 0 1 1 true),(.sl 268 0 1 1 true),(.bool false),.nilsl,(.sl 288 0 1 1 true),(.bool false),(.sl 314 0 1 1 true),(.sl 316 0 1 1 true),(.bool false),(.sl 336 0 1 1 true),(.sl 338 0 1 1 true),(.bool true),(.sl 358 0 1 1 true),(.sl 360 0 1 1 true),(.bool false),(.sl 380 0 1 1 true),(.sl 382 0 1 1 true)] true 3)) .e)) none
.e) none
(.n (.n (.n .e (some (.cells [(.int .u32 (.ofNat 1))] true 1)) .e) none
.e) none
.e)) none
(.n (.n .e none
(.n (.n .e (some (.cells [(.int .u32 (.ofNat 2))] true 1)) .e) none
.e)) none
(.n (.n .e none
(.n (.n (.n (.n (.n .e (some (.cells [(.int .u32 (.ofNat 5))] true 1)) .e) none
.e) none
.e) none
.e) none
.e)) none
(.n .e (some (.cells [(.int .u32 (.ofNat 1))] true 1)) .e)))) (some (.cells [(.int .i64 (.ofNat 2)),(.int .i64 (.negSucc 1))] false 0))
(.n (.n (.n (.n .e none
(.n .e (some (.cells [(.bool true),(.sl 1812 0 1 1 true),(.sl 1814 0 1 1 true)] false 0)) .e)) none
.e) none
(.n .e none
(.n (.n .e (some (.cells [(.int .u32 (.ofNat 1))] true 1)) .e) none
.e))) none
(.n (.n .e none
(.n .e (some (.cells [(.int .u32 (.ofNat 5))] true 1)) .e)) none
.e))) (some (.cells [(.int .i64 (.ofNat 1)),(.int .i64 (.negSucc 0))] false 0))
(.n (.n .e none
(.n (.n (.n (.n .e none
(.n .e none
(.n .e (some (.cells [(.int .u32 (.ofNat 2))] true 1)) .e))) none
.e) none
.e) none
.e)) (some (.cells [(.int .i64 (.ofNat 2)),(.sl 11 0 8 8 false),(.sl 2 0 3 3 false)] false 0))
(.n (.n (.n (.n (.n .e (some (.cells [(.int .u32 (.ofNat 4))] true 1)) .e) none
.e) none
(.n .e none
(.n (.n .e none
(.n .e none
(.n .e none
(.n (.n .e (some (.cells [(.int .u32 (.ofNat 64))] true 1)) .e) none
.e)))) none
.e))) none
.e) none
(.n .e none
(.n (.n (.n .e (some (.cells [(.int .u32 (.ofNat 2))] true 1)) .e) none
.e) none
(.n (.n .e (some (.cells [(.int .u32 (.ofNat 3))] true 1)) .e) none
.e)))))) (some (.cells [(.int .i64 (.ofNat 0)),(.int .i64 (.ofNat 2)),(.int .i64 (.ofNat 1)),(.int .i64 (.ofNat 2)),(.int .i64 (.ofNat 0)),(.int .i64 (.ofNat 3))] false 0))
(.n (.n (.n .e none
(.n (.n .e none
(.n (.n .e (some (.cells [(.int .u32 (.ofNat 1))] true 1)) .e) none
.e)) none
(.n (.n .e none
(.n (.n (.n (.n (.n .e (some (.cells [(.int .u32 (.ofNat 8))] true 1)) .e) none
.e) none
.e) none
.e) none
.e)) none
.e))) (some (.cells [(.int .i64 (.ofNat 3)),(.int .i64 (.negSucc 2))] false 0))
(.n (.n (.n (.n (.n .e (some (.cells [(.int .u32 (.ofNat 1))] true 1)) .e) none
.e) none
(.n .e none
(.n (.n .e none
(.n .e none
(.n .e none
(.n (.n .e (some (.cells [(.int .u32 (.ofNat 47))] true 1)) .e) none
.e)))) none
.e))) none
.e) none
(.n (.n .e none
(.n .e (some (.cells [(.int .u32 (.ofNat 8))] true 1)) .e)) none
(.n (.n (.n .e (some (.cells [(.int .u32 (.ofNat 1))] true 1)) .e) none
(.n (.n (.n (.n (.n .e (some (.cells [(.bool false),(.sl 11978 0 1 1 true),(.sl 11980 0 1 1 true)] false 0)) .e) none
.e) none
.e) none
.e) none
.e)) none
.e)))) (some (.cells [(.int .i64 (.ofNat 0)),(.int .i64 (.ofNat 0))] false 0))
(.n (.n (.n .e none
(.n .e none
(.n (.n .e (some (.cells [(.int .u32 (.ofNat 1))] true 1)) .e) none
.e))) none
(.n (.n (.n (.n .e none
(.n .e none
(.n .e (some (.cells [(.int .u32 (.ofNat 1))] true 1)) .e))) none
.e) none
.e) none
.e)) none
(.n (.n .e none
(.n .e none
(.n .e (some (.cells [(.int .u32 (.ofNat 1))] true 1)) .e))) none
(.n (.n (.n (.n .e none
(.n .e none
(.n .e (some (.cells [(.bool false),(.sl 4272 0 1 1 true),(.sl 4274 0 1 1 true)] false 0)) .e))) none
.e) none
.e) none
(.n .e none
(.n (.n .e (some (.cells [(.int .u32 (.ofNat 1))] true 1)) .e) none
.e)))))))), 11981⟩
noncomputable def act2 : Act' := ⟨(.n (.n (.n (.n (.n (.n .e (some (.int .i64 (.ofNat 0))) .e) none
(.n .e (some (.agg [(.int .i64 (.ofNat 2)),(.sl 11 0 8 8 false),(.sl 2 0 3 3 false)])) .e)) (some (.int .i64 (.ofNat 0)))
(.n (.n .e (some (.tup [(.agg [(.bool false),(.sl 11978 0 1 1 true),(.sl 11980 0 1 1 true)]),(.int .i64 (.ofNat 0))])) .e) (some (.sl 174 0 8 8 false))
(.n .e (some (.agg [(.int .i64 (.ofNat 1)),(.sl 16881 0 3 3 false)])) .e))) (some (.sl 384 0 8 8 true))
(.n (.n (.n .e (some (.sl 173 0 8 8 true)) .e) none
(.n .e (some (.agg [(.bool false),.nilsl,(.sl 16866 0 1 1 true)])) .e)) (some (.int .i64 (.ofNat 0)))
(.n (.n .e (some (.tup [(.agg [(.bool false),(.sl 11978 0 1 1 true),(.sl 11980 0 1 1 true)]),(.int .i64 (.ofNat 0))])) .e) (some (.agg [(.int .i64 (.ofNat 1)),(.sl 399 0 3 3 false)]))
(.n .e (some (.int .i64 (.ofNat 0))) .e)))) (some (.ptr 12 0))
(.n (.n (.n (.n .e (some (.agg [(.int .i64 (.ofNat 2)),(.sl 11 0 8 8 false),(.sl 2 0 3 3 false)])) .e) none
(.n .e (some (.sl 384 0 8 8 true)) .e)) (some (.int .i64 (.ofNat 0)))
(.n (.n .e (some (.agg [(.int .i64 (.ofNat 1)),(.sl 4289 0 3 3 false)])) .e) (some (.tup [(.agg [(.bool true),(.sl 1812 0 1 1 true),(.sl 1814 0 1 1 true)]),(.int .i64 (.ofNat 0))]))
(.n .e (some (.tup [(.agg [(.bool true),(.sl 20030 0 1 1 true),(.sl 20032 0 1 1 true)]),(.int .i64 (.ofNat 0))])) .e))) (some (.int .i64 (.ofNat 0)))
(.n (.n (.n .e (some (.agg [(.bool false),(.sl 4272 0 1 1 true),(.sl 4274 0 1 1 true)])) .e) (some (.sl 13 0 8 8 false))
(.n .e (some (.tup [(.agg [(.bool true),(.sl 20030 0 1 1 true),(.sl 20032 0 1 1 true)]),(.int .i64 (.ofNat 0))])) .e)) (some (.int .i64 (.ofNat 0)))
(.n (.n .e (some (.int .i64 (.ofNat 0))) .e) (some (.tup [(.agg [(.bool true),(.sl 1812 0 1 1 true),(.sl 1814 0 1 1 true)]),(.int .i64 (.ofNat 0))]))
.e)))) (some (.bool false))
(.n (.n (.n (.n (.n .e (some (.tup [(.agg [(.bool false),(.sl 4272 0 1 1 true),(.sl 4274 0 1 1 true)]),(.int .i64 (.ofNat 0))])) .e) none
(.n .e (some (.agg [(.int .i64 (.ofNat 1)),(.sl 11995 0 3 3 false)])) .e)) (some (.ptr 4282 0))
(.n (.n .e (some (.agg [(.int .i64 (.ofNat 2)),(.sl 11 0 8 8 false),(.sl 2 0 3 3 false)])) .e) (some (.sl 384 0 8 8 true))
(.n .e (some (.sl 17044 0 8 8 true)) .e))) (some (.ptr 392 0))
(.n (.n (.n .e (some (.tup [(.agg [(.bool false),(.sl 4272 0 1 1 true),(.sl 4274 0 1 1 true)]),(.int .i64 (.ofNat 0))])) .e) (some (.agg [(.int .i64 (.ofNat 2)),(.sl 11 0 8 8 false),(.sl 2 0 3 3 false)]))
(.n .e (some (.int .i64 (.ofNat 0))) .e)) (some (.ptr 16874 0))
(.n (.n .e (some (.agg [(.bool false),(.sl 11978 0 1 1 true),(.sl 11980 0 1 1 true)])) .e) (some (.sl 562 0 8 8 true))
.e))) (some (.sl 173 0 8 8 true))
(.n (.n (.n (.n .e (some (.agg [(.int .i64 (.ofNat 1)),(.sl 1829 0 3 3 false)])) .e) none
(.n .e (some (.tup [(.agg [(.bool false),.nilsl,(.sl 16866 0 1 1 true)]),(.int .i64 (.ofNat 0))])) .e)) (some (.ptr 11988 0))
(.n (.n .e (some (.sl 173 0 8 8 true)) .e) (some (.agg [(.int .i64 (.ofNat 2)),(.sl 11 0 8 8 false),(.sl 2 0 3 3 false)]))
(.n .e (some (.agg [(.bool true),(.sl 20030 0 1 1 true),(.sl 20032 0 1 1 true)])) .e))) (some (.ptr 1822 0))
(.n (.n (.n .e (some (.int .i64 (.ofNat 0))) .e) (some (.sl 173 0 8 8 true))
(.n .e (some (.agg [(.int .i64 (.ofNat 2)),(.sl 11 0 8 8 false),(.sl 2 0 3 3 false)])) .e)) none
(.n (.n .e (some (.tup [(.agg [(.bool false),.nilsl,(.sl 16866 0 1 1 true)]),(.int .i64 (.ofNat 0))])) .e) (some (.agg [(.bool true),(.sl 1812 0 1 1 true),(.sl 1814 0 1 1 true)]))
.e))))), false⟩
noncomputable def sta2 : St := ⟨(.n (.n (.n (.n (.n (.n .e (some (.cells [(.int .u32 (.ofNat 1))] true 1)) .e) none
(.n .e none
(.n .e (some (.cells [(.int .u32 (.ofNat 1))] true 1)) .e))) (some (.cells [(.int .i64 (.ofNat 5)),(.int .i64 (.ofNat 6)),(.int .i64 (.ofNat 7))] false 0))
(.n (.n (.n .e (some (.cells [(.int .u32 (.ofNat 1))] true 1)) .e) none
.e) none
(.n (.n (.n .e (some (.cells [(.int .u32 (.ofNat 1))] true 1)) .e) none
.e) none
.e))) (some (.cells [(.int .i64 (.ofNat 1)),(.int .i64 (.ofNat 2))] false 0))
(.n (.n (.n (.n (.n .e (some (.cells [(.int .u32 (.ofNat 1))] true 1)) .e) none
.e) none
.e) none
(.n .e (some (.cells [(.int .u32 (.ofNat 1))] true 1)) .e)) (some (.cells [(.int .i64 (.ofNat 2)),(.int .i64 (.ofNat 0)),(.int .i64 (.ofNat 0)),(.sl 3 0 2 2 false),.nilsl,.nilsl,(.int .i64 (.ofNat 3)),(.int .i64 (.ofNat 0)),(.int .i64 (.ofNat 0)),.nilsl,.nilsl,(.sl 4 0 2 2 false),(.int .i64 (.ofNat 2)),(.int .i64 (.ofNat 1)),(.int .i64 (.ofNat 1)),(.sl 5 0 2 2 false),.nilsl,.nilsl,(.int .i64 (.ofNat 3)),(.int .i64 (.ofNat 0)),(.int .i64 (.ofNat 0)),.nilsl,.nilsl,(.sl 6 0 2 2 false),(.int .i64 (.ofNat 2)),(.int .i64 (.ofNat 0)),(.int .i64 (.ofNat 2)),(.sl 7 0 3 3 false),.nilsl,.nilsl,(.int .i64 (.ofNat 3)),(.int .i64 (.ofNat 0)),(.int .i64 (.ofNat 0)),.nilsl,.nilsl,(.sl 8 0 2 2 false),(.int .i64 (.ofNat 3)),(.int .i64 (.ofNat 0)),(.int .i64 (.ofNat 0)),.nilsl,.nilsl,(.sl 9 0 2 2 false),(.int .i64 (.ofNat 3)),(.int .i64 (.ofNat 0)),(.int .i64 (.ofNat 0)),.nilsl,.nilsl,(.sl 10 0 2 2 false)] false 0))
(.n (.n .e none
(.n (.n .e (some (.cells [(.int .u32 (.ofNat 1))] true 1)) .e) none
.e)) none
(.n (.n .e (some (.cells [(.int .u32 (.ofNat 1))] true 1)) .e) none
.e)))) none
(.n (.n .e (some (.cells [(.int .i64 (.negSucc 0)),(.int .i64 (.ofNat 1))] false 0)) .e) (some (.cells [(.int .i64 (.ofNat 3)),(.int .i64 (.ofNat 4))] false 0))
(.n .e none
(.n (.n .e none
(.n (.n .e (some (.cells [(.bool false),.nilsl,(.sl 31 0 1 1 true),(.bool false),.nilsl,(.sl 51 0 1 1 true),(.bool false),.nilsl,(.sl 71 0 1 1 true),(.bool false),.nilsl,(.sl 91 0 1 1 true),(.bool false),.nilsl,(.sl 111 0 1 1 true),(.bool false),.nilsl,(.sl 131 0 1 1 true),(.bool false),.nilsl,(.sl 151 0 1 1 true),(.bool false),.nilsl,(.sl 171 0 1 1 true)] true 3)) .e) none
.e)) none
.e)))) (some (.ro [(.int .u8 (.ofNat 0)),(.int .u8 (.ofNat 1)),(.int .u8 (.ofNat 56)),(.int .u8 (.ofNat 2)),(.int .u8 (.ofNat 57)),(.int .u8 (.ofNat 49)),(.int .u8 (.ofNat 28)),(.int .u8 (.ofNat 3)),(.int .u8 (.ofNat 61)),(.int .u8 (.ofNat 58)),(.int .u8 (.ofNat 42)),(.int .u8 (.ofNat 50)),(.int .u8 (.ofNat 38)),(.int .u8 (.ofNat 29)),(.int .u8 (.ofNat 17)),(.int .u8 (.ofNat 4)),(.int .u8 (.ofNat 62)),(.int .u8 (.ofNat 47)),(.int .u8 (.ofNat 59)),(.int .u8 (.ofNat 36)),(.int .u8 (.ofNat 45)),(.int .u8 (.ofNat 43)),(.int .u8 (.ofNat 51)),(.int .u8 (.ofNat 22)),(.int .u8 (.ofNat 53)),(.int .u8 (.ofNat 39)),(.int .u8 (.ofNat 33)),(.int .u8 (.ofNat 30)),(.int .u8 (.ofNat 24)),(.int .u8 (.ofNat 18)),(.int .u8 (.ofNat 12)),(.int .u8 (.ofNat 5)),(.int .u8 (.ofNat 63)),(.int .u8 (.ofNat 55)),(.int .u8 (.ofNat 48)),(.int .u8 (.ofNat 27)),(.int .u8 (.ofNat 60)),(.int .u8 (.ofNat 41)),(.int .u8 (.ofNat 37)),(.int .u8 (.ofNat 16)),(.int .u8 (.ofNat 46)),(.int .u8 (.ofNat 35)),(.int .u8 (.ofNat 44)),(.int .u8 (.ofNat 21)),(.int .u8 (.ofNat 52)),(.int .u8 (.ofNat 32)),(.int .u8 (.ofNat 23)),(.int .u8 (.ofNat 11)),(.int .u8 (.ofNat 54)),(.int .u8 (.ofNat 26)),(.int .u8 (.ofNat 40)),(.int .u8 (.ofNat 15)),(.int .u8 (.ofNat 34)),(.int .u8 (.ofNat 20)),(.int .u8 (.ofNat 31)),(.int .u8 (.ofNat 10)),(.int .u8 (.ofNat 25)),(.int .u8 (.ofNat 14)),(.int .u8 (.ofNat 19)),(.int .u8 (.ofNat 9)),(.int .u8 (.ofNat 13)),(.int .u8 (.ofNat 8)),(.int .u8 (.ofNat 7)),(.int .u8 (.ofNat 6))]))
(.n (.n (.n (.n (.n (.n .e none
(.n (.n (.n .e none
(.n .e none
(.n .e none
(.n (.n (.n .e (some (.cells [(.int .u32 (.ofNat 1))] true 1)) .e) none
.e) none
.e)))) none
.e) none
.e)) none
.e) none
(.n .e none
(.n (.n .e none
(.n (.n (.n (.n (.n .e (some (.cells [(.int .u32 (.ofNat 5))] true 1)) .e) none
.e) none
.e) none
.e) none
.e)) none
.e))) (some (.cells [(.int .i64 (.ofNat 2)),(.int .i64 (.negSucc 1))] false 0))
(.n (.n (.n (.n .e none
(.n .e (some (.cells [(.bool true),(.sl 1812 0 1 1 true),(.sl 1814 0 1 1 true)] false 0)) .e)) none
.e) none
.e) none
.e)) (some (.cells [(.int .i64 (.ofNat 1)),(.int .i64 (.negSucc 0))] false 0))
(.n (.n .e none
(.n (.n (.n (.n .e none
(.n .e none
(.n .e (some (.cells [(.int .u32 (.ofNat 2))] true 1)) .e))) none
.e) none
(.n .e none
(.n (.n .e none
(.n .e none
(.n .e none
(.n (.n .e (some (.cells [(.bool false),.nilsl,(.sl 16866 0 1 1 true)] false 0)) .e) none
.e)))) none
.e))) none
.e)) (some (.cells [(.int .i64 (.ofNat 2)),(.sl 11 0 8 8 false),(.sl 2 0 3 3 false)] false 0))
(.n (.n (.n .e none
(.n .e none
(.n (.n .e none
(.n .e none
(.n .e none
(.n (.n .e (some (.cells [(.int .u32 (.ofNat 64))] true 1)) .e) none
.e)))) none
.e))) none
.e) none
.e))) (some (.cells [(.int .i64 (.ofNat 0)),(.int .i64 (.ofNat 2)),(.int .i64 (.ofNat 1)),(.int .i64 (.ofNat 2)),(.int .i64 (.ofNat 0)),(.int .i64 (.ofNat 3))] false 0))
(.n (.n (.n (.n .e none
(.n .e none
(.n .e none
(.n .e none
(.n (.n (.n (.n (.n (.n .e (some (.cells [(.int .u32 (.ofNat 1))] true 1)) .e) none
.e) none
.e) none
.e) none
.e) none
.e))))) none
(.n .e none
(.n (.n .e none
(.n (.n (.n (.n (.n .e (some (.cells [(.int .u32 (.ofNat 8))] true 1)) .e) none
.e) none
.e) none
.e) none
.e)) none
.e))) (some (.cells [(.int .i64 (.ofNat 3)),(.int .i64 (.negSucc 2))] false 0))
(.n (.n (.n .e none
(.n .e none
(.n (.n .e none
(.n .e none
(.n .e none
(.n (.n .e (some (.cells [(.int .u32 (.ofNat 47))] true 1)) .e) none
.e)))) none
.e))) none
(.n .e none
(.n .e none
(.n .e none
(.n (.n (.n (.n (.n (.n .e (some (.cells [(.bool true),(.sl 20030 0 1 1 true),(.sl 20032 0 1 1 true)] false 0)) .e) none
.e) none
.e) none
.e) none
.e) none
.e))))) none
(.n .e none
(.n (.n .e none
(.n (.n (.n (.n (.n .e (some (.cells [(.bool false),(.sl 11978 0 1 1 true),(.sl 11980 0 1 1 true)] false 0)) .e) none
.e) none
.e) none
.e) none
.e)) none
.e)))) (some (.cells [(.int .i64 (.ofNat 0)),(.int .i64 (.ofNat 0))] false 0))
(.n (.n .e none
(.n (.n (.n (.n .e none
(.n .e none
(.n .e (some (.cells [(.int .u32 (.ofNat 1))] true 1)) .e))) none
.e) none
.e) none
.e)) none
(.n .e none
(.n (.n (.n (.n .e none
(.n .e none
(.n .e (some (.cells [(.bool false),(.sl 4272 0 1 1 true),(.sl 4274 0 1 1 true)] false 0)) .e))) none
.e) none
.e) none
(.n (.n (.n (.n .e none
(.n .e none
(.n .e none
(.n (.n (.n .e (some (.cells [(.int .u32 (.ofNat 3))] true 1)) .e) none
.e) none
.e)))) none
.e) none
.e) none
.e))))))), 20033⟩
noncomputable def act3 : Act' := ⟨(.n (.n (.n (.n (.n (.n (.n .e (some (.sl 20210 0 8 8 true)) .e) (some (.int .i64 (.ofNat 0)))
.e) (some (.int .i64 (.ofNat 0)))
(.n (.n .e (some (.tup [(.agg [(.bool false),.nilsl,.nilsl]),(.int .i64 (.ofNat 10))])) .e) (some (.agg [(.int .i64 (.ofNat 2)),(.sl 11 0 8 8 false),(.sl 2 0 3 3 false)]))
.e)) (some (.int .i64 (.ofNat 0)))
(.n (.n (.n .e (some (.tup [(.agg [(.bool false),.nilsl,.nilsl]),(.int .i64 (.ofNat 2))])) .e) (some (.tup [(.agg [(.bool false),(.sl 11978 0 1 1 true),(.sl 11980 0 1 1 true)]),(.int .i64 (.ofNat 0))]))
.e) (some (.sl 174 0 8 8 false))
(.n .e (some (.agg [(.int .i64 (.ofNat 1)),(.sl 16881 0 3 3 false)])) .e))) (some (.sl 384 0 8 8 true))
(.n (.n (.n (.n .e (some (.tup [(.agg [(.bool false),.nilsl,.nilsl]),(.int .i64 (.ofNat 2))])) .e) (some (.sl 173 0 8 8 true))
.e) (some (.int .i64 (.ofNat 10)))
(.n .e (some (.agg [(.bool false),.nilsl,(.sl 16866 0 1 1 true)])) .e)) (some (.int .i64 (.ofNat 0)))
(.n (.n (.n .e (some (.agg [(.int .i64 (.ofNat 2)),(.sl 11 0 8 8 false),(.sl 2 0 3 3 false)])) .e) (some (.tup [(.agg [(.bool false),(.sl 11978 0 1 1 true),(.sl 11980 0 1 1 true)]),(.int .i64 (.ofNat 0))]))
.e) (some (.agg [(.int .i64 (.ofNat 1)),(.sl 399 0 3 3 false)]))
(.n .e (some (.int .i64 (.ofNat 0))) .e)))) (some (.ptr 12 0))
(.n (.n (.n (.n (.n .e (some (.agg [(.bool true),(.sl 22258 0 1 1 true),(.sl 22260 0 1 1 true)])) .e) (some (.agg [(.int .i64 (.ofNat 2)),(.sl 11 0 8 8 false),(.sl 2 0 3 3 false)]))
.e) (some (.int .i64 (.ofNat 2)))
(.n (.n .e (some (.int .i64 (.ofNat 10))) .e) (some (.sl 384 0 8 8 true))
.e)) (some (.int .i64 (.ofNat 0)))
(.n (.n (.n .e (some (.int .i64 (.ofNat 2))) .e) (some (.agg [(.int .i64 (.ofNat 1)),(.sl 4289 0 3 3 false)]))
.e) (some (.tup [(.agg [(.bool true),(.sl 1812 0 1 1 true),(.sl 1814 0 1 1 true)]),(.int .i64 (.ofNat 0))]))
(.n .e (some (.tup [(.agg [(.bool true),(.sl 20030 0 1 1 true),(.sl 20032 0 1 1 true)]),(.int .i64 (.ofNat 0))])) .e))) (some (.int .i64 (.ofNat 0)))
(.n (.n (.n (.n .e (some (.agg [(.int .i64 (.ofNat 1)),(.sl 22275 0 3 3 false)])) .e) (some (.agg [(.bool false),(.sl 4272 0 1 1 true),(.sl 4274 0 1 1 true)]))
.e) (some (.sl 13 0 8 8 false))
(.n .e (some (.tup [(.agg [(.bool true),(.sl 20030 0 1 1 true),(.sl 20032 0 1 1 true)]),(.int .i64 (.ofNat 0))])) .e)) (some (.int .i64 (.ofNat 0)))
(.n (.n (.n .e (some (.sl 173 0 8 8 true)) .e) (some (.int .i64 (.ofNat 0)))
.e) (some (.tup [(.agg [(.bool true),(.sl 1812 0 1 1 true),(.sl 1814 0 1 1 true)]),(.int .i64 (.ofNat 0))]))
(.n .e (some (.agg [(.int .i64 (.ofNat 2)),(.sl 11 0 8 8 false),(.sl 2 0 3 3 false)])) .e))))) (some (.bool false))
(.n (.n (.n (.n (.n (.n .e (some (.tup [(.agg [(.bool true),(.sl 22258 0 1 1 true),(.sl 22260 0 1 1 true)]),(.int .i64 (.ofNat 0))])) .e) (some (.tup [(.agg [(.bool false),(.sl 4272 0 1 1 true),(.sl 4274 0 1 1 true)]),(.int .i64 (.ofNat 0))]))
.e) (some (.ptr 22268 0))
(.n (.n .e (some (.agg [(.bool false),.nilsl,.nilsl])) .e) (some (.agg [(.int .i64 (.ofNat 1)),(.sl 11995 0 3 3 false)]))
.e)) (some (.ptr 4282 0))
(.n (.n (.n .e (some (.agg [(.bool false),.nilsl,.nilsl])) .e) (some (.agg [(.int .i64 (.ofNat 2)),(.sl 11 0 8 8 false),(.sl 2 0 3 3 false)]))
.e) (some (.sl 384 0 8 8 true))
(.n .e (some (.sl 17044 0 8 8 true)) .e))) (some (.ptr 392 0))
(.n (.n (.n (.n .e (some (.agg [(.int .i64 (.ofNat 2)),(.sl 11 0 8 8 false),(.sl 2 0 3 3 false)])) .e) (some (.tup [(.agg [(.bool false),(.sl 4272 0 1 1 true),(.sl 4274 0 1 1 true)]),(.int .i64 (.ofNat 0))]))
.e) (some (.agg [(.int .i64 (.ofNat 2)),(.sl 11 0 8 8 false),(.sl 2 0 3 3 false)]))
(.n .e (some (.int .i64 (.ofNat 0))) .e)) (some (.ptr 16874 0))
(.n (.n (.n .e (some (.agg [(.int .i64 (.ofNat 1)),(.sl 23363 0 3 3 false)])) .e) (some (.agg [(.bool false),(.sl 11978 0 1 1 true),(.sl 11980 0 1 1 true)]))
.e) (some (.sl 562 0 8 8 true))
(.n .e (some (.tup [(.agg [(.bool true),(.sl 22258 0 1 1 true),(.sl 22260 0 1 1 true)]),(.int .i64 (.ofNat 0))])) .e)))) (some (.sl 173 0 8 8 true))
(.n (.n (.n (.n (.n .e (some (.int .i64 (.ofNat 0))) .e) (some (.agg [(.int .i64 (.ofNat 1)),(.sl 1829 0 3 3 false)]))
.e) (some (.ptr 23356 0))
(.n .e (some (.tup [(.agg [(.bool false),.nilsl,(.sl 16866 0 1 1 true)]),(.int .i64 (.ofNat 0))])) .e)) (some (.ptr 11988 0))
(.n (.n (.n .e (some (.tup [(.agg [(.bool false),.nilsl,.nilsl]),(.int .i64 (.ofNat 10))])) .e) (some (.sl 173 0 8 8 true))
.e) (some (.agg [(.int .i64 (.ofNat 2)),(.sl 11 0 8 8 false),(.sl 2 0 3 3 false)]))
(.n .e (some (.agg [(.bool true),(.sl 20030 0 1 1 true),(.sl 20032 0 1 1 true)])) .e))) (some (.ptr 1822 0))
(.n (.n (.n (.n .e (some (.sl 22438 0 8 8 true)) .e) (some (.int .i64 (.ofNat 0)))
.e) (some (.sl 173 0 8 8 true))
(.n .e (some (.agg [(.int .i64 (.ofNat 2)),(.sl 11 0 8 8 false),(.sl 2 0 3 3 false)])) .e)) (some (.ptr 20040 0))
(.n (.n (.n .e (some (.sl 173 0 2 8 true)) .e) (some (.tup [(.agg [(.bool false),.nilsl,(.sl 16866 0 1 1 true)]),(.int .i64 (.ofNat 0))]))
.e) (some (.agg [(.bool true),(.sl 1812 0 1 1 true),(.sl 1814 0 1 1 true)]))
(.n .e (some (.agg [(.int .i64 (.ofNat 1)),(.sl 20047 0 3 3 false)])) .e)))))), false⟩
noncomputable def sta3 : St := ⟨(.n .e (some (.ro [(.int .u8 (.ofNat 0)),(.int .u8 (.ofNat 1)),(.int .u8 (.ofNat 56)),(.int .u8 (.ofNat 2)),(.int .u8 (.ofNat 57)),(.int .u8 (.ofNat 49)),(.int .u8 (.ofNat 28)),(.int .u8 (.ofNat 3)),(.int .u8 (.ofNat 61)),(.int .u8 (.ofNat 58)),(.int .u8 (.ofNat 42)),(.int .u8 (.ofNat 50)),(.int .u8 (.ofNat 38)),(.int .u8 (.ofNat 29)),(.int .u8 (.ofNat 17)),(.int .u8 (.ofNat 4)),(.int .u8 (.ofNat 62)),(.int .u8 (.ofNat 47)),(.int .u8 (.ofNat 59)),(.int .u8 (.ofNat 36)),(.int .u8 (.ofNat 45)),(.int .u8 (.ofNat 43)),(.int .u8 (.ofNat 51)),(.int .u8 (.ofNat 22)),(.int .u8 (.ofNat 53)),(.int .u8 (.ofNat 39)),(.int .u8 (.ofNat 33)),(.int .u8 (.ofNat 30)),(.int .u8 (.ofNat 24)),(.int .u8 (.ofNat 18)),(.int .u8 (.ofNat 12)),(.int .u8 (.ofNat 5)),(.int .u8 (.ofNat 63)),(.int .u8 (.ofNat 55)),(.int .u8 (.ofNat 48)),(.int .u8 (.ofNat 27)),(.int .u8 (.ofNat 60)),(.int .u8 (.ofNat 41)),(.int .u8 (.ofNat 37)),(.int .u8 (.ofNat 16)),(.int .u8 (.ofNat 46)),(.int .u8 (.ofNat 35)),(.int .u8 (.ofNat 44)),(.int .u8 (.ofNat 21)),(.int .u8 (.ofNat 52)),(.int .u8 (.ofNat 32)),(.int .u8 (.ofNat 23)),(.int .u8 (.ofNat 11)),(.int .u8 (.ofNat 54)),(.int .u8 (.ofNat 26)),(.int .u8 (.ofNat 40)),(.int .u8 (.ofNat 15)),(.int .u8 (.ofNat 34)),(.int .u8 (.ofNat 20)),(.int .u8 (.ofNat 31)),(.int .u8 (.ofNat 10)),(.int .u8 (.ofNat 25)),(.int .u8 (.ofNat 14)),(.int .u8 (.ofNat 19)),(.int .u8 (.ofNat 9)),(.int .u8 (.ofNat 13)),(.int .u8 (.ofNat 8)),(.int .u8 (.ofNat 7)),(.int .u8 (.ofNat 6))]))
(.n (.n (.n (.n (.n (.n .e none
(.n (.n (.n .e none
(.n .e none
(.n .e none
(.n (.n (.n .e (some (.cells [(.int .u32 (.ofNat 1))] true 1)) .e) none
.e) none
.e)))) none
.e) none
.e)) none
.e) none
(.n .e none
(.n (.n .e none
(.n (.n (.n (.n (.n .e (some (.cells [(.int .u32 (.ofNat 5))] true 1)) .e) none
.e) none
.e) none
.e) none
.e)) none
.e))) none
(.n (.n (.n (.n .e none
(.n .e (some (.cells [(.bool true),(.sl 1812 0 1 1 true),(.sl 1814 0 1 1 true)] false 0)) .e)) none
(.n (.n (.n .e none
(.n .e none
(.n .e none
(.n (.n (.n .e (some (.cells [(.bool true),(.sl 22258 0 1 1 true),(.sl 22260 0 1 1 true)] false 0)) .e) none
.e) none
.e)))) none
.e) none
.e)) none
.e) none
.e)) none
(.n (.n .e none
(.n (.n (.n (.n .e none
(.n .e none
(.n .e (some (.cells [(.int .u32 (.ofNat 2))] true 1)) .e))) none
.e) none
(.n .e none
(.n (.n .e none
(.n .e none
(.n .e none
(.n (.n .e (some (.cells [(.bool false),.nilsl,(.sl 16866 0 1 1 true)] false 0)) .e) none
.e)))) none
.e))) none
(.n .e none
(.n .e none
(.n (.n .e none
(.n .e none
(.n (.n .e none
(.n (.n .e (some (.cells [(.int .u32 (.ofNat 1))] true 1)) .e) none
.e)) none
.e))) none
.e))))) none
(.n (.n (.n .e none
(.n .e none
(.n (.n .e none
(.n .e none
(.n .e none
(.n (.n .e (some (.cells [(.int .u32 (.ofNat 64))] true 1)) .e) none
.e)))) none
.e))) none
.e) none
.e))) none
(.n (.n (.n (.n .e none
(.n .e none
(.n .e none
(.n .e none
(.n (.n (.n (.n (.n (.n .e (some (.cells [(.int .u32 (.ofNat 1))] true 1)) .e) none
.e) none
.e) none
.e) none
.e) none
.e))))) none
(.n .e none
(.n (.n .e none
(.n (.n (.n (.n (.n .e (some (.cells [(.int .u32 (.ofNat 8))] true 1)) .e) none
.e) none
.e) none
.e) none
.e)) none
(.n .e none
(.n (.n .e none
(.n .e none
(.n (.n .e none
(.n (.n .e (some (.cells [(.int .u32 (.ofNat 1))] true 1)) .e) none
.e)) none
.e))) none
.e))))) none
(.n (.n (.n .e none
(.n .e none
(.n (.n .e none
(.n .e none
(.n .e none
(.n (.n .e (some (.cells [(.int .u32 (.ofNat 47))] true 1)) .e) none
.e)))) none
.e))) none
(.n .e none
(.n .e none
(.n .e none
(.n (.n (.n (.n (.n (.n .e (some (.cells [(.bool true),(.sl 20030 0 1 1 true),(.sl 20032 0 1 1 true)] false 0)) .e) none
.e) none
.e) none
.e) none
.e) none
.e))))) none
(.n .e none
(.n (.n .e none
(.n (.n (.n (.n (.n .e (some (.cells [(.bool false),(.sl 11978 0 1 1 true),(.sl 11980 0 1 1 true)] false 0)) .e) none
.e) none
.e) none
.e) none
.e)) none
.e)))) none
(.n (.n .e none
(.n (.n (.n (.n .e none
(.n .e none
(.n .e (some (.cells [(.int .u32 (.ofNat 1))] true 1)) .e))) none
.e) none
.e) none
.e)) none
(.n .e none
(.n (.n (.n (.n .e none
(.n .e none
(.n .e (some (.cells [(.bool false),(.sl 4272 0 1 1 true),(.sl 4274 0 1 1 true)] false 0)) .e))) none
.e) none
.e) none
(.n (.n (.n (.n .e none
(.n .e none
(.n .e none
(.n (.n (.n .e (some (.cells [(.int .u32 (.ofNat 3))] true 1)) .e) none
.e) none
.e)))) none
.e) none
.e) none
.e))))))), 24215⟩
end Go.Proofs.YtopemogpgppjlaaGreatDoor.reduceKnown
