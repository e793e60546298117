/- DealKnown: what is kept between the stages, written by program. -/
import Derived.Test.YtiiplmagnlcpbaaGreatDoorEv7
namespace Go.Proofs.YtiiplmagnlcpbaaGreatDoor.dealKnown
open Go.Ev
set_option maxRecDepth 100000
noncomputable def act0 : Act' := ⟨(.n (.n (.n (.n (.n (.n .e (some (.sl 5373 0 3 3 false)) .e) (some (.bool false))
.e) none
(.n .e (some (.bool false)) .e)) none
(.n (.n .e (some (.bool false)) .e) none
(.n .e (some (.bool true)) .e))) none
(.n (.n (.n (.n .e (some (.bool false)) .e) (some (.bool true))
.e) none
(.n .e (some (.bool false)) .e)) none
(.n (.n .e (some (.sl 3013 0 3 3 false)) .e) (some (.bool true))
(.n .e (some (.bool false)) .e)))) (some (.bool false))
(.n (.n (.n (.n (.n .e (some (.bool true)) .e) (some (.sl 1477 0 4 4 false))
.e) none
(.n .e (some (.bool false)) .e)) none
(.n (.n .e (some (.bool false)) .e) (some (.sl 1 0 2 2 false))
(.n .e (some (.bool false)) .e))) none
(.n (.n (.n (.n .e (some (.bool false)) .e) (some (.bool false))
.e) none
(.n .e (some (.sl 4518 0 3 3 false)) .e)) none
(.n (.n .e (some (.bool true)) .e) (some (.bool false))
(.n .e (some (.bool false)) .e))))), false⟩
noncomputable def sta0 : St := ⟨(.n .e (some (.ro [(.int .u8 (.ofNat 0)),(.int .u8 (.ofNat 1)),(.int .u8 (.ofNat 56)),(.int .u8 (.ofNat 2)),(.int .u8 (.ofNat 57)),(.int .u8 (.ofNat 49)),(.int .u8 (.ofNat 28)),(.int .u8 (.ofNat 3)),(.int .u8 (.ofNat 61)),(.int .u8 (.ofNat 58)),(.int .u8 (.ofNat 42)),(.int .u8 (.ofNat 50)),(.int .u8 (.ofNat 38)),(.int .u8 (.ofNat 29)),(.int .u8 (.ofNat 17)),(.int .u8 (.ofNat 4)),(.int .u8 (.ofNat 62)),(.int .u8 (.ofNat 47)),(.int .u8 (.ofNat 59)),(.int .u8 (.ofNat 36)),(.int .u8 (.ofNat 45)),(.int .u8 (.ofNat 43)),(.int .u8 (.ofNat 51)),(.int .u8 (.ofNat 22)),(.int .u8 (.ofNat 53)),(.int .u8 (.ofNat 39)),(.int .u8 (.ofNat 33)),(.int .u8 (.ofNat 30)),(.int .u8 (.ofNat 24)),(.int .u8 (.ofNat 18)),(.int .u8 (.ofNat 12)),(.int .u8 (.ofNat 5)),(.int .u8 (.ofNat 63)),(.int .u8 (.ofNat 55)),(.int .u8 (.ofNat 48)),(.int .u8 (.ofNat 27)),(.int .u8 (.ofNat 60)),(.int .u8 (.ofNat 41)),(.int .u8 (.ofNat 37)),(.int .u8 (.ofNat 16)),(.int .u8 (.ofNat 46)),(.int .u8 (.ofNat 35)),(.int .u8 (.ofNat 44)),(.int .u8 (.ofNat 21)),(.int .u8 (.ofNat 52)),(.int .u8 (.ofNat 32)),(.int .u8 (.ofNat 23)),(.int .u8 (.ofNat 11)),(.int .u8 (.ofNat 54)),(.int .u8 (.ofNat 26)),(.int .u8 (.ofNat 40)),(.int .u8 (.ofNat 15)),(.int .u8 (.ofNat 34)),(.int .u8 (.ofNat 20)),(.int .u8 (.ofNat 31)),(.int .u8 (.ofNat 10)),(.int .u8 (.ofNat 25)),(.int .u8 (.ofNat 14)),(.int .u8 (.ofNat 19)),(.int .u8 (.ofNat 9)),(.int .u8 (.ofNat 13)),(.int .u8 (.ofNat 8)),(.int .u8 (.ofNat 7)),(.int .u8 (.ofNat 6))])) .e), 6228⟩
noncomputable def act1 : Act' := ⟨(.n (.n (.n (.n (.n (.n .e (some (.sl 5373 0 3 3 false)) .e) (some (.bool false))
(.n .e (some (.tup [(.int .i64 (.ofNat 4)),(.int .i64 (.ofNat 0))])) .e)) none
(.n (.n .e (some .nilsl) .e) (some (.bool false))
.e)) (some (.int .i64 (.ofNat 0)))
(.n (.n (.n .e (some (.tup [.nilsl,(.int .i64 (.ofNat 2))])) .e) (some (.bool false))
(.n .e (some (.int .i64 (.ofNat 4))) .e)) none
(.n (.n .e (some (.sl 7670 0 1 1 false)) .e) (some (.bool true))
.e))) (some .nilsl)
(.n (.n (.n (.n .e (some (.bool false)) .e) (some (.bool true))
(.n .e (some (.sl 9143 0 1 1 false)) .e)) none
(.n (.n .e (some (.tup [(.int .i64 (.ofNat 0)),(.int .i64 (.ofNat 0))])) .e) (some (.bool false))
.e)) (some (.int .i64 (.ofNat 4)))
(.n (.n (.n .e (some (.sl 6244 0 1 1 false)) .e) (some (.sl 3013 0 3 3 false))
.e) (some (.bool true))
(.n (.n .e (some (.int .i64 (.ofNat 0))) .e) (some (.bool false))
.e)))) (some (.bool false))
(.n (.n (.n (.n (.n .e (some (.bool true)) .e) (some (.sl 1477 0 4 4 false))
(.n .e (some (.agg [(.int .i64 (.ofNat 1)),(.sl 9141 0 7 7 false),(.sl 9142 0 1 1 false)])) .e)) none
(.n (.n .e (some (.int .i64 (.ofNat 2))) .e) (some (.bool false))
.e)) (some (.int .i64 (.ofNat 0)))
(.n (.n (.n .e (some (.agg [(.int .i64 (.ofNat 1)),(.sl 6242 0 7 7 false),(.sl 6243 0 1 1 false)])) .e) (some (.bool false))
(.n .e (some (.int .i64 (.ofNat 0))) .e)) (some (.sl 1 0 2 2 false))
(.n (.n .e (some (.tup [(.int .i64 (.ofNat 0)),(.int .i64 (.ofNat 0))])) .e) (some (.bool false))
.e))) (some (.int .i64 (.ofNat 2)))
(.n (.n (.n (.n .e (some (.bool false)) .e) (some (.bool false))
(.n .e (some (.tup [(.int .i64 (.ofNat 4)),(.int .i64 (.ofNat 0))])) .e)) none
(.n (.n .e (some (.agg [(.int .i64 (.ofNat 1)),(.sl 7668 0 7 7 false),(.sl 7669 0 1 1 false)])) .e) (some (.sl 4518 0 3 3 false))
.e)) (some (.int .i64 (.ofNat 0)))
(.n (.n (.n .e (some (.tup [.nilsl,(.int .i64 (.ofNat 2))])) .e) (some (.bool true))
.e) (some (.bool false))
(.n (.n .e (some (.int .i64 (.ofNat 0))) .e) (some (.bool false))
.e))))), false⟩
noncomputable def sta1 : St := ⟨(.n .e (some (.ro [(.int .u8 (.ofNat 0)),(.int .u8 (.ofNat 1)),(.int .u8 (.ofNat 56)),(.int .u8 (.ofNat 2)),(.int .u8 (.ofNat 57)),(.int .u8 (.ofNat 49)),(.int .u8 (.ofNat 28)),(.int .u8 (.ofNat 3)),(.int .u8 (.ofNat 61)),(.int .u8 (.ofNat 58)),(.int .u8 (.ofNat 42)),(.int .u8 (.ofNat 50)),(.int .u8 (.ofNat 38)),(.int .u8 (.ofNat 29)),(.int .u8 (.ofNat 17)),(.int .u8 (.ofNat 4)),(.int .u8 (.ofNat 62)),(.int .u8 (.ofNat 47)),(.int .u8 (.ofNat 59)),(.int .u8 (.ofNat 36)),(.int .u8 (.ofNat 45)),(.int .u8 (.ofNat 43)),(.int .u8 (.ofNat 51)),(.int .u8 (.ofNat 22)),(.int .u8 (.ofNat 53)),(.int .u8 (.ofNat 39)),(.int .u8 (.ofNat 33)),(.int .u8 (.ofNat 30)),(.int .u8 (.ofNat 24)),(.int .u8 (.ofNat 18)),(.int .u8 (.ofNat 12)),(.int .u8 (.ofNat 5)),(.int .u8 (.ofNat 63)),(.int .u8 (.ofNat 55)),(.int .u8 (.ofNat 48)),(.int .u8 (.ofNat 27)),(.int .u8 (.ofNat 60)),(.int .u8 (.ofNat 41)),(.int .u8 (.ofNat 37)),(.int .u8 (.ofNat 16)),(.int .u8 (.ofNat 46)),(.int .u8 (.ofNat 35)),(.int .u8 (.ofNat 44)),(.int .u8 (.ofNat 21)),(.int .u8 (.ofNat 52)),(.int .u8 (.ofNat 32)),(.int .u8 (.ofNat 23)),(.int .u8 (.ofNat 11)),(.int .u8 (.ofNat 54)),(.int .u8 (.ofNat 26)),(.int .u8 (.ofNat 40)),(.int .u8 (.ofNat 15)),(.int .u8 (.ofNat 34)),(.int .u8 (.ofNat 20)),(.int .u8 (.ofNat 31)),(.int .u8 (.ofNat 10)),(.int .u8 (.ofNat 25)),(.int .u8 (.ofNat 14)),(.int .u8 (.ofNat 19)),(.int .u8 (.ofNat 9)),(.int .u8 (.ofNat 13)),(.int .u8 (.ofNat 8)),(.int .u8 (.ofNat 7)),(.int .u8 (.ofNat 6))])) .e), 10612⟩
noncomputable def act2 : Act' := ⟨(.n (.n (.n (.n (.n (.n (.n .e (some (.bool false)) .e) (some (.sl 5373 0 3 3 false))
.e) (some (.bool false))
(.n (.n .e (some (.bool false)) .e) (some (.tup [(.int .i64 (.ofNat 4)),(.int .i64 (.ofNat 0))]))
.e)) (some (.int .i64 (.ofNat 0)))
(.n (.n (.n .e (some (.bool false)) .e) (some .nilsl)
.e) (some (.bool false))
(.n .e (some (.sl 10628 0 1 1 false)) .e))) (some (.int .i64 (.ofNat 0)))
(.n (.n (.n (.n .e (some (.bool false)) .e) (some (.tup [.nilsl,(.int .i64 (.ofNat 2))]))
.e) (some (.bool false))
(.n (.n .e (some (.sl 12102 0 1 1 false)) .e) (some (.int .i64 (.ofNat 4)))
.e)) none
(.n (.n (.n .e (some (.bool false)) .e) (some (.sl 7670 0 1 1 false))
.e) (some (.bool true))
(.n .e (some (.int .i64 (.ofNat 2))) .e)))) (some .nilsl)
(.n (.n (.n (.n (.n .e (some (.bool false)) .e) (some (.bool false))
.e) (some (.bool true))
(.n (.n .e (some (.tup [(.sl 13579 0 1 1 true),(.int .i64 (.ofNat 0))])) .e) (some (.sl 9143 0 1 1 false))
.e)) (some (.sl 13579 0 1 1 true))
(.n (.n (.n .e (some (.bool false)) .e) (some (.tup [(.int .i64 (.ofNat 0)),(.int .i64 (.ofNat 0))]))
.e) (some (.bool false))
(.n .e (some (.int .i64 (.ofNat 0))) .e))) (some (.int .i64 (.ofNat 4)))
(.n (.n (.n (.n .e (some (.bool false)) .e) (some (.sl 6244 0 1 1 false))
.e) (some (.sl 3013 0 3 3 false))
(.n (.n .e (some (.sl 13579 0 1 1 true)) .e) (some (.tup [(.int .i64 (.ofNat 0)),(.int .i64 (.ofNat 18))]))
.e)) (some (.bool true))
(.n (.n (.n .e (some (.bool false)) .e) (some (.int .i64 (.ofNat 0)))
.e) (some (.bool false))
(.n .e (some (.bool false)) .e))))) (some (.bool false))
(.n (.n (.n (.n (.n (.n .e (some (.bool false)) .e) (some (.bool true))
.e) (some (.sl 1477 0 4 4 false))
(.n (.n .e (some (.bool false)) .e) (some (.agg [(.int .i64 (.ofNat 1)),(.sl 9141 0 7 7 false),(.sl 9142 0 1 1 false)]))
.e)) (some (.int .i64 (.ofNat 18)))
(.n (.n (.n .e (some (.bool false)) .e) (some (.int .i64 (.ofNat 2)))
.e) (some (.bool false))
(.n .e (some (.tup [(.int .i64 (.ofNat 0)),(.int .i64 (.ofNat 18))])) .e))) (some (.int .i64 (.ofNat 0)))
(.n (.n (.n (.n .e (some (.bool false)) .e) (some (.agg [(.int .i64 (.ofNat 1)),(.sl 6242 0 7 7 false),(.sl 6243 0 1 1 false)]))
.e) (some (.bool false))
(.n (.n .e (some (.tup [(.sl 13579 0 1 1 true),(.int .i64 (.ofNat 0))])) .e) (some (.int .i64 (.ofNat 0)))
.e)) (some (.sl 1 0 2 2 false))
(.n (.n (.n .e (some (.bool false)) .e) (some (.tup [(.int .i64 (.ofNat 0)),(.int .i64 (.ofNat 0))]))
.e) (some (.bool false))
(.n .e (some (.bool false)) .e)))) (some (.int .i64 (.ofNat 0)))
(.n (.n (.n (.n (.n .e (some (.int .i64 (.ofNat 0))) .e) (some (.bool false))
.e) (some (.bool false))
(.n (.n .e (some (.agg [(.int .i64 (.ofNat 1)),(.sl 12100 0 7 7 false),(.sl 12101 0 1 1 false)])) .e) (some (.tup [(.int .i64 (.ofNat 4)),(.int .i64 (.ofNat 0))]))
.e)) none
(.n (.n (.n .e (some (.int .i64 (.ofNat 0))) .e) (some (.agg [(.int .i64 (.ofNat 1)),(.sl 7668 0 7 7 false),(.sl 7669 0 1 1 false)]))
.e) (some (.sl 4518 0 3 3 false))
(.n .e (some (.int .i64 (.ofNat 18))) .e))) (some (.int .i64 (.ofNat 0)))
(.n (.n (.n (.n .e (some (.int .i64 (.ofNat 4))) .e) (some (.tup [.nilsl,(.int .i64 (.ofNat 2))]))
.e) (some (.bool true))
(.n (.n .e (some (.int .i64 (.ofNat 0))) .e) (some (.agg [(.int .i64 (.ofNat 1)),(.sl 10626 0 7 7 false),(.sl 10627 0 1 1 false)]))
.e)) (some (.bool false))
(.n (.n (.n .e (some (.int .i64 (.ofNat 18))) .e) (some (.int .i64 (.ofNat 0)))
.e) (some (.bool false))
(.n .e (some (.int .i64 (.ofNat 0))) .e)))))), false⟩
noncomputable def sta2 : St := ⟨(.n (.n (.n .e none
(.n .e none
(.n (.n (.n (.n (.n .e none
(.n (.n .e none
(.n (.n .e none
(.n .e (some (.cells [(.int .i64 (.ofNat 5))] true 1)) .e)) none
.e)) none
.e)) none
.e) none
.e) none
.e) none
.e))) none
.e) (some (.ro [(.int .u8 (.ofNat 0)),(.int .u8 (.ofNat 1)),(.int .u8 (.ofNat 56)),(.int .u8 (.ofNat 2)),(.int .u8 (.ofNat 57)),(.int .u8 (.ofNat 49)),(.int .u8 (.ofNat 28)),(.int .u8 (.ofNat 3)),(.int .u8 (.ofNat 61)),(.int .u8 (.ofNat 58)),(.int .u8 (.ofNat 42)),(.int .u8 (.ofNat 50)),(.int .u8 (.ofNat 38)),(.int .u8 (.ofNat 29)),(.int .u8 (.ofNat 17)),(.int .u8 (.ofNat 4)),(.int .u8 (.ofNat 62)),(.int .u8 (.ofNat 47)),(.int .u8 (.ofNat 59)),(.int .u8 (.ofNat 36)),(.int .u8 (.ofNat 45)),(.int .u8 (.ofNat 43)),(.int .u8 (.ofNat 51)),(.int .u8 (.ofNat 22)),(.int .u8 (.ofNat 53)),(.int .u8 (.ofNat 39)),(.int .u8 (.ofNat 33)),(.int .u8 (.ofNat 30)),(.int .u8 (.ofNat 24)),(.int .u8 (.ofNat 18)),(.int .u8 (.ofNat 12)),(.int .u8 (.ofNat 5)),(.int .u8 (.ofNat 63)),(.int .u8 (.ofNat 55)),(.int .u8 (.ofNat 48)),(.int .u8 (.ofNat 27)),(.int .u8 (.ofNat 60)),(.int .u8 (.ofNat 41)),(.int .u8 (.ofNat 37)),(.int .u8 (.ofNat 16)),(.int .u8 (.ofNat 46)),(.int .u8 (.ofNat 35)),(.int .u8 (.ofNat 44)),(.int .u8 (.ofNat 21)),(.int .u8 (.ofNat 52)),(.int .u8 (.ofNat 32)),(.int .u8 (.ofNat 23)),(.int .u8 (.ofNat 11)),(.int .u8 (.ofNat 54)),(.int .u8 (.ofNat 26)),(.int .u8 (.ofNat 40)),(.int .u8 (.ofNat 15)),(.int .u8 (.ofNat 34)),(.int .u8 (.ofNat 20)),(.int .u8 (.ofNat 31)),(.int .u8 (.ofNat 10)),(.int .u8 (.ofNat 25)),(.int .u8 (.ofNat 14)),(.int .u8 (.ofNat 19)),(.int .u8 (.ofNat 9)),(.int .u8 (.ofNat 13)),(.int .u8 (.ofNat 8)),(.int .u8 (.ofNat 7)),(.int .u8 (.ofNat 6))]))
.e), 13580⟩
noncomputable def act3 : Act' := ⟨(.n (.n (.n (.n (.n (.n (.n .e (some (.bool false)) .e) (some (.sl 5373 0 3 3 false))
(.n .e (some (.sl 16032 0 1 1 false)) .e)) (some (.bool false))
(.n (.n .e (some (.bool false)) .e) (some (.tup [(.int .i64 (.ofNat 4)),(.int .i64 (.ofNat 0))]))
.e)) (some (.int .i64 (.ofNat 0)))
(.n (.n (.n .e (some (.bool false)) .e) (some .nilsl)
.e) (some (.bool false))
(.n (.n .e (some (.tup [(.sl 15053 0 1 1 false),(.int .i64 (.ofNat 0))])) .e) (some (.sl 10628 0 1 1 false))
.e))) (some (.int .i64 (.ofNat 0)))
(.n (.n (.n (.n .e (some (.bool false)) .e) (some (.tup [.nilsl,(.int .i64 (.ofNat 2))]))
.e) (some (.bool false))
(.n (.n .e (some (.sl 12102 0 1 1 false)) .e) (some (.int .i64 (.ofNat 4)))
.e)) (some (.sl 17489 0 1 1 false))
(.n (.n (.n .e (some (.bool false)) .e) (some (.sl 7670 0 1 1 false))
.e) (some (.bool true))
(.n (.n .e (some (.sl 15053 0 1 1 false)) .e) (some (.int .i64 (.ofNat 2)))
.e)))) (some .nilsl)
(.n (.n (.n (.n (.n .e (some (.bool false)) .e) (some (.bool false))
(.n .e (some (.sl 17489 0 1 1 false)) .e)) (some (.bool true))
(.n (.n .e (some (.tup [(.sl 13579 0 1 1 true),(.int .i64 (.ofNat 0))])) .e) (some (.sl 9143 0 1 1 false))
.e)) (some (.sl 13579 0 1 1 true))
(.n (.n (.n .e (some (.bool false)) .e) (some (.tup [(.int .i64 (.ofNat 0)),(.int .i64 (.ofNat 0))]))
.e) (some (.bool false))
(.n (.n .e (some (.sl 13596 0 1 1 false)) .e) (some (.int .i64 (.ofNat 0)))
.e))) (some (.int .i64 (.ofNat 4)))
(.n (.n (.n (.n .e (some (.bool false)) .e) (some (.sl 6244 0 1 1 false))
.e) (some (.sl 3013 0 3 3 false))
(.n (.n .e (some (.sl 13579 0 1 1 true)) .e) (some (.tup [(.int .i64 (.ofNat 0)),(.int .i64 (.ofNat 18))]))
.e)) (some (.bool true))
(.n (.n (.n .e (some (.bool false)) .e) (some (.int .i64 (.ofNat 0)))
.e) (some (.bool false))
(.n (.n .e (some (.tup [(.sl 17489 0 1 1 false),(.int .i64 (.ofNat 0))])) .e) (some (.bool false))
.e))))) (some (.bool false))
(.n (.n (.n (.n (.n (.n .e (some (.bool false)) .e) (some (.bool true))
(.n .e (some (.tup [(.sl 17489 0 1 1 false),(.int .i64 (.ofNat 0))])) .e)) (some (.sl 1477 0 4 4 false))
(.n (.n .e (some (.bool false)) .e) (some (.agg [(.int .i64 (.ofNat 1)),(.sl 9141 0 7 7 false),(.sl 9142 0 1 1 false)]))
.e)) (some (.int .i64 (.ofNat 18)))
(.n (.n (.n .e (some (.bool false)) .e) (some (.int .i64 (.ofNat 2)))
.e) (some (.bool false))
(.n (.n .e (some (.agg [(.int .i64 (.ofNat 1)),(.sl 13594 0 7 7 false),(.sl 13595 0 1 1 false)])) .e) (some (.tup [(.int .i64 (.ofNat 0)),(.int .i64 (.ofNat 18))]))
.e))) (some (.int .i64 (.ofNat 0)))
(.n (.n (.n (.n .e (some (.bool false)) .e) (some (.agg [(.int .i64 (.ofNat 1)),(.sl 6242 0 7 7 false),(.sl 6243 0 1 1 false)]))
.e) (some (.bool false))
(.n (.n .e (some (.tup [(.sl 13579 0 1 1 true),(.int .i64 (.ofNat 0))])) .e) (some (.int .i64 (.ofNat 0)))
.e)) (some (.sl 1 0 2 2 false))
(.n (.n (.n .e (some (.bool false)) .e) (some (.tup [(.int .i64 (.ofNat 0)),(.int .i64 (.ofNat 0))]))
.e) (some (.bool false))
(.n (.n .e (some (.int .i64 (.ofNat 0))) .e) (some (.bool false))
.e)))) (some (.int .i64 (.ofNat 0)))
(.n (.n (.n (.n (.n .e (some (.int .i64 (.ofNat 0))) .e) (some (.bool false))
(.n .e (some (.int .i64 (.ofNat 0))) .e)) (some (.bool false))
(.n (.n .e (some (.agg [(.int .i64 (.ofNat 1)),(.sl 12100 0 7 7 false),(.sl 12101 0 1 1 false)])) .e) (some (.tup [(.int .i64 (.ofNat 4)),(.int .i64 (.ofNat 0))]))
.e)) (some (.sl 15053 0 1 1 false))
(.n (.n (.n .e (some (.int .i64 (.ofNat 0))) .e) (some (.agg [(.int .i64 (.ofNat 1)),(.sl 7668 0 7 7 false),(.sl 7669 0 1 1 false)]))
.e) (some (.sl 4518 0 3 3 false))
(.n (.n .e (some (.tup [(.sl 15053 0 1 1 false),(.int .i64 (.ofNat 0))])) .e) (some (.int .i64 (.ofNat 18)))
.e))) (some (.int .i64 (.ofNat 0)))
(.n (.n (.n (.n .e (some (.int .i64 (.ofNat 4))) .e) (some (.tup [.nilsl,(.int .i64 (.ofNat 2))]))
.e) (some (.bool true))
(.n (.n .e (some (.int .i64 (.ofNat 0))) .e) (some (.agg [(.int .i64 (.ofNat 1)),(.sl 10626 0 7 7 false),(.sl 10627 0 1 1 false)]))
.e)) (some (.bool false))
(.n (.n (.n .e (some (.int .i64 (.ofNat 18))) .e) (some (.int .i64 (.ofNat 0)))
.e) (some (.bool false))
(.n (.n .e (some (.agg [(.int .i64 (.ofNat 1)),(.sl 16030 0 7 7 false),(.sl 16031 0 1 1 false)])) .e) (some (.int .i64 (.ofNat 0)))
.e)))))), false⟩
noncomputable def sta3 : St := ⟨(.n (.n (.n .e none
(.n .e none
(.n (.n (.n (.n (.n .e none
(.n (.n .e none
(.n (.n .e none
(.n .e (some (.cells [(.int .i64 (.ofNat 5))] true 1)) .e)) none
.e)) none
.e)) none
(.n (.n .e none
(.n .e none
(.n .e none
(.n .e none
(.n .e (some (.cells [(.int .u32 (.ofNat 7))] true 1)) .e))))) none
.e)) none
.e) none
.e) none
.e))) none
(.n (.n (.n .e none
(.n (.n .e none
(.n (.n (.n (.n .e none
(.n (.n (.n (.n .e (some (.cells [(.bool false),(.sl 18168 0 1 1 true),(.sl 18169 0 1 1 true)] false 0)) .e) none
.e) none
.e) none
.e)) none
.e) none
.e) none
.e)) none
.e)) none
(.n .e none
(.n .e none
(.n .e none
(.n .e none
(.n (.n .e none
(.n .e none
(.n (.n (.n (.n .e (some (.cells [(.int .u32 (.ofNat 3))] true 1)) .e) none
.e) none
.e) none
.e))) none
.e)))))) none
(.n .e none
(.n (.n (.n .e none
(.n .e none
(.n (.n .e none
(.n (.n .e none
(.n .e none
(.n .e (some (.cells [(.bool false),(.sl 16011 0 1 1 true),(.sl 16012 0 1 1 true)] false 0)) .e))) none
.e)) none
.e))) none
.e) none
.e)))) (some (.ro [(.int .u8 (.ofNat 0)),(.int .u8 (.ofNat 1)),(.int .u8 (.ofNat 56)),(.int .u8 (.ofNat 2)),(.int .u8 (.ofNat 57)),(.int .u8 (.ofNat 49)),(.int .u8 (.ofNat 28)),(.int .u8 (.ofNat 3)),(.int .u8 (.ofNat 61)),(.int .u8 (.ofNat 58)),(.int .u8 (.ofNat 42)),(.int .u8 (.ofNat 50)),(.int .u8 (.ofNat 38)),(.int .u8 (.ofNat 29)),(.int .u8 (.ofNat 17)),(.int .u8 (.ofNat 4)),(.int .u8 (.ofNat 62)),(.int .u8 (.ofNat 47)),(.int .u8 (.ofNat 59)),(.int .u8 (.ofNat 36)),(.int .u8 (.ofNat 45)),(.int .u8 (.ofNat 43)),(.int .u8 (.ofNat 51)),(.int .u8 (.ofNat 22)),(.int .u8 (.ofNat 53)),(.int .u8 (.ofNat 39)),(.int .u8 (.ofNat 33)),(.int .u8 (.ofNat 30)),(.int .u8 (.ofNat 24)),(.int .u8 (.ofNat 18)),(.int .u8 (.ofNat 12)),(.int .u8 (.ofNat 5)),(.int .u8 (.ofNat 63)),(.int .u8 (.ofNat 55)),(.int .u8 (.ofNat 48)),(.int .u8 (.ofNat 27)),(.int .u8 (.ofNat 60)),(.int .u8 (.ofNat 41)),(.int .u8 (.ofNat 37)),(.int .u8 (.ofNat 16)),(.int .u8 (.ofNat 46)),(.int .u8 (.ofNat 35)),(.int .u8 (.ofNat 44)),(.int .u8 (.ofNat 21)),(.int .u8 (.ofNat 52)),(.int .u8 (.ofNat 32)),(.int .u8 (.ofNat 23)),(.int .u8 (.ofNat 11)),(.int .u8 (.ofNat 54)),(.int .u8 (.ofNat 26)),(.int .u8 (.ofNat 40)),(.int .u8 (.ofNat 15)),(.int .u8 (.ofNat 34)),(.int .u8 (.ofNat 20)),(.int .u8 (.ofNat 31)),(.int .u8 (.ofNat 10)),(.int .u8 (.ofNat 25)),(.int .u8 (.ofNat 14)),(.int .u8 (.ofNat 19)),(.int .u8 (.ofNat 9)),(.int .u8 (.ofNat 13)),(.int .u8 (.ofNat 8)),(.int .u8 (.ofNat 7)),(.int .u8 (.ofNat 6))]))
(.n (.n (.n .e none
(.n .e none
(.n .e none
(.n .e none
(.n .e none
(.n (.n .e none
(.n .e none
(.n (.n (.n (.n .e (some (.cells [(.int .u32 (.ofNat 11))] true 1)) .e) none
.e) none
.e) none
.e))) none
.e)))))) none
(.n .e none
(.n (.n (.n (.n .e none
(.n (.n .e none
(.n .e none
(.n .e none
(.n .e none
(.n .e (some (.cells [(.int .u32 (.ofNat 3))] true 1)) .e))))) none
.e)) none
.e) none
.e) none
.e))) none
.e)), 18173⟩
end Go.Proofs.YtiiplmagnlcpbaaGreatDoor.dealKnown
