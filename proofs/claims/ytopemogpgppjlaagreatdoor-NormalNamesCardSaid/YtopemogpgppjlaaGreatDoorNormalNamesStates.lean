/- NormalNames: what is kept between the stages, written by program. -/
import Derived.Test.YtopemogpgppjlaaGreatDoorEv7
namespace Go.Proofs.YtopemogpgppjlaaGreatDoor.normalNames
open Go.Ev
set_option maxRecDepth 100000
noncomputable def act0 : Act' := ⟨(.n (.n (.n .e none
(.n (.n (.n .e (some (.bool false)) .e) none
.e) none
.e)) none
.e) (some (.bool false))
(.n .e none
(.n (.n (.n (.n .e (some (.bool true)) .e) none
.e) none
.e) none
.e))), false⟩
noncomputable def sta0 : St := ⟨(.n .e (some (.ro [(.int .u8 (.ofNat 0)),(.int .u8 (.ofNat 1)),(.int .u8 (.ofNat 56)),(.int .u8 (.ofNat 2)),(.int .u8 (.ofNat 57)),(.int .u8 (.ofNat 49)),(.int .u8 (.ofNat 28)),(.int .u8 (.ofNat 3)),(.int .u8 (.ofNat 61)),(.int .u8 (.ofNat 58)),(.int .u8 (.ofNat 42)),(.int .u8 (.ofNat 50)),(.int .u8 (.ofNat 38)),(.int .u8 (.ofNat 29)),(.int .u8 (.ofNat 17)),(.int .u8 (.ofNat 4)),(.int .u8 (.ofNat 62)),(.int .u8 (.ofNat 47)),(.int .u8 (.ofNat 59)),(.int .u8 (.ofNat 36)),(.int .u8 (.ofNat 45)),(.int .u8 (.ofNat 43)),(.int .u8 (.ofNat 51)),(.int .u8 (.ofNat 22)),(.int .u8 (.ofNat 53)),(.int .u8 (.ofNat 39)),(.int .u8 (.ofNat 33)),(.int .u8 (.ofNat 30)),(.int .u8 (.ofNat 24)),(.int .u8 (.ofNat 18)),(.int .u8 (.ofNat 12)),(.int .u8 (.ofNat 5)),(.int .u8 (.ofNat 63)),(.int .u8 (.ofNat 55)),(.int .u8 (.ofNat 48)),(.int .u8 (.ofNat 27)),(.int .u8 (.ofNat 60)),(.int .u8 (.ofNat 41)),(.int .u8 (.ofNat 37)),(.int .u8 (.ofNat 16)),(.int .u8 (.ofNat 46)),(.int .u8 (.ofNat 35)),(.int .u8 (.ofNat 44)),(.int .u8 (.ofNat 21)),(.int .u8 (.ofNat 52)),(.int .u8 (.ofNat 32)),(.int .u8 (.ofNat 23)),(.int .u8 (.ofNat 11)),(.int .u8 (.ofNat 54)),(.int .u8 (.ofNat 26)),(.int .u8 (.ofNat 40)),(.int .u8 (.ofNat 15)),(.int .u8 (.ofNat 34)),(.int .u8 (.ofNat 20)),(.int .u8 (.ofNat 31)),(.int .u8 (.ofNat 10)),(.int .u8 (.ofNat 25)),(.int .u8 (.ofNat 14)),(.int .u8 (.ofNat 19)),(.int .u8 (.ofNat 9)),(.int .u8 (.ofNat 13)),(.int .u8 (.ofNat 8)),(.int .u8 (.ofNat 7)),(.int .u8 (.ofNat 6))])) .e), 4931⟩
noncomputable def act1 : Act' := ⟨(.n (.n (.n (.n (.n .e none
(.n .e (some (.tup [(.int .i64 (.ofNat 1)),(.int .i64 (.ofNat 0))])) .e)) (some (.int .i64 (.ofNat 0)))
(.n (.n .e (some (.tup [(.sl 6069 0 2 2 true),(.int .i64 (.ofNat 0))])) .e) none
.e)) (some (.int .i64 (.ofNat 0)))
(.n (.n (.n .e (some (.bool false)) .e) none
(.n .e (some (.int .i64 (.ofNat 1))) .e)) none
(.n (.n .e (some (.agg [(.int .i64 (.ofNat 2)),(.sl 4955 0 11 11 false),(.sl 4932 0 2 2 false)])) .e) none
.e))) (some (.ptr 4956 0))
(.n (.n (.n .e none
(.n .e (some (.sl 7174 0 1 1 false)) .e)) none
(.n (.n .e (some (.int .i64 (.ofNat 0))) .e) none
.e)) (some (.int .i64 (.ofNat 0)))
(.n (.n (.n .e (some (.tup [(.sl 6069 0 2 2 true),(.int .i64 (.ofNat 0))])) .e) none
.e) none
(.n (.n .e (some (.sl 7173 0 1 1 false)) .e) none
.e)))) (some (.bool false))
(.n (.n (.n (.n .e none
(.n .e (some (.agg [(.int .i64 (.ofNat 2)),(.sl 4955 0 11 11 false),(.sl 4932 0 2 2 false)])) .e)) none
(.n (.n .e (some (.sl 6069 0 2 2 true)) .e) none
.e)) (some (.sl 7173 0 1 1 false))
(.n (.n (.n .e (some (.agg [(.int .i64 (.ofNat 2)),(.sl 4955 0 11 11 false),(.sl 4932 0 2 2 false)])) .e) none
(.n .e (some (.int .i64 (.ofNat 0))) .e)) none
(.n (.n .e (some (.tup [(.sl 7173 0 1 1 false),(.int .i64 (.ofNat 0))])) .e) none
.e))) (some (.sl 6069 0 2 2 true))
(.n (.n (.n (.n .e (some (.bool true)) .e) none
(.n .e (some (.tup [(.int .i64 (.ofNat 1)),(.int .i64 (.ofNat 0))])) .e)) none
(.n (.n .e (some (.tup [(.sl 7173 0 1 1 false),(.int .i64 (.ofNat 0))])) .e) none
.e)) (some (.int .i64 (.ofNat 1)))
(.n (.n (.n .e (some (.agg [(.int .i64 (.ofNat 2)),(.sl 4955 0 11 11 false),(.sl 4932 0 2 2 false)])) .e) none
.e) none
(.n (.n .e (some (.int .i64 (.ofNat 0))) .e) none
.e))))), false⟩
noncomputable def sta1 : St := ⟨(.n (.n (.n (.n (.n .e none
(.n (.n .e none
(.n (.n .e none
(.n .e none
(.n (.n (.n .e (some (.cells [(.int .i64 (.ofNat 0)),(.int .i64 (.ofNat 0))] false 0)) .e) none
.e) none
.e))) none
.e)) none
.e)) none
(.n (.n (.n .e none
(.n (.n .e none
(.n .e none
(.n (.n (.n .e (some (.cells [(.int .i64 (.ofNat 2)),(.int .i64 (.ofNat 5))] false 0)) .e) none
.e) none
.e))) none
.e)) none
.e) none
(.n (.n .e none
(.n (.n .e none
(.n .e none
(.n (.n (.n .e (some (.cells [(.int .i64 (.ofNat 6)),(.int .i64 (.negSucc 5))] false 0)) .e) none
.e) none
.e))) none
.e)) none
.e))) none
(.n (.n .e none
(.n (.n .e none
(.n (.n .e none
(.n .e none
(.n (.n (.n .e (some (.cells [(.int .i64 (.ofNat 4)),(.int .i64 (.negSucc 3))] false 0)) .e) none
.e) none
.e))) none
.e)) none
.e)) none
(.n (.n (.n .e none
(.n (.n .e none
(.n .e none
(.n (.n (.n .e (some (.cells [(.int .i64 (.ofNat 2)),(.int .i64 (.negSucc 1))] false 0)) .e) none
.e) none
.e))) none
.e)) none
.e) none
(.n (.n .e none
(.n (.n .e none
(.n .e none
(.n (.n (.n .e (some (.cells [(.int .i64 (.ofNat 1)),(.int .i64 (.ofNat 0)),(.int .i64 (.ofNat 0)),(.sl 4933 0 2 2 false),(.sl 4934 0 2 2 false),.nilsl,(.int .i64 (.ofNat 2)),(.int .i64 (.ofNat 0)),(.int .i64 (.ofNat 0)),(.sl 4935 0 2 2 false),.nilsl,.nilsl,(.int .i64 (.ofNat 2)),(.int .i64 (.ofNat 1)),(.int .i64 (.ofNat 1)),(.sl 4937 0 2 2 false),.nilsl,.nilsl,(.int .i64 (.ofNat 3)),(.int .i64 (.ofNat 0)),(.int .i64 (.ofNat 0)),.nilsl,.nilsl,(.sl 4939 0 2 2 false),(.int .i64 (.ofNat 3)),(.int .i64 (.ofNat 0)),(.int .i64 (.ofNat 0)),.nilsl,.nilsl,(.sl 4941 0 2 2 false),(.int .i64 (.ofNat 3)),(.int .i64 (.ofNat 0)),(.int .i64 (.ofNat 0)),.nilsl,.nilsl,(.sl 4943 0 2 2 false),(.int .i64 (.ofNat 2)),(.int .i64 (.ofNat 0)),(.int .i64 (.ofNat 0)),(.sl 4945 0 2 2 false),.nilsl,.nilsl,(.int .i64 (.ofNat 3)),(.int .i64 (.ofNat 0)),(.int .i64 (.ofNat 0)),.nilsl,.nilsl,(.sl 4947 0 2 2 false),(.int .i64 (.ofNat 2)),(.int .i64 (.ofNat 1)),(.int .i64 (.ofNat 1)),(.sl 4949 0 2 2 false),.nilsl,.nilsl,(.int .i64 (.ofNat 3)),(.int .i64 (.ofNat 0)),(.int .i64 (.ofNat 0)),.nilsl,.nilsl,(.sl 4951 0 2 2 false),(.int .i64 (.ofNat 3)),(.int .i64 (.ofNat 0)),(.int .i64 (.ofNat 0)),.nilsl,.nilsl,(.sl 4953 0 2 2 false)] false 0)) .e) none
.e) none
.e))) none
.e)) none
.e)))) none
(.n (.n (.n .e none
(.n (.n .e none
(.n (.n .e none
(.n .e none
(.n (.n (.n .e (some (.cells [(.int .i64 (.ofNat 7)),(.int .i64 (.ofNat 8))] false 0)) .e) none
.e) none
.e))) none
.e)) none
.e)) none
(.n (.n (.n .e none
(.n (.n .e none
(.n .e none
(.n (.n (.n .e (some (.cells [(.int .i64 (.ofNat 3)),(.int .i64 (.ofNat 4))] false 0)) .e) none
.e) none
.e))) none
.e)) none
.e) none
(.n (.n .e none
(.n (.n .e none
(.n .e none
(.n (.n (.n .e (some (.cells [(.int .i64 (.ofNat 1)),(.int .i64 (.negSucc 0))] false 0)) .e) none
.e) none
.e))) none
.e)) none
.e))) none
(.n (.n (.n (.n (.n (.n (.n (.n .e none
(.n .e none
(.n .e (some (.cells [(.int .i64 (.ofNat 1))] false 0)) .e))) none
.e) none
.e) none
.e) none
(.n (.n .e none
(.n .e none
(.n (.n (.n .e (some (.cells [(.int .i64 (.ofNat 1)),(.int .i64 (.ofNat 6))] false 0)) .e) none
.e) none
.e))) none
.e)) none
.e) none
(.n (.n .e none
(.n (.n .e none
(.n .e none
(.n (.n (.n .e (some (.cells [(.int .i64 (.ofNat 9)),(.int .i64 (.ofNat 10))] false 0)) .e) none
.e) none
.e))) none
.e)) none
(.n (.n .e none
(.n .e none
(.n .e none
(.n .e none
(.n (.n .e (some (.cells [(.int .i64 (.ofNat 2)),(.int .i64 (.ofNat 2))] true 1)) .e) none
.e))))) none
.e))) none
(.n (.n (.n .e none
(.n (.n .e none
(.n .e none
(.n (.n (.n .e (some (.cells [(.int .i64 (.negSucc 0)),(.int .i64 (.ofNat 1))] false 0)) .e) none
.e) none
.e))) none
.e)) none
.e) none
.e)))) (some (.ro [(.int .u8 (.ofNat 0)),(.int .u8 (.ofNat 1)),(.int .u8 (.ofNat 56)),(.int .u8 (.ofNat 2)),(.int .u8 (.ofNat 57)),(.int .u8 (.ofNat 49)),(.int .u8 (.ofNat 28)),(.int .u8 (.ofNat 3)),(.int .u8 (.ofNat 61)),(.int .u8 (.ofNat 58)),(.int .u8 (.ofNat 42)),(.int .u8 (.ofNat 50)),(.int .u8 (.ofNat 38)),(.int .u8 (.ofNat 29)),(.int .u8 (.ofNat 17)),(.int .u8 (.ofNat 4)),(.int .u8 (.ofNat 62)),(.int .u8 (.ofNat 47)),(.int .u8 (.ofNat 59)),(.int .u8 (.ofNat 36)),(.int .u8 (.ofNat 45)),(.int .u8 (.ofNat 43)),(.int .u8 (.ofNat 51)),(.int .u8 (.ofNat 22)),(.int .u8 (.ofNat 53)),(.int .u8 (.ofNat 39)),(.int .u8 (.ofNat 33)),(.int .u8 (.ofNat 30)),(.int .u8 (.ofNat 24)),(.int .u8 (.ofNat 18)),(.int .u8 (.ofNat 12)),(.int .u8 (.ofNat 5)),(.int .u8 (.ofNat 63)),(.int .u8 (.ofNat 55)),(.int .u8 (.ofNat 48)),(.int .u8 (.ofNat 27)),(.int .u8 (.ofNat 60)),(.int .u8 (.ofNat 41)),(.int .u8 (.ofNat 37)),(.int .u8 (.ofNat 16)),(.int .u8 (.ofNat 46)),(.int .u8 (.ofNat 35)),(.int .u8 (.ofNat 44)),(.int .u8 (.ofNat 21)),(.int .u8 (.ofNat 52)),(.int .u8 (.ofNat 32)),(.int .u8 (.ofNat 23)),(.int .u8 (.ofNat 11)),(.int .u8 (.ofNat 54)),(.int .u8 (.ofNat 26)),(.int .u8 (.ofNat 40)),(.int .u8 (.ofNat 15)),(.int .u8 (.ofNat 34)),(.int .u8 (.ofNat 20)),(.int .u8 (.ofNat 31)),(.int .u8 (.ofNat 10)),(.int .u8 (.ofNat 25)),(.int .u8 (.ofNat 14)),(.int .u8 (.ofNat 19)),(.int .u8 (.ofNat 9)),(.int .u8 (.ofNat 13)),(.int .u8 (.ofNat 8)),(.int .u8 (.ofNat 7)),(.int .u8 (.ofNat 6))]))
(.n (.n .e none
(.n (.n (.n (.n .e none
(.n (.n .e none
(.n .e none
(.n (.n (.n .e (some (.cells [(.int .i64 (.ofNat 0)),(.int .i64 (.ofNat 2)),(.int .i64 (.ofNat 1)),(.int .i64 (.ofNat 2))] false 0)) .e) none
.e) none
.e))) none
.e)) none
.e) none
.e) none
(.n .e none
(.n (.n .e none
(.n (.n .e none
(.n .e none
(.n (.n (.n .e (some (.cells [(.int .i64 (.ofNat 2)),(.sl 4955 0 11 11 false),(.sl 4932 0 2 2 false)] false 0)) .e) none
.e) none
.e))) none
.e)) none
.e)))) none
(.n .e none
(.n (.n (.n (.n .e none
(.n (.n .e none
(.n .e none
(.n (.n (.n .e (some (.cells [(.int .i64 (.ofNat 1)),(.int .i64 (.ofNat 1))] false 0)) .e) none
.e) none
.e))) none
.e)) none
.e) none
.e) none
.e)))), 8278⟩
noncomputable def act2 : Act' := ⟨(.n (.n (.n (.n (.n (.n (.n .e (some (.int .i64 (.ofNat 2))) .e) none
(.n .e (some (.bool true)) .e)) none
(.n (.n .e (some (.bool true)) .e) (some (.tup [(.int .i64 (.ofNat 1)),(.int .i64 (.ofNat 0))]))
.e)) (some (.int .i64 (.ofNat 0)))
(.n (.n (.n .e (some (.bool true)) .e) (some (.tup [(.sl 6069 0 2 2 true),(.int .i64 (.ofNat 0))]))
(.n .e (some (.bool true)) .e)) none
(.n (.n .e (some (.bool true)) .e) (some (.sl 8278 0 1 1 false))
.e))) (some (.int .i64 (.ofNat 0)))
(.n (.n (.n (.n .e (some (.sl 11035 0 1 1 true)) .e) (some (.bool false))
(.n .e (some (.bool true)) .e)) none
(.n (.n .e (some (.bool true)) .e) (some (.int .i64 (.ofNat 1)))
.e)) (some (.int .i64 (.ofNat 2)))
(.n (.n (.n .e (some (.bool true)) .e) (some (.agg [(.int .i64 (.ofNat 2)),(.sl 4955 0 11 11 false),(.sl 4932 0 2 2 false)]))
(.n .e (some (.sl 11065 0 1 1 false)) .e)) none
(.n (.n .e (some (.bool true)) .e) (some (.tup [.nilsl,(.int .i64 (.ofNat 2))]))
.e)))) (some (.ptr 4956 0))
(.n (.n (.n (.n (.n .e (some (.agg [(.int .i64 (.ofNat 1)),(.sl 10490 0 5 5 false),(.sl 10479 0 2 2 false)])) .e) none
(.n .e (some (.bool true)) .e)) none
(.n (.n .e (some (.sl 7173 0 1 1 false)) .e) (some (.sl 7174 0 1 1 false))
.e)) (some (.int .i64 (.ofNat 2)))
(.n (.n (.n .e (some (.sl 11036 0 2 2 false)) .e) (some (.int .i64 (.ofNat 0)))
(.n .e (some (.bool true)) .e)) none
(.n (.n .e (some (.bool true)) .e) (some (.int .i64 (.ofNat 0)))
.e))) (some (.int .i64 (.ofNat 0)))
(.n (.n (.n (.n .e (some (.int .i64 (.ofNat 0))) .e) (some (.tup [(.sl 6069 0 2 2 true),(.int .i64 (.ofNat 0))]))
(.n .e (some (.bool true)) .e)) none
(.n (.n .e (some (.bool true)) .e) (some (.tup [(.int .i64 (.ofNat 0)),(.int .i64 (.ofNat 2))]))
.e)) (some (.int .i64 (.ofNat 0)))
(.n (.n (.n .e (some (.int .i64 (.ofNat 0))) .e) (some (.sl 7173 0 1 1 false))
(.n .e (some (.bool true)) .e)) none
(.n (.n .e (some (.bool true)) .e) (some (.tup [.nilsl,(.int .i64 (.ofNat 2))]))
.e))))) (some (.bool false))
(.n (.n (.n (.n (.n (.n .e (some (.tup [(.sl 11035 0 1 1 true),(.int .i64 (.ofNat 0))])) .e) none
(.n .e (some (.bool true)) .e)) none
(.n (.n .e (some (.bool true)) .e) (some (.agg [(.int .i64 (.ofNat 2)),(.sl 4955 0 11 11 false),(.sl 4932 0 2 2 false)]))
.e)) (some (.int .i64 (.ofNat 0)))
(.n (.n (.n .e (some (.sl 6069 0 2 2 true)) .e) (some (.sl 6069 0 2 2 true))
(.n .e (some (.bool true)) .e)) none
(.n (.n .e (some (.bool true)) .e) (some (.tup [(.int .i64 (.ofNat 0)),(.int .i64 (.ofNat 2))]))
.e))) (some (.sl 7173 0 1 1 false))
(.n (.n (.n (.n .e (some (.int .i64 (.ofNat 0))) .e) (some (.agg [(.int .i64 (.ofNat 2)),(.sl 4955 0 11 11 false),(.sl 4932 0 2 2 false)]))
(.n .e (some (.bool true)) .e)) none
(.n (.n .e (some (.bool true)) .e) (some (.int .i64 (.ofNat 0)))
.e)) (some (.sl 11035 0 1 1 true))
(.n (.n (.n .e (some (.bool true)) .e) (some (.tup [(.sl 7173 0 1 1 false),(.int .i64 (.ofNat 0))]))
(.n .e (some (.bool true)) .e)) none
(.n (.n .e (some (.bool true)) .e) (some (.agg [(.int .i64 (.ofNat 2)),(.sl 4955 0 11 11 false),(.sl 4932 0 2 2 false)]))
.e)))) (some (.sl 6069 0 2 2 true))
(.n (.n (.n (.n (.n .e (some (.tup [(.sl 11035 0 1 1 true),(.int .i64 (.ofNat 0))])) .e) (some (.bool true))
(.n .e (some (.int .i64 (.ofNat 2))) .e)) none
(.n (.n .e (some (.sl 11055 0 1 1 false)) .e) (some (.tup [(.int .i64 (.ofNat 1)),(.int .i64 (.ofNat 0))]))
.e)) (some .nilsl)
(.n (.n (.n .e (some (.bool true)) .e) (some (.tup [(.sl 7173 0 1 1 false),(.int .i64 (.ofNat 0))]))
(.n .e (some (.sl 11035 0 1 1 true)) .e)) none
(.n (.n .e (some (.int .i64 (.ofNat 1))) .e) (some (.int .i64 (.ofNat 2)))
.e))) (some (.int .i64 (.ofNat 1)))
(.n (.n (.n (.n .e (some (.bool true)) .e) (some (.agg [(.int .i64 (.ofNat 2)),(.sl 4955 0 11 11 false),(.sl 4932 0 2 2 false)]))
(.n .e (some (.int .i64 (.ofNat 0))) .e)) none
(.n (.n .e (some (.int .i64 (.ofNat 0))) .e) (some (.agg [(.int .i64 (.ofNat 2)),(.sl 4955 0 11 11 false),(.sl 4932 0 2 2 false)]))
.e)) (some (.bool true))
(.n (.n (.n .e (some (.bool true)) .e) (some (.int .i64 (.ofNat 0)))
.e) none
(.n (.n .e (some (.int .i64 (.ofNat 2))) .e) (some .nilsl)
.e)))))), false⟩
noncomputable def sta2 : St := ⟨(.n (.n (.n (.n (.n .e none
(.n (.n .e none
(.n (.n .e none
(.n .e none
(.n (.n (.n .e (some (.cells [(.int .i64 (.ofNat 0)),(.int .i64 (.ofNat 0))] false 0)) .e) none
.e) none
.e))) none
.e)) none
.e)) none
(.n (.n (.n .e none
(.n (.n .e none
(.n .e none
(.n (.n (.n .e (some (.cells [(.int .i64 (.ofNat 2)),(.int .i64 (.ofNat 5))] false 0)) .e) none
.e) none
.e))) none
.e)) none
.e) none
(.n (.n .e none
(.n (.n .e none
(.n .e none
(.n (.n (.n .e (some (.cells [(.int .i64 (.ofNat 6)),(.int .i64 (.negSucc 5))] false 0)) .e) none
.e) none
.e))) none
.e)) none
.e))) none
(.n (.n .e none
(.n (.n .e none
(.n (.n .e none
(.n .e none
(.n (.n (.n .e (some (.cells [(.int .i64 (.ofNat 4)),(.int .i64 (.negSucc 3))] false 0)) .e) none
.e) none
.e))) none
.e)) none
.e)) none
(.n (.n (.n .e none
(.n (.n .e none
(.n .e none
(.n (.n (.n .e (some (.cells [(.int .i64 (.ofNat 2)),(.int .i64 (.negSucc 1))] false 0)) .e) none
.e) none
.e))) none
.e)) none
.e) none
(.n (.n .e none
(.n (.n .e none
(.n .e none
(.n (.n (.n .e (some (.cells [(.int .i64 (.ofNat 1)),(.int .i64 (.ofNat 0)),(.int .i64 (.ofNat 0)),(.sl 4933 0 2 2 false),(.sl 4934 0 2 2 false),.nilsl,(.int .i64 (.ofNat 2)),(.int .i64 (.ofNat 0)),(.int .i64 (.ofNat 0)),(.sl 4935 0 2 2 false),.nilsl,.nilsl,(.int .i64 (.ofNat 2)),(.int .i64 (.ofNat 1)),(.int .i64 (.ofNat 1)),(.sl 4937 0 2 2 false),.nilsl,.nilsl,(.int .i64 (.ofNat 3)),(.int .i64 (.ofNat 0)),(.int .i64 (.ofNat 0)),.nilsl,.nilsl,(.sl 4939 0 2 2 false),(.int .i64 (.ofNat 3)),(.int .i64 (.ofNat 0)),(.int .i64 (.ofNat 0)),.nilsl,.nilsl,(.sl 4941 0 2 2 false),(.int .i64 (.ofNat 3)),(.int .i64 (.ofNat 0)),(.int .i64 (.ofNat 0)),.nilsl,.nilsl,(.sl 4943 0 2 2 false),(.int .i64 (.ofNat 2)),(.int .i64 (.ofNat 0)),(.int .i64 (.ofNat 0)),(.sl 4945 0 2 2 false),.nilsl,.nilsl,(.int .i64 (.ofNat 3)),(.int .i64 (.ofNat 0)),(.int .i64 (.ofNat 0)),.nilsl,.nilsl,(.sl 4947 0 2 2 false),(.int .i64 (.ofNat 2)),(.int .i64 (.ofNat 1)),(.int .i64 (.ofNat 1)),(.sl 4949 0 2 2 false),.nilsl,.nilsl,(.int .i64 (.ofNat 3)),(.int .i64 (.ofNat 0)),(.int .i64 (.ofNat 0)),.nilsl,.nilsl,(.sl 4951 0 2 2 false),(.int .i64 (.ofNat 3)),(.int .i64 (.ofNat 0)),(.int .i64 (.ofNat 0)),.nilsl,.nilsl,(.sl 4953 0 2 2 false)] false 0)) .e) none
.e) none
.e))) none
.e)) none
.e)))) none
(.n (.n (.n .e none
(.n (.n .e none
(.n (.n .e none
(.n .e none
(.n (.n (.n .e (some (.cells [(.int .i64 (.ofNat 7)),(.int .i64 (.ofNat 8))] false 0)) .e) none
.e) none
.e))) none
.e)) none
.e)) none
(.n (.n (.n .e none
(.n (.n .e none
(.n .e none
(.n (.n (.n .e (some (.cells [(.int .i64 (.ofNat 3)),(.int .i64 (.ofNat 4))] false 0)) .e) none
.e) none
.e))) none
.e)) none
.e) none
(.n (.n .e none
(.n (.n .e none
(.n .e none
(.n (.n (.n .e (some (.cells [(.int .i64 (.ofNat 1)),(.int .i64 (.negSucc 0))] false 0)) .e) none
.e) none
.e))) none
.e)) none
.e))) none
(.n (.n (.n (.n .e none
(.n (.n .e none
(.n .e none
(.n (.n (.n .e (some (.cells [(.int .i64 (.ofNat 1)),(.int .i64 (.ofNat 6))] false 0)) .e) none
.e) none
.e))) none
.e)) none
.e) none
(.n (.n .e none
(.n (.n .e none
(.n .e none
(.n (.n (.n .e (some (.cells [(.int .i64 (.ofNat 9)),(.int .i64 (.ofNat 10))] false 0)) .e) none
.e) none
.e))) none
.e)) none
.e)) none
(.n (.n (.n .e none
(.n (.n .e none
(.n .e none
(.n (.n (.n .e (some (.cells [(.int .i64 (.negSucc 0)),(.int .i64 (.ofNat 1))] false 0)) .e) none
.e) none
.e))) none
.e)) none
.e) none
.e)))) (some (.ro [(.int .u8 (.ofNat 0)),(.int .u8 (.ofNat 1)),(.int .u8 (.ofNat 56)),(.int .u8 (.ofNat 2)),(.int .u8 (.ofNat 57)),(.int .u8 (.ofNat 49)),(.int .u8 (.ofNat 28)),(.int .u8 (.ofNat 3)),(.int .u8 (.ofNat 61)),(.int .u8 (.ofNat 58)),(.int .u8 (.ofNat 42)),(.int .u8 (.ofNat 50)),(.int .u8 (.ofNat 38)),(.int .u8 (.ofNat 29)),(.int .u8 (.ofNat 17)),(.int .u8 (.ofNat 4)),(.int .u8 (.ofNat 62)),(.int .u8 (.ofNat 47)),(.int .u8 (.ofNat 59)),(.int .u8 (.ofNat 36)),(.int .u8 (.ofNat 45)),(.int .u8 (.ofNat 43)),(.int .u8 (.ofNat 51)),(.int .u8 (.ofNat 22)),(.int .u8 (.ofNat 53)),(.int .u8 (.ofNat 39)),(.int .u8 (.ofNat 33)),(.int .u8 (.ofNat 30)),(.int .u8 (.ofNat 24)),(.int .u8 (.ofNat 18)),(.int .u8 (.ofNat 12)),(.int .u8 (.ofNat 5)),(.int .u8 (.ofNat 63)),(.int .u8 (.ofNat 55)),(.int .u8 (.ofNat 48)),(.int .u8 (.ofNat 27)),(.int .u8 (.ofNat 60)),(.int .u8 (.ofNat 41)),(.int .u8 (.ofNat 37)),(.int .u8 (.ofNat 16)),(.int .u8 (.ofNat 46)),(.int .u8 (.ofNat 35)),(.int .u8 (.ofNat 44)),(.int .u8 (.ofNat 21)),(.int .u8 (.ofNat 52)),(.int .u8 (.ofNat 32)),(.int .u8 (.ofNat 23)),(.int .u8 (.ofNat 11)),(.int .u8 (.ofNat 54)),(.int .u8 (.ofNat 26)),(.int .u8 (.ofNat 40)),(.int .u8 (.ofNat 15)),(.int .u8 (.ofNat 34)),(.int .u8 (.ofNat 20)),(.int .u8 (.ofNat 31)),(.int .u8 (.ofNat 10)),(.int .u8 (.ofNat 25)),(.int .u8 (.ofNat 14)),(.int .u8 (.ofNat 19)),(.int .u8 (.ofNat 9)),(.int .u8 (.ofNat 13)),(.int .u8 (.ofNat 8)),(.int .u8 (.ofNat 7)),(.int .u8 (.ofNat 6))]))
(.n (.n .e none
(.n (.n (.n (.n .e none
(.n (.n .e none
(.n .e none
(.n (.n (.n .e (some (.cells [(.int .i64 (.ofNat 0)),(.int .i64 (.ofNat 2)),(.int .i64 (.ofNat 1)),(.int .i64 (.ofNat 2))] false 0)) .e) none
.e) none
.e))) none
.e)) none
.e) none
.e) none
(.n .e none
(.n (.n .e none
(.n (.n .e none
(.n .e none
(.n (.n (.n .e (some (.cells [(.int .i64 (.ofNat 2)),(.sl 4955 0 11 11 false),(.sl 4932 0 2 2 false)] false 0)) .e) none
.e) none
.e))) none
.e)) none
.e)))) none
(.n .e none
(.n (.n (.n (.n .e none
(.n (.n .e none
(.n .e none
(.n (.n (.n .e (some (.cells [(.int .i64 (.ofNat 1)),(.int .i64 (.ofNat 1))] false 0)) .e) none
.e) none
.e))) none
.e)) none
.e) none
.e) none
.e)))), 11075⟩
noncomputable def act3 : Act' := ⟨(.n (.n (.n (.n (.n (.n (.n (.n .e (some (.int .i64 (.ofNat 0))) .e) (some (.int .i64 (.ofNat 2)))
.e) none
(.n .e (some (.bool true)) .e)) (some (.sl 13522 0 2 2 true))
(.n (.n .e (some (.bool true)) .e) (some (.tup [(.int .i64 (.ofNat 1)),(.int .i64 (.ofNat 0))]))
(.n .e (some (.agg [(.int .i64 (.ofNat 2)),(.sl 4955 0 11 11 false),(.sl 4932 0 2 2 false)])) .e))) (some (.int .i64 (.ofNat 0)))
(.n (.n (.n .e (some (.bool true)) .e) (some (.tup [(.sl 6069 0 2 2 true),(.int .i64 (.ofNat 0))]))
(.n .e (some (.bool true)) .e)) none
(.n (.n .e (some (.bool true)) .e) (some (.sl 8278 0 1 1 false))
(.n .e (some (.tup [(.sl 15764 0 2 2 true),(.int .i64 (.ofNat 0))])) .e)))) (some (.int .i64 (.ofNat 0)))
(.n (.n (.n (.n .e (some (.sl 11035 0 1 1 true)) .e) (some (.bool false))
(.n .e (some (.bool true)) .e)) (some (.sl 17954 0 2 2 true))
(.n (.n .e (some (.bool true)) .e) (some (.int .i64 (.ofNat 1)))
(.n .e (some (.int .i64 (.ofNat 0))) .e))) (some (.int .i64 (.ofNat 2)))
(.n (.n (.n .e (some (.bool true)) .e) (some (.agg [(.int .i64 (.ofNat 2)),(.sl 4955 0 11 11 false),(.sl 4932 0 2 2 false)]))
(.n .e (some (.sl 11065 0 1 1 false)) .e)) none
(.n (.n .e (some (.bool true)) .e) (some (.tup [.nilsl,(.int .i64 (.ofNat 2))]))
(.n .e (some (.agg [(.int .i64 (.ofNat 2)),(.sl 4955 0 11 11 false),(.sl 4932 0 2 2 false)])) .e))))) (some (.ptr 4956 0))
(.n (.n (.n (.n (.n .e (some (.agg [(.int .i64 (.ofNat 1)),(.sl 10490 0 5 5 false),(.sl 10479 0 2 2 false)])) .e) none
(.n .e (some (.bool true)) .e)) (some (.sl 15764 0 2 2 true))
(.n (.n .e (some (.sl 7173 0 1 1 false)) .e) (some (.sl 7174 0 1 1 false))
(.n .e (some (.tup [(.sl 13522 0 2 2 true),(.int .i64 (.ofNat 0))])) .e))) (some (.int .i64 (.ofNat 2)))
(.n (.n (.n .e (some (.sl 11036 0 2 2 false)) .e) (some (.int .i64 (.ofNat 0)))
(.n .e (some (.bool true)) .e)) none
(.n (.n .e (some (.bool true)) .e) (some (.int .i64 (.ofNat 0)))
(.n .e (some (.int .i64 (.ofNat 0))) .e)))) (some (.int .i64 (.ofNat 0)))
(.n (.n (.n (.n .e (some (.int .i64 (.ofNat 0))) .e) (some (.tup [(.sl 6069 0 2 2 true),(.int .i64 (.ofNat 0))]))
(.n .e (some (.bool true)) .e)) none
(.n (.n .e (some (.bool true)) .e) (some (.tup [(.int .i64 (.ofNat 0)),(.int .i64 (.ofNat 2))]))
(.n .e (some (.agg [(.int .i64 (.ofNat 2)),(.sl 4955 0 11 11 false),(.sl 4932 0 2 2 false)])) .e))) (some (.int .i64 (.ofNat 0)))
(.n (.n (.n .e (some (.int .i64 (.ofNat 0))) .e) (some (.sl 7173 0 1 1 false))
(.n .e (some (.bool true)) .e)) none
(.n (.n .e (some (.bool true)) .e) (some (.tup [.nilsl,(.int .i64 (.ofNat 2))]))
(.n .e (some (.tup [(.sl 17954 0 2 2 true),(.int .i64 (.ofNat 0))])) .e)))))) (some (.bool false))
(.n (.n (.n (.n (.n (.n .e (some (.tup [(.sl 11035 0 1 1 true),(.int .i64 (.ofNat 0))])) .e) none
(.n .e (some (.bool true)) .e)) (some (.int .i64 (.ofNat 0)))
(.n (.n .e (some (.bool true)) .e) (some (.agg [(.int .i64 (.ofNat 2)),(.sl 4955 0 11 11 false),(.sl 4932 0 2 2 false)]))
(.n .e (some (.sl 11075 0 2 2 false)) .e))) (some (.int .i64 (.ofNat 0)))
(.n (.n (.n .e (some (.sl 6069 0 2 2 true)) .e) (some (.sl 6069 0 2 2 true))
(.n .e (some (.bool true)) .e)) none
(.n (.n .e (some (.bool true)) .e) (some (.tup [(.int .i64 (.ofNat 0)),(.int .i64 (.ofNat 2))]))
(.n .e (some (.sl 15764 0 2 2 true)) .e)))) (some (.sl 7173 0 1 1 false))
(.n (.n (.n (.n .e (some (.int .i64 (.ofNat 0))) .e) (some (.agg [(.int .i64 (.ofNat 2)),(.sl 4955 0 11 11 false),(.sl 4932 0 2 2 false)]))
(.n .e (some (.bool true)) .e)) (some (.int .i64 (.ofNat 0)))
(.n (.n .e (some (.bool true)) .e) (some (.int .i64 (.ofNat 0)))
(.n .e (some (.tup [(.sl 15764 0 2 2 true),(.int .i64 (.ofNat 0))])) .e))) (some (.sl 11035 0 1 1 true))
(.n (.n (.n .e (some (.bool true)) .e) (some (.tup [(.sl 7173 0 1 1 false),(.int .i64 (.ofNat 0))]))
(.n .e (some (.bool true)) .e)) none
(.n (.n .e (some (.bool true)) .e) (some (.agg [(.int .i64 (.ofNat 2)),(.sl 4955 0 11 11 false),(.sl 4932 0 2 2 false)]))
(.n .e (some (.sl 15765 0 2 2 false)) .e))))) (some (.sl 6069 0 2 2 true))
(.n (.n (.n (.n (.n .e (some (.tup [(.sl 11035 0 1 1 true),(.int .i64 (.ofNat 0))])) .e) (some (.bool true))
(.n .e (some (.int .i64 (.ofNat 2))) .e)) (some (.int .i64 (.ofNat 0)))
(.n (.n .e (some (.sl 11055 0 1 1 false)) .e) (some (.tup [(.int .i64 (.ofNat 1)),(.int .i64 (.ofNat 0))]))
(.n .e (some (.sl 13522 0 2 2 true)) .e))) (some .nilsl)
(.n (.n (.n .e (some (.bool true)) .e) (some (.tup [(.sl 7173 0 1 1 false),(.int .i64 (.ofNat 0))]))
(.n .e (some (.sl 11035 0 1 1 true)) .e)) none
(.n (.n .e (some (.int .i64 (.ofNat 1))) .e) (some (.int .i64 (.ofNat 2)))
(.n .e (some (.tup [(.sl 17954 0 2 2 true),(.int .i64 (.ofNat 0))])) .e)))) (some (.int .i64 (.ofNat 1)))
(.n (.n (.n (.n .e (some (.bool true)) .e) (some (.agg [(.int .i64 (.ofNat 2)),(.sl 4955 0 11 11 false),(.sl 4932 0 2 2 false)]))
(.n .e (some (.int .i64 (.ofNat 0))) .e)) none
(.n (.n .e (some (.int .i64 (.ofNat 0))) .e) (some (.agg [(.int .i64 (.ofNat 2)),(.sl 4955 0 11 11 false),(.sl 4932 0 2 2 false)]))
(.n .e (some (.sl 13523 0 2 2 false)) .e))) (some (.bool true))
(.n (.n (.n .e (some (.bool true)) .e) (some (.int .i64 (.ofNat 0)))
(.n .e (some (.tup [(.sl 13522 0 2 2 true),(.int .i64 (.ofNat 0))])) .e)) none
(.n (.n .e (some (.int .i64 (.ofNat 2))) .e) (some .nilsl)
(.n .e (some (.sl 17954 0 2 2 true)) .e))))))), false⟩
noncomputable def sta3 : St := ⟨(.n (.n (.n (.n (.n (.n .e none
(.n (.n (.n (.n .e none
(.n .e none
(.n (.n (.n (.n .e (some (.cells [(.int .u32 (.ofNat 2))] true 1)) .e) none
.e) none
.e) none
.e))) none
.e) none
.e) none
.e)) none
(.n (.n .e none
(.n (.n .e none
(.n .e none
(.n (.n (.n .e (some (.cells [(.int .i64 (.ofNat 0)),(.int .i64 (.ofNat 0))] false 0)) .e) none
.e) none
.e))) none
(.n (.n (.n .e none
(.n (.n .e none
(.n .e (some (.cells [(.int .u32 (.ofNat 3))] true 1)) .e)) none
.e)) none
.e) none
.e))) none
.e)) none
(.n (.n (.n .e none
(.n (.n .e none
(.n .e none
(.n (.n (.n .e (some (.cells [(.int .i64 (.ofNat 2)),(.int .i64 (.ofNat 5))] false 0)) .e) none
.e) none
.e))) none
.e)) none
.e) none
(.n (.n .e none
(.n (.n .e none
(.n .e none
(.n (.n (.n .e (some (.cells [(.int .i64 (.ofNat 6)),(.int .i64 (.negSucc 5))] false 0)) .e) none
.e) none
.e))) none
.e)) none
.e))) none
(.n (.n .e none
(.n (.n .e none
(.n (.n .e none
(.n .e none
(.n (.n (.n .e (some (.cells [(.int .i64 (.ofNat 4)),(.int .i64 (.negSucc 3))] false 0)) .e) none
.e) none
.e))) none
.e)) none
.e)) none
(.n (.n (.n .e none
(.n (.n .e none
(.n .e none
(.n (.n (.n .e (some (.cells [(.int .i64 (.ofNat 2)),(.int .i64 (.negSucc 1))] false 0)) .e) none
.e) none
.e))) none
.e)) none
.e) none
(.n (.n .e none
(.n (.n .e none
(.n .e none
(.n (.n (.n .e (some (.cells [(.int .i64 (.ofNat 1)),(.int .i64 (.ofNat 0)),(.int .i64 (.ofNat 0)),(.sl 4933 0 2 2 false),(.sl 4934 0 2 2 false),.nilsl,(.int .i64 (.ofNat 2)),(.int .i64 (.ofNat 0)),(.int .i64 (.ofNat 0)),(.sl 4935 0 2 2 false),.nilsl,.nilsl,(.int .i64 (.ofNat 2)),(.int .i64 (.ofNat 1)),(.int .i64 (.ofNat 1)),(.sl 4937 0 2 2 false),.nilsl,.nilsl,(.int .i64 (.ofNat 3)),(.int .i64 (.ofNat 0)),(.int .i64 (.ofNat 0)),.nilsl,.nilsl,(.sl 4939 0 2 2 false),(.int .i64 (.ofNat 3)),(.int .i64 (.ofNat 0)),(.int .i64 (.ofNat 0)),.nilsl,.nilsl,(.sl 4941 0 2 2 false),(.int .i64 (.ofNat 3)),(.int .i64 (.ofNat 0)),(.int .i64 (.ofNat 0)),.nilsl,.nilsl,(.sl 4943 0 2 2 false),(.int .i64 (.ofNat 2)),(.int .i64 (.ofNat 0)),(.int .i64 (.ofNat 0)),(.sl 4945 0 2 2 false),.nilsl,.nilsl,(.int .i64 (.ofNat 3)),(.int .i64 (.ofNat 0)),(.int .i64 (.ofNat 0)),.nilsl,.nilsl,(.sl 4947 0 2 2 false),(.int .i64 (.ofNat 2)),(.int .i64 (.ofNat 1)),(.int .i64 (.ofNat 1)),(.sl 4949 0 2 2 false),.nilsl,.nilsl,(.int .i64 (.ofNat 3)),(.int .i64 (.ofNat 0)),(.int .i64 (.ofNat 0)),.nilsl,.nilsl,(.sl 4951 0 2 2 false),(.int .i64 (.ofNat 3)),(.int .i64 (.ofNat 0)),(.int .i64 (.ofNat 0)),.nilsl,.nilsl,(.sl 4953 0 2 2 false)] false 0)) .e) none
.e) none
.e))) none
.e)) none
(.n .e none
(.n (.n .e none
(.n (.n .e none
(.n .e none
(.n .e none
(.n .e (some (.cells [(.int .u32 (.ofNat 1))] false 0)) .e)))) none
.e)) none
.e)))))) none
(.n (.n (.n .e none
(.n (.n (.n .e none
(.n .e none
(.n (.n .e none
(.n .e none
(.n .e none
(.n .e (some (.cells [(.int .u32 (.ofNat 3))] true 1)) .e)))) none
.e))) none
(.n (.n .e none
(.n .e none
(.n (.n (.n .e (some (.cells [(.int .i64 (.ofNat 7)),(.int .i64 (.ofNat 8))] false 0)) .e) none
.e) none
.e))) none
.e)) none
.e)) none
(.n (.n (.n .e none
(.n (.n .e none
(.n .e none
(.n (.n (.n .e (some (.cells [(.int .i64 (.ofNat 3)),(.int .i64 (.ofNat 4))] false 0)) .e) none
.e) none
.e))) none
.e)) none
.e) none
(.n (.n .e none
(.n (.n .e none
(.n .e none
(.n (.n (.n .e (some (.cells [(.int .i64 (.ofNat 1)),(.int .i64 (.negSucc 0))] false 0)) .e) none
.e) none
.e))) none
.e)) none
(.n (.n .e none
(.n (.n (.n .e none
(.n (.n .e none
(.n .e (some (.cells [(.int .u32 (.ofNat 1))] false 0)) .e)) none
.e)) none
.e) none
.e)) none
.e)))) none
(.n (.n (.n (.n .e none
(.n (.n .e none
(.n .e none
(.n (.n (.n .e (some (.cells [(.int .i64 (.ofNat 1)),(.int .i64 (.ofNat 6))] false 0)) .e) none
.e) none
.e))) none
.e)) none
.e) none
(.n (.n .e none
(.n (.n .e none
(.n .e none
(.n (.n (.n .e (some (.cells [(.int .i64 (.ofNat 9)),(.int .i64 (.ofNat 10))] false 0)) .e) none
.e) none
.e))) none
.e)) none
.e)) none
(.n (.n (.n .e none
(.n (.n .e none
(.n .e none
(.n (.n (.n .e (some (.cells [(.int .i64 (.negSucc 0)),(.int .i64 (.ofNat 1))] false 0)) .e) none
.e) none
.e))) none
.e)) none
.e) none
(.n (.n (.n (.n (.n .e none
(.n .e none
(.n (.n (.n (.n .e (some (.cells [(.int .u32 (.ofNat 1))] true 1)) .e) none
.e) none
.e) none
.e))) none
.e) none
.e) none
.e) none
.e))))) (some (.ro [(.int .u8 (.ofNat 0)),(.int .u8 (.ofNat 1)),(.int .u8 (.ofNat 56)),(.int .u8 (.ofNat 2)),(.int .u8 (.ofNat 57)),(.int .u8 (.ofNat 49)),(.int .u8 (.ofNat 28)),(.int .u8 (.ofNat 3)),(.int .u8 (.ofNat 61)),(.int .u8 (.ofNat 58)),(.int .u8 (.ofNat 42)),(.int .u8 (.ofNat 50)),(.int .u8 (.ofNat 38)),(.int .u8 (.ofNat 29)),(.int .u8 (.ofNat 17)),(.int .u8 (.ofNat 4)),(.int .u8 (.ofNat 62)),(.int .u8 (.ofNat 47)),(.int .u8 (.ofNat 59)),(.int .u8 (.ofNat 36)),(.int .u8 (.ofNat 45)),(.int .u8 (.ofNat 43)),(.int .u8 (.ofNat 51)),(.int .u8 (.ofNat 22)),(.int .u8 (.ofNat 53)),(.int .u8 (.ofNat 39)),(.int .u8 (.ofNat 33)),(.int .u8 (.ofNat 30)),(.int .u8 (.ofNat 24)),(.int .u8 (.ofNat 18)),(.int .u8 (.ofNat 12)),(.int .u8 (.ofNat 5)),(.int .u8 (.ofNat 63)),(.int .u8 (.ofNat 55)),(.int .u8 (.ofNat 48)),(.int .u8 (.ofNat 27)),(.int .u8 (.ofNat 60)),(.int .u8 (.ofNat 41)),(.int .u8 (.ofNat 37)),(.int .u8 (.ofNat 16)),(.int .u8 (.ofNat 46)),(.int .u8 (.ofNat 35)),(.int .u8 (.ofNat 44)),(.int .u8 (.ofNat 21)),(.int .u8 (.ofNat 52)),(.int .u8 (.ofNat 32)),(.int .u8 (.ofNat 23)),(.int .u8 (.ofNat 11)),(.int .u8 (.ofNat 54)),(.int .u8 (.ofNat 26)),(.int .u8 (.ofNat 40)),(.int .u8 (.ofNat 15)),(.int .u8 (.ofNat 34)),(.int .u8 (.ofNat 20)),(.int .u8 (.ofNat 31)),(.int .u8 (.ofNat 10)),(.int .u8 (.ofNat 25)),(.int .u8 (.ofNat 14)),(.int .u8 (.ofNat 19)),(.int .u8 (.ofNat 9)),(.int .u8 (.ofNat 13)),(.int .u8 (.ofNat 8)),(.int .u8 (.ofNat 7)),(.int .u8 (.ofNat 6))]))
(.n (.n (.n (.n (.n (.n (.n .e none
(.n .e none
(.n (.n .e none
(.n .e none
(.n .e none
(.n .e (some (.cells [(.int .u32 (.ofNat 3))] true 1)) .e)))) none
.e))) none
.e) none
.e) none
.e) none
(.n (.n (.n (.n (.n (.n .e none
(.n .e none
(.n (.n (.n (.n .e (some (.cells [(.int .u32 (.ofNat 1))] true 1)) .e) none
.e) none
.e) none
.e))) none
.e) none
.e) none
.e) none
.e) none
.e)) none
(.n (.n (.n (.n .e none
(.n (.n .e none
(.n .e none
(.n (.n (.n .e (some (.cells [(.int .i64 (.ofNat 0)),(.int .i64 (.ofNat 2)),(.int .i64 (.ofNat 1)),(.int .i64 (.ofNat 2))] false 0)) .e) none
.e) none
.e))) none
.e)) none
.e) none
(.n (.n (.n .e none
(.n .e none
(.n (.n .e none
(.n .e none
(.n .e none
(.n .e (some (.cells [(.bool false),(.sl 15744 0 1 1 true),(.sl 15739 0 1 1 false),(.bool true),(.sl 15761 0 1 1 true),(.sl 15756 0 1 1 false)] true 3)) .e)))) none
.e))) none
.e) none
.e)) none
(.n (.n (.n (.n .e none
(.n .e none
(.n (.n .e none
(.n .e none
(.n .e none
(.n .e (some (.cells [(.int .u32 (.ofNat 1))] false 0)) .e)))) none
.e))) none
.e) none
.e) none
(.n (.n .e none
(.n (.n .e none
(.n .e none
(.n (.n (.n .e (some (.cells [(.int .i64 (.ofNat 2)),(.sl 4955 0 11 11 false),(.sl 4932 0 2 2 false)] false 0)) .e) none
.e) none
.e))) none
.e)) none
.e)))) none
(.n (.n (.n (.n .e none
(.n (.n (.n (.n .e none
(.n .e none
(.n (.n (.n (.n .e (some (.cells [(.bool false),(.sl 17928 0 1 1 true),(.sl 17930 0 1 1 true),(.bool true),(.sl 17949 0 1 1 true),(.sl 17951 0 1 1 true)] true 3)) .e) none
.e) none
.e) none
.e))) none
.e) none
.e) none
.e)) none
(.n (.n .e none
(.n .e none
(.n (.n (.n .e none
(.n (.n .e none
(.n .e (some (.cells [(.bool false),(.sl 13502 0 1 1 true),(.sl 13497 0 1 1 false),(.bool true),(.sl 13519 0 1 1 true),(.sl 13514 0 1 1 false)] true 3)) .e)) none
.e)) none
.e) none
.e))) none
.e)) none
(.n (.n (.n (.n (.n (.n .e none
(.n .e none
(.n (.n (.n (.n .e (some (.cells [(.int .u32 (.ofNat 2))] true 1)) .e) none
.e) none
.e) none
.e))) none
.e) none
.e) none
(.n .e none
(.n (.n (.n .e none
(.n (.n .e none
(.n .e (some (.cells [(.int .u32 (.ofNat 1))] false 0)) .e)) none
.e)) none
.e) none
.e))) none
.e) none
.e)) none
(.n (.n (.n (.n .e none
(.n (.n .e none
(.n .e none
(.n (.n (.n .e (some (.cells [(.int .i64 (.ofNat 1)),(.int .i64 (.ofNat 1))] false 0)) .e) none
.e) none
.e))) none
.e)) none
.e) none
.e) none
(.n .e none
(.n .e none
(.n (.n .e none
(.n (.n (.n .e none
(.n (.n .e none
(.n .e (some (.cells [(.int .u32 (.ofNat 3))] true 1)) .e)) none
.e)) none
.e) none
.e)) none
.e))))))), 17955⟩
noncomputable def act4 : Act' := ⟨(.n (.n (.n (.n (.n (.n (.n (.n .e (some (.int .i64 (.ofNat 0))) .e) (some (.int .i64 (.ofNat 2)))
(.n .e (some (.bool true)) .e)) none
(.n (.n .e (some (.agg [(.bool false),(.sl 25798 0 1 1 false),(.sl 25949 0 1 2 false)])) .e) (some (.bool true))
.e)) (some (.sl 13522 0 2 2 true))
(.n (.n (.n .e (some (.int .i64 (.ofNat 0))) .e) (some (.bool true))
.e) (some (.tup [(.int .i64 (.ofNat 1)),(.int .i64 (.ofNat 0))]))
(.n (.n .e (some (.ptr 23283 1)) .e) (some (.agg [(.int .i64 (.ofNat 2)),(.sl 4955 0 11 11 false),(.sl 4932 0 2 2 false)]))
.e))) (some (.int .i64 (.ofNat 0)))
(.n (.n (.n (.n .e (some (.bool true)) .e) (some (.bool true))
.e) (some (.tup [(.sl 6069 0 2 2 true),(.int .i64 (.ofNat 0))]))
(.n (.n .e (some (.bool true)) .e) (some (.bool true))
.e)) (some (.bool true))
(.n (.n (.n .e (some (.bool true)) .e) (some (.bool true))
.e) (some (.sl 8278 0 1 1 false))
(.n (.n .e (some (.ptr 19392 0)) .e) (some (.tup [(.sl 15764 0 2 2 true),(.int .i64 (.ofNat 0))]))
.e)))) (some (.int .i64 (.ofNat 0)))
(.n (.n (.n (.n (.n .e (some (.agg [(.sl 19070 0 2 2 true),(.sl 19392 0 2 2 false)])) .e) (some (.sl 11035 0 1 1 true))
(.n .e (some (.bool true)) .e)) (some (.bool false))
(.n (.n .e (some (.bool true)) .e) (some (.bool true))
.e)) (some (.sl 17954 0 2 2 true))
(.n (.n (.n .e (some (.sl 15764 0 2 2 true)) .e) (some (.bool true))
.e) (some (.int .i64 (.ofNat 1)))
(.n (.n .e (some (.bool true)) .e) (some (.int .i64 (.ofNat 0)))
.e))) (some (.int .i64 (.ofNat 2)))
(.n (.n (.n (.n .e (some (.sl 23290 0 2 2 false)) .e) (some (.bool true))
.e) (some (.agg [(.int .i64 (.ofNat 2)),(.sl 4955 0 11 11 false),(.sl 4932 0 2 2 false)]))
(.n (.n .e (some (.sl 23322 0 2 2 false)) .e) (some (.sl 11065 0 1 1 false))
.e)) none
(.n (.n (.n .e (some (.bool true)) .e) (some (.bool true))
.e) (some (.tup [.nilsl,(.int .i64 (.ofNat 2))]))
(.n (.n .e (some (.agg [(.bool false),(.sl 28119 0 1 2 false),(.sl 28298 0 1 1 false)])) .e) (some (.agg [(.int .i64 (.ofNat 2)),(.sl 4955 0 11 11 false),(.sl 4932 0 2 2 false)]))
.e))))) (some (.ptr 4956 0))
(.n (.n (.n (.n (.n (.n .e (some (.agg [(.int .i64 (.ofNat 2)),(.sl 4955 0 11 11 false),(.sl 4932 0 2 2 false)])) .e) (some (.agg [(.int .i64 (.ofNat 1)),(.sl 10490 0 5 5 false),(.sl 10479 0 2 2 false)]))
(.n .e (some (.agg [(.sl 19070 0 2 2 true),(.sl 19392 0 2 2 false)])) .e)) none
(.n (.n .e (some (.sl 23312 0 2 2 false)) .e) (some (.bool true))
.e)) (some (.sl 15764 0 2 2 true))
(.n (.n (.n .e (some (.bool true)) .e) (some (.sl 7173 0 1 1 false))
.e) (some (.sl 7174 0 1 1 false))
(.n (.n .e (some (.int .i64 (.ofNat 2))) .e) (some (.tup [(.sl 13522 0 2 2 true),(.int .i64 (.ofNat 0))]))
.e))) (some (.int .i64 (.ofNat 2)))
(.n (.n (.n (.n .e (some (.agg [(.bool false),(.sl 23605 0 1 2 false),(.sl 23784 0 1 1 false)])) .e) (some (.sl 11036 0 2 2 false))
.e) (some (.int .i64 (.ofNat 0)))
(.n (.n .e (some (.ptr 23283 0)) .e) (some (.bool true))
.e)) none
(.n (.n (.n .e (some (.bool true)) .e) (some (.bool true))
.e) (some (.int .i64 (.ofNat 0)))
(.n (.n .e (some (.agg [(.bool false),(.sl 26917 0 1 2 false),(.sl 27096 0 1 1 false)])) .e) (some (.int .i64 (.ofNat 0)))
.e)))) (some (.int .i64 (.ofNat 0)))
(.n (.n (.n (.n (.n .e (some (.int .i64 (.ofNat 0))) .e) (some (.int .i64 (.ofNat 0)))
.e) (some (.tup [(.sl 6069 0 2 2 true),(.int .i64 (.ofNat 0))]))
(.n (.n .e (some (.int .i64 (.ofNat 0))) .e) (some (.bool true))
.e)) (some (.ptr 23283 0))
(.n (.n (.n .e (some (.agg [(.bool true),(.sl 25213 0 1 2 false),(.sl 25392 0 1 1 false)])) .e) (some (.bool true))
.e) (some (.tup [(.int .i64 (.ofNat 0)),(.int .i64 (.ofNat 2))]))
(.n (.n .e (some (.ptr 23283 1)) .e) (some (.agg [(.int .i64 (.ofNat 2)),(.sl 4955 0 11 11 false),(.sl 4932 0 2 2 false)]))
.e))) (some (.int .i64 (.ofNat 0)))
(.n (.n (.n (.n .e (some (.bool true)) .e) (some (.int .i64 (.ofNat 0)))
.e) (some (.sl 7173 0 1 1 false))
(.n (.n .e (some (.bool true)) .e) (some (.bool true))
.e)) none
(.n (.n (.n .e (some (.bool true)) .e) (some (.bool true))
.e) (some (.tup [.nilsl,(.int .i64 (.ofNat 2))]))
(.n (.n .e (some (.sl 23340 0 4 4 false)) .e) (some (.tup [(.sl 17954 0 2 2 true),(.int .i64 (.ofNat 0))]))
.e)))))) (some (.bool false))
(.n (.n (.n (.n (.n (.n (.n .e (some (.tup [(.agg [(.sl 19070 0 2 2 true),(.sl 19392 0 2 2 false)]),(.int .i64 (.ofNat 0))])) .e) (some (.tup [(.sl 11035 0 1 1 true),(.int .i64 (.ofNat 0))]))
(.n .e (some (.bool true)) .e)) none
(.n (.n .e (some (.agg [(.bool true),(.sl 26323 0 1 1 false),(.sl 26474 0 1 2 false)])) .e) (some (.bool true))
.e)) (some (.int .i64 (.ofNat 0)))
(.n (.n (.n .e (some (.bool true)) .e) (some (.bool true))
.e) (some (.agg [(.int .i64 (.ofNat 2)),(.sl 4955 0 11 11 false),(.sl 4932 0 2 2 false)]))
(.n (.n .e (some (.sl 19392 0 2 2 false)) .e) (some (.sl 11075 0 2 2 false))
.e))) (some (.int .i64 (.ofNat 0)))
(.n (.n (.n (.n .e (some (.sl 13522 0 2 2 true)) .e) (some (.sl 6069 0 2 2 true))
.e) (some (.sl 6069 0 2 2 true))
(.n (.n .e (some (.bool true)) .e) (some (.bool true))
.e)) none
(.n (.n (.n .e (some (.bool true)) .e) (some (.bool true))
.e) (some (.tup [(.int .i64 (.ofNat 0)),(.int .i64 (.ofNat 2))]))
(.n (.n .e (some (.sl 23233 0 4 4 true)) .e) (some (.sl 15764 0 2 2 true))
.e)))) (some (.sl 7173 0 1 1 false))
(.n (.n (.n (.n (.n .e (some (.int .i64 (.ofNat 0))) .e) (some (.int .i64 (.ofNat 0)))
(.n .e (some (.bool true)) .e)) (some (.agg [(.int .i64 (.ofNat 2)),(.sl 4955 0 11 11 false),(.sl 4932 0 2 2 false)]))
(.n (.n .e (some (.bool true)) .e) (some (.bool true))
.e)) (some (.int .i64 (.ofNat 0)))
(.n (.n (.n .e (some (.agg [(.bool false),(.sl 24697 0 1 2 false),(.sl 24876 0 1 1 false)])) .e) (some (.bool true))
.e) (some (.int .i64 (.ofNat 0)))
(.n (.n .e (some (.bool true)) .e) (some (.tup [(.sl 15764 0 2 2 true),(.int .i64 (.ofNat 0))]))
.e))) (some (.sl 11035 0 1 1 true))
(.n (.n (.n (.n .e (some (.bool true)) .e) (some (.bool true))
.e) (some (.tup [(.sl 7173 0 1 1 false),(.int .i64 (.ofNat 0))]))
(.n (.n .e (some (.bool true)) .e) (some (.bool true))
.e)) none
(.n (.n (.n .e (some (.bool true)) .e) (some (.bool true))
.e) (some (.agg [(.int .i64 (.ofNat 2)),(.sl 4955 0 11 11 false),(.sl 4932 0 2 2 false)]))
(.n (.n .e (some (.agg [(.bool false),(.sl 28644 0 1 1 false),(.sl 28795 0 1 2 false)])) .e) (some (.sl 15765 0 2 2 false))
.e))))) (some (.sl 6069 0 2 2 true))
(.n (.n (.n (.n (.n (.n .e (some (.tup [(.agg [(.sl 19070 0 2 2 true),(.sl 19392 0 2 2 false)]),(.int .i64 (.ofNat 0))])) .e) (some (.tup [(.sl 11035 0 1 1 true),(.int .i64 (.ofNat 0))]))
(.n .e (some (.int .i64 (.ofNat 0))) .e)) (some (.bool true))
(.n (.n .e (some (.bool true)) .e) (some (.int .i64 (.ofNat 2)))
.e)) (some (.int .i64 (.ofNat 0)))
(.n (.n (.n .e (some (.bool true)) .e) (some (.sl 11055 0 1 1 false))
.e) (some (.tup [(.int .i64 (.ofNat 1)),(.int .i64 (.ofNat 0))]))
(.n (.n .e (some (.bool true)) .e) (some (.sl 13522 0 2 2 true))
.e))) (some .nilsl)
(.n (.n (.n (.n .e (some (.agg [(.bool true),(.sl 24121 0 1 2 false),(.sl 24300 0 1 1 false)])) .e) (some (.bool true))
.e) (some (.tup [(.sl 7173 0 1 1 false),(.int .i64 (.ofNat 0))]))
(.n (.n .e (some (.sl 19070 0 2 2 true)) .e) (some (.sl 11035 0 1 1 true))
.e)) none
(.n (.n (.n .e (some (.int .i64 (.ofNat 0))) .e) (some (.int .i64 (.ofNat 1)))
.e) (some (.int .i64 (.ofNat 2)))
(.n (.n .e (some (.agg [(.bool false),(.sl 27575 0 1 2 false),(.sl 27754 0 1 2 false)])) .e) (some (.tup [(.sl 17954 0 2 2 true),(.int .i64 (.ofNat 0))]))
.e)))) (some (.int .i64 (.ofNat 1)))
(.n (.n (.n (.n (.n .e (some (.bool true)) .e) (some (.bool true))
.e) (some (.agg [(.int .i64 (.ofNat 2)),(.sl 4955 0 11 11 false),(.sl 4932 0 2 2 false)]))
(.n (.n .e (some (.bool true)) .e) (some (.int .i64 (.ofNat 0)))
.e)) (some (.int .i64 (.ofNat 0)))
(.n (.n (.n .e (some (.sl 23301 0 2 2 false)) .e) (some (.int .i64 (.ofNat 0)))
.e) (some (.agg [(.int .i64 (.ofNat 2)),(.sl 4955 0 11 11 false),(.sl 4932 0 2 2 false)]))
(.n (.n .e (some (.sl 19392 0 2 2 false)) .e) (some (.sl 13523 0 2 2 false))
.e))) (some (.bool true))
(.n (.n (.n (.n .e (some (.bool true)) .e) (some (.bool true))
.e) (some (.int .i64 (.ofNat 0)))
(.n (.n .e (some (.bool true)) .e) (some (.tup [(.sl 13522 0 2 2 true),(.int .i64 (.ofNat 0))]))
.e)) none
(.n (.n (.n .e (some (.sl 17954 0 2 2 true)) .e) (some (.int .i64 (.ofNat 2)))
.e) (some .nilsl)
(.n (.n .e (some (.bool true)) .e) (some (.sl 17954 0 2 2 true))
.e))))))), false⟩
noncomputable def sta4 : St := ⟨(.n .e (some (.ro [(.int .u8 (.ofNat 0)),(.int .u8 (.ofNat 1)),(.int .u8 (.ofNat 56)),(.int .u8 (.ofNat 2)),(.int .u8 (.ofNat 57)),(.int .u8 (.ofNat 49)),(.int .u8 (.ofNat 28)),(.int .u8 (.ofNat 3)),(.int .u8 (.ofNat 61)),(.int .u8 (.ofNat 58)),(.int .u8 (.ofNat 42)),(.int .u8 (.ofNat 50)),(.int .u8 (.ofNat 38)),(.int .u8 (.ofNat 29)),(.int .u8 (.ofNat 17)),(.int .u8 (.ofNat 4)),(.int .u8 (.ofNat 62)),(.int .u8 (.ofNat 47)),(.int .u8 (.ofNat 59)),(.int .u8 (.ofNat 36)),(.int .u8 (.ofNat 45)),(.int .u8 (.ofNat 43)),(.int .u8 (.ofNat 51)),(.int .u8 (.ofNat 22)),(.int .u8 (.ofNat 53)),(.int .u8 (.ofNat 39)),(.int .u8 (.ofNat 33)),(.int .u8 (.ofNat 30)),(.int .u8 (.ofNat 24)),(.int .u8 (.ofNat 18)),(.int .u8 (.ofNat 12)),(.int .u8 (.ofNat 5)),(.int .u8 (.ofNat 63)),(.int .u8 (.ofNat 55)),(.int .u8 (.ofNat 48)),(.int .u8 (.ofNat 27)),(.int .u8 (.ofNat 60)),(.int .u8 (.ofNat 41)),(.int .u8 (.ofNat 37)),(.int .u8 (.ofNat 16)),(.int .u8 (.ofNat 46)),(.int .u8 (.ofNat 35)),(.int .u8 (.ofNat 44)),(.int .u8 (.ofNat 21)),(.int .u8 (.ofNat 52)),(.int .u8 (.ofNat 32)),(.int .u8 (.ofNat 23)),(.int .u8 (.ofNat 11)),(.int .u8 (.ofNat 54)),(.int .u8 (.ofNat 26)),(.int .u8 (.ofNat 40)),(.int .u8 (.ofNat 15)),(.int .u8 (.ofNat 34)),(.int .u8 (.ofNat 20)),(.int .u8 (.ofNat 31)),(.int .u8 (.ofNat 10)),(.int .u8 (.ofNat 25)),(.int .u8 (.ofNat 14)),(.int .u8 (.ofNat 19)),(.int .u8 (.ofNat 9)),(.int .u8 (.ofNat 13)),(.int .u8 (.ofNat 8)),(.int .u8 (.ofNat 7)),(.int .u8 (.ofNat 6))])) .e), 29041⟩
noncomputable def act5 : Act' := ⟨(.n (.n (.n (.n (.n (.n (.n (.n .e (some (.int .i64 (.ofNat 0))) .e) (some (.int .i64 (.ofNat 2)))
(.n .e (some (.bool true)) .e)) (some (.int .i64 (.ofNat 5)))
(.n (.n .e (some (.agg [(.bool false),(.sl 25798 0 1 1 false),(.sl 25949 0 1 2 false)])) .e) (some (.bool true))
.e)) (some (.sl 13522 0 2 2 true))
(.n (.n (.n .e (some (.int .i64 (.ofNat 0))) .e) (some (.bool true))
(.n .e (some (.int .i64 (.ofNat 2))) .e)) (some (.tup [(.int .i64 (.ofNat 1)),(.int .i64 (.ofNat 0))]))
(.n (.n .e (some (.ptr 23283 1)) .e) (some (.agg [(.int .i64 (.ofNat 2)),(.sl 4955 0 11 11 false),(.sl 4932 0 2 2 false)]))
.e))) (some (.int .i64 (.ofNat 0)))
(.n (.n (.n (.n .e (some (.bool true)) .e) (some (.bool true))
(.n .e (some (.tup [(.sl 29042 0 2 2 false),(.int .i64 (.ofNat 0))])) .e)) (some (.tup [(.sl 6069 0 2 2 true),(.int .i64 (.ofNat 0))]))
(.n (.n .e (some (.bool true)) .e) (some (.bool true))
.e)) (some (.bool true))
(.n (.n (.n .e (some (.bool true)) .e) (some (.bool true))
(.n .e (some (.sl 29047 0 1 1 false)) .e)) (some (.sl 8278 0 1 1 false))
(.n (.n .e (some (.ptr 19392 0)) .e) (some (.tup [(.sl 15764 0 2 2 true),(.int .i64 (.ofNat 0))]))
.e)))) (some (.int .i64 (.ofNat 0)))
(.n (.n (.n (.n (.n .e (some (.agg [(.sl 19070 0 2 2 true),(.sl 19392 0 2 2 false)])) .e) (some (.sl 11035 0 1 1 true))
(.n .e (some (.bool true)) .e)) (some (.bool false))
(.n (.n .e (some (.bool true)) .e) (some (.bool true))
.e)) (some (.sl 17954 0 2 2 true))
(.n (.n (.n .e (some (.sl 15764 0 2 2 true)) .e) (some (.bool true))
(.n .e (some .nilsl) .e)) (some (.int .i64 (.ofNat 1)))
(.n (.n .e (some (.bool true)) .e) (some (.int .i64 (.ofNat 0)))
.e))) (some (.int .i64 (.ofNat 2)))
(.n (.n (.n (.n .e (some (.sl 23290 0 2 2 false)) .e) (some (.bool true))
(.n .e (some (.sl 29043 0 2 2 false)) .e)) (some (.agg [(.int .i64 (.ofNat 2)),(.sl 4955 0 11 11 false),(.sl 4932 0 2 2 false)]))
(.n (.n .e (some (.sl 23322 0 2 2 false)) .e) (some (.sl 11065 0 1 1 false))
.e)) (some (.int .i64 (.ofNat 2)))
(.n (.n (.n .e (some (.bool true)) .e) (some (.bool true))
.e) (some (.tup [.nilsl,(.int .i64 (.ofNat 2))]))
(.n (.n .e (some (.agg [(.bool false),(.sl 28119 0 1 2 false),(.sl 28298 0 1 1 false)])) .e) (some (.agg [(.int .i64 (.ofNat 2)),(.sl 4955 0 11 11 false),(.sl 4932 0 2 2 false)]))
.e))))) (some (.ptr 4956 0))
(.n (.n (.n (.n (.n (.n .e (some (.agg [(.int .i64 (.ofNat 2)),(.sl 4955 0 11 11 false),(.sl 4932 0 2 2 false)])) .e) (some (.agg [(.int .i64 (.ofNat 1)),(.sl 10490 0 5 5 false),(.sl 10479 0 2 2 false)]))
(.n .e (some (.agg [(.sl 19070 0 2 2 true),(.sl 19392 0 2 2 false)])) .e)) none
(.n (.n .e (some (.sl 23312 0 2 2 false)) .e) (some (.bool true))
.e)) (some (.sl 15764 0 2 2 true))
(.n (.n (.n .e (some (.bool true)) .e) (some (.sl 7173 0 1 1 false))
(.n .e (some (.sl 29045 0 2 2 false)) .e)) (some (.sl 7174 0 1 1 false))
(.n (.n .e (some (.int .i64 (.ofNat 2))) .e) (some (.tup [(.sl 13522 0 2 2 true),(.int .i64 (.ofNat 0))]))
.e))) (some (.int .i64 (.ofNat 2)))
(.n (.n (.n (.n .e (some (.agg [(.bool false),(.sl 23605 0 1 2 false),(.sl 23784 0 1 1 false)])) .e) (some (.sl 11036 0 2 2 false))
(.n .e (some (.int .i64 (.ofNat 0))) .e)) (some (.int .i64 (.ofNat 0)))
(.n (.n .e (some (.ptr 23283 0)) .e) (some (.bool true))
.e)) (some (.int .i64 (.ofNat 0)))
(.n (.n (.n .e (some (.bool true)) .e) (some (.bool true))
(.n .e (some (.int .i64 (.ofNat 0))) .e)) (some (.int .i64 (.ofNat 0)))
(.n (.n .e (some (.agg [(.bool false),(.sl 26917 0 1 2 false),(.sl 27096 0 1 1 false)])) .e) (some (.int .i64 (.ofNat 0)))
.e)))) (some (.int .i64 (.ofNat 0)))
(.n (.n (.n (.n (.n .e (some (.int .i64 (.ofNat 0))) .e) (some (.int .i64 (.ofNat 0)))
(.n .e (some (.tup [(.sl 29042 0 2 2 false),(.int .i64 (.ofNat 0))])) .e)) (some (.tup [(.sl 6069 0 2 2 true),(.int .i64 (.ofNat 0))]))
(.n (.n .e (some (.int .i64 (.ofNat 0))) .e) (some (.bool true))
.e)) (some (.ptr 23283 0))
(.n (.n (.n .e (some (.agg [(.bool true),(.sl 25213 0 1 2 false),(.sl 25392 0 1 1 false)])) .e) (some (.bool true))
(.n .e (some (.tup [(.int .i64 (.ofNat 0)),(.int .i64 (.ofNat 5))])) .e)) (some (.tup [(.int .i64 (.ofNat 0)),(.int .i64 (.ofNat 2))]))
(.n (.n .e (some (.ptr 23283 1)) .e) (some (.agg [(.int .i64 (.ofNat 2)),(.sl 4955 0 11 11 false),(.sl 4932 0 2 2 false)]))
.e))) (some (.int .i64 (.ofNat 0)))
(.n (.n (.n (.n .e (some (.bool true)) .e) (some (.int .i64 (.ofNat 0)))
(.n .e (some (.tup [(.int .i64 (.ofNat 0)),(.int .i64 (.ofNat 2))])) .e)) (some (.sl 7173 0 1 1 false))
(.n (.n .e (some (.bool true)) .e) (some (.bool true))
.e)) (some (.int .i64 (.ofNat 2)))
(.n (.n (.n .e (some (.bool true)) .e) (some (.bool true))
.e) (some (.tup [.nilsl,(.int .i64 (.ofNat 2))]))
(.n (.n .e (some (.sl 23340 0 4 4 false)) .e) (some (.tup [(.sl 17954 0 2 2 true),(.int .i64 (.ofNat 0))]))
.e)))))) (some (.bool false))
(.n (.n (.n (.n (.n (.n (.n .e (some (.tup [(.agg [(.sl 19070 0 2 2 true),(.sl 19392 0 2 2 false)]),(.int .i64 (.ofNat 0))])) .e) (some (.tup [(.sl 11035 0 1 1 true),(.int .i64 (.ofNat 0))]))
(.n .e (some (.bool true)) .e)) none
(.n (.n .e (some (.agg [(.bool true),(.sl 26323 0 1 1 false),(.sl 26474 0 1 2 false)])) .e) (some (.bool true))
.e)) (some (.int .i64 (.ofNat 0)))
(.n (.n (.n .e (some (.bool true)) .e) (some (.bool true))
(.n .e (some (.tup [.nilsl,(.int .i64 (.ofNat 2))])) .e)) (some (.agg [(.int .i64 (.ofNat 2)),(.sl 4955 0 11 11 false),(.sl 4932 0 2 2 false)]))
(.n (.n .e (some (.sl 19392 0 2 2 false)) .e) (some (.sl 11075 0 2 2 false))
.e))) (some (.int .i64 (.ofNat 0)))
(.n (.n (.n (.n .e (some (.sl 13522 0 2 2 true)) .e) (some (.sl 6069 0 2 2 true))
(.n .e (some (.sl 29042 0 2 2 false)) .e)) (some (.sl 6069 0 2 2 true))
(.n (.n .e (some (.bool true)) .e) (some (.bool true))
.e)) (some (.sl 29042 0 2 2 false))
(.n (.n (.n .e (some (.bool true)) .e) (some (.bool true))
(.n .e (some (.tup [(.int .i64 (.ofNat 0)),(.int .i64 (.ofNat 5))])) .e)) (some (.tup [(.int .i64 (.ofNat 0)),(.int .i64 (.ofNat 2))]))
(.n (.n .e (some (.sl 23233 0 4 4 true)) .e) (some (.sl 15764 0 2 2 true))
.e)))) (some (.sl 7173 0 1 1 false))
(.n (.n (.n (.n (.n .e (some (.int .i64 (.ofNat 0))) .e) (some (.int .i64 (.ofNat 0)))
(.n .e (some (.bool true)) .e)) (some (.agg [(.int .i64 (.ofNat 2)),(.sl 4955 0 11 11 false),(.sl 4932 0 2 2 false)]))
(.n (.n .e (some (.bool true)) .e) (some (.bool true))
.e)) (some (.int .i64 (.ofNat 0)))
(.n (.n (.n .e (some (.agg [(.bool false),(.sl 24697 0 1 2 false),(.sl 24876 0 1 1 false)])) .e) (some (.bool true))
(.n .e (some (.int .i64 (.ofNat 2))) .e)) (some (.int .i64 (.ofNat 0)))
(.n (.n .e (some (.bool true)) .e) (some (.tup [(.sl 15764 0 2 2 true),(.int .i64 (.ofNat 0))]))
.e))) (some (.sl 11035 0 1 1 true))
(.n (.n (.n (.n .e (some (.bool true)) .e) (some (.bool true))
(.n .e (some (.sl 29044 0 2 2 false)) .e)) (some (.tup [(.sl 7173 0 1 1 false),(.int .i64 (.ofNat 0))]))
(.n (.n .e (some (.bool true)) .e) (some (.bool true))
.e)) (some .nilsl)
(.n (.n (.n .e (some (.bool true)) .e) (some (.bool true))
.e) (some (.agg [(.int .i64 (.ofNat 2)),(.sl 4955 0 11 11 false),(.sl 4932 0 2 2 false)]))
(.n (.n .e (some (.agg [(.bool false),(.sl 28644 0 1 1 false),(.sl 28795 0 1 2 false)])) .e) (some (.sl 15765 0 2 2 false))
.e))))) (some (.sl 6069 0 2 2 true))
(.n (.n (.n (.n (.n (.n .e (some (.tup [(.agg [(.sl 19070 0 2 2 true),(.sl 19392 0 2 2 false)]),(.int .i64 (.ofNat 0))])) .e) (some (.tup [(.sl 11035 0 1 1 true),(.int .i64 (.ofNat 0))]))
(.n .e (some (.int .i64 (.ofNat 0))) .e)) (some (.bool true))
(.n (.n .e (some (.bool true)) .e) (some (.int .i64 (.ofNat 2)))
.e)) (some (.int .i64 (.ofNat 0)))
(.n (.n (.n .e (some (.bool true)) .e) (some (.sl 11055 0 1 1 false))
(.n .e (some (.tup [.nilsl,(.int .i64 (.ofNat 2))])) .e)) (some (.tup [(.int .i64 (.ofNat 1)),(.int .i64 (.ofNat 0))]))
(.n (.n .e (some (.bool true)) .e) (some (.sl 13522 0 2 2 true))
.e))) (some .nilsl)
(.n (.n (.n (.n .e (some (.agg [(.bool true),(.sl 24121 0 1 2 false),(.sl 24300 0 1 1 false)])) .e) (some (.bool true))
(.n .e (some (.tup [(.int .i64 (.ofNat 0)),(.int .i64 (.ofNat 2))])) .e)) (some (.tup [(.sl 7173 0 1 1 false),(.int .i64 (.ofNat 0))]))
(.n (.n .e (some (.sl 19070 0 2 2 true)) .e) (some (.sl 11035 0 1 1 true))
.e)) (some (.int .i64 (.ofNat 0)))
(.n (.n (.n .e (some (.int .i64 (.ofNat 0))) .e) (some (.int .i64 (.ofNat 1)))
(.n .e (some (.int .i64 (.ofNat 5))) .e)) (some (.int .i64 (.ofNat 2)))
(.n (.n .e (some (.agg [(.bool false),(.sl 27575 0 1 2 false),(.sl 27754 0 1 2 false)])) .e) (some (.tup [(.sl 17954 0 2 2 true),(.int .i64 (.ofNat 0))]))
.e)))) (some (.int .i64 (.ofNat 1)))
(.n (.n (.n (.n (.n .e (some (.bool true)) .e) (some (.bool true))
(.n .e (some (.sl 29041 0 2 2 false)) .e)) (some (.agg [(.int .i64 (.ofNat 2)),(.sl 4955 0 11 11 false),(.sl 4932 0 2 2 false)]))
(.n (.n .e (some (.bool true)) .e) (some (.int .i64 (.ofNat 0)))
.e)) (some (.int .i64 (.ofNat 0)))
(.n (.n (.n .e (some (.sl 23301 0 2 2 false)) .e) (some (.int .i64 (.ofNat 0)))
(.n .e (some (.sl 29046 0 1 1 false)) .e)) (some (.agg [(.int .i64 (.ofNat 2)),(.sl 4955 0 11 11 false),(.sl 4932 0 2 2 false)]))
(.n (.n .e (some (.sl 19392 0 2 2 false)) .e) (some (.sl 13523 0 2 2 false))
.e))) (some (.bool true))
(.n (.n (.n (.n .e (some (.bool true)) .e) (some (.bool true))
(.n .e (some (.int .i64 (.ofNat 0))) .e)) (some (.int .i64 (.ofNat 0)))
(.n (.n .e (some (.bool true)) .e) (some (.tup [(.sl 13522 0 2 2 true),(.int .i64 (.ofNat 0))]))
.e)) (some (.int .i64 (.ofNat 0)))
(.n (.n (.n .e (some (.sl 17954 0 2 2 true)) .e) (some (.int .i64 (.ofNat 2)))
.e) (some .nilsl)
(.n (.n .e (some (.bool true)) .e) (some (.sl 17954 0 2 2 true))
.e))))))), false⟩
noncomputable def sta5 : St := ⟨(.n .e (some (.ro [(.int .u8 (.ofNat 0)),(.int .u8 (.ofNat 1)),(.int .u8 (.ofNat 56)),(.int .u8 (.ofNat 2)),(.int .u8 (.ofNat 57)),(.int .u8 (.ofNat 49)),(.int .u8 (.ofNat 28)),(.int .u8 (.ofNat 3)),(.int .u8 (.ofNat 61)),(.int .u8 (.ofNat 58)),(.int .u8 (.ofNat 42)),(.int .u8 (.ofNat 50)),(.int .u8 (.ofNat 38)),(.int .u8 (.ofNat 29)),(.int .u8 (.ofNat 17)),(.int .u8 (.ofNat 4)),(.int .u8 (.ofNat 62)),(.int .u8 (.ofNat 47)),(.int .u8 (.ofNat 59)),(.int .u8 (.ofNat 36)),(.int .u8 (.ofNat 45)),(.int .u8 (.ofNat 43)),(.int .u8 (.ofNat 51)),(.int .u8 (.ofNat 22)),(.int .u8 (.ofNat 53)),(.int .u8 (.ofNat 39)),(.int .u8 (.ofNat 33)),(.int .u8 (.ofNat 30)),(.int .u8 (.ofNat 24)),(.int .u8 (.ofNat 18)),(.int .u8 (.ofNat 12)),(.int .u8 (.ofNat 5)),(.int .u8 (.ofNat 63)),(.int .u8 (.ofNat 55)),(.int .u8 (.ofNat 48)),(.int .u8 (.ofNat 27)),(.int .u8 (.ofNat 60)),(.int .u8 (.ofNat 41)),(.int .u8 (.ofNat 37)),(.int .u8 (.ofNat 16)),(.int .u8 (.ofNat 46)),(.int .u8 (.ofNat 35)),(.int .u8 (.ofNat 44)),(.int .u8 (.ofNat 21)),(.int .u8 (.ofNat 52)),(.int .u8 (.ofNat 32)),(.int .u8 (.ofNat 23)),(.int .u8 (.ofNat 11)),(.int .u8 (.ofNat 54)),(.int .u8 (.ofNat 26)),(.int .u8 (.ofNat 40)),(.int .u8 (.ofNat 15)),(.int .u8 (.ofNat 34)),(.int .u8 (.ofNat 20)),(.int .u8 (.ofNat 31)),(.int .u8 (.ofNat 10)),(.int .u8 (.ofNat 25)),(.int .u8 (.ofNat 14)),(.int .u8 (.ofNat 19)),(.int .u8 (.ofNat 9)),(.int .u8 (.ofNat 13)),(.int .u8 (.ofNat 8)),(.int .u8 (.ofNat 7)),(.int .u8 (.ofNat 6))]))
(.n .e none
(.n (.n (.n .e none
(.n .e none
(.n .e none
(.n (.n .e none
(.n (.n (.n (.n .e none
(.n .e none
(.n .e (some (.cells [(.int .i64 (.ofNat 1)),(.int .i64 (.ofNat 2))] false 0)) .e))) none
.e) none
.e) none
.e)) none
.e)))) none
.e) none
.e))), 29048⟩
end Go.Proofs.YtopemogpgppjlaaGreatDoor.normalNames
