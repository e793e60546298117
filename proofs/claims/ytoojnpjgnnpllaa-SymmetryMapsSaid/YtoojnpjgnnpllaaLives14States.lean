/- Lives14: what is kept between the stages, written by program. -/
import Derived.Test.YtoojnpjgnnpllaaEv8
namespace Go.Ev.Gl
end Go.Ev.Gl
namespace Go.Proofs.Ytoojnpjgnnpllaa.lives14
open Go.Ev Go.Ev.Gl
set_option maxRecDepth 100000
noncomputable def act0 : Act' := ⟨(.n (.n (.n (.n .e (some (.int .i64 (.ofNat 0))) .e) (some (.tup [(.sl 1590 0 1 1 true),(.int .i64 (.ofNat 0))]))
.e) (some (.sl 1590 0 1 1 true))
(.n .e (some (.tup [(.sl 1590 0 1 1 true),(.int .i64 (.ofNat 0))])) .e)) (some (.bool false))
(.n (.n .e (some (.agg [(.int .i64 (.ofNat 1)),(.sl 19 0 8 8 false),.nilsl])) .e) (some (.int .i64 (.ofNat 0)))
(.n .e (some (.sl 1590 0 1 1 true)) .e))), false⟩
noncomputable def sta0 : St := ⟨(.n (.n (.n (.n (.n .e none
(.n .e none
(.n (.n (.n (.n (.n .e (some (.cells [(.int .i64 (.ofNat 0)),(.int .i64 (.ofNat 4)),(.int .i64 (.ofNat 5)),(.int .i64 (.ofNat 6)),(.int .i64 (.ofNat 1)),(.int .i64 (.ofNat 2)),(.int .i64 (.ofNat 3)),(.int .i64 (.ofNat 7))] false 0)) .e) none
.e) none
.e) none
.e) none
.e))) none
.e) none
.e) none
.e) none
(.n .e none
(.n .e none
(.n (.n .e none
(.n .e none
(.n (.n (.n (.n .e none
(.n .e (some (.cells [(.sl 1071 0 8 8 false)] true 1)) .e)) none
.e) none
.e) none
.e))) none
.e)))), 1686⟩
end Go.Proofs.Ytoojnpjgnnpllaa.lives14
