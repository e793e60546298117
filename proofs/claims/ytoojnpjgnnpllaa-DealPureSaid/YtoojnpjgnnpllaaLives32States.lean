/- Lives32: what is kept between the stages, written by program. -/
import Derived.Test.YtoojnpjgnnpllaaEv8
namespace Go.Ev.Gl
end Go.Ev.Gl
namespace Go.Proofs.Ytoojnpjgnnpllaa.lives32
open Go.Ev Go.Ev.Gl
set_option maxRecDepth 100000
noncomputable def act0 : Act' := ⟨(.n (.n (.n (.n (.n .e (some (.int .i64 (.ofNat 12))) .e) (some (.sl 16 0 1 1 false))
.e) (some (.int .i64 (.ofNat 12)))
(.n .e (some (.tup [(.int .i64 (.ofNat 12)),(.int .i64 (.ofNat 0))])) .e)) (some (.int .i64 (.ofNat 4)))
(.n (.n .e (some (.int .i64 (.ofNat 4))) .e) (some (.tup [(.int .i64 (.ofNat 4)),(.int .i64 (.ofNat 0))]))
(.n .e (some (.agg [(.int .i64 (.ofNat 1)),(.sl 1491 0 1 1 false)])) .e))) (some (.bool false))
(.n (.n (.n (.n .e (some (.int .i64 (.ofNat 0))) .e) (some (.tup [(.int .i64 (.ofNat 4)),(.int .i64 (.ofNat 0))]))
.e) (some (.int .i64 (.ofNat 0)))
(.n .e (some (.agg [(.int .i64 (.ofNat 1)),(.sl 1487 0 7 7 false),(.sl 1488 0 1 1 false)])) .e)) (some (.int .i64 (.ofNat 0)))
(.n (.n .e (some (.int .i64 (.ofNat 0))) .e) (some (.agg [(.int .i64 (.ofNat 1)),(.sl 14 0 7 7 false),(.sl 15 0 1 1 false)]))
(.n .e (some (.tup [(.int .i64 (.ofNat 12)),(.int .i64 (.ofNat 0))])) .e)))), false⟩
noncomputable def sta0 : St := ⟨.e, 2245⟩
end Go.Proofs.Ytoojnpjgnnpllaa.lives32
