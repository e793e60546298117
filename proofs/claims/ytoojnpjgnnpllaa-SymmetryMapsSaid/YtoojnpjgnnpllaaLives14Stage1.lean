/- Lives14: stage 1 of the run, in the kernel. -/
import Derived.Test.YtoojnpjgnnpllaaLives14Fns
import Derived.Test.YtoojnpjgnnpllaaLives14States
namespace Go.Ev.Gl
end Go.Ev.Gl
namespace Go.Proofs.Ytoojnpjgnnpllaa.lives14
open Go.Ev Go.Ev.Gl
set_option maxRecDepth 100000
theorem stage1 : osel ((ev (table fnsL) 100000).code (.seq s2 s3) act0 sta0) (lastK [(.t 0)]) = some true := by kernel_rfl
end Go.Proofs.Ytoojnpjgnnpllaa.lives14
