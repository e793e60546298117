/- Lives32: stage 1 of the run, in the kernel. -/
import Derived.Test.YtoojnpjgnnpllaaLives32Fns
import Derived.Test.YtoojnpjgnnpllaaLives32States
namespace Go.Ev.Gl
end Go.Ev.Gl
namespace Go.Proofs.Ytoojnpjgnnpllaa.lives32
open Go.Ev Go.Ev.Gl
set_option maxRecDepth 100000
theorem stage1 : osel ((ev (table fnsL) 100000).code (.seq s3 s4) act0 sta0) (lastK [(.t 0)]) = some true := by kernel_rfl
end Go.Proofs.Ytoojnpjgnnpllaa.lives32
