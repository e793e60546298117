/- Lives14: stage 0 of the run, in the kernel. -/
import Derived.Test.YtoojnpjgnnpllaaLives14Fns
import Derived.Test.YtoojnpjgnnpllaaLives14States
namespace Go.Ev.Gl
end Go.Ev.Gl
namespace Go.Proofs.Ytoojnpjgnnpllaa.lives14
open Go.Ev Go.Ev.Gl
set_option maxRecDepth 100000
theorem stage0 : stage (table fnsL) 100000 [s0, s1] [1071,1590] ⟨.e, false⟩ (stL Try.prog tabs) = some (act0, sta0) := by kernel_rfl
end Go.Proofs.Ytoojnpjgnnpllaa.lives14
