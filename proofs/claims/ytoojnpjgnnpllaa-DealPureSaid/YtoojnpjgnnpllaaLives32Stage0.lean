/- Lives32: stage 0 of the run, in the kernel. -/
import Derived.Test.YtoojnpjgnnpllaaLives32Fns
import Derived.Test.YtoojnpjgnnpllaaLives32States
namespace Go.Ev.Gl
end Go.Ev.Gl
namespace Go.Proofs.Ytoojnpjgnnpllaa.lives32
open Go.Ev Go.Ev.Gl
set_option maxRecDepth 100000
theorem stage0 : stage (table fnsL) 100000 [s0, s1, s2] [] ⟨.e, false⟩ (stL Try.prog tabs) = some (act0, sta0) := by kernel_rfl
end Go.Proofs.Ytoojnpjgnnpllaa.lives32
