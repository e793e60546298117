/- RatKnown: stage 0 of the run, in the kernel. -/
import Derived.Test.YtopemogpgppjlaaDoorRatKnownFns
import Derived.Test.YtopemogpgppjlaaDoorRatKnownStates
namespace Go.Proofs.YtopemogpgppjlaaDoor.ratKnown
open Go.Ev
set_option maxRecDepth 100000
theorem stage0 : stage (table fnsL) 100000 [s0, s1, s2, s3] [0,1,22,24,25,31,32] ⟨.e, false⟩ (stL Tryd.prog tabs) = some (act0, sta0) := by kernel_rfl
end Go.Proofs.YtopemogpgppjlaaDoor.ratKnown
