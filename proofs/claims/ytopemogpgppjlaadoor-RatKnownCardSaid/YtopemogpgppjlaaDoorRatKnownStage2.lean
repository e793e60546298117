/- RatKnown: stage 2 of the run, in the kernel. -/
import Derived.Test.YtopemogpgppjlaaDoorRatKnownFns
import Derived.Test.YtopemogpgppjlaaDoorRatKnownStates
namespace Go.Proofs.YtopemogpgppjlaaDoor.ratKnown
open Go.Ev
set_option maxRecDepth 100000
theorem stage2 : stage (table fnsL) 100000 [s8, s9, s10, s11] [0,1,25,32,39,40,813,814,869,870] act1 sta1 = some (act2, sta2) := by kernel_rfl
end Go.Proofs.YtopemogpgppjlaaDoor.ratKnown
