/- RatKnown: stage 1 of the run, in the kernel. -/
import Derived.Test.YtopemogpgppjlaaDoorRatKnownFns
import Derived.Test.YtopemogpgppjlaaDoorRatKnownStates
namespace Go.Proofs.YtopemogpgppjlaaDoor.ratKnown
open Go.Ev
set_option maxRecDepth 100000
theorem stage1 : stage (table fnsL) 100000 [s4, s5, s6, s7] [0,1,25,32,39,40,377,379,546,547] act0 sta0 = some (act1, sta1) := by kernel_rfl
end Go.Proofs.YtopemogpgppjlaaDoor.ratKnown
