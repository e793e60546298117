/- RatKnown: stage 4 of the run, in the kernel. -/
import Derived.Test.YtopemogpgppjlaaDoorRatKnownFns
import Derived.Test.YtopemogpgppjlaaDoorRatKnownStates
namespace Go.Proofs.YtopemogpgppjlaaDoor.ratKnown
open Go.Ev
set_option maxRecDepth 100000
theorem stage4 : stage (table fnsL) 100000 [s16, s17, s18, s19] [0,1] act3 sta3 = some (act4, sta4) := by kernel_rfl
end Go.Proofs.YtopemogpgppjlaaDoor.ratKnown
