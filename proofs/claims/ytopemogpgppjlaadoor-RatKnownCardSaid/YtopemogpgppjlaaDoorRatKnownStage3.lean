/- RatKnown: stage 3 of the run, in the kernel. -/
import Derived.Test.YtopemogpgppjlaaDoorRatKnownFns
import Derived.Test.YtopemogpgppjlaaDoorRatKnownStates
namespace Go.Proofs.YtopemogpgppjlaaDoor.ratKnown
open Go.Ev
set_option maxRecDepth 100000
theorem stage3 : stage (table fnsL) 100000 [s12, s13, s14, s15] [0,1,25,32,39,40,1293,1294,1370] act2 sta2 = some (act3, sta3) := by kernel_rfl
end Go.Proofs.YtopemogpgppjlaaDoor.ratKnown
