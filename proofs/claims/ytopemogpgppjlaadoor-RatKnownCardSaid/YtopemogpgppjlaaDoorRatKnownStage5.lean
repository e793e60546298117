/- RatKnown: stage 5 of the run, in the kernel. -/
import Derived.Test.YtopemogpgppjlaaDoorRatKnownFns
import Derived.Test.YtopemogpgppjlaaDoorRatKnownStates
namespace Go.Proofs.YtopemogpgppjlaaDoor.ratKnown
open Go.Ev
set_option maxRecDepth 100000
theorem stage5 : osel ((ev (table fnsL) 100000).code (.seq s20 s21) act4 sta4) (lastK [(.t 0)]) = some true := by kernel_rfl
end Go.Proofs.YtopemogpgppjlaaDoor.ratKnown
