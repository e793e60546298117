/- DealKnown: stage 4 of the run, in the kernel. -/
import Derived.Test.YtiiplmagnlcpbaaGreatDoorDealKnownFns
import Derived.Test.YtiiplmagnlcpbaaGreatDoorDealKnownStates
namespace Go.Proofs.YtiiplmagnlcpbaaGreatDoor.dealKnown
open Go.Ev
set_option maxRecDepth 100000
theorem stage4 : osel ((ev (table fnsL) 100000).code (.seq s10 (.seq s11 (.seq s12 (.seq s13 s14)))) act3 sta3) (lastK [(.t 0)]) = some true := by kernel_rfl
end Go.Proofs.YtiiplmagnlcpbaaGreatDoor.dealKnown
