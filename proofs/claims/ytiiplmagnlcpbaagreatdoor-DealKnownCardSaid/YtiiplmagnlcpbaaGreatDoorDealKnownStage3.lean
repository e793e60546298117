/- DealKnown: stage 3 of the run, in the kernel. -/
import Derived.Test.YtiiplmagnlcpbaaGreatDoorDealKnownFns
import Derived.Test.YtiiplmagnlcpbaaGreatDoorDealKnownStates
namespace Go.Proofs.YtiiplmagnlcpbaaGreatDoor.dealKnown
open Go.Ev
set_option maxRecDepth 100000
theorem stage3 : stage (table fnsL) 100000 [s8, s9] [0,13579,15053,16011,16012,17489,18168,18169] act2 sta2 = some (act3, sta3) := by kernel_rfl
end Go.Proofs.YtiiplmagnlcpbaaGreatDoor.dealKnown
