/- DealKnown: stage 2 of the run, in the kernel. -/
import Derived.Test.YtiiplmagnlcpbaaGreatDoorDealKnownFns
import Derived.Test.YtiiplmagnlcpbaaGreatDoorDealKnownStates
namespace Go.Proofs.YtiiplmagnlcpbaaGreatDoor.dealKnown
open Go.Ev
set_option maxRecDepth 100000
theorem stage2 : stage (table fnsL) 100000 [s5, s6, s7] [0,13579] act1 sta1 = some (act2, sta2) := by kernel_rfl
end Go.Proofs.YtiiplmagnlcpbaaGreatDoor.dealKnown
