/- DealKnown: stage 1 of the run, in the kernel. -/
import Derived.Test.YtiiplmagnlcpbaaGreatDoorDealKnownFns
import Derived.Test.YtiiplmagnlcpbaaGreatDoorDealKnownStates
namespace Go.Proofs.YtiiplmagnlcpbaaGreatDoor.dealKnown
open Go.Ev
set_option maxRecDepth 100000
theorem stage1 : stage (table fnsL) 100000 [s2, s3, s4] [0] act0 sta0 = some (act1, sta1) := by kernel_rfl
end Go.Proofs.YtiiplmagnlcpbaaGreatDoor.dealKnown
