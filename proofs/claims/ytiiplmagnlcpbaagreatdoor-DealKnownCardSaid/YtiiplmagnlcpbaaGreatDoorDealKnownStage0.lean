/- DealKnown: stage 0 of the run, in the kernel. -/
import Derived.Test.YtiiplmagnlcpbaaGreatDoorDealKnownFns
import Derived.Test.YtiiplmagnlcpbaaGreatDoorDealKnownStates
namespace Go.Proofs.YtiiplmagnlcpbaaGreatDoor.dealKnown
open Go.Ev
set_option maxRecDepth 100000
theorem stage0 : stage (table fnsL) 100000 [s0, s1] [0] ⟨.e, false⟩ (stL Tryz.prog tabs) = some (act0, sta0) := by kernel_rfl
end Go.Proofs.YtiiplmagnlcpbaaGreatDoor.dealKnown
