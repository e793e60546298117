/- Awake: stage 0 of the run, in the kernel. -/
import Derived.Test.YtffbfglbdghpaaaGreatDoorAwakeFns
import Derived.Test.YtffbfglbdghpaaaGreatDoorAwakeStates
namespace Go.Ev.Gl
end Go.Ev.Gl
namespace Go.Proofs.YtffbfglbdghpaaaGreatDoor.awake
open Go.Ev Go.Ev.Gl
set_option maxRecDepth 100000
theorem stage0 : stage (table fnsL) 100000 [s0, s1, s2] [0,2635,2637,2656,2658,2661,3440] ⟨.e, false⟩ (stL Tryz.prog tabs) = some (act0, sta0) := by kernel_rfl
end Go.Proofs.YtffbfglbdghpaaaGreatDoor.awake
