/- Awake: stage 0 of the run, in the kernel. -/
import Derived.Test.YtmbmidkdinllgaaGreatDoorAwakeFns
import Derived.Test.YtmbmidkdinllgaaGreatDoorAwakeStates
namespace Go.Ev.Gl
end Go.Ev.Gl
namespace Go.Proofs.YtmbmidkdinllgaaGreatDoor.awake
open Go.Ev Go.Ev.Gl
set_option maxRecDepth 100000
theorem stage0 : stage (table fnsL) 100000 [s0, s1, s2] [0,1,3,173,175,179,331,332,336] ⟨.e, false⟩ (stL Tryz.prog tabs) = some (act0, sta0) := by kernel_rfl
end Go.Proofs.YtmbmidkdinllgaaGreatDoor.awake
