/- Awake: stage 1 of the run, in the kernel. -/
import Derived.Test.YtffbfglbdghpaaaGreatDoorAwakeFns
import Derived.Test.YtffbfglbdghpaaaGreatDoorAwakeStates
namespace Go.Ev.Gl
end Go.Ev.Gl
namespace Go.Proofs.YtffbfglbdghpaaaGreatDoor.awake
open Go.Ev Go.Ev.Gl
set_option maxRecDepth 100000
theorem stage1 : osel ((ev (table fnsL) 100000).code (.seq s3 (.seq s4 s5)) act0 sta0) (lastK [(.t 0)]) = some true := by kernel_rfl
end Go.Proofs.YtffbfglbdghpaaaGreatDoor.awake
