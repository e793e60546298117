/- Awake: stage 1 of the run, in the kernel. -/
import Derived.Test.YtmbmidkdinllgaaGreatDoorAwakeFns
import Derived.Test.YtmbmidkdinllgaaGreatDoorAwakeStates
namespace Go.Ev.Gl
end Go.Ev.Gl
namespace Go.Proofs.YtmbmidkdinllgaaGreatDoor.awake
open Go.Ev Go.Ev.Gl
set_option maxRecDepth 100000
theorem stage1 : osel ((ev (table fnsL) 100000).code (.seq s3 (.seq s4 (.seq s5 s6))) act0 sta0) (lastK [(.t 0)]) = some true := by kernel_rfl
end Go.Proofs.YtmbmidkdinllgaaGreatDoor.awake
