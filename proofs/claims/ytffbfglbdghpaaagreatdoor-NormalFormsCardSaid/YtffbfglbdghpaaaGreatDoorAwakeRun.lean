/- Awake: the stages, one after the other. -/
import Derived.Test.YtffbfglbdghpaaaGreatDoorAwakeStage0
import Derived.Test.YtffbfglbdghpaaaGreatDoorAwakeStage1
namespace Go.Ev.Gl
end Go.Ev.Gl
namespace Go.Proofs.YtffbfglbdghpaaaGreatDoor.awake
open Go.Ev Go.Ev.Gl
set_option maxRecDepth 100000
theorem good : Good Tryz.prog (.seq s0 (.seq s1 (.seq s2 (.seq s3 (.seq s4 s5))))) ⟨.e, false⟩ (stL Tryz.prog tabs) fun o A S => retB [(.t 0)] o A S = some true := by
  refine good_stage (cs := [s0, s1, s2]) knows stage0 ?_
  exact good_last knows stage1
end Go.Proofs.YtffbfglbdghpaaaGreatDoor.awake
