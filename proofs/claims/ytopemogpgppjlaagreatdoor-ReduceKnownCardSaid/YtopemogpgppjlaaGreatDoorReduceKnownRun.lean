/- ReduceKnown: the stages, one after the other. -/
import Derived.Test.YtopemogpgppjlaaGreatDoorReduceKnownStage0
import Derived.Test.YtopemogpgppjlaaGreatDoorReduceKnownStage1
import Derived.Test.YtopemogpgppjlaaGreatDoorReduceKnownStage2
import Derived.Test.YtopemogpgppjlaaGreatDoorReduceKnownStage3
import Derived.Test.YtopemogpgppjlaaGreatDoorReduceKnownStage4
namespace Go.Proofs.YtopemogpgppjlaaGreatDoor.reduceKnown
open Go.Ev
set_option maxRecDepth 100000
theorem walk (w : World) (hT : Tabs Tryz.prog tabs w) : Calls Tryz.prog 4 #[] w fun e w' => e = .returned (.bool true) ∧ Kept w w' := by
  refine calls_good (l := tabs) Tryz.func4 body ?_ w hT
  refine good_stage (cs := [s0, s1, s2, s3]) knows stage0 ?_
  refine good_stage (cs := [s4, s5, s6]) knows stage1 ?_
  refine good_stage (cs := [s7, s8]) knows stage2 ?_
  refine good_stage (cs := [s9, s10, s11]) knows stage3 ?_
  exact good_last knows stage4
end Go.Proofs.YtopemogpgppjlaaGreatDoor.reduceKnown
