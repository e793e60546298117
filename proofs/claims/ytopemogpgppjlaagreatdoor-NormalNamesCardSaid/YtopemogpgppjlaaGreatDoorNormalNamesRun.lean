/- NormalNames: the stages, one after the other. -/
import Derived.Test.YtopemogpgppjlaaGreatDoorNormalNamesStage0
import Derived.Test.YtopemogpgppjlaaGreatDoorNormalNamesStage1
import Derived.Test.YtopemogpgppjlaaGreatDoorNormalNamesStage2
import Derived.Test.YtopemogpgppjlaaGreatDoorNormalNamesStage3
import Derived.Test.YtopemogpgppjlaaGreatDoorNormalNamesStage4
import Derived.Test.YtopemogpgppjlaaGreatDoorNormalNamesStage5
import Derived.Test.YtopemogpgppjlaaGreatDoorNormalNamesStage6
namespace Go.Proofs.YtopemogpgppjlaaGreatDoor.normalNames
open Go.Ev
set_option maxRecDepth 100000
theorem walk (w : World) (hT : Tabs Tryz.prog tabs w) : Calls Tryz.prog 5 #[] w fun e w' => e = .returned (.bool true) ∧ Kept w w' := by
  refine calls_good (l := tabs) Tryz.func5 body ?_ w hT
  refine good_stage (cs := [s0, s1]) knows stage0 ?_
  refine good_stage (cs := [s2, s3, s4, s5]) knows stage1 ?_
  refine good_stage (cs := [s6, s7, s8, s9]) knows stage2 ?_
  refine good_stage (cs := [s10, s11, s12]) knows stage3 ?_
  refine good_stage (cs := [s13, s14]) knows stage4 ?_
  refine good_stage (cs := [s15, s16, s17, s18]) knows stage5 ?_
  exact good_last knows stage6
end Go.Proofs.YtopemogpgppjlaaGreatDoor.normalNames
