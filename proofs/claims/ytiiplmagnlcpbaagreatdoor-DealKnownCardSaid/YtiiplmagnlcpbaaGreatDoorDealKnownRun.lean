/- DealKnown: the stages, one after the other. -/
import Derived.Test.YtiiplmagnlcpbaaGreatDoorDealKnownStage0
import Derived.Test.YtiiplmagnlcpbaaGreatDoorDealKnownStage1
import Derived.Test.YtiiplmagnlcpbaaGreatDoorDealKnownStage2
import Derived.Test.YtiiplmagnlcpbaaGreatDoorDealKnownStage3
import Derived.Test.YtiiplmagnlcpbaaGreatDoorDealKnownStage4
namespace Go.Proofs.YtiiplmagnlcpbaaGreatDoor.dealKnown
open Go.Ev
set_option maxRecDepth 100000
theorem walk (w : World) (hT : Tabs Tryz.prog tabs w) : Calls Tryz.prog 4 #[] w fun e w' => e = .returned (.bool true) ∧ Kept w w' := by
  refine calls_good (l := tabs) Tryz.func4 body ?_ w hT
  refine good_stage (cs := [s0, s1]) knows stage0 ?_
  refine good_stage (cs := [s2, s3, s4]) knows stage1 ?_
  refine good_stage (cs := [s5, s6, s7]) knows stage2 ?_
  refine good_stage (cs := [s8, s9]) knows stage3 ?_
  exact good_last knows stage4
end Go.Proofs.YtiiplmagnlcpbaaGreatDoor.dealKnown
