/- RatKnown: the stages, one after the other. -/
import Derived.Test.YtopemogpgppjlaaDoorRatKnownStage0
import Derived.Test.YtopemogpgppjlaaDoorRatKnownStage1
import Derived.Test.YtopemogpgppjlaaDoorRatKnownStage2
import Derived.Test.YtopemogpgppjlaaDoorRatKnownStage3
import Derived.Test.YtopemogpgppjlaaDoorRatKnownStage4
import Derived.Test.YtopemogpgppjlaaDoorRatKnownStage5
namespace Go.Proofs.YtopemogpgppjlaaDoor.ratKnown
open Go.Ev
set_option maxRecDepth 100000
theorem walk (w : World) (hT : Tabs Tryd.prog tabs w) : Calls Tryd.prog 3 #[] w fun e w' => e = .returned (.bool true) ∧ Kept w w' := by
  refine calls_good (l := tabs) Tryd.func3 body ?_ w hT
  refine good_stage (cs := [s0, s1, s2, s3]) knows stage0 ?_
  refine good_stage (cs := [s4, s5, s6, s7]) knows stage1 ?_
  refine good_stage (cs := [s8, s9, s10, s11]) knows stage2 ?_
  refine good_stage (cs := [s12, s13, s14, s15]) knows stage3 ?_
  refine good_stage (cs := [s16, s17, s18, s19]) knows stage4 ?_
  exact good_last knows stage5
end Go.Proofs.YtopemogpgppjlaaDoor.ratKnown
