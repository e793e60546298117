/- AbstractNames: the stages, one after the other. -/
import Derived.Test.YtfmgnnfghdjpfaaAbstractNamesStage0
import Derived.Test.YtfmgnnfghdjpfaaAbstractNamesStage1
import Derived.Test.YtfmgnnfghdjpfaaAbstractNamesStage2
import Derived.Test.YtfmgnnfghdjpfaaAbstractNamesStage3
import Derived.Test.YtfmgnnfghdjpfaaAbstractNamesStage4
import Derived.Test.YtfmgnnfghdjpfaaAbstractNamesStage5
import Derived.Test.YtfmgnnfghdjpfaaAbstractNamesStage6
namespace Go.Proofs.Ytfmgnnfghdjpfaa.abstractNames
open Go.Ev
set_option maxRecDepth 100000
theorem walk (w : World) : Calls Try.prog 5 #[] w fun e w' => e = .returned (.bool true) ∧ Kept w w' := by
  refine calls_good Try.func5 body ?_ w
  refine good_stage (cs := [s0, s1]) knows stage0 ?_
  refine good_stage (cs := [s2, s3]) knows stage1 ?_
  refine good_stage (cs := [s4, s5, s6]) knows stage2 ?_
  refine good_stage (cs := [s7, s8, s9]) knows stage3 ?_
  refine good_stage (cs := [s10, s11]) knows stage4 ?_
  refine good_stage (cs := [s12, s13]) knows stage5 ?_
  exact good_last knows stage6
end Go.Proofs.Ytfmgnnfghdjpfaa.abstractNames
