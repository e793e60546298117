/- MergeNames: the stages, one after the other. -/
import Derived.Test.YtfmgnnfghdjpfaaDoorMergeNamesStage0
import Derived.Test.YtfmgnnfghdjpfaaDoorMergeNamesStage1
import Derived.Test.YtfmgnnfghdjpfaaDoorMergeNamesStage2
import Derived.Test.YtfmgnnfghdjpfaaDoorMergeNamesStage3
namespace Go.Proofs.YtfmgnnfghdjpfaaDoor.mergeNames
open Go.Ev
set_option maxRecDepth 100000
theorem walk (w : World) (hT : Tabs Tryd.prog tabs w) : Calls Tryd.prog 5 #[] w fun e w' => e = .returned (.bool true) ∧ Kept w w' := by
  refine calls_good (l := tabs) Tryd.func5 body ?_ w hT
  refine good_stage (cs := [s0, s1]) knows stage0 ?_
  refine good_stage (cs := [s2, s3, s4]) knows stage1 ?_
  refine good_stage (cs := [s5, s6, s7, s8]) knows stage2 ?_
  exact good_last knows stage3
end Go.Proofs.YtfmgnnfghdjpfaaDoor.mergeNames
