/- MergeNames: stage 0 of the run, in the kernel. -/
import Derived.Test.YtfmgnnfghdjpfaaDoorMergeNamesFns
import Derived.Test.YtfmgnnfghdjpfaaDoorMergeNamesStates
namespace Go.Proofs.YtfmgnnfghdjpfaaDoor.mergeNames
open Go.Ev
set_option maxRecDepth 100000
theorem stage0 : stage (table fnsL) 100000 [s0, s1] [0,1,2] ⟨.e, false⟩ (stL Tryd.prog tabs) = some (act0, sta0) := by kernel_rfl
end Go.Proofs.YtfmgnnfghdjpfaaDoor.mergeNames
