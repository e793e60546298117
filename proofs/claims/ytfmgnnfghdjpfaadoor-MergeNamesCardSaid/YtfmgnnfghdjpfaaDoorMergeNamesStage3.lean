/- MergeNames: stage 3 of the run, in the kernel. -/
import Derived.Test.YtfmgnnfghdjpfaaDoorMergeNamesFns
import Derived.Test.YtfmgnnfghdjpfaaDoorMergeNamesStates
namespace Go.Proofs.YtfmgnnfghdjpfaaDoor.mergeNames
open Go.Ev
set_option maxRecDepth 100000
theorem stage3 : osel ((ev (table fnsL) 100000).code (.seq s9 (.seq s10 (.seq s11 s12))) act2 sta2) (lastK [(.t 0)]) = some true := by kernel_rfl
end Go.Proofs.YtfmgnnfghdjpfaaDoor.mergeNames
