/- AbstractNames: stage 6 of the run, in the kernel. -/
import Derived.Test.YtfmgnnfghdjpfaaAbstractNamesFns
import Derived.Test.YtfmgnnfghdjpfaaAbstractNamesStates
namespace Go.Proofs.Ytfmgnnfghdjpfaa.abstractNames
open Go.Ev
set_option maxRecDepth 100000
theorem stage6 : osel ((ev (table fnsL) 100000).code (.seq s14 (.seq s15 s16)) act5 sta5) (lastK [(.t 0)]) = some true := by kernel_rfl
end Go.Proofs.Ytfmgnnfghdjpfaa.abstractNames
