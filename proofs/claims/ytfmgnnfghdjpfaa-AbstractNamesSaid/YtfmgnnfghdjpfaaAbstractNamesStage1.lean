/- AbstractNames: stage 1 of the run, in the kernel. -/
import Derived.Test.YtfmgnnfghdjpfaaAbstractNamesFns
import Derived.Test.YtfmgnnfghdjpfaaAbstractNamesStates
namespace Go.Proofs.Ytfmgnnfghdjpfaa.abstractNames
open Go.Ev
set_option maxRecDepth 100000
theorem stage1 : stage (table fnsL) 100000 [s2, s3] [10075,10076,10077,10087,10093,10100,10114,10120,10127,10133,10134,10135,10136,14724,14743,14758,14787,14818,14834,14880,14911,14913,14927,14941,14958,14961,14975,14976,14977] act0 sta0 = some (act1, sta1) := by kernel_rfl
end Go.Proofs.Ytfmgnnfghdjpfaa.abstractNames
