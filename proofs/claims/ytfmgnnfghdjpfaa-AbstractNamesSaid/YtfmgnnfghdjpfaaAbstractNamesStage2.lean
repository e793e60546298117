/- AbstractNames: stage 2 of the run, in the kernel. -/
import Derived.Test.YtfmgnnfghdjpfaaAbstractNamesFns
import Derived.Test.YtfmgnnfghdjpfaaAbstractNamesStates
namespace Go.Proofs.Ytfmgnnfghdjpfaa.abstractNames
open Go.Ev
set_option maxRecDepth 100000
theorem stage2 : stage (table fnsL) 100000 [s4, s5, s6] [10075,10076,10077,10087,10093,10100,10114,10120,10127,10133,10134,10135,10136,14724,14743,14758,14787,14818,14834,14880,14911,14913,14927,14941,14958,14961,14975,14976,14977,15986,16005,16049,16080,16096,16123,16152,16183,16185,16199,16213,16230,16233,16247,16248,16249] act1 sta1 = some (act2, sta2) := by kernel_rfl
end Go.Proofs.Ytfmgnnfghdjpfaa.abstractNames
