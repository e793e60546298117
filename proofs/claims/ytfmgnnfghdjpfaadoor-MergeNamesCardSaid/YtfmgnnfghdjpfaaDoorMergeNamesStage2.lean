/- MergeNames: stage 2 of the run, in the kernel. -/
import Derived.Test.YtfmgnnfghdjpfaaDoorMergeNamesFns
import Derived.Test.YtfmgnnfghdjpfaaDoorMergeNamesStates
namespace Go.Proofs.YtfmgnnfghdjpfaaDoor.mergeNames
open Go.Ev
set_option maxRecDepth 100000
theorem stage2 : stage (table fnsL) 100000 [s5, s6, s7, s8] [0,1,2,3996,6139,8528,8549,8591,8594,10265,10306,10321,10362,10390,10405,10446,10474,10475,10477,10480,10484,10486,10487,10489,10490,10492,10493,10496,10498,10499,10500,10501,10522,10523] act1 sta1 = some (act2, sta2) := by kernel_rfl
end Go.Proofs.YtfmgnnfghdjpfaaDoor.mergeNames
