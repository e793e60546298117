/- NormalNames: stage 1 of the run, in the kernel. -/
import Derived.Test.YtopemogpgppjlaaGreatDoorNormalNamesFns
import Derived.Test.YtopemogpgppjlaaGreatDoorNormalNamesStates
namespace Go.Proofs.YtopemogpgppjlaaGreatDoor.normalNames
open Go.Ev
set_option maxRecDepth 100000
theorem stage1 : stage (table fnsL) 100000 [s2, s3, s4, s5] [0,4932,4933,4934,4935,4937,4939,4941,4943,4945,4947,4949,4951,4953,4955,4956,6069,7173] act0 sta0 = some (act1, sta1) := by kernel_rfl
end Go.Proofs.YtopemogpgppjlaaGreatDoor.normalNames
