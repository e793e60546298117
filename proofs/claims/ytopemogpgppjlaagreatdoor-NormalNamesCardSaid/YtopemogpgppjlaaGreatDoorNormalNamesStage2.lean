/- NormalNames: stage 2 of the run, in the kernel. -/
import Derived.Test.YtopemogpgppjlaaGreatDoorNormalNamesFns
import Derived.Test.YtopemogpgppjlaaGreatDoorNormalNamesStates
namespace Go.Proofs.YtopemogpgppjlaaGreatDoor.normalNames
open Go.Ev
set_option maxRecDepth 100000
theorem stage2 : stage (table fnsL) 100000 [s6, s7, s8, s9] [0,4932,4933,4934,4935,4937,4939,4941,4943,4945,4947,4949,4951,4953,4955,4956] act1 sta1 = some (act2, sta2) := by kernel_rfl
end Go.Proofs.YtopemogpgppjlaaGreatDoor.normalNames
