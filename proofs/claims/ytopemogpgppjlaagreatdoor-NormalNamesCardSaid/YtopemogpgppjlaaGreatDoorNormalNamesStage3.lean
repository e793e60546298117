/- NormalNames: stage 3 of the run, in the kernel. -/
import Derived.Test.YtopemogpgppjlaaGreatDoorNormalNamesFns
import Derived.Test.YtopemogpgppjlaaGreatDoorNormalNamesStates
namespace Go.Proofs.YtopemogpgppjlaaGreatDoor.normalNames
open Go.Ev
set_option maxRecDepth 100000
theorem stage3 : stage (table fnsL) 100000 [s10, s11, s12] [0,4932,4933,4934,4935,4937,4939,4941,4943,4945,4947,4949,4951,4953,4955,4956,13497,13502,13514,13519,13522,15739,15744,15756,15761,15764,17928,17930,17949,17951,17954] act2 sta2 = some (act3, sta3) := by kernel_rfl
end Go.Proofs.YtopemogpgppjlaaGreatDoor.normalNames
