/- NormalNames: stage 4 of the run, in the kernel. -/
import Derived.Test.YtopemogpgppjlaaGreatDoorNormalNamesFns
import Derived.Test.YtopemogpgppjlaaGreatDoorNormalNamesStates
namespace Go.Proofs.YtopemogpgppjlaaGreatDoor.normalNames
open Go.Ev
set_option maxRecDepth 100000
theorem stage4 : stage (table fnsL) 100000 [s13, s14] [0] act3 sta3 = some (act4, sta4) := by kernel_rfl
end Go.Proofs.YtopemogpgppjlaaGreatDoor.normalNames
