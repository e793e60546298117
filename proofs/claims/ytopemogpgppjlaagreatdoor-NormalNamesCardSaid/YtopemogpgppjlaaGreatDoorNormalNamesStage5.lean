/- NormalNames: stage 5 of the run, in the kernel. -/
import Derived.Test.YtopemogpgppjlaaGreatDoorNormalNamesFns
import Derived.Test.YtopemogpgppjlaaGreatDoorNormalNamesStates
namespace Go.Proofs.YtopemogpgppjlaaGreatDoor.normalNames
open Go.Ev
set_option maxRecDepth 100000
theorem stage5 : stage (table fnsL) 100000 [s15, s16, s17, s18] [0,29042] act4 sta4 = some (act5, sta5) := by kernel_rfl
end Go.Proofs.YtopemogpgppjlaaGreatDoor.normalNames
