/- NormalNames: stage 6 of the run, in the kernel. -/
import Derived.Test.YtopemogpgppjlaaGreatDoorNormalNamesFns
import Derived.Test.YtopemogpgppjlaaGreatDoorNormalNamesStates
namespace Go.Proofs.YtopemogpgppjlaaGreatDoor.normalNames
open Go.Ev
set_option maxRecDepth 100000
theorem stage6 : osel ((ev (table fnsL) 100000).code (.seq s19 (.seq s20 s21)) act5 sta5) (lastK [(.t 0)]) = some true := by kernel_rfl
end Go.Proofs.YtopemogpgppjlaaGreatDoor.normalNames
