/- ReduceKnown: stage 4 of the run, in the kernel. -/
import Derived.Test.YtopemogpgppjlaaGreatDoorReduceKnownFns
import Derived.Test.YtopemogpgppjlaaGreatDoorReduceKnownStates
namespace Go.Proofs.YtopemogpgppjlaaGreatDoor.reduceKnown
open Go.Ev
set_option maxRecDepth 100000
theorem stage4 : osel ((ev (table fnsL) 100000).code (.seq s12 s13) act3 sta3) (lastK [(.t 0)]) = some true := by kernel_rfl
end Go.Proofs.YtopemogpgppjlaaGreatDoor.reduceKnown
