/- ReduceKnown: stage 3 of the run, in the kernel. -/
import Derived.Test.YtopemogpgppjlaaGreatDoorReduceKnownFns
import Derived.Test.YtopemogpgppjlaaGreatDoorReduceKnownStates
namespace Go.Proofs.YtopemogpgppjlaaGreatDoor.reduceKnown
open Go.Ev
set_option maxRecDepth 100000
theorem stage3 : stage (table fnsL) 100000 [s9, s10, s11] [0,392,1812,1814,1822,4272,4274,4282,11978,11980,11988,16866,16874,20030,20032,20040,22258,22260] act2 sta2 = some (act3, sta3) := by kernel_rfl
end Go.Proofs.YtopemogpgppjlaaGreatDoor.reduceKnown
