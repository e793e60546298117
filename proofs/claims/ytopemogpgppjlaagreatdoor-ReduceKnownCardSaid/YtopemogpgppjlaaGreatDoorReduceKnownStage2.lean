/- ReduceKnown: stage 2 of the run, in the kernel. -/
import Derived.Test.YtopemogpgppjlaaGreatDoorReduceKnownFns
import Derived.Test.YtopemogpgppjlaaGreatDoorReduceKnownStates
namespace Go.Proofs.YtopemogpgppjlaaGreatDoor.reduceKnown
open Go.Ev
set_option maxRecDepth 100000
theorem stage2 : stage (table fnsL) 100000 [s7, s8] [0,2,3,4,5,6,7,8,9,10,11,12,31,51,71,91,111,131,151,171,173,392,1812,1814,1822,4272,4274,4282,11978,11980,11988,16866,16874,20030,20032] act1 sta1 = some (act2, sta2) := by kernel_rfl
end Go.Proofs.YtopemogpgppjlaaGreatDoor.reduceKnown
