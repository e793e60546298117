/- ReduceKnown: stage 1 of the run, in the kernel. -/
import Derived.Test.YtopemogpgppjlaaGreatDoorReduceKnownFns
import Derived.Test.YtopemogpgppjlaaGreatDoorReduceKnownStates
namespace Go.Proofs.YtopemogpgppjlaaGreatDoor.reduceKnown
open Go.Ev
set_option maxRecDepth 100000
theorem stage1 : stage (table fnsL) 100000 [s4, s5, s6] [0,2,3,4,5,6,7,8,9,10,11,12,31,51,71,91,111,131,151,171,173,216,218,238,240,266,268,288,314,316,336,338,358,360,380,382,384,392,1812,1814,1822,4272,4274,4282,11978,11980] act0 sta0 = some (act1, sta1) := by kernel_rfl
end Go.Proofs.YtopemogpgppjlaaGreatDoor.reduceKnown
