/- ReduceKnown: stage 0 of the run, in the kernel. -/
import Derived.Test.YtopemogpgppjlaaGreatDoorReduceKnownFns
import Derived.Test.YtopemogpgppjlaaGreatDoorReduceKnownStates
namespace Go.Proofs.YtopemogpgppjlaaGreatDoor.reduceKnown
open Go.Ev
set_option maxRecDepth 100000
theorem stage0 : stage (table fnsL) 100000 [s0, s1, s2, s3] [0,2,3,4,5,6,7,8,9,10,11,12,31,51,71,91,111,131,151,171,173,216,218,238,240,266,268,288,314,316,336,338,358,360,380,382,384] ⟨.e, false⟩ (stL Tryz.prog tabs) = some (act0, sta0) := by kernel_rfl
end Go.Proofs.YtopemogpgppjlaaGreatDoor.reduceKnown
