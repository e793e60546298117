/- Awake: stage 0 of the run, in the kernel. -/
import Derived.Test.YtmbmidkdinllgaaDoorAwakeFns
import Derived.Test.YtmbmidkdinllgaaDoorAwakeStates
namespace Go.Ev.Gl
end Go.Ev.Gl
namespace Go.Proofs.YtmbmidkdinllgaaDoor.awake
open Go.Ev Go.Ev.Gl
set_option maxRecDepth 100000
theorem stage0 : stage (table fnsL) 100000 [s0, s1, s2, s3] [0,1,2,173,175,179,331,332,336,560,561,565] ⟨.e, false⟩ (stL Tryd.prog tabs) = some (act0, sta0) := by kernel_rfl
end Go.Proofs.YtmbmidkdinllgaaDoor.awake
