/- Lives4: stage 0 of the run, in the kernel. -/
import Derived.Test.YtlnjemhkijkaoaaLives4Fns
import Derived.Test.YtlnjemhkijkaoaaLives4States
namespace Go.Ev.Gl
end Go.Ev.Gl
namespace Go.Proofs.Ytlnjemhkijkaoaa.lives4
open Go.Ev Go.Ev.Gl
set_option maxRecDepth 100000
theorem stage0 : osel ((ev (table fnsL) 100000).code (.seq s0 (.seq s1 (.seq s2 s3))) ⟨.e, false⟩ (stL Try.prog tabs)) (lastK [(.t 0)]) = some true := by kernel_rfl
end Go.Proofs.Ytlnjemhkijkaoaa.lives4
