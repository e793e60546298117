/- Lives4: the stages, one after the other. -/
import Derived.Test.YtlnjemhkijkaoaaLives4Stage0
namespace Go.Ev.Gl
end Go.Ev.Gl
namespace Go.Proofs.Ytlnjemhkijkaoaa.lives4
open Go.Ev Go.Ev.Gl
set_option maxRecDepth 100000
theorem good : Good Try.prog (.seq s0 (.seq s1 (.seq s2 s3))) ⟨.e, false⟩ (stL Try.prog tabs) fun o A S => retB [(.t 0)] o A S = some true := by
  exact good_last knows stage0
end Go.Proofs.Ytlnjemhkijkaoaa.lives4
