import Derived.Test.YtoojnpjgnnpllaaLives14Stage0
namespace Go.Ev.Gl
end Go.Ev.Gl
namespace Go.Proofs.Ytoojnpjgnnpllaa.lives14
open Go.Ev Go.Ev.Gl
set_option maxRecDepth 100000
theorem good : Good Try.prog (.seq s0 (.seq s1 (.seq s2 s3))) ⟨.e, false⟩ (stL Try.prog tabs) fun o A S => aGM [(.t 0)] o A S = some true := by
 exact aGH knows aLO
end Go.Proofs.Ytoojnpjgnnpllaa.lives14
