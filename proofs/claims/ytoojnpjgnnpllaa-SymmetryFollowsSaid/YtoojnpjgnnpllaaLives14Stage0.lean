import Derived.Test.YtoojnpjgnnpllaaLives14Fns
import Derived.Test.YtoojnpjgnnpllaaLives14States
namespace Go.Ev.Gl
end Go.Ev.Gl
namespace Go.Proofs.Ytoojnpjgnnpllaa.lives14
open Go.Ev Go.Ev.Gl
set_option maxRecDepth 100000
theorem aLO : bE ((ev (table aAb) 100000).code (.seq s0 (.seq s1 (.seq s2 s3))) ⟨.e, false⟩ (stL Try.prog tabs)) (aLb [(.t 0)]) = some true := by kernel_rfl
end Go.Proofs.Ytoojnpjgnnpllaa.lives14
