import Derived.Test.YtoojnpjgnnpllaaLives47Fns
import Derived.Test.YtoojnpjgnnpllaaLives47States
namespace Go.Ev.Gl
end Go.Ev.Gl
namespace Go.Proofs.Ytoojnpjgnnpllaa.lives47
open Go.Ev Go.Ev.Gl
set_option maxRecDepth 100000
theorem aQh:stage (table aBK) 100000 [s0,s1] [4650,4669,4684,4713,4744,4760,4806,4837,4839,4853,4867,4884,4887,4901,4902,4903] ⟨.e,false⟩ (stL Try.prog tabs)=some (aQB,aRY):=by kernel_rfl
end Go.Proofs.Ytoojnpjgnnpllaa.lives47
