import Derived.Test.YtoojnpjgnnpllaaLives47Fns
import Derived.Test.YtoojnpjgnnpllaaLives47States
namespace Go.Ev.Gl
end Go.Ev.Gl
namespace Go.Proofs.Ytoojnpjgnnpllaa.lives47
open Go.Ev Go.Ev.Gl
set_option maxRecDepth 100000
theorem aNa:stage (table aBc) 100000 [s0,s1,s2] [4650,4669,4684,4713,4744,4760,4806,4837,4839,4853,4867,4884,4887,4901,4902,4903,9554,9573,9588,9617,9648,9664,9710,9741,9743,9757,9771,9788,9791,9805,9806,9807] ⟨.e,false⟩ (stL Try.prog tabs)=some (aOC,aPt):=by kernel_rfl
end Go.Proofs.Ytoojnpjgnnpllaa.lives47
