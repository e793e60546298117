import Derived.Test.YtoojnpjgnnpllaaLives47Stage0
import Derived.Test.YtoojnpjgnnpllaaLives47Stage1
namespace Go.Ev.Gl
end Go.Ev.Gl
namespace Go.Proofs.Ytoojnpjgnnpllaa.lives47
open Go.Ev Go.Ev.Gl
set_option maxRecDepth 100000
theorem good:Good Try.prog (.seq s0 (.seq s1 (.seq s2 (.seq s3 (.seq s4 s5))))) ⟨.e,false⟩ (stL Try.prog tabs) fun o A S=>aKL [(.t 0)] o A S=some true:=by
 refine aIN (cs:=[s0,s1]) knows aQh ?_;exact aKk knows aPs
end Go.Proofs.Ytoojnpjgnnpllaa.lives47
