import Derived.Test.YtbmodoaceepfoaaLives5Fns
import Derived.Test.YtbmodoaceepfoaaLives5States
set_option linter.all false
namespace Go.Ev.Gl
end Go.Ev.Gl
namespace Go.Proofs.Ytbmodoaceepfoaa.lives5
open Go.Ev Go.Ev.Gl
set_option maxRecDepth 100000
def aSC:stage (table aBA) 100000 [s0,s1] [4650,4669,4684,4713,4744,4760,4806,4837,4839,4853,4867,4884,4887,4901,4902,4903] ⟨.e,false⟩ (stL Try.prog tabs)=some (aTe,aS0):=by kernel_rfl
end Go.Proofs.Ytbmodoaceepfoaa.lives5
