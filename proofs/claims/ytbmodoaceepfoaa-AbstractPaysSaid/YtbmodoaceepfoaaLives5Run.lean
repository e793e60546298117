import Derived.Test.YtbmodoaceepfoaaLives5Stage0
import Derived.Test.YtbmodoaceepfoaaLives5Stage1
import Derived.Test.YtbmodoaceepfoaaLives5Stage2
set_option linter.all false
namespace Go.Ev.Gl
end Go.Ev.Gl
namespace Go.Proofs.Ytbmodoaceepfoaa.lives5
open Go.Ev Go.Ev.Gl
set_option maxRecDepth 100000
def good:Good Try.prog (.seq s0 (.seq s1 (.seq s2 (.seq s3 (.seq s4 s5))))) ⟨.e,false⟩ (stL Try.prog tabs) fun o A S=>aMF [(.t 0)] o A S=some true:=by
 refine aE0 (cs:=[s0,s1]) knows aSC ?_;refine aE0 (cs:=[s2,s3]) knows aRU ?_;exact aMf knows aRi
end Go.Proofs.Ytbmodoaceepfoaa.lives5
