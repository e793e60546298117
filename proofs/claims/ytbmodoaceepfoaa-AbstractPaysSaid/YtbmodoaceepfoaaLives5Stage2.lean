import Derived.Test.YtbmodoaceepfoaaLives5Fns
import Derived.Test.YtbmodoaceepfoaaLives5States
set_option linter.all false
namespace Go.Ev.Gl
end Go.Ev.Gl
namespace Go.Proofs.Ytbmodoaceepfoaa.lives5
open Go.Ev Go.Ev.Gl
set_option maxRecDepth 100000
def aRi:bD ((ev (table aBA) 100000).code (.seq s4 s5) aSV aTZ) (aQ1 [(.t 0)])=some true:=by kernel_rfl
end Go.Proofs.Ytbmodoaceepfoaa.lives5
