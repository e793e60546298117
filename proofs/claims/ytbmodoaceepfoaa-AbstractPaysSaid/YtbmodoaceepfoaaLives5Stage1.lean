import Derived.Test.YtbmodoaceepfoaaLives5Fns
import Derived.Test.YtbmodoaceepfoaaLives5States
set_option linter.all false
namespace Go.Ev.Gl
end Go.Ev.Gl
namespace Go.Proofs.Ytbmodoaceepfoaa.lives5
open Go.Ev Go.Ev.Gl
set_option maxRecDepth 100000
def aRU:stage (table aBA) 100000 [s2,s3] [9554,9573,9588,9617,9648,9664,9710,9741,9743,9757,9771,9788,9791,9805,9806,9807] aTe aS0=some (aSV,aTZ):=by kernel_rfl
end Go.Proofs.Ytbmodoaceepfoaa.lives5
