import Derived.Test.YtoojnpjgnnpllaaLives47Fns
import Derived.Test.YtoojnpjgnnpllaaLives47States
namespace Go.Ev.Gl
end Go.Ev.Gl
namespace Go.Proofs.Ytoojnpjgnnpllaa.lives47
open Go.Ev Go.Ev.Gl
set_option maxRecDepth 100000
theorem aPs:bC ((ev (table aBK) 100000).code (.seq s2 (.seq s3 (.seq s4 s5))) aQB aRY) (aOZ [(.t 0)])=some true:=by kernel_rfl
end Go.Proofs.Ytoojnpjgnnpllaa.lives47
