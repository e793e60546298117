import Derived.Test.YtoojnpjgnnpllaaEv8
namespace Go.Ev.Gl
end Go.Ev.Gl
namespace Go.Proofs.Ytoojnpjgnnpllaa.lives14
open Go.Ev Go.Ev.Gl
set_option maxRecDepth 100000
end Go.Proofs.Ytoojnpjgnnpllaa.lives14
