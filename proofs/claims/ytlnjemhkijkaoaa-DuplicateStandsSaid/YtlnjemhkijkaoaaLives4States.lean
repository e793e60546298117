/- Lives4: what is kept between the stages, written by program. -/
import Derived.Test.YtlnjemhkijkaoaaEv8
namespace Go.Ev.Gl
end Go.Ev.Gl
namespace Go.Proofs.Ytlnjemhkijkaoaa.lives4
open Go.Ev Go.Ev.Gl
set_option maxRecDepth 100000
end Go.Proofs.Ytlnjemhkijkaoaa.lives4
