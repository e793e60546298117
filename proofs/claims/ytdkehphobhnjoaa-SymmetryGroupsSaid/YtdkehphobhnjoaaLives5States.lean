import Derived.Test.YtdkehphobhnjoaaEv8
namespace Go.Ev.Gl
end Go.Ev.Gl
namespace Go.Proofs.Ytdkehphobhnjoaa.lives5
open Go.Ev Go.Ev.Gl
set_option maxRecDepth 100000
end Go.Proofs.Ytdkehphobhnjoaa.lives5
