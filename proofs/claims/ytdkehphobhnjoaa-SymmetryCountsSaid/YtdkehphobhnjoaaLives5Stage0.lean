import Derived.Test.YtdkehphobhnjoaaLives5Fns
import Derived.Test.YtdkehphobhnjoaaEv8
namespace Go.Ev.Gl
end Go.Ev.Gl
namespace Go.Proofs.Ytdkehphobhnjoaa.lives5
open Go.Ev Go.Ev.Gl
set_option maxRecDepth 100000
theorem aQy:bH ((ev (table aCr) 100000).code (.seq s0 (.seq s1 (.seq s2 s3))) ⟨.e,false⟩ (stL Try.prog tabs)) (aPf [(.t 0)])=some true:=by kernel_rfl
end Go.Proofs.Ytdkehphobhnjoaa.lives5
