import Derived.Test.YtdkehphobhnjoaaLives5Stage0
namespace Go.Ev.Gl
end Go.Ev.Gl
namespace Go.Proofs.Ytdkehphobhnjoaa.lives5
open Go.Ev Go.Ev.Gl
set_option maxRecDepth 100000
theorem good:Good Try.prog (.seq s0 (.seq s1 (.seq s2 s3))) ⟨.e,false⟩ (stL Try.prog tabs) fun o A S=>aLk [(.t 0)] o A S=some true:=by
 exact aKR knows aQy
end Go.Proofs.Ytdkehphobhnjoaa.lives5
