import Derived.Test.YtdkehphobhnjoaaGl16
set_option maxHeartbeats 16000000
set_option linter.unusedSimpArgs false
set_option linter.unusedVariables false
namespace Go.Ev.Gl
variable {fns:T dE}
end Go.Ev.Gl
