import Derived.Test.YtkklchgmpejobaaGreatDoorGl27
set_option maxHeartbeats 16000000
set_option linter.unusedSimpArgs false
set_option linter.unusedVariables false
namespace Go.Ev.Gl
variable {fns:T cW}
end Go.Ev.Gl
