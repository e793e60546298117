import Derived.Test.YtiiplmagnlcpbaaGreatDoorAwakeFns
import Derived.Test.YtiiplmagnlcpbaaGreatDoorAwakeStates
set_option linter.unusedSimpArgs false
set_option linter.unusedVariables false
namespace Go.Ev.Gl
end Go.Ev.Gl
namespace Go.Proofs.YtiiplmagnlcpbaaGreatDoor.awake
open Go.Ev Go.Ev.Gl
set_option maxRecDepth 100000
theorem aPy:aU ((ev (table aAI) 100000).code (.seq s2 (.seq s3 s4)) aQe aP7) (aON [(.t 0)])=some true:=by kernel_rfl
end Go.Proofs.YtiiplmagnlcpbaaGreatDoor.awake
