import Derived.Test.YtiiplmagnlcpbaaGreatDoorAwakeFns
import Derived.Test.YtiiplmagnlcpbaaGreatDoorAwakeStates
set_option linter.unusedSimpArgs false
set_option linter.unusedVariables false
namespace Go.Ev.Gl
end Go.Ev.Gl
namespace Go.Proofs.YtiiplmagnlcpbaaGreatDoor.awake
open Go.Ev Go.Ev.Gl
set_option maxRecDepth 100000
theorem aRu:aU ((ev (table aBi) 100000).code (.seq s3 s4) aSj aSa) (aQS [(.t 0)])=some true:=by kernel_rfl
end Go.Proofs.YtiiplmagnlcpbaaGreatDoor.awake
