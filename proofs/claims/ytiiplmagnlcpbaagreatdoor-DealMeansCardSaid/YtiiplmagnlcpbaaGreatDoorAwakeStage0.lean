import Derived.Test.YtiiplmagnlcpbaaGreatDoorAwakeFns
import Derived.Test.YtiiplmagnlcpbaaGreatDoorAwakeStates
set_option linter.unusedSimpArgs false
set_option linter.unusedVariables false
namespace Go.Ev.Gl
end Go.Ev.Gl
namespace Go.Proofs.YtiiplmagnlcpbaaGreatDoor.awake
open Go.Ev Go.Ev.Gl
set_option maxRecDepth 100000
theorem aRT:stage (table aBi) 100000 [s0,s1,s2] [0] ⟨.e,false⟩ (stL Tryz.prog tabs)=some (aSj,aSa):=by kernel_rfl
end Go.Proofs.YtiiplmagnlcpbaaGreatDoor.awake
