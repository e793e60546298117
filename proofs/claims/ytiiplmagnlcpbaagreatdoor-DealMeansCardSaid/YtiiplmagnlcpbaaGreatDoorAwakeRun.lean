import Derived.Test.YtiiplmagnlcpbaaGreatDoorAwakeStage0
import Derived.Test.YtiiplmagnlcpbaaGreatDoorAwakeStage1
set_option linter.unusedSimpArgs false
set_option linter.unusedVariables false
namespace Go.Ev.Gl
end Go.Ev.Gl
namespace Go.Proofs.YtiiplmagnlcpbaaGreatDoor.awake
open Go.Ev Go.Ev.Gl
set_option maxRecDepth 100000
theorem good:Good Tryz.prog (.seq s0 (.seq s1 (.seq s2 (.seq s3 s4)))) ⟨.e,false⟩ (stL Tryz.prog tabs) fun o A S=>aME [(.t 0)] o A S=some true:=by
 refine aJY (cs:=[s0,s1,s2]) knows aRT ?_;exact aMb knows aRu
end Go.Proofs.YtiiplmagnlcpbaaGreatDoor.awake
