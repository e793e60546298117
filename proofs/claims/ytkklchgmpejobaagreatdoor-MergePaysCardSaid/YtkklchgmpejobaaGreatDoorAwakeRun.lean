import Derived.Test.YtkklchgmpejobaaGreatDoorAwakeStage0
namespace Go.Ev.Gl
end Go.Ev.Gl
namespace Go.Proofs.YtkklchgmpejobaaGreatDoor.awake
open Go.Ev Go.Ev.Gl
set_option maxRecDepth 100000
theorem good:Good Tryz.prog (.seq s0 (.seq s1 (.seq s2 (.seq s3 s4)))) ⟨.e,false⟩ (stL Tryz.prog tabs) fun o A S=>aKD [(.t 0)] o A S=some true:=by
 exact aJV knows aPc
end Go.Proofs.YtkklchgmpejobaaGreatDoor.awake
