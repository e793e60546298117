import Derived.Test.YtkklchgmpejobaaGreatDoorAwakeFns
import Derived.Test.YtkklchgmpejobaaGreatDoorAwakeStates
namespace Go.Ev.Gl
end Go.Ev.Gl
namespace Go.Proofs.YtkklchgmpejobaaGreatDoor.awake
open Go.Ev Go.Ev.Gl
set_option maxRecDepth 100000
theorem aPc:aX ((ev (table aCa) 100000).code (.seq s0 (.seq s1 (.seq s2 (.seq s3 s4)))) ⟨.e,false⟩ (stL Tryz.prog tabs)) (aOZ [(.t 0)])=some true:=by kernel_rfl
end Go.Proofs.YtkklchgmpejobaaGreatDoor.awake
