import Derived.Test.YtkklchgmpejobaaGreatDoorAwakeFns
import Derived.Test.YtkklchgmpejobaaGreatDoorAwakeStates
namespace Go.Ev.Gl
end Go.Ev.Gl
namespace Go.Proofs.YtkklchgmpejobaaGreatDoor.awake
open Go.Ev Go.Ev.Gl
set_option maxRecDepth 100000
theorem aOp:aZ ((ev (table aBK) 100000).code (.seq s3 s4) aPG aPm) (aNV [(.t 0)])=some true:=by kernel_rfl
end Go.Proofs.YtkklchgmpejobaaGreatDoor.awake
