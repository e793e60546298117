import Derived.Test.YtkklchgmpejobaaGreatDoorAwakeFns
import Derived.Test.YtkklchgmpejobaaGreatDoorAwakeStates
namespace Go.Ev.Gl
end Go.Ev.Gl
namespace Go.Proofs.YtkklchgmpejobaaGreatDoor.awake
open Go.Ev Go.Ev.Gl
set_option maxRecDepth 100000
theorem aOD:stage (table aBK) 100000 [s0,s1,s2] [0,1,2,1440,1473,1490,1512,1529,1546,1548,1549,2961] ⟨.e,false⟩ (stL Tryz.prog tabs)=some (aPG,aPm):=by kernel_rfl
end Go.Proofs.YtkklchgmpejobaaGreatDoor.awake
