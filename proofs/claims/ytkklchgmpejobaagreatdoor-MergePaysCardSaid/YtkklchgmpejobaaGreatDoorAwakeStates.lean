import Derived.Test.YtkklchgmpejobaaGreatDoorEv8
namespace Go.Ev.Gl
end Go.Ev.Gl
namespace Go.Proofs.YtkklchgmpejobaaGreatDoor.awake
open Go.Ev Go.Ev.Gl
set_option maxRecDepth 100000
end Go.Proofs.YtkklchgmpejobaaGreatDoor.awake
