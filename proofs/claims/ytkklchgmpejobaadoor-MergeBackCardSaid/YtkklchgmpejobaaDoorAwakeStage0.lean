import Derived.Test.YtkklchgmpejobaaDoorAwakeFns
import Derived.Test.YtkklchgmpejobaaDoorAwakeStates
namespace Go.Ev.Gl
end Go.Ev.Gl
namespace Go.Proofs.YtkklchgmpejobaaDoor.awake
open Go.Ev Go.Ev.Gl
set_option maxRecDepth 100000
theorem aOU:aW ((ev (table aBW) 100000).code (.seq s0 (.seq s1 (.seq s2 (.seq s3 s4)))) ⟨.e,false⟩ (stL Tryd.prog tabs)) (aOa [(.t 0)])=some true:=by kernel_rfl
end Go.Proofs.YtkklchgmpejobaaDoor.awake
