import Derived.Test.YtkklchgmpejobaaDoorAwakeStage0
namespace Go.Ev.Gl
end Go.Ev.Gl
namespace Go.Proofs.YtkklchgmpejobaaDoor.awake
open Go.Ev Go.Ev.Gl
set_option maxRecDepth 100000
theorem good:Good Tryd.prog (.seq s0 (.seq s1 (.seq s2 (.seq s3 s4)))) ⟨.e,false⟩ (stL Tryd.prog tabs) fun o A S=>aKf [(.t 0)] o A S=some true:=by
 exact aJ0 knows aOU
end Go.Proofs.YtkklchgmpejobaaDoor.awake
