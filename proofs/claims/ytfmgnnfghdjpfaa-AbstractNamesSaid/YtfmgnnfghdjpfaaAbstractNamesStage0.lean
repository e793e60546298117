/- AbstractNames: stage 0 of the run, in the kernel. -/
import Derived.Test.YtfmgnnfghdjpfaaAbstractNamesFns
import Derived.Test.YtfmgnnfghdjpfaaAbstractNamesStates
namespace Go.Proofs.Ytfmgnnfghdjpfaa.abstractNames
open Go.Ev
set_option maxRecDepth 100000
theorem stage0 : stage (table fnsL) 100000 [s0, s1] [] ⟨.e, false⟩ (st0 Try.prog) = some (act0, sta0) := by kernel_rfl
end Go.Proofs.Ytfmgnnfghdjpfaa.abstractNames
