/- AbstractNames: stage 3 of the run, in the kernel. -/
import Derived.Test.YtfmgnnfghdjpfaaAbstractNamesFns
import Derived.Test.YtfmgnnfghdjpfaaAbstractNamesStates
namespace Go.Proofs.Ytfmgnnfghdjpfaa.abstractNames
open Go.Ev
set_option maxRecDepth 100000
theorem stage3 : stage (table fnsL) 100000 [s7, s8, s9] [10075,10076,10077,10087,10093,10100,10114,10120,10127,10133,10134,10135,10136,18307,18308,18310,18311,18312,23157,23204,23206,23250,23252,23253,23297,23299,23343,23345,23346] act2 sta2 = some (act3, sta3) := by kernel_rfl
end Go.Proofs.Ytfmgnnfghdjpfaa.abstractNames
