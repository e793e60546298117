/- Contracts (16): rational numbers, the statements' tools, the law. -/
import Derived.Test.YtlnjemhkijkaoaaGl15
set_option maxHeartbeats 4000000
set_option linter.unusedSimpArgs false
set_option linter.unusedVariables false
namespace Go.Ev.Gl
variable {fns : T AFn}

/-! ## The last information set is taken away if no node has it -/
end Go.Ev.Gl

namespace Go.Ev.Gl
variable {fns : T AFn}

/-! ## What makes a game's form right, plain -/
/-! ### subtrees -/
/-! ### nodes -/
end Go.Ev.Gl

namespace Go.Ev.Gl
variable {fns : T AFn}

/-! ## Pieces of build: copies, rows, children -/
/-! ## A child -/
end Go.Ev.Gl
