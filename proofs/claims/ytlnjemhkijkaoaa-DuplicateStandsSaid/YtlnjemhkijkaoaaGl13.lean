/- Contracts (13): rational numbers, the statements' tools, the law. -/
import Derived.Test.YtlnjemhkijkaoaaGl12
set_option maxHeartbeats 4000000
set_option linter.unusedSimpArgs false
set_option linter.unusedVariables false
namespace Go.Ev.Gl
variable {fns : T AFn}

/-! ## Tables: shares, plain -/
/-! ## Shares that decide -/
section
variable {h : Ev.T AB} {b : Nat} {x0 x1 : AV} {o : Bool} {s : Nat}
end
end Go.Ev.Gl

namespace Go.Ev.Gl
variable {fns : T AFn}

/-! ## How many seeds a game has with a table, plain -/
section
variable {M : Nat} {g : PGame} {pr : Nat → Nat}
end
end Go.Ev.Gl

namespace Go.Ev.Gl
variable {fns : T AFn}

/-! ## The program's spread -/
end Go.Ev.Gl

namespace Go.Ev.Gl
variable {fns : T AFn}

/-! ## The reference's check of a table -/
end Go.Ev.Gl

namespace Go.Ev.Gl
variable {fns : T AFn}

/-! ## A range over the rows of a list -/
end Go.Ev.Gl

namespace Go.Ev.Gl
variable {fns : T AFn}

/-! ## The program's check of a table -/
end Go.Ev.Gl

namespace Go.Ev.Gl
variable {fns : T AFn}

/-! ## Whether a table fits a game -/
end Go.Ev.Gl
