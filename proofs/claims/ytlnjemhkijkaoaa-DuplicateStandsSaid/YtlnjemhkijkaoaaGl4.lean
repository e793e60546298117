/- Contracts (4): rational numbers, the statements' tools, the law. -/
import Derived.Test.YtlnjemhkijkaoaaGl3
set_option maxHeartbeats 4000000
set_option linter.unusedSimpArgs false
set_option linter.unusedVariables false
namespace Go.Ev.Gl
variable {fns : T AFn}

/-! ## The reference's natural numbers: functions with the same code -/
/-! ## The reference's natural numbers: Check -/
end Go.Ev.Gl

namespace Go.Ev.Gl
variable {fns : T AFn}

/-! ## The reference's sums and differences -/
/-! ## What is trimmed lies where it lay -/
end Go.Ev.Gl

namespace Go.Ev.Gl
variable {fns : T AFn}

/-! ## The reference's products -/
end Go.Ev.Gl

namespace Go.Ev.Gl
variable {fns : T AFn}

/-! ## Appending lists -/
end Go.Ev.Gl

namespace Go.Ev.Gl
variable {fns : T AFn}

/-! ## The reference's long division -/
end Go.Ev.Gl

namespace Go.Ev.Gl
variable {fns : T AFn}

end Go.Ev.Gl

namespace Go.Ev.Gl
variable {fns : T AFn}

end Go.Ev.Gl

namespace Go.Ev.Gl
variable {fns : T AFn}

/-! ## The reference's greatest common divisor and lowest terms -/
theorem evA_none {t z : Nat} {zs : List AV} {F : Fr} {id : Nat} : evA (.bslice t z 0 zs []) F id = some (.sl id 0 0 0 false, .cells [] false 0) := rfl

end Go.Ev.Gl

namespace Go.Ev.Gl
variable {fns : T AFn}

/-! ## The reference's rational numbers -/
end Go.Ev.Gl

namespace Go.Ev.Gl
variable {fns : T AFn}

/-! ## The reference's rational numbers: sums, products, order -/
end Go.Ev.Gl

namespace Go.Ev.Gl
variable {fns : T AFn}

end Go.Ev.Gl

namespace Go.Ev.Gl
variable {fns : T AFn}

/-! ## Operations on two numbers that are looked at first -/
end Go.Ev.Gl

namespace Go.Ev.Gl
variable {fns : T AFn}

section
variable {S : St} {a b : AV} {E : Int} {p q : Rat}

/-! ### the reference's -/
end
end Go.Ev.Gl

namespace Go.Ev.Gl
variable {fns : T AFn}

/-! ## Comparing; copies; equality -/
section
variable {S : St} {a b : AV} {E : Int} {p q : Rat}
end

end Go.Ev.Gl
