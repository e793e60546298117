/- Contracts (15): rational numbers, the statements' tools, the law. -/
import Derived.Test.YtlnjemhkijkaoaaGl14
set_option maxHeartbeats 4000000
set_option linter.unusedSimpArgs false
set_option linter.unusedVariables false
namespace Go.Ev.Gl
variable {fns : T AFn}

/-! ## Arrays of one's own: grown, shrunk, written -/
section
variable {α : Type} {k : Nat} {E E' : List AV → α → Prop} {S0 X X' : St} {v : AV} {l : List α}
end
end Go.Ev.Gl

namespace Go.Ev.Gl
variable {fns : T AFn}

/-! ## Draws -/
end Go.Ev.Gl

namespace Go.Ev.Gl
variable {fns : T AFn}

/-! ## The maker of games: its state -/
structure Mk where
  lvl : AV
  va : AV
  na : AV
  ia : AV
  lv : AV
  most : Int
  pend : Int
  ps : Int
  zero : Bool
  small : Bool
  dl : List Int
  nodes : List PNode
  infos : List PInfo
  views : List (Int × Int × Int)
section
variable {P : Nat → Prop} {S0 X X' : St} {mb db : Nat} {m m' : Mk} {LV : List (Int × Int × Int)}
end
end Go.Ev.Gl

namespace Go.Ev.Gl
variable {fns : T AFn}

/-! ## A number is drawn and pushed onto a list of a node -/
end Go.Ev.Gl

namespace Go.Ev.Gl
variable {fns : T AFn}

/-! ## A node becomes an end -/
end Go.Ev.Gl

namespace Go.Ev.Gl
variable {fns : T AFn}

/-! ## Drawn regions in two parts, with the mask of the second part's first operation -/
/-! ### structs in a literal -/
end Go.Ev.Gl

namespace Go.Ev.Gl
variable {fns : T AFn}

/-! ## A view and an information set more -/
end Go.Ev.Gl

namespace Go.Ev.Gl
variable {fns : T AFn}

/-! ## The information set of what a player has seen -/
end Go.Ev.Gl
