/- Contracts (5): rational numbers, the statements' tools, the law. -/
import Derived.Test.YtlnjemhkijkaoaaGl4
set_option maxHeartbeats 4000000
set_option linter.unusedSimpArgs false
set_option linter.unusedVariables false
namespace Go.Ev.Gl

/-! ## Decimal digits -/
end Go.Ev.Gl

namespace Go.Ev.Gl

/-! ## A number has one text -/
end Go.Ev.Gl

namespace Go.Ev.Gl

/-! ## A text as a natural number -/
/-! ## A text as a rational number -/
end Go.Ev.Gl

namespace Go.Ev.Gl
variable {fns : T AFn}

/-! ## Bytes in blocks -/
end Go.Ev.Gl

namespace Go.Ev.Gl
variable {fns : T AFn}

/-! ## The text of a natural number -/
end Go.Ev.Gl

namespace Go.Ev.Gl
variable {fns : T AFn}

end Go.Ev.Gl

namespace Go.Ev.Gl
variable {fns : T AFn}

end Go.Ev.Gl

namespace Go.Ev.Gl
variable {fns : T AFn}

/-! ## Texts as values -/
theorem evQ_idxStr (x ix : Opd) (F : Fr) (h : T AB) : evQ (.idxStr x ix) F h = osel (natOf (ix.val F)) fun i => idxStrV (x.val F) i := rfl
theorem idxStr_eq {s : List Nat} {i : Nat} (h : i < s.length) : idxStrV (.str s) i = some (.int .u8 ((s[i]?.getD 0 : Nat) : Int)) := by
  show (osel (nth s i) fun b => some (AV.int .u8 (.ofNat b))) = _
  rw [nth_eq, List.getElem?_eq_getElem h, osel_some]
  rfl
theorem isLoad_idxStr (x y : Opd) : isLoad (.idxStr x y) = false := rfl
end Go.Ev.Gl

namespace Go.Ev.Gl
variable {fns : T AFn}

/-! ## A text as a natural number -/
end Go.Ev.Gl

namespace Go.Ev.Gl
variable {fns : T AFn}

end Go.Ev.Gl

namespace Go.Ev.Gl
variable {fns : T AFn}

end Go.Ev.Gl

namespace Go.Ev.Gl
variable {fns : T AFn}

/-! ## The library's functions on texts: one byte sought -/
/-! ### parts of a text -/
end Go.Ev.Gl

namespace Go.Ev.Gl
variable {fns : T AFn}

end Go.Ev.Gl

namespace Go.Ev.Gl
variable {fns : T AFn}

end Go.Ev.Gl

namespace Go.Ev.Gl
variable {fns : T AFn}

/-! ## The simplest number between two positive numbers -/
end Go.Ev.Gl

namespace Go.Ev.Gl
variable {fns : T AFn}

/-! ## The simplest number between two numbers -/
end Go.Ev.Gl

namespace Go.Ev.Gl
variable {fns : T AFn}

/-! ## A store into a block that holds no limbs -/
/-! ## Remainders -/
end Go.Ev.Gl

namespace Go.Ev.Gl
variable {fns : T AFn}

/-! ## Draws -/
theorem evQ_nilchk (x : Opd) (F : Fr) (h : T AB) : evQ (.nilchk x) F h = nilchkV (x.val F) := rfl
theorem isLoad_nilchk (x : Opd) : isLoad (.nilchk x) = false := rfl
theorem nilchk_ptr (b o : Nat) : nilchkV (.ptr b o) = some (.ptr b o) := rfl
section
variable {h : T AB} {b : Nat} {x y : AV} {o : Bool} {s : Nat}
end
end Go.Ev.Gl

namespace Go.Ev.Gl
variable {fns : T AFn}

/-! ## A text as a rational number: the program's Parse -/
end Go.Ev.Gl

namespace Go.Ev.Gl
variable {fns : T AFn}

end Go.Ev.Gl

namespace Go.Ev.Gl
variable {fns : T AFn}

/-! ## Slices that grow, of elements of k cells -/
def blkOf : AV → Option Nat
  | .sl b _ _ _ _ => some b
  | _ => none
/-- a slice that grows from nil, in memory newer than S0's -/
def GrW (k : Nat) (S0 S : St) (v : AV) (n : Nat) (cs : List AV) : Prop :=
  (v = .nilsl ∧ n = 0 ∧ cs = []) ∨ ∃ b, v = .sl b 0 n n true ∧ S0.nx ≤ b ∧ b < S.nx ∧ S.h.get b = some (.cells cs true k) ∧ cs.length = n * k
theorem GrW.step {k n : Nat} {S0 S S' : St} {v : AV} {cs : List AV} (h : GrW k S0 S v n cs) (hs : Same S S') : GrW k S0 S' v n cs := by
  rcases h with h | ⟨b, h1, h2, h3, h4, h5⟩
  · exact .inl h
  · exact .inr ⟨b, h1, h2, Nat.lt_of_lt_of_le h3 hs.1, (hs.2 b h3).trans h4, h5⟩
/-! ### a slice's head, of any integers -/
/-! ### bytes -/
end Go.Ev.Gl
