/- Contracts (5): rational numbers, the statements' tools, the law. -/
import Derived.Test.YtoojnpjgnnpllaaGl4
set_option maxHeartbeats 4000000
set_option linter.unusedSimpArgs false
set_option linter.unusedVariables false
namespace Go.Ev.Gl

/-! ## Decimal digits -/
end Go.Ev.Gl

namespace Go.Ev.Gl

/-! ## A number has one text -/
end Go.Ev.Gl

namespace Go.Ev.Gl

/-! ## A text as a natural number -/
/-! ## A text as a rational number -/
end Go.Ev.Gl

namespace Go.Ev.Gl
variable {fns : T AFn}

/-! ## Bytes in blocks -/
end Go.Ev.Gl

namespace Go.Ev.Gl
variable {fns : T AFn}

/-! ## The text of a natural number -/
end Go.Ev.Gl

namespace Go.Ev.Gl
variable {fns : T AFn}

end Go.Ev.Gl

namespace Go.Ev.Gl
variable {fns : T AFn}

end Go.Ev.Gl

namespace Go.Ev.Gl
variable {fns : T AFn}

/-! ## Texts as values -/
theorem evQ_f2 {z0 z1 : AV} {x y : Opd} {F : Fr} {h : T AB} (h1 : (x.val F).cells = some [x.val F]) (h2 : (y.val F).cells = some [y.val F]) : evQ (.build [z0, z1] [(0, 1, x), (1, 1, y)]) F h = some (.agg [x.val F, y.val F]) := by
  show (osel (fillP [z0, z1] (partsV F [(0, 1, x), (1, 1, y)])) fun cs => some (AV.agg cs)) = _
  simp only [partsV, fillP, h1, h2, osel_some]
  rfl
end Go.Ev.Gl

namespace Go.Ev.Gl
variable {fns : T AFn}

/-! ## A text as a natural number -/
end Go.Ev.Gl

namespace Go.Ev.Gl
variable {fns : T AFn}

end Go.Ev.Gl

namespace Go.Ev.Gl
variable {fns : T AFn}

end Go.Ev.Gl

namespace Go.Ev.Gl
variable {fns : T AFn}

/-! ## The library's functions on texts: one byte sought -/
/-! ### parts of a text -/
end Go.Ev.Gl

namespace Go.Ev.Gl
variable {fns : T AFn}

end Go.Ev.Gl

namespace Go.Ev.Gl
variable {fns : T AFn}

end Go.Ev.Gl

namespace Go.Ev.Gl
variable {fns : T AFn}

/-! ## The simplest number between two positive numbers -/
end Go.Ev.Gl

namespace Go.Ev.Gl
variable {fns : T AFn}

/-! ## The simplest number between two numbers -/
end Go.Ev.Gl

namespace Go.Ev.Gl
variable {fns : T AFn}

/-! ## A store into a block that holds no limbs -/
/-! ## Remainders -/
theorem bin_rem_t (e : EqT) {a b : Int} (hb : b ≠ 0) : binV .rem e (.int .i64 a) (.int .i64 b) = some (.int .i64 (a.tmod b)) := by
  show intsBin .rem .i64 a .i64 b = _
  unfold intsBin
  rw [show isShift .rem = false from rfl, bsel_false, keq_refl, bsel_true]
  show iRem .i64 a b = _
  unfold iRem
  split
  · rename_i m n
    have h0 : Nat.beq n 0 = false := by
      rw [Bool.eq_false_iff]; intro h; rw [Nat.beq_eq] at h; subst h; exact hb rfl
    rw [h0, bsel_false]
    rfl
  · have h0 : ieq b (.ofNat 0) = false := by
      rw [Bool.eq_false_iff]; intro h; rw [ieq_eq] at h; exact hb (by simpa using h)
    rw [h0, bsel_false]

end Go.Ev.Gl

namespace Go.Ev.Gl
variable {fns : T AFn}

/-! ## Draws -/
theorem evQ_nilchk (x : Opd) (F : Fr) (h : T AB) : evQ (.nilchk x) F h = nilchkV (x.val F) := rfl
theorem isLoad_nilchk (x : Opd) : isLoad (.nilchk x) = false := rfl
theorem nilchk_ptr (b o : Nat) : nilchkV (.ptr b o) = some (.ptr b o) := rfl
section
variable {h : T AB} {b : Nat} {x y : AV} {o : Bool} {s : Nat}
end
end Go.Ev.Gl

namespace Go.Ev.Gl
variable {fns : T AFn}

/-! ## A text as a rational number: the program's Parse -/
theorem agg2_self {x y : AV} (h1 : sameV x x = true) (h2 : sameV y y = true) : sameV (.agg [x, y]) (.agg [x, y]) = true := by
  simp only [sameV, sameVs, h1, h2, bsel_true]
end Go.Ev.Gl

namespace Go.Ev.Gl
variable {fns : T AFn}

end Go.Ev.Gl

namespace Go.Ev.Gl
variable {fns : T AFn}

/-! ## Slices that grow, of elements of k cells -/
def blkOf : AV → Option Nat
  | .sl b _ _ _ _ => some b
  | _ => none
/-- a slice that grows from nil, in memory newer than S0's -/
def GrW (k : Nat) (S0 S : St) (v : AV) (n : Nat) (cs : List AV) : Prop :=
  (v = .nilsl ∧ n = 0 ∧ cs = []) ∨ ∃ b, v = .sl b 0 n n true ∧ S0.nx ≤ b ∧ b < S.nx ∧ S.h.get b = some (.cells cs true k) ∧ cs.length = n * k
theorem GrW.step {k n : Nat} {S0 S S' : St} {v : AV} {cs : List AV} (h : GrW k S0 S v n cs) (hs : Same S S') : GrW k S0 S' v n cs := by
  rcases h with h | ⟨b, h1, h2, h3, h4, h5⟩
  · exact .inl h
  · exact .inr ⟨b, h1, h2, Nat.lt_of_lt_of_le h3 hs.1, (hs.2 b h3).trans h4, h5⟩
/-! ### a slice's head, of any integers -/
/-! ### bytes -/
theorem ia8 {b m N i : Nat} {o : Bool} (hi : i < m) : iaddrV (.slice 1) (.sl b 0 m N o) i = some (.ptr b i) := by
  show bsel (Nat.blt i m) (some (AV.ptr b (0 + i * 1))) none = _
  rw [show Nat.blt i m = true from Nat.ble_eq_true_of_le hi, bsel_true]
  simp
end Go.Ev.Gl
