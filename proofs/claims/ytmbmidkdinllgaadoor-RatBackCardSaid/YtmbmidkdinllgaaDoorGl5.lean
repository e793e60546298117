/- Contracts (5): rational numbers, the statements' tools, the law. -/
import Derived.Test.YtmbmidkdinllgaaDoorGl4
set_option maxHeartbeats 4000000
set_option linter.unusedSimpArgs false
set_option linter.unusedVariables false
namespace Go.Ev.Gl
variable {fns : T AFn}

/-! ## The reference's greatest common divisor and lowest terms -/
end Go.Ev.Gl

namespace Go.Ev.Gl
variable {fns : T AFn}

/-! ## The reference's rational numbers -/
end Go.Ev.Gl

namespace Go.Ev.Gl
variable {fns : T AFn}

/-! ## The reference's rational numbers: sums, products, order -/
end Go.Ev.Gl

namespace Go.Ev.Gl
variable {fns : T AFn}

end Go.Ev.Gl

namespace Go.Ev.Gl
variable {fns : T AFn}

/-! ## Operations on two numbers that are looked at first -/
end Go.Ev.Gl

namespace Go.Ev.Gl
variable {fns : T AFn}

/-- two numbers that are handed over: the error that they have, and what they are if there is none -/
structure Pair (S : St) (a b : AV) (E : Int) (p q : Rat) : Prop where
  raw : ∃ s l m t l2 m2, RawIs S a s l m ∧ RawIs S b t l2 m2 ∧ E = if rchk s l m ≠ 0 then rchk s l m else rchk t l2 m2
  ok : E = 0 → RatIs S a p ∧ RatIs S b q ∧ Bnd 30 p ∧ Bnd 30 q
theorem Pair.same {S S' : St} {a b : AV} {E : Int} {p q : Rat} (h : Pair S a b E p q) (hs : Same S S') : Pair S' a b E p q := by
  obtain ⟨⟨s, l, m, t, l2, m2, h1, h2, h3⟩, h4⟩ := h
  exact ⟨⟨s, l, m, t, l2, m2, h1.same hs, h2.same hs, h3⟩, fun hE => ⟨(h4 hE).1.same hs, (h4 hE).2.1.same hs, (h4 hE).2.2⟩⟩
theorem Pair.cells {S : St} {a b : AV} {E : Int} {p q : Rat} (h : Pair S a b E p q) : ∃ a0 a1 a2 b0 b1 b2, a = .agg [a0, a1, a2] ∧ b = .agg [b0, b1, b2] := by
  obtain ⟨⟨s, l, m, t, l2, m2, ⟨n1, d1, rfl, _⟩, ⟨n2, d2, rfl, _⟩, _⟩, _⟩ := h
  exact ⟨_, _, _, _, _, _, rfl, rfl⟩
section
variable {S : St} {a b : AV} {E : Int} {p q : Rat}

/-! ### the reference's -/
end
end Go.Ev.Gl

namespace Go.Ev.Gl
variable {fns : T AFn}

/-! ## Comparing; copies; equality -/
section
variable {S : St} {a b : AV} {E : Int} {p q : Rat}
end

/-- a number or none, as cells -/
def OptIs (S : St) (cs : List AV) (o : Option Rat) : Prop := match o with
  | some q => RatIs S (.agg cs) q
  | none => cs = [.bool false, .nilsl, .nilsl]
theorem OptIs.same {S S' : St} {cs : List AV} {o : Option Rat} (h : OptIs S cs o) (hs : Same S S') : OptIs S' cs o := by
  cases o with
  | none => exact h
  | some q => exact RatIs.same h hs
theorem OptIs.st {S S' : St} {cs0 : List AV} {o : Option Rat} {b : Nat} {cs cs' : List AV} {e e' : Bool} {s s' : Nat} (h : OptIs S cs0 o) (hb : S.h.get b = some (.cells cs e s)) (hn : noInt cs = true) (hs : SameBut b S S') (hb' : S'.h.get b = some (.cells cs' e' s')) : OptIs S' cs0 o := by
  cases o with
  | none => exact h
  | some q => exact RatIs.st h hb hn hs hb'
theorem Fresh.alloc {S : St} (h : Fresh S) (bl : AB) : Fresh ⟨S.h.set S.nx (some bl), S.nx + 1⟩ := fun b hb => by
  simp only at hb ⊢
  rw [T.get_set, if_neg (by omega)]
  exact h b (by omega)

end Go.Ev.Gl
