/- Contracts (4): rational numbers, the statements' tools, the law. -/
import Derived.Test.YtmbmidkdinllgaaDoorGl3
set_option maxHeartbeats 4000000
set_option linter.unusedSimpArgs false
set_option linter.unusedVariables false
namespace Go.Ev.Gl
variable {fns : T AFn}

/-! ## The reference's natural numbers: functions with the same code -/
/-! ## The reference's natural numbers: Check -/
end Go.Ev.Gl

namespace Go.Ev.Gl
variable {fns : T AFn}

/-! ## The reference's sums and differences -/
/-! ## What is trimmed lies where it lay -/
/-- limbs in a block of one's own -/
def OwnIs (S0 S : St) (v : AV) (l : List Nat) : Prop :=
  (l = [] ∧ v = .nilsl) ∨ ∃ b cap o e s rest, v = .sl b 0 l.length cap o ∧ l.length ≤ cap ∧ S0.nx ≤ b ∧ b < S.nx ∧ S.h.get b = some (.cells (cells32 (l ++ rest)) e s)
theorem OwnIs.limbs {S0 S : St} {v : AV} {l : List Nat} (h : OwnIs S0 S v l) : LimbIs S v l := by
  rcases h with ⟨rfl, rfl⟩ | ⟨b, cap, o, e, s, rest, rfl, h1, h2, h3, h4⟩
  · exact .inl ⟨rfl, .inl rfl⟩
  · exact limbs_part h4 h3 h1
theorem GrIs.own {S0 S : St} {v : AV} {d : List Nat} (h : GrIs S0 S v d) : OwnIs S0 S v d := by
  rcases id h with ⟨rfl, rfl⟩ | ⟨b, rfl, h1, h2, h3⟩
  · exact .inl ⟨rfl, rfl⟩
  · exact .inr ⟨b, d.length, true, true, 1, [], rfl, Nat.le_refl _, h1, h2, by rw [List.append_nil]; exact h3⟩
theorem OwnIs.head {S0 S : St} {v r : AV} {l : List Nat} {n : Nat} (h : OwnIs S0 S v l) (hr : r = v ∧ n = l.length ∨ n < l.length ∧ r = slHead v n) : OwnIs S0 S r (l.take n) := by
  rcases hr with ⟨rfl, rfl⟩ | ⟨hn, rfl⟩
  · rw [List.take_length]; exact h
  · rcases h with ⟨rfl, h⟩ | ⟨b, cap, o, e, s, rest, rfl, h1, h2, h3, h4⟩
    · simp at hn
    · refine .inr ⟨b, cap, o, e, s, l.drop n ++ rest, ?_, by rw [List.length_take]; omega, h2, h3, ?_⟩
      · rw [List.length_take, Nat.min_eq_left (by omega)]; rfl
      · rw [← List.append_assoc, List.take_append_drop]; exact h4
theorem OwnIs.low {S0 S1 S : St} {v : AV} {l : List Nat} (h : OwnIs S1 S v l) (hS : Same S0 S1) : OwnIs S0 S v l := by
  rcases h with h | ⟨b, cap, o, e, s, rest, h1, h2, h3, h4⟩
  · exact .inl h
  · exact .inr ⟨b, cap, o, e, s, rest, h1, h2, Nat.le_trans hS.1 h3, h4⟩
def OwnN (S0 S : St) (v : AV) (n : Nat) : Prop := ∃ l, OwnIs S0 S v l ∧ Norm l ∧ val l = n
theorem OwnN.nat {S0 S : St} {v : AV} {n : Nat} (h : OwnN S0 S v n) : NatIs S v n := by
  obtain ⟨l, h1, h2, h3⟩ := h
  exact ⟨l, h1.limbs, h2, h3⟩

end Go.Ev.Gl

namespace Go.Ev.Gl
variable {fns : T AFn}

/-! ## The reference's products -/
theorem own_ia {b n cap i : Nat} {o : Bool} (hi : i < n) : iaddrV (.slice 1) (.sl b 0 n cap o) i = some (.ptr b i) := by rw [iaddr_own hi]; simp

end Go.Ev.Gl

namespace Go.Ev.Gl
variable {fns : T AFn}

/-! ## Appending lists -/
end Go.Ev.Gl

namespace Go.Ev.Gl
variable {fns : T AFn}

/-! ## The reference's long division -/
theorem OwnIs.but {S0 S S' : St} {v : AV} {l : List Nat} {b : Nat} (h : OwnIs S0 S v l) (hs : SameBut b S S') (hb : b < S0.nx) : OwnIs S0 S' v l := by
  rcases h with h | ⟨c, cap, o, e, s, rest, h1, h2, h3, h4, h5⟩
  · exact .inl h
  · exact .inr ⟨c, cap, o, e, s, rest, h1, h2, h3, Nat.lt_of_lt_of_le h4 hs.1, by rw [hs.2 c h4 (by omega)]; exact h5⟩
theorem OwnN.but {S0 S S' : St} {v : AV} {n b : Nat} (h : OwnN S0 S v n) (hs : SameBut b S S') (hb : b < S0.nx) : OwnN S0 S' v n := by
  obtain ⟨l, h1, h2⟩ := h
  exact ⟨l, h1.but hs hb, h2⟩
theorem OwnN.low {S0 S1 S : St} {v : AV} {n : Nat} (h : OwnN S1 S v n) (hS : Same S0 S1) : OwnN S0 S v n := by
  obtain ⟨l, h1, h2⟩ := h
  exact ⟨l, h1.low hS, h2⟩

end Go.Ev.Gl

namespace Go.Ev.Gl
variable {fns : T AFn}

end Go.Ev.Gl

namespace Go.Ev.Gl
variable {fns : T AFn}

end Go.Ev.Gl
