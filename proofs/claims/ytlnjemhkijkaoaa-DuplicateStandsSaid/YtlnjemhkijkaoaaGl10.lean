/- Contracts (10): rational numbers, the statements' tools, the law. -/
import Derived.Test.YtlnjemhkijkaoaaGl9
set_option maxHeartbeats 4000000
set_option linter.unusedSimpArgs false
set_option linter.unusedVariables false
namespace Go.Ev.Gl
variable {fns : T AFn}

/-! ## agree, Equal -/
end Go.Ev.Gl

namespace Go.Ev.Gl
variable {fns : T AFn}

/-! ## A region of plain operations with one guarded call and what is made of its result -/
theorem runQ_mono {h : Ev.T AB} {P P' : Fr → Prop} (hP : ∀ F, P F → P' F) : ∀ (l : List AO) (F : Fr), runQ l F h P → runQ l F h P'
  | [], F, hr => hP F hr
  | ⟨d, .q q, g, mm⟩ :: l, F, hr => by
    simp only [runQ] at hr ⊢
    split at hr
    · rename_i hw
      rw [if_pos hw]
      obtain ⟨w, hw1, hw2, hw3⟩ := hr
      exact ⟨w, hw1, hw2, runQ_mono hP l _ hw3⟩
    · rename_i hw
      rw [if_neg hw]
      exact runQ_mono hP l _ hr
  | ⟨d, .a a, g, mm⟩ :: l, F, hr => by cases hr
  | ⟨d, .x a, g, mm⟩ :: l, F, hr => by cases hr
/-! ## Some blocks alone are written -/
section
variable {W : Nat → Prop} {S X Y : St} {b : Nat}
end
/-- where the walk's variables lie -/
structure Lay where
  sb : Nat
  ob : Nat
  fb : Nat
  mb : Nat
  kb : Nat
  wb : Nat
  ib : Nat
  rb : Nat
  ab : Nat
  bs : Nat → Nat
  cs : List AV
section
variable {L : Lay} {S0 S1 X Y : St} {n : Nat} {mv : AV} {I F : List Int} {A : List (List Int)}
end
end Go.Ev.Gl

namespace Go.Ev.Gl
variable {fns : T AFn}

/-! ## The program's walk over pairs of nodes -/
end Go.Ev.Gl

namespace Go.Ev.Gl
variable {fns : T AFn}

/-! ## The program's image -/
end Go.Ev.Gl

namespace Go.Ev.Gl
variable {fns : T AFn}

/-! ## SymmetryMaps -/
end Go.Ev.Gl

namespace Go.Ev.Gl

/-! ## Games and lists as arguments -/
theorem IsSlG.conv {k : Nat} {α β : Type} {E : St → List AV → α → Prop} {E' : St → List AV → β → Prop} {f : α → β} {S : St} {v : AV} {l : List α} (hf : ∀ e a, E S e a → E' S e (f a)) (h : IsSlG k E S v l) : IsSlG k E' S v (l.map f) := by
  rcases h with ⟨rfl, h⟩ | ⟨b, off, cap, o, cs, rfl, h2, h3, h4, h5⟩
  · exact .inl ⟨rfl, h⟩
  · refine .inr ⟨b, off, cap, o, cs, by rw [List.length_map], by rw [List.length_map]; exact h2, h3, h4, fun i a hi => ?_⟩
    rw [List.getElem?_map, Option.map_eq_some_iff] at hi
    obtain ⟨x, hx, rfl⟩ := hi
    obtain ⟨e, e1, e2, e3⟩ := h5 i x hx
    exact ⟨e, e1, e2, hf e x e3⟩
theorem isSl_ints {k : IntKind} {S : St} {v : AV} {l : List Int} (h : IsSlG 1 (IntE k) S v l) : IsSl k S v l := by
  rcases h with h | ⟨b, off, cap, o, cs, rfl, h2, h3, h4, h5⟩
  · exact .inl h
  · refine .inr ⟨b, off, cap, o, cs, rfl, h2, h3, h4, fun i x hi => ?_⟩
    obtain ⟨e, e1, e2, rfl, _⟩ := h5 i x hi
    have := e2 0 _ rfl
    rw [Nat.mul_one, Nat.add_zero] at this
    exact this
abbrev EInts (k : IntKind) : St → List AV → List Int → Prop := SlOf 1 (IntE k)
theorem firm_ints {k : IntKind} : Firm (EInts k) := Ev.firm_sl (E := IntE k) firm_int
theorem ints_is {k : IntKind} {S : St} {avs : List AV} {l : List Int} (h : EInts k S avs l) : ∃ v, avs = [v] ∧ IsSl k S v l := by
  obtain ⟨v, h1, h2⟩ := SlOf.is h
  exact ⟨v, h1, isSl_ints h2⟩
section
variable {P : Program} {σ : Env} {S : St} {w : World}
theorem lays_ints {t e : TypeId} {k : IntKind} (ht : P.underlying t = some (.slice e)) (he : P.underlying e = some (.int k)) (hc : P.cellsOf e = 1) (hby : 8 ≤ P.bytesOf e) : Lays P t (EInts k) := lays_slice ht hc (by decide) (by omega) (lays_int he) firm_int
end
end Go.Ev.Gl
