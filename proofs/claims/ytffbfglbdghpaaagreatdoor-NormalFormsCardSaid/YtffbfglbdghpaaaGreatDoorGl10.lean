/- Contracts (10): rational numbers, the statements' tools, the law. -/
import Derived.Test.YtffbfglbdghpaaaGreatDoorGl9
set_option maxHeartbeats 4000000
set_option linter.unusedSimpArgs false
set_option linter.unusedVariables false
namespace Go.Ev.Gl
variable {fns : T AFn}

/-! ## agree, Equal -/
end Go.Ev.Gl

namespace Go.Ev.Gl
variable {fns : T AFn}

/-! ## A region of plain operations with one guarded call and what is made of its result -/
/-! ## Some blocks alone are written -/
def ButW (W : Nat → Prop) (S X : St) : Prop := S.nx ≤ X.nx ∧ ∀ c, c < S.nx → ¬ W c → X.h.get c = S.h.get c
section
variable {W : Nat → Prop} {S X Y : St} {b : Nat}
theorem ButW.refl (W : Nat → Prop) (S : St) : ButW W S S := ⟨Nat.le_refl _, fun _ _ _ => rfl⟩
theorem ButW.trans (h : ButW W S X) (h' : ButW W X Y) : ButW W S Y := ⟨Nat.le_trans h.1 h'.1, fun c hc hw => (h'.2 c (Nat.lt_of_lt_of_le hc h.1) hw).trans (h.2 c hc hw)⟩
theorem ButW.same {S0 : St} (h : ButW W S X) (h0 : Same S0 S) (hW : ∀ b, W b → S0.nx ≤ b) : Same S0 X := ⟨Nat.le_trans h0.1 h.1, fun c hc => (h.2 c (Nat.lt_of_lt_of_le hc h0.1) fun hw => by have := hW c hw; omega).trans (h0.2 c hc)⟩
end
/-- where the walk's variables lie -/
structure Lay where
  sb : Nat
  ob : Nat
  fb : Nat
  mb : Nat
  kb : Nat
  wb : Nat
  ib : Nat
  rb : Nat
  ab : Nat
  bs : Nat → Nat
  cs : List AV
/-- the blocks that it writes -/
def Lay.W (L : Lay) (n c : Nat) : Prop := c = L.ib ∨ c = L.rb ∨ ∃ j, j < n ∧ c = L.bs j
section
variable {L : Lay} {S0 S1 X Y : St} {n : Nat} {mv : AV} {I F : List Int} {A : List (List Int)}
end
end Go.Ev.Gl

namespace Go.Ev.Gl
variable {fns : T AFn}

/-! ## The program's walk over pairs of nodes -/
end Go.Ev.Gl

namespace Go.Ev.Gl
variable {fns : T AFn}

/-! ## The program's image -/
def ImgP (g : PGame) (m : List Int) (S S' : St) (x y : AV) : Prop := Own64 S S' x (imgI g m) ∧ ∃ ab bs cs, y = .sl ab 0 (imgA g m).length (imgA g m).length false ∧ S.nx ≤ ab ∧ ab < S'.nx ∧ S'.h.get ab = some (.cells cs false 0) ∧ Rws S S' bs cs (imgA g m)

end Go.Ev.Gl

namespace Go.Ev.Gl
variable {fns : T AFn}

/-! ## SymmetryMaps -/
theorem ImgP.i {g : PGame} {m : List Int} {S S' : St} {x y : AV} (h : ImgP g m S S' x y) : IsSl .i64 S' x (imgI g m) := h.1.is
theorem ImgP.a {g : PGame} {m : List Int} {S S' : St} {x y : AV} (h : ImgP g m S S' x y) : IsSlG 1 SlE S' y (imgA g m) := by
  obtain ⟨_, ab, bs, cs, rfl, k2, k3, k4, k5⟩ := h
  exact k5.is k4 k3 (Nat.le_refl _)
theorem XImgP.i {g : PGame} {m : List Int} {S S' : St} {x y : AV} (h : XImgP g m S S' x y) : IsSl .i64 S' x (imgI g m) := by
  have h1 := h.1
  rw [show g.infos.length = (imgI g m).length by simp [imgI]] at h1
  exact h1.is
theorem XImgP.a {g : PGame} {m : List Int} {S S' : St} {x y : AV} (h : XImgP g m S S' x y) : IsSlG 1 SlE S' y (imgA g m) := by
  obtain ⟨_, cs, bs, h2, h3⟩ := h
  have hl : (imgA g m).length = g.infos.length := by simp [imgA]
  rcases h2 with ⟨rfl, h0, _⟩ | ⟨b, rfl, h4, h5, h6, _⟩
  · exact .inl ⟨List.length_eq_zero_iff.1 (by omega), .inl rfl⟩
  · have := h3.is (cap := g.infos.length) (o' := true) h6 h5 (by omega)
    rw [hl] at this
    exact this
end Go.Ev.Gl

namespace Go.Ev.Gl

/-! ## Games and lists as arguments -/
theorem IsSlG.conv {k : Nat} {α β : Type} {E : St → List AV → α → Prop} {E' : St → List AV → β → Prop} {f : α → β} {S : St} {v : AV} {l : List α} (hf : ∀ e a, E S e a → E' S e (f a)) (h : IsSlG k E S v l) : IsSlG k E' S v (l.map f) := by
  rcases h with ⟨rfl, h⟩ | ⟨b, off, cap, o, cs, rfl, h2, h3, h4, h5⟩
  · exact .inl ⟨rfl, h⟩
  · refine .inr ⟨b, off, cap, o, cs, by rw [List.length_map], by rw [List.length_map]; exact h2, h3, h4, fun i a hi => ?_⟩
    rw [List.getElem?_map, Option.map_eq_some_iff] at hi
    obtain ⟨x, hx, rfl⟩ := hi
    obtain ⟨e, e1, e2, e3⟩ := h5 i x hx
    exact ⟨e, e1, e2, hf e x e3⟩
theorem isSl_ints {k : IntKind} {S : St} {v : AV} {l : List Int} (h : IsSlG 1 (IntE k) S v l) : IsSl k S v l := by
  rcases h with h | ⟨b, off, cap, o, cs, rfl, h2, h3, h4, h5⟩
  · exact .inl h
  · refine .inr ⟨b, off, cap, o, cs, rfl, h2, h3, h4, fun i x hi => ?_⟩
    obtain ⟨e, e1, e2, rfl, _⟩ := h5 i x hi
    have := e2 0 _ rfl
    rw [Nat.mul_one, Nat.add_zero] at this
    exact this
abbrev EInts (k : IntKind) : St → List AV → List Int → Prop := SlOf 1 (IntE k)
theorem firm_ints {k : IntKind} : Firm (EInts k) := Ev.firm_sl (E := IntE k) firm_int
theorem ints_is {k : IntKind} {S : St} {avs : List AV} {l : List Int} (h : EInts k S avs l) : ∃ v, avs = [v] ∧ IsSl k S v l := by
  obtain ⟨v, h1, h2⟩ := SlOf.is h
  exact ⟨v, h1, isSl_ints h2⟩
section
variable {P : Program} {σ : Env} {S : St} {w : World}
/-- a value of several cells -/
theorem agg_of {v : Value} {n : Nat} (hn : n ≠ 1) (hl : v.cells.toList.length = n) : v = .agg ⟨v.cells.toList⟩ := by
  cases v with
  | agg cs => rfl
  | _ => exact absurd (by simpa [Value.cells] using hl.symm) hn
/-- a list of numbers as an argument -/
theorem arg_list {t : TypeId} {k : IntKind} {H : Type} {enc : TypeId × Value → H} {base : Nat} {spare : Nat → Bool} {held : Bool} {fuel : Nat} {v : Value} {x : DataW H × List MemPlace} (hR : Rep P σ S w) (hn : NoOwn S) (hf : Fresh S) (hG : P.globals.size ≤ S.nx) (hL : Lays P t (EInts k)) (h : DataW.trod enc P w base spare held fuel t v.cells.toList = some x) (hv : v.cells.toList = [v]) (hW : ∀ n ∈ DataW.weights P t x.1, n ≤ 140737488355328) :
    ∃ σ' S' a l, Added P σ S w σ' S' ∧ Rv P σ' a v ∧ IsSl k S' a l ∧ S.nx ≤ S'.nx := by
  obtain ⟨σ', S', avs, l, hA, hr, h1, hE, hnx⟩ := hL H enc σ S w base spare held fuel _ x hR hn hf hG h hW
  obtain ⟨a, rfl, i1⟩ := ints_is hE
  rw [hv] at hr
  obtain ⟨_, _, h2, h3, h4⟩ := Rvs_cons.1 hr
  cases h2
  exact ⟨σ', S', a, l, hA, h3, i1, hnx⟩
theorem lays_ints {t e : TypeId} {k : IntKind} (ht : P.underlying t = some (.slice e)) (he : P.underlying e = some (.int k)) (hc : P.cellsOf e = 1) (hby : 8 ≤ P.bytesOf e) : Lays P t (EInts k) := lays_slice ht hc (by decide) (by omega) (lays_int he) firm_int
end
end Go.Ev.Gl
