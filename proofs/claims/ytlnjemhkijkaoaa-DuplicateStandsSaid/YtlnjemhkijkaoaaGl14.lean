/- Contracts (14): rational numbers, the statements' tools, the law. -/
import Derived.Test.YtlnjemhkijkaoaaGl13
set_option maxHeartbeats 4000000
set_option linter.unusedSimpArgs false
set_option linter.unusedVariables false
namespace Go.Ev.Gl
variable {fns : T AFn}

/-! ## Whether a table fits a game: the reference -/
end Go.Ev.Gl

namespace Go.Ev.Gl
variable {fns : T AFn}

/-! ## The reference's spread -/
end Go.Ev.Gl

namespace Go.Ev.Gl
variable {fns : T AFn}

/-! ## The program's Spread and Walk -/
end Go.Ev.Gl

namespace Go.Ev.Gl
variable {fns : T AFn}

/-! ## The reference's Walk -/
end Go.Ev.Gl

namespace Go.Ev.Gl
variable {fns : T AFn}

/-! ## A row, copied behind rows of one's own -/
theorem evA_row {t : Nat} {z r : AV} {x : Opd} {F : Fr} {id : Nat} {S : St} {l : List Int} (h : IsSl .i64 S r l) (hx : x.val F = r) : evA (.bslice t 1 1 [z] [(0, x)]) F id = some (.sl id 0 1 1 false, .cells [r] false 0) := by
  show (osel (fillP (repeatL [z] 1) [(0 * 1, 1, x.val F)]) fun cs => some (AV.sl id 0 1 1 false, AB.cells cs false 0)) = _
  rw [hx]
  rcases h with ⟨_, rfl | rfl⟩ | ⟨b, off, cap, o, cs, rfl, _⟩ <;> rfl
end Go.Ev.Gl

namespace Go.Ev.Gl
variable {fns : T AFn}

/-! ## DealWalks -/
/-- rows of one's own in a block of slices that grows -/
def RowsB (S0 X : St) (pv : AV) (cs : List AV) (A : List (List Int)) : Prop := cs.length = A.length ∧ ∀ j, j < A.length → ∃ r, cs[j]? = some r ∧ IsSl .i64 X r (A.getD j []) ∧ ∀ c, blkOf r = some c → S0.nx ≤ c ∧ blkOf pv ≠ some c
theorem sl_lowB {k : IntKind} {X : St} {v : AV} {l : List Int} {c : Nat} (h : IsSl k X v l) (hc : blkOf v = some c) : c < X.nx := by
  rcases h with ⟨_, rfl | rfl⟩ | ⟨b, off, cap, o, cs, rfl, _, h3, _⟩
  · cases hc
  · cases hc
  · cases hc; exact h3
theorem RowsB.push {S0 X Z : St} {pv pv' r : AV} {cs : List AV} {A : List (List Int)} {l : List Int} (h : RowsB S0 X pv cs A) (hX : S0.nx ≤ X.nx) (hn : X.nx ≤ Z.nx) (hk : ∀ c, c < X.nx → S0.nx ≤ c → blkOf pv ≠ some c → Z.h.get c = X.h.get c) (hr : IsSl .i64 Z r l) (hb : ∀ c, blkOf r = some c → X.nx ≤ c ∧ blkOf pv' ≠ some c) (hp : ∀ c, blkOf pv' = some c → X.nx ≤ c) : RowsB S0 Z pv' (cs ++ [r]) (A ++ [l]) := by
  refine ⟨by simp [h.1], fun j hj => ?_⟩
  rw [List.length_append, List.length_singleton] at hj
  rw [getD_appL]
  by_cases e : j = A.length
  · rw [if_pos e, e, ← h.1]
    exact ⟨r, by rw [List.getElem?_append_right (Nat.le_refl _), Nat.sub_self]; rfl, hr, fun c hc => ⟨Nat.le_trans hX (hb c hc).1, (hb c hc).2⟩⟩
  · rw [if_neg e]
    obtain ⟨r', h1, h2, h3⟩ := h.2 j (by omega)
    refine ⟨r', by rw [List.getElem?_append_left (by rw [h.1]; omega)]; exact h1, sl_move h2 hn fun c hc => hk c (sl_lowB h2 hc) (h3 c hc).1 (h3 c hc).2, fun c hc => ⟨(h3 c hc).1, fun e => ?_⟩⟩
    have := hp c e
    have := sl_lowB h2 hc
    omega
theorem RowsB.is {S0 X : St} {pv : AV} {n : Nat} {cs : List AV} {A : List (List Int)} (h : RowsB S0 X pv cs A) (hg : GrW 1 S0 X pv n cs) (hn : n = A.length) : IsSlG 1 SlE X pv A := by
  subst hn
  rcases hg with ⟨rfl, h0, _⟩ | ⟨b, rfl, _, h2, h3, _⟩
  · exact .inl ⟨List.length_eq_zero_iff.1 h0, .inl rfl⟩
  · refine .inr ⟨b, 0, A.length, true, cs, rfl, Nat.le_refl _, h2, by unfold cellsAt; rw [h3]; rfl, fun i l hi => ?_⟩
    have hlt := (List.getElem?_eq_some_iff.1 hi).1
    have e : A.getD i [] = l := by rw [List.getD_eq_getElem?_getD, hi]; rfl
    obtain ⟨r, h4, h5, _⟩ := h.2 i hlt
    rw [e] at h5
    refine ⟨[r], rfl, fun j x hj => ?_, r, rfl, h5⟩
    cases j with
    | zero =>
      cases hj
      rw [Nat.zero_add, Nat.mul_one]
      exact h4
    | succ j => simp at hj
theorem take_snoc {L : List (List Int)} {i : Nat} (h : i < L.length) : L.take (i + 1) = L.take i ++ [L.getD i []] := by
  rw [List.take_add_one, List.getElem?_eq_getElem h, List.getD_eq_getElem?_getD, List.getElem?_eq_getElem h]
  rfl
end Go.Ev.Gl

namespace Go.Ev.Gl

/-! ## A table as an argument -/
section
variable {P : Program} {σ : Env} {S : St} {w : World}
end
end Go.Ev.Gl
