import Derived.Test.YtoojnpjgnnpllaaGl13
set_option maxHeartbeats 4000000
set_option linter.unusedSimpArgs false
set_option linter.unusedVariables false
namespace Go.Ev.Gl
variable {fns : T cA}
end Go.Ev.Gl
namespace Go.Ev.Gl
variable {fns : T cA}
end Go.Ev.Gl
namespace Go.Ev.Gl
variable {fns : T cA}
end Go.Ev.Gl
namespace Go.Ev.Gl
variable {fns : T cA}
end Go.Ev.Gl
namespace Go.Ev.Gl
variable {fns : T cA}
theorem aGN {t : Nat} {z r : AV} {x : cH} {F : Fr} {id : Nat} {S : St} {l : List Int} (h : bS .i64 S r l) (hx : x.val F = r) : sN (.bslice t 1 1 [z] [(0, x)]) F id = some (.sl id 0 1 1 false, .cells [r] false 0) := by
 show (aU (dY (repeatL [z] 1) [(0 * 1, 1, x.val F)]) fun cs => some (AV.sl id 0 1 1 false, AB.cells cs false 0)) = _
 rw [hx]
 rcases h with ⟨_, rfl | rfl⟩ | ⟨b, off, cap, o, cs, rfl, _⟩ <;> rfl
end Go.Ev.Gl
namespace Go.Ev.Gl
variable {fns : T cA}
def aAp (S0 X : St) (pv : AV) (cs : List AV) (A : List (List Int)) : Prop := cs.length = A.length ∧ ∀ j, j < A.length → ∃ r, cs[j]? = some r ∧ bS .i64 X r (A.getD j []) ∧ ∀ c, aP r = some c → S0.nx ≤ c ∧ aP pv ≠ some c
theorem aGT {k : IntKind} {X : St} {v : AV} {l : List Int} {c : Nat} (h : bS k X v l) (hc : aP v = some c) : c < X.nx := by
 rcases h with ⟨_, rfl | rfl⟩ | ⟨b, off, cap, o, cs, rfl, _, h3, _⟩
 ·cases hc
 ·cases hc
 ·cases hc; exact h3
theorem aAp.push {S0 X Z : St} {pv pv' r : AV} {cs : List AV} {A : List (List Int)} {l : List Int} (h : aAp S0 X pv cs A) (hX : S0.nx ≤ X.nx) (hn : X.nx ≤ Z.nx) (hk : ∀ c, c < X.nx → S0.nx ≤ c → aP pv ≠ some c → Z.h.get c = X.h.get c) (hr : bS .i64 Z r l) (hb : ∀ c, aP r = some c → X.nx ≤ c ∧ aP pv' ≠ some c) (hp : ∀ c, aP pv' = some c → X.nx ≤ c) : aAp S0 Z pv' (cs ++ [r]) (A ++ [l]) := by
 refine ⟨by simp [h.1], fun j hj => ?_⟩
 rw [List.length_append, List.length_singleton] at hj
 rw [zN]
 by_cases e : j = A.length
 ·rw [if_pos e, e, ← h.1]
  exact ⟨r, by rw [List.getElem?_append_right (Nat.le_refl _), Nat.sub_self]; rfl, hr, fun c hc => ⟨Nat.le_trans hX (hb c hc).1, (hb c hc).2⟩⟩
 ·rw [if_neg e]
  obtain ⟨r', h1, h2, h3⟩ := h.2 j (by omega)
  refine ⟨r', by rw [List.getElem?_append_left (by rw [h.1]; omega)]; exact h1, fN h2 hn fun c hc => hk c (aGT h2 hc) (h3 c hc).1 (h3 c hc).2, fun c hc => ⟨(h3 c hc).1, fun e => ?_⟩⟩
  have := hp c e
  have := aGT h2 hc
  omega
theorem aAp.is {S0 X : St} {pv : AV} {n : Nat} {cs : List AV} {A : List (List Int)} (h : aAp S0 X pv cs A) (hg : gQ 1 S0 X pv n cs) (hn : n = A.length) : aQ 1 SlE X pv A := by
 subst hn
 rcases hg with ⟨rfl, h0, _⟩ | ⟨b, rfl, _, h2, h3, _⟩
 ·exact .inl ⟨List.length_eq_zero_iff.1 h0, .inl rfl⟩
 ·refine .inr ⟨b, 0, A.length, true, cs, rfl, Nat.le_refl _, h2, by unfold cP; rw [h3]; rfl, fun i l hi => ?_⟩
  have hlt := (List.getElem?_eq_some_iff.1 hi).1
  have e : A.getD i [] = l := by rw [List.getD_eq_getElem?_getD, hi]; rfl
  obtain ⟨r, h4, h5, _⟩ := h.2 i hlt
  rw [e] at h5
  refine ⟨[r], rfl, fun j x hj => ?_, r, rfl, h5⟩
  cases j with
  | zero =>
   cases hj
   rw [Nat.zero_add, Nat.mul_one]
   exact h4
  | succ j => simp at hj
end Go.Ev.Gl
namespace Go.Ev.Gl
section
variable {P : Program} {σ : Env} {S : St} {w : World}
end
end Go.Ev.Gl
