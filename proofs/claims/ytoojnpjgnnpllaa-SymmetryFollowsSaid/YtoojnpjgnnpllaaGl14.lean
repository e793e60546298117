import Derived.Test.YtoojnpjgnnpllaaGl13
set_option maxHeartbeats 16000000
set_option linter.unusedSimpArgs false
set_option linter.unusedVariables false
namespace Go.Ev.Gl
variable {fns : T eJ}
theorem aGb {t : Nat} {z r : AV} {x : cK} {F : Fr} {id : Nat} {S : St} {l : List Int} (h : bO .i64 S r l) (hx : x.val F = r) : rO (.bslice t 1 1 [z] [(0, x)]) F id = some (.sl id 0 1 1 false, .cells [r] false 0) := by
 show (bE (eF (repeatL [z] 1) [(0 * 1, 1, x.val F)]) fun cs => some (AV.sl id 0 1 1 false, AB.cells cs false 0)) = _
 rw [hx]
 rcases h with ⟨_, rfl | rfl⟩ | ⟨b, off, cap, o, cs, rfl, _⟩ <;> rfl
def zR (S0 X : St) (pv : AV) (cs : List AV) (A : List (List Int)) : Prop := cs.length = A.length ∧ ∀ j, j < A.length → ∃ r, cs[j]? = some r ∧ bO .i64 X r (A.getD j []) ∧ ∀ c, aQ r = some c → S0.nx ≤ c ∧ aQ pv ≠ some c
theorem aGi {k : IntKind} {X : St} {v : AV} {l : List Int} {c : Nat} (h : bO k X v l) (hc : aQ v = some c) : c < X.nx := by
 rcases h with ⟨_, rfl | rfl⟩ | ⟨b, off, cap, o, cs, rfl, _, h3, _⟩
 ·cases hc
 ·cases hc
 ·cases hc; exact h3
theorem zR.push {S0 X Z : St} {pv pv' r : AV} {cs : List AV} {A : List (List Int)} {l : List Int} (h : zR S0 X pv cs A) (hX : S0.nx ≤ X.nx) (hn : X.nx ≤ Z.nx) (hk : ∀ c, c < X.nx → S0.nx ≤ c → aQ pv ≠ some c → Z.h.get c = X.h.get c) (hr : bO .i64 Z r l) (hb : ∀ c, aQ r = some c → X.nx ≤ c ∧ aQ pv' ≠ some c) (hp : ∀ c, aQ pv' = some c → X.nx ≤ c) : zR S0 Z pv' (cs ++ [r]) (A ++ [l]) := by
 refine ⟨by simp [h.1], fun j hj => ?_⟩
 rw [Ah, Aq] at hj
 rw [yV]
 by_cases e : j = A.length
 ·rw [if_pos e, e, ← h.1]
  exact ⟨r, by rw [Ao (Af _), Ej]; rfl, hr, fun c hc => ⟨Al hX (hb c hc).1, (hb c hc).2⟩⟩
 ·rw [if_neg e]
  obtain ⟨r', h1, h2, h3⟩ := h.2 j (by omega)
  refine ⟨r', by rw [An (by rw [h.1]; omega)]; exact h1, fF h2 hn fun c hc => hk c (aGi h2 hc) (h3 c hc).1 (h3 c hc).2, fun c hc => ⟨(h3 c hc).1, fun e => ?_⟩⟩
  have := hp c e
  have := aGi h2 hc
  omega
theorem zR.is {S0 X : St} {pv : AV} {n : Nat} {cs : List AV} {A : List (List Int)} (h : zR S0 X pv cs A) (hg : gN 1 S0 X pv n cs) (hn : n = A.length) : aM 1 SlE X pv A := by
 subst hn
 rcases hg with ⟨rfl, h0, _⟩ | ⟨b, rfl, _, h2, h3, _⟩
 ·exact .inl ⟨Bo.1 h0, .inl rfl⟩
 ·refine .inr ⟨b, 0, A.length, true, cs, rfl, Af _, h2, by unfold cP; rw [h3]; rfl, fun i l hi => ?_⟩
  have hlt := (Ai.1 hi).1
  have e : A.getD i [] = l := by rw [Ac, hi]; rfl
  obtain ⟨r, h4, h5, _⟩ := h.2 i hlt
  rw [e] at h5
  refine ⟨[r], rfl, fun j x hj => ?_, r, rfl, h5⟩
  cases j with
  | zero =>
   cases hj
   rw [Am, Ee]
   exact h4
  | succ j => simp at hj
end Go.Ev.Gl
namespace Go.Ev.Gl
section
variable {P : Program} {σ : Env} {S : St} {w : World}
end
end Go.Ev.Gl
