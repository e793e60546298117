import Derived.Test.YtoojnpjgnnpllaaGl17
set_option maxHeartbeats 16000000
set_option linter.unusedSimpArgs false
set_option linter.unusedVariables false
namespace Go.Ev.Gl
variable {fns : T eJ}
section
variable {g : bF} {b : Int} {L : List (List Int)} {v : AV}
end
section
variable {g : bF} {b : Int} {L : List (List Int)} {pr W : Nat → Nat} {M : Nat}
end
theorem aGF {l : List cM} {i : Nat} : ∀ {s : Nat}, jW l s i ≠ 0 → ∃ x ∈ l, x.kind = 2 ∧ x.info = (i : Int) := by
 induction l with
 | nil => intro s h; exact absurd rfl h
 | cons x l ih =>
  intro s h
  unfold jW at h
  by_cases e : x.kind = 2 ∧ x.info = (i : Int)
  ·exact ⟨x, Bm .., e⟩
  ·rw [if_neg e] at h
   obtain ⟨y, hy, hh⟩ := ih h
   exact ⟨y, Bg _ hy, hh⟩
theorem aHh {g : bF} (h : dF g = 0) {i : Nat} (hi : i < g.infos.length) : ∃ x ∈ g.nodes, x.kind = 2 ∧ x.info = (i : Int) := by
 unfold dF at h
 split at h
 ·cases h
 split at h
 ·rename_i h1; exact absurd h h1
 split at h
 ·cases h
 split at h
 ·cases h
 split at h
 ·cases h
 unfold wU at h
 split at h
 ·cases h
 split at h
 ·cases h
 rename_i h0
 refine aGF (s := 0) fun e => h0 ?_
 unfold jE
 exact Dr.2 ⟨i, List.mem_range.2 hi, by rw [e]; rfl⟩
theorem aGa {g : bF} (h : dF g = 0) (hN : ∀ x ∈ g.nodes, gT g.players g.infos x) {i : Nat} (hi : i < g.infos.length) : 1 ≤ (infoAt g (i : Int)).actions ∧ (infoAt g (i : Int)).actions ≤ 3 := by
 obtain ⟨x, hx, hk, he⟩ := aHh h hi
 rcases hN x hx with h1 | h1 | h1
 ·have := h1.kind; omega
 ·have := h1.kind; omega
 ·have h2 := h1.at_
  rw [he, Ba] at h2
  have h3 : infoAt g (i : Int) = ⟨x.player, ((x.next.length : Nat) : Int)⟩ := by
   unfold infoAt
   rw [Ba, Ac, h2]
   rfl
  rw [h3]
  have := h1.n1
  have := h1.n2
  exact ⟨by show 1 ≤ ((x.next.length : Nat) : Int); omega, by show ((x.next.length : Nat) : Int) ≤ 3; omega⟩
theorem aAS {g : bF} (h : dF g = 0) : g.infos.length ≤ 200 := by
 unfold dF at h
 split at h
 ·cases h
 rename_i hb
 unfold pJ at hb
 omega
section
variable {g : bF} {b : Int} {L : List (List Int)} {pr W : Nat → Nat} {z : Nat}
end
theorem aNo {t : Nat} {F : Fr} {h : Ev.T AB} {lv : AV} (ht : aC t F = lv) (hc : lv.cells = some [lv]) : gR (.build [.nilsl, .int .i64 0] [(0, 1, .t t)]) F h = some (.agg [lv, .int .i64 0]) := by
 show (bE (eF _ (dJ F [(0, 1, .t t)])) fun cs => some (AV.agg cs)) = _
 simp only [dJ, show (cK.t t).val F = lv from ht, eF, hc, aE]
 rfl
theorem aHs {n j : Nat} (h : j < n) : (List.replicate n (0 : Int)).getD j 0 = 0 := by
 rw [Ac, Ca, if_pos h]
 rfl
theorem tG {l m : List Int} (h : l.length = m.length) (hg : ∀ j, j < l.length → l.getD j 0 = m.getD j 0) : l = m := by
 refine En h fun j h1 h2 => ?_
 have := hg j h1
 rw [Ac, Ac, Ab h1, Ab h2] at this
 exact this
end Go.Ev.Gl
