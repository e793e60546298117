/- Contracts (8): rational numbers, the statements' tools, the law. -/
import Derived.Test.YtffbfglbdghpaaaGreatDoorGl7
open Nat (reduceEqDiff reduceAdd)
set_option maxHeartbeats 4000000
set_option linter.unusedSimpArgs false
set_option linter.unusedVariables false
namespace Go.Ev.Gl
variable {fns : T AFn}

/-! ## Small functions: lists alike, sums -/
def AlkI (S : St) (a b : AV) (l m : List Int) (k : Nat) (A : Act') (X : St) : Prop := A.inr = false ∧ Same S X ∧ ∃ i, i + k = l.length ∧ l.take i = m.take i ∧ tmpV 0 A.F = a ∧ tmpV 1 A.F = b ∧ tmpV 5 A.F = .int .i64 (i : Int)
theorem alikeW_spec {S : St} {a b : AV} {l m : List Int} (H : Has fns) (ha : IsSl .i64 S a l) (hb : IsSl .i64 S b m) (hl : l.length ≤ 140737488355328) : wpf fns (.fn 11 [] []) [a, b] S fun r S' => r = .bool (decide (l = m)) ∧ Same S S' := by
  refine wpf_fn H.f11 (by simp) ?_
  simp only [↓stU, stD, reduceEqDiff, ↓reduceIte, reduceAdd]
  refine wsr ?_
  simp only [↓stU, stD, reduceEqDiff, ↓reduceIte, reduceAdd]
  refine wss ?_
  simp only [↓stU, stD, reduceEqDiff, ↓reduceIte, reduceAdd, ha.len, hb.len, Int.ofNat_eq_natCast]
  by_cases hlm : l.length = m.length
  rotate_left
  · rw [decide_eq_false (show ¬ l = m from fun e => hlm (by rw [e]))]
    refine wpc_yes (by simp only [↓stU, stD, reduceEqDiff, ↓reduceIte, reduceAdd, decide_eq_true (show ((l.length : Nat) : Int) ≠ ((m.length : Nat) : Int) by omega)]) ?_
    refine wsr ?_
    simp only [↓stU, stD, reduceEqDiff, ↓reduceIte, reduceAdd]
    refine wpc_ret ?_
    simp only [↓stU, stD, reduceEqDiff, ↓reduceIte, reduceAdd]
    exact Same.refl _
  refine wpc_non (by simp only [↓stU, stD, reduceEqDiff, ↓reduceIte, reduceAdd, decide_eq_false (show ¬ ((l.length : Nat) : Int) ≠ ((m.length : Nat) : Int) by omega)]) (wpc_skip ?_)
  try simp only [↓stU, stD, reduceEqDiff, ↓reduceIte, reduceAdd]
  refine wpc_seq (wpc_mono (Q := fun o A' X => (o = .normal ∧ AlkI S a b l m 0 A' X) ∨ (o = .ret ∧ Same S X ∧ l ≠ m ∧ tmpV 4 A'.F = .bool false)) (wpc_seq (wpc_reg ?_)) ?_)
  · simp only [↓stU, stD, reduceEqDiff, ↓reduceIte, reduceAdd]
    refine wpc_block (wpc_loop (AlkI S a b l m) ?_ l.length _ _ ⟨rfl, Same.refl _, 0, by omega, rfl, by simp only [↓stU, stD, reduceEqDiff, ↓reduceIte, reduceAdd], by simp only [↓stU, stD, reduceEqDiff, ↓reduceIte, reduceAdd], by simp only [↓stU, stD, reduceEqDiff, ↓reduceIte, reduceAdd]⟩)
    rintro k ⟨F, inr⟩ X ⟨q0, hX, i, hik, he, p0, p1, p5⟩
    simp only at q0 p0 p1 p5
    subst q0
    refine wss ?_
    simp only [↓stU, stD, reduceEqDiff, ↓reduceIte, reduceAdd, p0, p5, ha.len, Int.ofNat_eq_natCast]
    by_cases hlt : i < l.length
    · refine wpc_yes (by simp only [↓stU, stD, reduceEqDiff, ↓reduceIte, reduceAdd, decide_eq_true (show (i : Int) < ((l.length : Nat) : Int) by omega)]) (wpc_skip ?_)
      try simp only [↓stU, stD, reduceEqDiff, ↓reduceIte, reduceAdd]
      have hltm : i < m.length := by omega
      have ia := (ha.same hX).iaddr hlt
      have la := (ha.same hX).ld hlt
      have ib := (hb.same hX).iaddr hltm
      have lb := (hb.same hX).ld hltm
      have w1 : IntKind.i64.wrap ((i : Int) + 1) = ((i + 1 : Nat) : Int) := by rw [wrap_i64 (by omega) (by omega)]; omega
      refine wpc_seq (wpc_block (wpc_seq (wpc_drq ?_)))
      simp only [↓stU, stD, reduceEqDiff, ↓reduceIte, reduceAdd, p0, p1, p5, natOf_cast, ia, ib, la, lb]
      have el : l.getD i 0 = l[i] := by rw [List.getD_eq_getElem?_getD, List.getElem?_eq_getElem hlt]; rfl
      have em : m.getD i 0 = m[i] := by rw [List.getD_eq_getElem?_getD, List.getElem?_eq_getElem hltm]; rfl
      by_cases hx : l.getD i 0 = m.getD i 0
      · refine wpc_non (by simp only [↓stU, stD, reduceEqDiff, ↓reduceIte, reduceAdd, decide_eq_false (show ¬ l.getD i 0 ≠ m.getD i 0 from fun h => h hx)]) (wpc_skip ?_)
        try simp only [↓stU, stD, reduceEqDiff, ↓reduceIte, reduceAdd]
        refine wpc_reg ?_
        simp only [↓stU, stD, reduceEqDiff, ↓reduceIte, reduceAdd, p5, w1]
        refine ⟨k - 1, by omega, rfl, hX.trans (Same.nx _ _), i + 1, by omega, ?_, by simp only [↓stU, stD, reduceEqDiff, ↓reduceIte, reduceAdd, p0], by simp only [↓stU, stD, reduceEqDiff, ↓reduceIte, reduceAdd, p1], by simp only [↓stU, stD, reduceEqDiff, ↓reduceIte, reduceAdd]⟩
        rw [List.take_add_one, List.take_add_one, he, List.getElem?_eq_getElem hlt, List.getElem?_eq_getElem hltm, ← el, ← em, hx]
      · refine wpc_yes (by simp only [↓stU, stD, reduceEqDiff, ↓reduceIte, reduceAdd, decide_eq_true (show l.getD i 0 ≠ m.getD i 0 from hx)]) ?_
        refine wsr ?_
        simp only [↓stU, stD, reduceEqDiff, ↓reduceIte, reduceAdd]
        refine wpc_ret ?_
        simp only [↓stU, stD, reduceEqDiff, ↓reduceIte, reduceAdd]
        exact .inr ⟨hX.trans (Same.nx _ _), fun e => hx (by rw [e])⟩
    · refine wpc_non (by simp only [↓stU, stD, reduceEqDiff, ↓reduceIte, reduceAdd, decide_eq_false (show ¬ (i : Int) < ((l.length : Nat) : Int) by omega)]) (wpc_exit ?_)
      simp only [↓stU, stD, reduceEqDiff, ↓reduceIte, reduceAdd]
      have hk0 : k = 0 := by omega
      subst hk0
      exact .inl ⟨rfl, hX, i, hik, he, by simp only [↓stU, stD, reduceEqDiff, ↓reduceIte, reduceAdd, p0], by simp only [↓stU, stD, reduceEqDiff, ↓reduceIte, reduceAdd, p1], by simp only [↓stU, stD, reduceEqDiff, ↓reduceIte, reduceAdd, p5]⟩
  rintro o ⟨F, inr⟩ X (⟨rfl, q0, hX, i, hik, he, p0, p1, p5⟩ | ⟨rfl, hX, hne, p4⟩)
  rotate_left
  · simp only at p4
    simp only [↓stU, stD, reduceEqDiff, ↓reduceIte, reduceAdd, p4]
    rw [decide_eq_false hne]
    exact ⟨rfl, hX⟩
  simp only at q0
  subst q0
  rw [List.take_of_length_le (by omega), List.take_of_length_le (by omega)] at he
  rw [decide_eq_true he]
  try simp only [↓stU, stD, reduceEqDiff, ↓reduceIte, reduceAdd]
  refine wsr ?_
  simp only [↓stU, stD, reduceEqDiff, ↓reduceIte, reduceAdd]
  refine wpc_ret ?_
  simp only [↓stU, stD, reduceEqDiff, ↓reduceIte, reduceAdd]
  exact hX
theorem alikeI_spec {S : St} {a b : AV} {l m : List Int} (H : Has fns) (ha : IsSl .i64 S a l) (hb : IsSl .i64 S b m) (hl : l.length ≤ 10000000) : wpf fns (.fn 11 [] []) [a, b] S fun r S' => r = .bool (decide (l = m)) ∧ Same S S' :=
  alikeW_spec H ha hb (by omega)
/-- the games that the laws leave out -/
def largeG (g : PGame) : Prop := ((60 : Int) < ((g.nodes.length : Nat) : Int) ∧ ((g.nodes.length : Nat) : Int) ≤ 2000) ∨ (2010 : Int) < ((g.nodes.length : Nat) : Int)
instance largeGDec (g : PGame) : Decidable (largeG g) := by unfold largeG; exact inferInstance
end Go.Ev.Gl

namespace Go.Ev.Gl
variable {fns : T AFn}

/-! ## Rows of one's own; maps -/
def Own64 (S S' : St) (v : AV) (l : List Int) : Prop := ∃ b, v = .sl b 0 l.length l.length false ∧ S.nx ≤ b ∧ b < S'.nx ∧ S'.h.get b = some (.cells (cells64 l) false 0)
theorem Own64.is {S S' : St} {v : AV} {l : List Int} (h : Own64 S S' v l) : IsSl .i64 S' v l := by
  obtain ⟨b, rfl, h1, h2, h3⟩ := h
  exact row_sl h3 h2 rfl
theorem Own64.same {S S' S'' : St} {v : AV} {l : List Int} (h : Own64 S S' v l) (hs : Same S' S'') : Own64 S S'' v l := by
  obtain ⟨b, h0, h1, h2, h3⟩ := h
  exact ⟨b, h0, h1, Nat.lt_of_lt_of_le h2 hs.1, (hs.2 _ h2).trans h3⟩
theorem zeros64 (n : Nat) : repeatL [AV.int .i64 0] n = cells64 (List.replicate n 0) := by rw [repeatL_one]; simp [cells64]
theorem rowEq {l m : List Int} (hl : l.length = m.length) (h : ∀ j, j < m.length → l.getD j 0 = m.getD j 0) : l = m := by
  refine List.ext_getElem hl fun j j1 j2 => ?_
  have := h j j2
  rw [List.getD_eq_getElem?_getD, List.getD_eq_getElem?_getD, List.getElem?_eq_getElem j1, List.getElem?_eq_getElem j2] at this
  exact this
def InMap (a : List Int) (n : Nat) : Prop := ∀ x ∈ a, 0 ≤ x ∧ x < n
end Go.Ev.Gl

namespace Go.Ev.Gl
variable {fns : T AFn}

/-! ## The place of a child -/
def placeF : List Int → Nat → Int → Int
  | [], _, _ => -1
  | x :: l, s, c => if x = c then (s : Int) else placeF l (s + 1) c
end Go.Ev.Gl

namespace Go.Ev.Gl
variable {fns : T AFn}

/-! ## Regions of plain operations with one store behind them -/
end Go.Ev.Gl

namespace Go.Ev.Gl
variable {fns : T AFn}

/-! ## What a walk says about parents and children, plain -/
def parAt (T : List Trip) (j : Nat) : Option Int := (T[j]?).map (·.1)
def CF (nx : Nat → List Int) (a : Nat) (T : List Trip) : Prop := ∀ j, j < T.length → ∀ c ∈ nx (a + j), ((a + j : Nat) : Int) < c ∧ c < ((a + T.length : Nat) : Int) ∧ parAt T (c.toNat - a) = some ((a + j : Nat) : Int)
def PF (nx : Nat → List Int) (a : Nat) (T : List Trip) (j : Nat) : Prop := ∃ q, q < j ∧ parAt T j = some ((a + q : Nat) : Int) ∧ ((a + j : Nat) : Int) ∈ nx (a + q)
def IncF (nx : Nat → List Int) (a : Nat) (T : List Trip) : Prop := ∀ j, j < T.length → (nx (a + j)).Pairwise (· < ·)
structure WF (nx : Nat → List Int) (a : Nat) (p : Int) (T : List Trip) : Prop where
  pos : 0 < T.length
  root : parAt T 0 = some p
  cf : CF nx a T
  pf : ∀ j, 0 < j → j < T.length → PF nx a T j
  inc : IncF nx a T
theorem parAt_left {L1 L2 : List Trip} {j : Nat} (h : j < L1.length) : parAt (L1 ++ L2) j = parAt L1 j := by unfold parAt; rw [List.getElem?_append_left h]
theorem parAt_right {L1 L2 : List Trip} {j : Nat} (h : L1.length ≤ j) : parAt (L1 ++ L2) j = parAt L2 (j - L1.length) := by unfold parAt; rw [List.getElem?_append_right h]
theorem CF.append {nx : Nat → List Int} {r : Nat} {L1 L2 : List Trip} (h1 : CF nx r L1) (h2 : CF nx (r + L1.length) L2) : CF nx r (L1 ++ L2) := fun j hj c hc => by
  rw [List.length_append] at hj ⊢
  by_cases h : j < L1.length
  · obtain ⟨a, b, d⟩ := h1 j h c hc
    exact ⟨a, by omega, by rw [parAt_left (by omega)]; exact d⟩
  · have e : r + j = r + L1.length + (j - L1.length) := by omega
    rw [e] at hc
    obtain ⟨a, b, d⟩ := h2 (j - L1.length) (by omega) c hc
    refine ⟨by omega, by omega, ?_⟩
    rw [parAt_right (by omega), show c.toNat - r - L1.length = c.toNat - (r + L1.length) by omega, d, e]
theorem PF.left {nx : Nat → List Int} {r j : Nat} {L1 L2 : List Trip} (h : PF nx r L1 j) (hj : j < L1.length) : PF nx r (L1 ++ L2) j := by
  obtain ⟨q, h1, h2, h3⟩ := h
  exact ⟨q, h1, by rw [parAt_left hj]; exact h2, h3⟩
theorem PF.right {nx : Nat → List Int} {r j : Nat} {L1 L2 : List Trip} (h : PF nx (r + L1.length) L2 (j - L1.length)) (hj : L1.length ≤ j) : PF nx r (L1 ++ L2) j := by
  obtain ⟨q, h1, h2, h3⟩ := h
  refine ⟨L1.length + q, by omega, ?_, ?_⟩
  · rw [parAt_right hj, h2, show r + L1.length + q = r + (L1.length + q) by omega]
  · rw [show r + (L1.length + q) = r + L1.length + q by omega, show r + j = r + L1.length + (j - L1.length) by omega]
    exact h3
theorem IncF.append {nx : Nat → List Int} {r : Nat} {L1 L2 : List Trip} (h1 : IncF nx r L1) (h2 : IncF nx (r + L1.length) L2) : IncF nx r (L1 ++ L2) := fun j hj => by
  rw [List.length_append] at hj
  by_cases h : j < L1.length
  · exact h1 j h
  · rw [show r + j = r + L1.length + (j - L1.length) by omega]
    exact h2 (j - L1.length) (by omega)
end Go.Ev.Gl

namespace Go.Ev.Gl
variable {fns : T AFn}

/-! ## The scene of a game -/
theorem IsSl.cells {k : IntKind} {S : St} {v : AV} {l : List Int} (h : IsSl k S v l) : v.cells = some [v] := by
  rcases h with ⟨_, rfl | rfl⟩ | ⟨b, off, cap, o, cs, rfl, _⟩ <;> rfl
structure SceneB (S : St) (wb plb szb : Nat) (pv nv iv : AV) (g : PGame) (R Z : List Int) : Prop where
  w : WalkB S wb g.players nv iv pv (.sl plb 0 g.nodes.length g.nodes.length false) (.sl szb 0 g.nodes.length g.nodes.length false)
  gp : S.h.get plb = some (.cells (cells64 R) false 0)
  gz : S.h.get szb = some (.cells (cells64 Z) false 0)
  lp : R.length = g.nodes.length
  lz : Z.length = g.nodes.length
  bp : plb < S.nx
  bz : szb < S.nx
theorem But3.put {plb szb : Nat} {S X : St} {n b : Nat} {v : Option AB} (h : But3 plb szb szb S X) (hb : b = plb ∨ b = szb) (hn : X.nx ≤ n) : But3 plb szb szb S ⟨X.h.set b v, n⟩ := ⟨Nat.le_trans h.1 hn, fun c hc h1 h2 h3 => by
  simp only
  rw [T.get_set, if_neg (by rcases hb with rfl | rfl <;> assumption)]
  exact h.2 c hc h1 h2 h3⟩
end Go.Ev.Gl

namespace Go.Ev.Gl
variable {fns : T AFn}

/-! ## The reference's check of a map (given its images) -/
end Go.Ev.Gl

namespace Go.Ev.Gl
variable {fns : T AFn}

/-! ## The program's check of a map (given its image) -/
end Go.Ev.Gl

namespace Go.Ev.Gl
variable {fns : T AFn}

/-! ## Places of children, plain -/
end Go.Ev.Gl
